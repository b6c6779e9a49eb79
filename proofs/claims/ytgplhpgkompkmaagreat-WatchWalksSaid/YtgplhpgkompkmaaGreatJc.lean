/-
  Own work: an interpreter over named blocks, its soundness, and what the functions of this seat compute (part 3 of 12).
  Conditions: those of the statement alone.
-/
import Derived.Test.YtgplhpgkompkmaaGreatProg
import Derived.KernelRfl
import Derived.ProofKit
import Derived.Below
import Derived.Test.YtgplhpgkompkmaaGreatJb
set_option linter.all false
set_option linter.unusedSectionVars false
set_option linter.unusedVariables false
set_option linter.unusedSimpArgs false
namespace Go.Proofs.YtgplhpgkompkmaaGreat
def Z{p:Prop}(h:p:=by kernel_rfl):p:=h
def ZD{p:Prop}(h:p:=by kernel_rfl):p:=h
def J{p:Prop}(h:p:=by decide):p:=h
def ZS{p:Prop}(h:p:=by decide):p:=h
noncomputable section
abbrev bi(op:BinOp)(t:TypeId)(x y:AV):Option AV:=pY Tryz.prog op t x y
abbrev un(op:UnOp)(x:AV):Option AV:=unA Tryz.prog op x
abbrev cv(s d:TypeId)(x:AV):AM AV:=kL Tryz.prog s d x
def stk:AM AV:=λ_=>none
abbrev bd(t:TypeId)(ps:List (Nat × AV)):Option AV:=fV Tryz.prog t ps
abbrev bs(t:TypeId)(n:Nat)(ps:List (Nat × AV)):AM AV:=dH Tryz.prog t n ps
def Rn0(f:FuncId)(s:aA->ah->OA):Prop:=∀C H {r:AV × ah},s C H=some r->zT Tryz.prog C f [] H=some r
def Rn1(f:FuncId)(s:aA->AV->ah->OA):Prop:=∀C a0 H {r:AV × ah},s C a0 H=some r->zT Tryz.prog C f [a0] H=some r
def Rn2(f:FuncId)(s:aA->AV->AV->ah->OA):Prop:=∀C a0 a1 H {r:AV × ah},s C a0 a1 H=some r->zT Tryz.prog C f [a0,a1] H=some r
def Rn3(f:FuncId)(s:aA->AV->AV->AV->ah->OA):Prop:=∀C a0 a1 a2 H {r:AV × ah},s C a0 a1 a2 H=some r->zT Tryz.prog C f [a0,a1,a2] H=some r
def Rn4(f:FuncId)(s:aA->AV->AV->AV->AV->ah->OA):Prop:=∀C a0 a1 a2 a3 H {r:AV × ah},s C a0 a1 a2 a3 H=some r->zT Tryz.prog C f [a0,a1,a2,a3] H=some r
def Rn5(f:FuncId)(s:aA->AV->AV->AV->AV->AV->ah->OA):Prop:=∀C a0 a1 a2 a3 a4 H {r:AV × ah},s C a0 a1 a2 a3 a4 H=some r->zT Tryz.prog C f [a0,a1,a2,a3,a4] H=some r
def Nz {n:Nat}{ps:List (Nat × AV)}{H:ah}(h:n*1<=16777216):dH Tryz.prog 22 n ps H=bsl 3 1 [zI] n ps H:=rD Z Z Z rfl h
def asw {n:Nat}{ps:List (Nat × AV)}{H:ah}(h:n*1<=16777216):dH Tryz.prog 27 n ps H=bsl 62 1 [zN] n ps H:=rD Z Z Z rfl h
def asx {n:Nat}{ps:List (Nat × AV)}{H:ah}(h:n*1<=16777216):dH Tryz.prog 51 n ps H=bsl 64 1 [zP] n ps H:=rD Z Z Z rfl h
def amI {n:Nat}{ps:List (Nat × AV)}{H:ah}(h:n*3<=16777216):dH Tryz.prog 62 n ps H=bsl 61 3 [zI,zI,zI] n ps H:=rD Z Z Z rfl h
def aay {n:Nat}{ps:List (Nat × AV)}{H:ah}(h:n*6<=16777216):dH Tryz.prog 111 n ps H=bsl 100 6 [zI,zI,zI,zI,zB,zN] n ps H:=rD Z Z Z rfl h
def amJ {n:Nat}{ps:List (Nat × AV)}{H:ah}(h:n*2<=16777216):dH Tryz.prog 116 n ps H=bsl 121 2 [zP,zP] n ps H:=rD Z Z Z rfl h
def Wp {n:Nat}{ps:List (Nat × AV)}{H:ah}(h:n*4<=16777216):dH Tryz.prog 123 n ps H=bsl 184 4 [zI,zI,zB,zI] n ps H:=rD Z Z Z rfl h
def amK {n:Nat}{ps:List (Nat × AV)}{H:ah}(h:n*4<=16777216):dH Tryz.prog 143 n ps H=bsl 142 4 [zP,zP,zP,zP] n ps H:=rD Z Z Z rfl h
def amL {n:Nat}{ps:List (Nat × AV)}{H:ah}(h:n*1<=16777216):dH Tryz.prog 155 n ps H=bsl 158 1 [zP] n ps H:=rD Z Z Z rfl h
def agR {n:Nat}{ps:List (Nat × AV)}{H:ah}(h:n*9<=16777216):dH Tryz.prog 175 n ps H=bsl 81 9 [zI,zI,zI,zI,zI,zI,zI,zB,zN] n ps H:=rD Z Z Z rfl h
def Wq {n:Nat}{ps:List (Nat × AV)}{H:ah}(h:n*1<=16777216):dH Tryz.prog 220 n ps H=bsl 5 1 [.s (.int .u8 0)] n ps H:=rD Z Z Z rfl h
def amM {n:Nat}{ps:List (Nat × AV)}{H:ah}(h:n*3<=16777216):dH Tryz.prog 266 n ps H=bsl 274 3 [zI,zI,zN] n ps H:=rD Z Z Z rfl h
def agS {n:Nat}{ps:List (Nat × AV)}{H:ah}(h:n*2<=16777216):dH Tryz.prog 320 n ps H=bsl 322 2 [zI,zI] n ps H:=rD Z Z Z rfl h
def amN {n:Nat}{ps:List (Nat × AV)}{H:ah}(h:n*1<=16777216):dH Tryz.prog 326 n ps H=bsl 220 1 [zN] n ps H:=rD Z Z Z rfl h
def aj8:Nat->Option (Nat × Nat)
 |0=>some (0,1)
 |1=>some (1,1)
 |2=>some (2,1)
 |3=>some (3,1)
 |4=>some (4,1)
 |5=>some (5,1)
 |6=>some (6,1)
 |7=>some (7,1)
 |_=>none
def amO {ps:List (Nat × AV)}:fV Tryz.prog 31 ps=jg aj8 [zI,zI,zI,zI,zI,zI,zI,zN] ps:=iO Z Tryz.underlying31 Z (by funext i;rcases i with _|_|_|_|_|_|_|_|i <;> kernel_rfl)
def aaz:Nat->Option (Nat × Nat)
 |0=>some (0,1)
 |1=>some (1,1)
 |2=>some (2,1)
 |3=>some (3,1)
 |_=>none
def aeK {ps:List (Nat × AV)}:fV Tryz.prog 44 ps=jg aaz [zB,zI,zI,.s (.int .u16 0)] ps:=iO Z Tryz.underlying44 Z (by funext i;rcases i with _|_|_|_|i <;> kernel_rfl)
def amP:Nat->Option (Nat × Nat)
 |0=>some (0,1)
 |1=>some (1,1)
 |2=>some (2,8)
 |3=>some (10,1)
 |_=>none
def asy {ps:List (Nat × AV)}:fV Tryz.prog 53 ps=jg amP [zP,zP,zI,zI,zI,zI,zI,zI,zI,zN,zN] ps:=iO Z Tryz.underlying53 Z (by funext i;rcases i with _|_|_|_|i <;> kernel_rfl)
def aeL:Nat->Option (Nat × Nat)
 |0=>some (0,1)
 |1=>some (1,1)
 |2=>some (2,1)
 |_=>none
def aeM {ps:List (Nat × AV)}:fV Tryz.prog 61 ps=jg aeL [zI,zI,zI] ps:=iO Z Tryz.underlying61 Z (by funext i;rcases i with _|_|_|i <;> kernel_rfl)
def amQ:Nat->Option (Nat × Nat)
 |0=>some (0,1)
 |_=>none
def asz {ps:List (Nat × AV)}:fV Tryz.prog 71 ps=jg amQ [zP] ps:=iO Z Tryz.underlying71 Z (by funext i;rcases i with _|i <;> kernel_rfl)
def amR:Nat->Option (Nat × Nat)
 |0=>some (0,1)
 |1=>some (1,1)
 |2=>some (2,1)
 |3=>some (3,1)
 |4=>some (4,1)
 |5=>some (5,1)
 |6=>some (6,1)
 |7=>some (7,1)
 |8=>some (8,1)
 |_=>none
def aaA {ps:List (Nat × AV)}:fV Tryz.prog 73 ps=jg amR [zI,zI,zI,zI,zI,zI,zN,zI,zI] ps:=iO Z Tryz.underlying73 Z (by funext i;rcases i with _|_|_|_|_|_|_|_|_|i <;> kernel_rfl)
def amS:Nat->Option (Nat × Nat)
 |0=>some (0,1)
 |1=>some (1,1)
 |2=>some (2,8)
 |3=>some (10,1)
 |4=>some (11,1)
 |5=>some (12,9)
 |6=>some (21,1)
 |_=>none
def asA {ps:List (Nat × AV)}:fV Tryz.prog 75 ps=jg amS [zP,zP,zI,zI,zI,zI,zI,zI,zI,zN,zI,zP,zI,zI,zI,zI,zI,zI,zN,zI,zI,zI] ps:=iO Z Tryz.underlying75 Z (by funext i;rcases i with _|_|_|_|_|_|_|i <;> kernel_rfl)
def Ue:Nat->Option (Nat × Nat)
 |0=>some (0,1)
 |1=>some (1,1)
 |2=>some (2,1)
 |3=>some (3,1)
 |4=>some (4,1)
 |5=>some (5,1)
 |6=>some (6,1)
 |7=>some (7,1)
 |8=>some (8,1)
 |_=>none
def zC {ps:List (Nat × AV)}:fV Tryz.prog 81 ps=jg Ue [zI,zI,zI,zI,zI,zI,zI,zB,zN] ps:=iO Z Tryz.underlying81 Z (by funext i;rcases i with _|_|_|_|_|_|_|_|_|i <;> kernel_rfl)
def amT:Nat->Option (Nat × Nat)
 |0=>some (0,1)
 |1=>some (1,1)
 |2=>some (2,1)
 |_=>none
def asB {ps:List (Nat × AV)}:fV Tryz.prog 95 ps=jg amT [zI,zI,zN] ps:=iO Z Tryz.underlying95 Z (by funext i;rcases i with _|_|_|i <;> kernel_rfl)
def amU:Nat->Option (Nat × Nat)
 |0=>some (0,1)
 |1=>some (1,1)
 |_=>none
def asC {ps:List (Nat × AV)}:fV Tryz.prog 98 ps=jg amU [zI,zI] ps:=iO Z Tryz.underlying98 Z (by funext i;rcases i with _|_|i <;> kernel_rfl)
def agT:Nat->Option (Nat × Nat)
 |0=>some (0,2)
 |1=>some (2,1)
 |2=>some (3,1)
 |3=>some (4,1)
 |4=>some (5,1)
 |_=>none
def aaB {ps:List (Nat × AV)}:fV Tryz.prog 100 ps=jg agT [zI,zI,zI,zI,zB,zN] ps:=iO Z Tryz.underlying100 Z (by funext i;rcases i with _|_|_|_|_|i <;> kernel_rfl)
def agU:Nat->Option (Nat × Nat)
 |0=>some (0,1)
 |1=>some (1,1)
 |_=>none
def agV {ps:List (Nat × AV)}:fV Tryz.prog 121 ps=jg agU [zP,zP] ps:=iO Z Tryz.underlying121 Z (by funext i;rcases i with _|_|i <;> kernel_rfl)
def agW:Nat->Option (Nat × Nat)
 |0=>some (0,1)
 |1=>some (1,1)
 |2=>some (2,1)
 |_=>none
def amV {ps:List (Nat × AV)}:fV Tryz.prog 135 ps=jg agW [zN,zN,zB] ps:=iO Z Tryz.underlying135 Z (by funext i;rcases i with _|_|_|i <;> kernel_rfl)
def agX:Nat->Option (Nat × Nat)
 |0=>some (0,2)
 |1=>some (2,2)
 |_=>none
def amW {ps:List (Nat × AV)}:fV Tryz.prog 142 ps=jg agX [zP,zP,zP,zP] ps:=iO Z Tryz.underlying142 Z (by funext i;rcases i with _|_|i <;> kernel_rfl)
def amX:Nat->Option (Nat × Nat)
 |0=>some (0,1)
 |_=>none
def amY {ps:List (Nat × AV)}:fV Tryz.prog 145 ps=jg amX [zN] ps:=iO Z Tryz.underlying145 Z (by funext i;rcases i with _|i <;> kernel_rfl)
def agY:Nat->Option (Nat × Nat)
 |0=>some (0,1)
 |1=>some (1,1)
 |2=>some (2,1)
 |3=>some (3,1)
 |_=>none
def amZ {ps:List (Nat × AV)}:fV Tryz.prog 147 ps=jg agY [zN,zI,zI,zI] ps:=iO Z Tryz.underlying147 Z (by funext i;rcases i with _|_|_|_|i <;> kernel_rfl)
def agZ:Nat->Option (Nat × Nat)
 |0=>some (0,8)
 |1=>some (8,1)
 |2=>some (9,1)
 |3=>some (10,1)
 |_=>none
def am0 {ps:List (Nat × AV)}:fV Tryz.prog 157 ps=jg agZ [zI,zI,zI,zI,zI,zI,zI,zN,zP,zN,zN] ps:=iO Z Tryz.underlying157 Z (by funext i;rcases i with _|_|_|_|i <;> kernel_rfl)
def ag0:Nat->Option (Nat × Nat)
 |0=>some (0,1)
 |1=>some (1,1)
 |2=>some (2,8)
 |3=>some (10,1)
 |_=>none
def am1 {ps:List (Nat × AV)}:fV Tryz.prog 166 ps=jg ag0 [zP,zP,zI,zI,zI,zI,zI,zI,zI,zN,zI] ps:=iO Z Tryz.underlying166 Z (by funext i;rcases i with _|_|_|_|i <;> kernel_rfl)
def ag1:Nat->Option (Nat × Nat)
 |0=>some (0,1)
 |1=>some (1,1)
 |_=>none
def am2 {ps:List (Nat × AV)}:fV Tryz.prog 177 ps=jg ag1 [zN,zI] ps:=iO Z Tryz.underlying177 Z (by funext i;rcases i with _|_|i <;> kernel_rfl)
def aaC:Nat->Option (Nat × Nat)
 |0=>some (0,1)
 |1=>some (1,1)
 |2=>some (2,1)
 |3=>some (3,1)
 |_=>none
def ag2 {ps:List (Nat × AV)}:fV Tryz.prog 184 ps=jg aaC [zI,zI,zB,zI] ps:=iO Z Tryz.underlying184 Z (by funext i;rcases i with _|_|_|_|i <;> kernel_rfl)
def ag3:Nat->Option (Nat × Nat)
 |0=>some (0,1)
 |_=>none
def am3 {ps:List (Nat × AV)}:fV Tryz.prog 186 ps=jg ag3 [zN] ps:=iO Z Tryz.underlying186 Z (by funext i;rcases i with _|i <;> kernel_rfl)
def ag4:Nat->Option (Nat × Nat)
 |0=>some (0,1)
 |1=>some (1,1)
 |_=>none
def am4 {ps:List (Nat × AV)}:fV Tryz.prog 200 ps=jg ag4 [zN,zI] ps:=iO Z Tryz.underlying200 Z (by funext i;rcases i with _|_|i <;> kernel_rfl)
def ag5:Nat->Option (Nat × Nat)
 |0=>some (0,8)
 |1=>some (8,1)
 |_=>none
def am5 {ps:List (Nat × AV)}:fV Tryz.prog 206 ps=jg ag5 [zI,zI,zI,zI,zI,zI,zI,zN,zN] ps:=iO Z Tryz.underlying206 Z (by funext i;rcases i with _|_|i <;> kernel_rfl)
def ag6:Nat->Option (Nat × Nat)
 |0=>some (0,8)
 |1=>some (8,1)
 |2=>some (9,1)
 |3=>some (10,1)
 |4=>some (11,1)
 |5=>some (12,1)
 |6=>some (13,1)
 |7=>some (14,1)
 |8=>some (15,9)
 |9=>some (24,1)
 |_=>none
def am6 {ps:List (Nat × AV)}:fV Tryz.prog 213 ps=jg ag6 [zI,zI,zI,zI,zI,zI,zI,zN,zI,zP,zP,zN,zB,zN,zB,zI,zI,zI,zI,zI,zI,zN,zI,zI,zI] ps:=iO Z Tryz.underlying213 Z (by funext i;rcases i with _|_|_|_|_|_|_|_|_|_|i <;> kernel_rfl)
def ag7:Nat->Option (Nat × Nat)
 |0=>some (0,1)
 |1=>some (1,1)
 |_=>none
def am7 {ps:List (Nat × AV)}:fV Tryz.prog 218 ps=jg ag7 [zM,zM] ps:=iO Z Tryz.underlying218 Z (by funext i;rcases i with _|_|i <;> kernel_rfl)
def ag8:Nat->Option (Nat × Nat)
 |0=>some (0,8)
 |1=>some (8,1)
 |_=>none
def am8 {ps:List (Nat × AV)}:fV Tryz.prog 246 ps=jg ag8 [zI,zI,zI,zI,zI,zI,zI,zN,zN] ps:=iO Z Tryz.underlying246 Z (by funext i;rcases i with _|_|i <;> kernel_rfl)
def ag9:Nat->Option (Nat × Nat)
 |0=>some (0,1)
 |1=>some (1,1)
 |2=>some (2,1)
 |3=>some (3,1)
 |_=>none
def am9 {ps:List (Nat × AV)}:fV Tryz.prog 265 ps=jg ag9 [zI,zI,zI,zN] ps:=iO Z Tryz.underlying265 Z (by funext i;rcases i with _|_|_|_|i <;> kernel_rfl)
def aha:Nat->Option (Nat × Nat)
 |0=>some (0,8)
 |1=>some (8,1)
 |2=>some (9,1)
 |3=>some (10,2)
 |_=>none
def ana {ps:List (Nat × AV)}:fV Tryz.prog 272 ps=jg aha [zI,zI,zI,zI,zI,zI,zI,zN,zI,zN,zN,zN] ps:=iO Z Tryz.underlying272 Z (by funext i;rcases i with _|_|_|_|i <;> kernel_rfl)
def ahb:Nat->Option (Nat × Nat)
 |0=>some (0,1)
 |1=>some (1,1)
 |2=>some (2,1)
 |_=>none
def anb {ps:List (Nat × AV)}:fV Tryz.prog 274 ps=jg ahb [zI,zI,zN] ps:=iO Z Tryz.underlying274 Z (by funext i;rcases i with _|_|_|i <;> kernel_rfl)
def ahc:Nat->Option (Nat × Nat)
 |0=>some (0,8)
 |1=>some (8,1)
 |_=>none
def anc {ps:List (Nat × AV)}:fV Tryz.prog 277 ps=jg ahc [zI,zI,zI,zI,zI,zI,zI,zN,zM] ps:=iO Z Tryz.underlying277 Z (by funext i;rcases i with _|_|i <;> kernel_rfl)
def ahd:Nat->Option (Nat × Nat)
 |0=>some (0,1)
 |1=>some (1,1)
 |_=>none
def ane {ps:List (Nat × AV)}:fV Tryz.prog 322 ps=jg ahd [zI,zI] ps:=iO Z Tryz.underlying322 Z (by funext i;rcases i with _|_|i <;> kernel_rfl)
def ahe {k:IntKind}{n:Int}{H:ah}:kL Tryz.prog 3 5 (.s (.int k n)) H=some (.s (.int .u8 (IntKind.wrap .u8 n)),H):=DU Z Tryz.underlying3 Tryz.underlying5
def anf {k:IntKind}{n:Int}{H:ah}:kL Tryz.prog 5 3 (.s (.int k n)) H=some (.s (.int .i64 (IntKind.wrap .i64 n)),H):=DU Z Tryz.underlying5 Tryz.underlying3
def aj9 {k:IntKind}{n:Int}{H:ah}:kL Tryz.prog 5 42 (.s (.int k n)) H=some (.s (.int .u16 (IntKind.wrap .u16 n)),H):=DU Z Tryz.underlying5 Tryz.underlying42
def aeN {k:IntKind}{n:Int}{H:ah}:kL Tryz.prog 5 262 (.s (.int k n)) H=some (.s (.int .u64 (IntKind.wrap .u64 n)),H):=DU Z Tryz.underlying5 Tryz.underlying262
def aaD {k:IntKind}{n:Int}{H:ah}:kL Tryz.prog 42 5 (.s (.int k n)) H=some (.s (.int .u8 (IntKind.wrap .u8 n)),H):=DU Z Tryz.underlying42 Tryz.underlying5
def aaE {k:IntKind}{n:Int}{H:ah}:kL Tryz.prog 42 260 (.s (.int k n)) H=some (.s (.int .u32 (IntKind.wrap .u32 n)),H):=DU Z Tryz.underlying42 Tryz.underlying260
def aeO {k:IntKind}{n:Int}{H:ah}:kL Tryz.prog 260 5 (.s (.int k n)) H=some (.s (.int .u8 (IntKind.wrap .u8 n)),H):=DU Z Tryz.underlying260 Tryz.underlying5
def aeP {k:IntKind}{n:Int}{H:ah}:kL Tryz.prog 262 3 (.s (.int k n)) H=some (.s (.int .i64 (IntKind.wrap .i64 n)),H):=DU Z Tryz.underlying262 Tryz.underlying3
inductive Cell where
 |av (x:AV)
 |seq (m:Nat) (cells:List AV)
 |map (k:IntKind) (es:List (Int × AV))
 |maps (k:IntKind) (m:Nat) (es:List (Int × List AV))
 |ang (w m:Nat) (ls:List (List AV))
abbrev Tag:=Nat × Nat × Nat × Int
section
variable (b:Nat)(H:ah)(τ:Nat->Option Tag)
def OS(T:Tag)(x:AV)(m:Nat)(cells:List AV):Prop:=
 (x=zN/\cells=[])∨∃r g off n d ex e all,x=.sl r g off m n d ex/\τ r=some T/\b<=r/\r<H.next/\n<=d/\H.get r=.blk g e all/\off+d*m<=all.length/\all.all AV.aS=true/\cells=(all.drop off).take (n*m)
def OM(T:Tag)(x:AV)(k:IntKind)(es:List (Int × AV)):Prop:=∃r,x=.mp r/\τ r=some T/\b<=r/\r<H.next/\H.get r=.map k es
def CR(q i:Nat):Cell->AV->Prop
 |.av x,y=>y=x
 |.seq m cells,y=>OS b H τ (q,i+1,0,0) y m cells
 |.map k e,y=>OM b H τ (q,i+1,0,0) y k e
 |.maps k m e,y=>∃d:List (Int × AV),OM b H τ (q,i+1,0,0) y k d/\d.map (·.1)=e.map (·.1)/\∀(j:Nat) n cells x,e[j]?=some (n,cells)->d[j]?=some (n,x)->OS b H τ (q,i+1,1,n) x m cells
 |.ang w m ls,y=>∃xs:List AV,OS b H τ (q,i+1,0,0) y w xs/\xs.length=ls.length/\∀(j:Nat) cells x,ls[j]?=some cells->xs[j]?=some x->OS b H τ (q,i+1,1,(j:Int)) x m cells
structure al7(q:Nat)(cs:List Cell):Prop where
 tag:τ q=some (q,0,0,0)
 lo:b<=q
 hi:q<H.next
 tyl:∀gg ty xs,H.get q=.blk gg ty xs->ty<gV
 blk:∃ty xs,H.get q=.blk 0 ty xs/\xs.length=cs.length/\xs.all AV.aS=true/\∀(i:Nat) c x,cs[i]?=some c->xs[i]?=some x->CR b H τ q i c x
end
abbrev bF:=Nat->Option (List Cell)
def Good(b:Nat)(H:ah)(g:bF):Prop:=b<=H.next/\∃τ,∀q cs,g q=some cs->al7 b H τ q cs
def upd(g:bF)(q:Nat)(cs:List Cell):bF:=λx=>if x=q then some cs else g x
section
variable {b:Nat}{H H':ah}{g:bF}{q:Nat}{cs:List Cell}
def aT:upd g q cs q=some cs:=by simp[upd]
def bD {x:Nat}(h:x≠q):upd g q cs x=g x:=by simp[upd,h]
def pz {b:List Cell}:upd (upd g q cs) q b=upd g q b:=by funext x;simp only[upd];split <;> rfl
def fO(h:g q=some cs):upd g q cs=g:=by
 funext x
 simp only[upd];split
 ·rename_i e;rw[e,h]
 ·rfl
def OS.keep {τ τ':Nat->Option Tag}{T:Tag}{x:AV}{m:Nat}{cells:List AV}(h:OS b H τ T x m cells)(z:H.next<=H'.next)(e:∀r,r<H.next->τ r=some T->τ' r=some T/\H'.get r=H.get r):OS b H' τ' T x m cells:=by
 rcases h with h|⟨r,g,off,n,d,ex,i,all,rfl,j,k,o,p,q,u,v,w⟩
 ·exact .inl h
 ·obtain⟨k1,y⟩:=e r o j;exact .inr ⟨r,g,off,n,d,ex,i,all,rfl,k1,k,V,p,by rw[y];exact q,u,v,w⟩
def OM.keep {τ τ':Nat->Option Tag}{T:Tag}{x:AV}{k:IntKind}{es:List (Int × AV)}(h:OM b H τ T x k es)(n:H.next<=H'.next)(d:∀r,r<H.next->τ r=some T->τ' r=some T/\H'.get r=H.get r):OM b H' τ' T x k es:=by
 obtain⟨r,rfl,e,g,i,j⟩:=h;obtain⟨k1,m⟩:=d r i e;exact⟨r,rfl,k1,g,V,by rw[m];exact j⟩
def CR.keep {τ τ':Nat->Option Tag}{i:Nat}:∀{c:Cell} {x:AV},CR b H τ q i c x->H.next<=H'.next->(∀r s t,r<H.next->τ r=some (q,i+1,s,t)->τ' r=some (q,i+1,s,t)/\H'.get r=H.get r)->CR b H' τ' q i c x
 |.av _,_,h,_,_=>h
 |.seq _ _,_,h,g,k=>OS.keep h g λr d e=>k r 0 0 d e
 |.map _ _,_,h,g,k=>OM.keep h g λr d e=>k r 0 0 d e
 |.maps _ _ _,_,⟨m,d,e,o⟩,g,k=>⟨m,d.keep g λr d e=>k r 0 0 d e,e,λj n cells x p u=>(o j n cells x p u).keep g λr d e=>k r 1 n d e⟩
 |.ang _ _ _,_,⟨xs,d,e,o⟩,g,k=>⟨xs,d.keep g λr d e=>k r 0 0 d e,e,λj cells x p u=>(o j cells x p u).keep g λr d e=>k r 1 j d e⟩
def wu {ty:Nat}{xs:List AV}(h:H.get q=.blk 0 ty xs)(d:ty<gV):∀gg ty' b,H.get q=.blk gg ty' b->ty'<gV:=λ_ _ _ e=>by
 rw[h]at e;cases e;exact d
def al7.keep {τ τ':Nat->Option Tag}(h:al7 b H τ q cs)(j:H.next<=H'.next)(e:∀r i s t,r<H.next->τ r=some (q,i,s,t)->τ' r=some (q,i,s,t)/\H'.get r=H.get r):al7 b H' τ' q cs:=by
 obtain⟨k1,g⟩:=e q 0 0 0 h.hi h.tag;obtain⟨k,xs,d,m,n,o⟩:=h.blk;exact⟨k1,h.lo,by have:=h.hi;omega,wu (by rw[g];exact d) (h.tyl _ _ _ d),k,xs,by rw[g];exact d,m,n,λi c x hc p=>(o i c x hc p).keep j λr s t u v=>e r (i+1) s t u v⟩
def Good.lt(G:Good b H g)(h:g q=some cs):q<H.next:=(G.2.choose_spec q cs h).hi
def Good.le(G:Good b H g)(h:g q=some cs):b<=q:=(G.2.choose_spec q cs h).lo
def Good.isNone(G:Good b H g)(h:H.next<=q):g q=none:=by
 cases d:g q with
 |none=>rfl
 |some cs=>have:=G.lt d;omega
def Good.ne(G:Good b H g)(h:g q=some cs):q≠H.next:=by have:=G.lt h;omega
def Good.ext(G:Good b H g)(d:H.next<=H'.next)(e:∀r,r<H.next->H'.get r=H.get r):Good b H' g:=by
 obtain⟨n,τ,h⟩:=G;exact⟨V,τ,λq cs j=>(h q cs j).keep d λr i s t k m=>⟨m,e r k⟩⟩
def Good.new(G:Good b H g)(o:gB):Good b (H.new o) g:=G.ext (za8 _) λr d=>by rw[jw,if_neg V]
def Good.guard(G:Good b H g):Good b H.guard g:=G.ext (zac _) λ_ _=>rfl
def Good.sub(G:Good b H g){g':bF}(h:∀q cs,g' q=some cs->g q=some cs):Good b H g':=by
 obtain⟨d,τ,e⟩:=G;exact⟨d,τ,λq cs i=>e q cs (h q cs i)⟩
def Good.empty(H:ah):Good H.next H λ_=>none:=⟨zac _,λ_=>none,λ_ _ h=>by cases h⟩
def Good.empty' {b:Nat}(h:b<=H.next):Good b H λ_=>none:=⟨h,λ_=>none,λ_ _ h=>by cases h⟩
def Good.weak(G:Good b H g){e:Nat}(h:e<=b):Good e H g:=by
 obtain⟨h0,τ,L⟩:=G;have os:∀{T x m cells},OS b H τ T x m cells->OS e H τ T x m cells:=by
  intro T x m cells o;rcases o with o|⟨r,g,off,n,p,ex,u,all,v,w,M,y⟩
  ·exact .inl o
  ·exact .inr ⟨r,g,off,n,p,ex,u,all,v,w,V,y⟩
 have K:∀{T x k z},OM b H τ T x k z->OM e H τ T x k z:=by
  intro T x k z ⟨r,v,w,M,y⟩;exact⟨r,v,w,V,y⟩
 refine⟨V,τ,λq cs Q=>?_⟩;have R:=L q cs Q;obtain⟨u,xs,k1,W,X,k4⟩:=R.blk;refine⟨R.tag,by have:=R.lo;omega,R.hi,R.tyl,u,xs,k1,W,X,λi c x hc d=>?_⟩;have:=k4 i c x hc d;cases c with
 |av _=>exact this
 |seq _ _=>exact os this
 |map _ _=>exact K this
 |maps _ _ _=>
  obtain⟨A,C,D,E⟩:=this;exact⟨A,K C,D,λj n cells x F d=>os (E j n cells x F d)⟩
 |ang _ _ _=>
  obtain⟨ys,C,D,E⟩:=this;exact⟨ys,os C,D,λj cells x F d=>os (E j cells x F d)⟩
structure Step(b:Nat)(H H':ah):Prop where
 base:H'.base=H.base
 next:H.next<=H'.next
 low:∀r,r<b->H'.get r=H.get r
def Step.refl(b:Nat)(H:ah):Step b H H:=⟨rfl,zac _,λ_ _=>rfl⟩
def Step.trans {b:Nat}{H H' H'':ah}(s:Step b H H')(t:Step b H' H''):Step b H H'':=⟨t.base.trans s.base,zav s.next t.next,λr d=>by rw[t.low r d,s.low r d]⟩
def Step.new {b:Nat}{H:ah}(o:gB)(h:b<=H.next):Step b H (H.new o):=⟨rfl,za8 _,λr d=>by rw[jw,if_neg V]⟩
def Step.put {b:Nat}{H:ah}{r:Nat}(o:gB)(h:b<=r):Step b H (H.put r o):=⟨rfl,zac _,λx d=>by rw[dP,if_neg V]⟩
def Good.newObj(G:Good b H g){ty:TypeId}{xs:List AV}(hc:xs.all AV.aS=true)(k:ty<gV:=by decide):Good b (H.new (.blk 0 ty xs)) (upd g H.next (xs.map .av)):=by
 obtain⟨m,τ,h⟩:=G;refine⟨by rw[EP];omega,λr=>if r=H.next then some (r,0,0,0)else τ r,λq cs j=>?_⟩;by_cases e:q=H.next
 ·subst e;rw[aT]at j;cases j;refine⟨O,m,by rw[EP];omega,wu (xs:=xs) (by simp[jw]) k,ty,xs,by simp[jw],O,hc,λi c x d n=>?_⟩;rw[zaw,n]at d;simp only[zaj,zaa]at d;subst d;exact rfl
 ·rw[bD e]at j;have R:=h q cs j;exact R.keep (H':=H.new (.blk 0 ty xs)) (za8 _) λr i s t o k=>⟨by rw[if_neg V];exact k,by rw[jw,if_neg V]⟩
def dU {r off g:Nat}{ty:TypeId}{xs:List AV}(h:H.get r=.blk g ty xs):ld (.ref r g off) H=(xs[off]?).map λv=>(v,H):=by
 simp only[ld,kV,bQ,zaj,ldO,h,if_true]
def iP {r off g n:Nat}{ty:TypeId}{xs:List AV}(h:H.get r=.blk g ty xs)(b:off+n<=xs.length):lda n (.ref r g off) H=some (.agg ((xs.drop off).take n),H):=by
 simp only[lda,kV,bQ,zaj,arR,h,if_true,b]
def anh {cells:List AV}:ld (.ip cells) H=(cells[0]?).map λv=>(v,H):=by simp only[ld,kV,ldO]
def ani {cells:List AV}{n:Nat}(h:n<=cells.length):lda n (.ip cells) H=some (.agg (cells.take n),H):=by
 simp only[lda,kV,arR,za7,h,if_true,zaS,zaj]
def Good.load(G:Good b H g)(h:g q=some cs){i:Nat}{x:AV}(hi:cs[i]?=some (.av x)):ld (.ref q 0 i) H=some (x,H):=by
 obtain⟨_,τ,hR⟩:=G;obtain⟨ty,xs,h1,h2,h3,h4⟩:=(hR q cs h).blk;rw[dU h1];have hlt:i<xs.length:=by rw[h2];exact(zaf.1 hi).1
 have hx:xs[i]?=some (xs[i]'hlt):=zab hlt;have:=h4 i _ _ hi hx;simp only[CR]at this;rw[hx,this];rfl
def Good.loads(G:Good b H g)(h:g q=some cs){i n:Nat}{xs:List AV}(hi:(cs.drop i).take n=xs.map .av)(hn:xs.length=n)(hp:0<n):lda n (.ref q 0 i) H=some (.agg xs,H):=by
 obtain⟨_,τ,hR⟩:=G;obtain⟨ty,ys,h1,h2,h3,h4⟩:=(hR q cs h).blk;have hl:=congrArg List.length hi;simp only[zau,zaR,zaz]at hl
 ·rw[iP h1 V]
  congr 2
  congr 1
  apply zbc
  intro j;rcases zaU j n with hj|hj
  ·have hx:xs[j]?=some (xs[j]' V):=zab _;have hc:cs[i+j]?=some (.av (xs[j]' V)):=by
    have:=congrArg (λl=>l[j]?) hi;simp only[zaC,hj,if_true,zaH,zaw,hx,zaj]at this;exact this
   have hlt:i+j<ys.length:=V
   have hy:ys[i+j]?=some (ys[i+j]'hlt):=zab hlt;have:=h4 _ _ _ hc hy;simp only[CR]at this;rw[zaC,if_pos hj,zaH,hy,this,hx]
  ·rw[zaC,if_neg V,zaI V]
end
def aH(H:ah)(x:AV)(m n:Nat)(cells:List AV):Prop:=
 cells.length=n*m/\
 match x with
 |.sl r g off d len e _=>d=m/\len=n/\(r<H.next/\len<=e)/\∃h all,H.get r=.blk g h all/\off+n*m<=all.length/\cells=(all.drop off).take (n*m)
 |.vs k d cs=>d=m/\k=n/\cs=cells
 |.s (.slice none a b)=>a=0/\b=0/\n=0
 |_=>False
def eP(x:AV)(i:Nat):AV:=
 match x with
 |.sl r g off b _ _ _=>.ref r g (off+i*b)
 |.vs _ b cs=>.ip (cs.drop (i*b))
 |_=>aY
section
variable {P:Program}{H:ah}{x:AV}{m n:Nat}{cells:List AV}
def aH.wS(h:aH H x m n cells):kK x=some n/\cZ H x=some cells:=by
 obtain⟨p,h⟩:=h;cases x with
 |sl r g off d len e ex=>
  obtain⟨rfl,rfl,_,q,all,i,j,o⟩:=h;refine⟨rfl,?_⟩;simp only[cZ,i];rw[if_pos ⟨trivial,j⟩,o]
 |vs k d cs=>obtain⟨rfl,rfl,rfl⟩:=h;exact⟨rfl,rfl⟩
 |s v=>
  cases v with
  |slice a b c=>
   cases a with
   |none=>
    obtain⟨rfl,rfl,rfl⟩:=h;refine⟨rfl,?_⟩;have:cells=[]:=zaq V;rw[this];rfl
   |some a=>exact h.elim
  |_=>exact h.elim
 |_=>exact h.elim
def iE:AV->Option Nat
 |.sl r _ _ _ _ _ _=>some r
 |_=>none
def aH.iQ {H':ah}(h:aH H x m n cells)(e:H.next<=H'.next)(i:∀r,iE x=some r->r<H.next->H'.get r=H.get r):aH H' x m n cells:=by
 obtain⟨j,h⟩:=h;refine⟨j,?_⟩;cases x with
 |sl r g off k len o ex=>
  obtain⟨p,q,d,u,all,w,y,z⟩:=h;exact⟨p,q,⟨zax d.1 e,d.2⟩,u,all,by rw[i r rfl d.1];exact w,y,z⟩
 |s v=>
  cases v with
  |slice a b c=>cases a <;> exact h
  |_=>exact h
 |_=>exact h
def aH.new(h:aH H x m n cells)(o:gB):aH (H.new o) x m n cells:=
 h.iQ (za8 _) λr _ b=>by rw[jw,if_neg V]
def aH.guard(h:aH H x m n cells):aH H.guard x m n cells:=h
def aH.nil {m:Nat}:aH H (.s (.slice none 0 0)) m 0 []:=⟨O,rfl,rfl,rfl⟩
def aH.vs {m n:Nat}{cs:List AV}(h:cs.length=n*m):aH H (.vs n m cs) m n cs:=⟨h,rfl,rfl,rfl⟩
end
def Uf {α:Type}{enc:α->List AV}{m:Nat}(b:∀a,(enc a).length=m)(l:List α):(l.flatMap enc).length=l.length*m:=by
 induction l with
 |nil=>simp
 |cons a l d=>simp only[zaE,zar,b,d,zak,zbD];omega
def vF {α:Type}{enc:α->List AV}{m:Nat}(d:∀a,(enc a).length=m):∀(l:List α) (i:Nat) (a:α),l[i]?=some a->((l.flatMap enc).drop (i*m)).take m=enc a
 |[],i,a,h=>by simp at h
 |b::l,0,a,h=>by
  simp only[zaY,zaa]at h;subst h;rw[zbq,zaS,zaE,zcl (by rw[d];omega),zay (by rw[d];omega)]
 |b::l,i+1,a,h=>by
  simp only[zbe]at h;have e:(enc b).drop ((i+1)*m)=[]:=zaP (by rw[d,zbD];omega);have g:(i+1)*m-(enc b).length=i*m:=by rw[d,zbD];omega
  rw[zaE,List.drop_append,e,g,zaN];exact vF d l i a h
section
variable {b:Nat}{H H':ah}{g:bF}{q:Nat}{cs:List Cell}
def xX {τ τ':Nat->Option Tag}{cs':List Cell}(h0:b<=H.next)(h:∀q cs,g q=some cs->al7 b H τ q cs)(o:H.next<=H'.next)
  (hk:∀r,r<H.next->(∀i s t,τ r≠some (q,i,s,t))->τ' r=τ r/\H'.get r=H.get r) (p:al7 b H' τ' q cs'):Good b H' (upd g q cs'):=by
 refine⟨V,τ',λk j d=>?_⟩;by_cases e:k=q
 ·subst e;rw[aT]at d;cases d;exact p
 ·rw[bD e]at d;refine(h k j d).keep o λr i s t u m=>?_;obtain⟨k1,v⟩:=hk r u λw y t' n=>by rw[m]at n;cases n;exact e rfl
  exact⟨by rw[k1];exact m,v⟩
def nC {α:Type}{l:List α}{i j:Nat}{a x:α}(h:(l.set i a)[j]?=some x):(j=i/\x=a)∨(j≠i/\l[j]?=some x):=by
 by_cases e:i=j
 ·subst e;have b:i<l.length:=by
   have:=(zaf.1 h).1
   simpa using this
  rw[zbl b]at h;cases h;exact .inl ⟨rfl,rfl⟩
 ·rw[zbr e]at h;exact .inr ⟨λd=>e d.symm,h⟩
def aaF {l:List AV}(h:l.all AV.aS=true){v:AV}(hv:v.aS=true)(i:Nat):(l.set i v).all AV.aS=true:=by
 rw[za6]at h ⊢;intro x b;rcases zbR b with b|rfl
 ·exact h x b
 ·exact hv
def Qx {l:List AV}{i:Nat}{v:AV}(hi:i<l.length):aN l i [v]=l.set i v:=by
 rw[zdn];simp only[aN,hi,if_true,zak,zan];rfl
def One(v:AV):Prop:=v.cells=[v]/\v.aS=true
def dV {k:IntKind}{n:Int}:One (.s (.int k n)):=⟨rfl,rfl⟩
def ER {x:Bool}:One (.s (.bool x)):=⟨rfl,rfl⟩
def wU {r g off b len cap:Nat}{ex:Bool}:One (.sl r g off b len cap ex):=⟨rfl,rfl⟩
def ahf {n b:Nat}{cells:List AV}:One (.vs n b cells):=⟨rfl,rfl⟩
def qx:One zN:=⟨rfl,rfl⟩
def Ws {r gg off:Nat}{v:AV}{ty:TypeId}{xs:List AV}(hv:One v)(h:H.get r=.blk gg ty xs)(hb:H.base<=r)(b:off<xs.length):st 1 (.ref r gg off) v H=some (aY,H.put r (.blk gg ty (xs.set off v))):=by
 show(match H.get r with
  |.blk g' ty cells=>if g'=gg/\H.base<=r/\some 1=some v.cells.length/\v.cells.all AV.aS=true/\off+v.cells.length<=cells.length then some (aY,H.put r (.blk gg ty (aN cells off v.cells)))else none
  |.map ..=>none)=_
 rw[h];simp only;rw[if_pos ⟨trivial,hb,by rw[hv.1];rfl,by rw[hv.1];simp[hv.2],by rw[hv.1];exact b⟩,hv.1,Qx b]
def Wu {r gg off n:Nat}{vs:List AV}{ty:TypeId}{xs:List AV}(hv:vs.all AV.aS=true)(b:vs.length=n)(h:H.get r=.blk gg ty xs)(hb:H.base<=r)(d:off+n<=xs.length):st n (.ref r gg off) (.agg vs) H=some (aY,H.put r (.blk gg ty (aN xs off vs))):=by
 show(match H.get r with
  |.blk g' ty cells=>if g'=gg/\H.base<=r/\some n=some (AV.agg vs).cells.length/\(AV.agg vs).cells.all AV.aS=true/\off+(AV.agg vs).cells.length<=cells.length then some (aY,H.put r (.blk gg ty (aN cells off (AV.agg vs).cells)))else none
  |.map ..=>none)=_
 rw[h];simp only[eH];rw[if_pos ⟨trivial,hb,by rw[b],hv,V⟩]
def Good.store(G:Good b H g)(hb:H.base<=b)(h:g q=some cs){i:Nat}(hi:i<cs.length){v:AV}(hv:One v):
  ∃H',st 1 (.ref q 0 i) v H=some (aY,H')/\Good b H' (upd g q (cs.set i (.av v)))/\Step b H H'/\H'.next=H.next:=by
 obtain⟨p,τ,n⟩:=G;have R:=n q cs h;obtain⟨u,xs,o,w,y,z⟩:=R.blk;have lo:=R.lo;refine⟨_,Ws hv o V V,?_,Step.put _ lo,rfl⟩;refine xX (τ':=τ) p n (zac _) (λr A d=>⟨rfl,?_⟩) ⟨R.tag,R.lo,R.hi,wu (xs:=xs.set i v) (by rw[dP,if_pos rfl]) (R.tyl _ _ _ o),u,xs.set i v,by rw[dP,if_pos rfl],by simp[w],aaF y hv.2 i,λj c x hc k=>?_⟩
 ·rw[dP,if_neg];intro e;subst e;exact d 0 0 0 R.tag
 ·rcases nC hc with⟨rfl,rfl⟩|⟨m,hc⟩
  ·rcases nC k with⟨_,rfl⟩|⟨m,_⟩
   ·exact rfl
   ·exact absurd rfl m
  ·rcases nC k with⟨rfl,_⟩|⟨_,k⟩
   ·exact absurd rfl m
   ·refine(z j c x hc k).keep (zac _) λr s t A d=>⟨d,?_⟩
    rw[dP,if_neg];intro e;subst e;rw[R.tag]at d;cases d
def rE(cs:List Cell)(i:Nat)(vs:List AV):List Cell:=cs.take i++(vs.map .av++cs.drop (i+vs.length))
def nD {l:List AV}{i:Nat}{vs:List AV}(h:i+vs.length<=l.length)(j:Nat):(aN l i vs)[j]?=if i<=j/\j<i+vs.length then vs[j-i]? else l[j]?:=by
 unfold aN;rcases zaU j i with b|b
 ·rw[zaG (by rw[zau];omega),zaC,if_pos b,if_neg V]
 ·have d:(l.take i).length=i:=by rw[zau];omega
  rw[za2 V,d];rcases zaU j (i+vs.length)with hk|hk
  ·rw[if_pos ⟨b,hk⟩,zaG V]
  ·rw[if_neg V,za2 V,zaH]
   congr 1;omega
def Yx {i:Nat}{vs:List AV}(h:i+vs.length<=cs.length)(j:Nat):(rE cs i vs)[j]?=if i<=j/\j<i+vs.length then(vs[j-i]?).map .av else cs[j]?:=by
 unfold rE;rcases zaU j i with b|b
 ·rw[zaG (by rw[zau];omega),zaC,if_pos b,if_neg V]
 ·have d:(cs.take i).length=i:=by rw[zau];omega
  rw[za2 V,d];rcases zaU j (i+vs.length)with hk|hk
  ·rw[if_pos ⟨b,hk⟩,zaG (by rw[zaz];omega),zaw]
  ·rw[if_neg V,za2 (by rw[zaz];omega),zaz,zaH]
   congr 1;omega
def oh {l:List AV}{i:Nat}{vs:List AV}(h:i+vs.length<=l.length):(aN l i vs).length=l.length:=by
 simp only[aN,zar,zau,zaR];omega
def NC {i:Nat}{vs:List AV}(h:i+vs.length<=cs.length):(rE cs i vs).length=cs.length:=by
 simp only[rE,zar,zau,zaR,zaz];omega
def wV {l vs:List AV}(h:l.all AV.aS=true)(hv:vs.all AV.aS=true)(i:Nat):(aN l i vs).all AV.aS=true:=by
 rw[za6]at h hv ⊢;intro x b;simp only[aN,zaQ]at b;rcases b with b|b|b
 ·exact h x (zcE b)
 ·exact hv x b
 ·exact h x (List.mem_of_mem_drop b)
def Good.stores(G:Good b H g)(hb:H.base<=b)(h:g q=some cs){i n:Nat}{vs:List AV}(hi:i+n<=cs.length)(u:vs.length=n)(hv:vs.all AV.aS=true):
  ∃H',st n (.ref q 0 i) (.agg vs) H=some (aY,H')/\Good b H' (upd g q (rE cs i vs))/\Step b H H'/\H'.next=H.next:=by
 obtain⟨v,τ,o⟩:=G;have R:=o q cs h;obtain⟨w,xs,p,y,z,A⟩:=R.blk;have lo:=R.lo;refine⟨_,Wu hv u p V V,?_,Step.put _ lo,rfl⟩;refine xX (τ':=τ) v o (zac _) (λr C d=>⟨rfl,?_⟩) ⟨R.tag,R.lo,R.hi,wu (xs:=aN xs i vs) (by rw[dP,if_pos rfl]) (R.tyl _ _ _ p),w,aN xs i vs,by rw[dP,if_pos rfl],by rw[oh V,NC V,y],wV z hv i,λj c x hc k=>?_⟩
 ·rw[dP,if_neg];intro e;subst e;exact d 0 0 0 R.tag
 ·rw[Yx V]at hc;rw[nD V]at k;split at hc
  ·rename_i m;rw[if_pos m]at k;rw[k]at hc;simp only[zaj,zaa]at hc;subst hc;exact rfl
  ·rename_i m;rw[if_neg m]at k;refine(A j c x hc k).keep (zac _) λr s t C d=>⟨d,?_⟩
   rw[dP,if_neg];intro e;subst e;rw[R.tag]at d;cases d
structure Cur(b:Nat)(H:ah)(q i:Nat)(x:AV)(m:Nat)(l:List AV):Prop where
 at_:∃ty xs,H.get q=.blk 0 ty xs/\xs[i]?=some x
 own:(x=zN/\l=[])∨∃r g off n cap ex ty all,x=.sl r g off m n cap ex/\r≠q/\b<=r/\r<H.next/\n<=cap/\H.get r=.blk g ty all/\off+cap*m<=all.length/\all.all AV.aS=true/\l=(all.drop off).take (n*m)
 lt:q<H.next
def Good.seq(G:Good b H g)(h:g q=some cs){i m:Nat}{l:List AV}(hi:cs[i]?=some (.seq m l)):∃x,ld (.ref q 0 i) H=some (x,H)/\Cur b H q i x m l:=by
 obtain⟨_,τ,hR⟩:=G;have R:=hR q cs h;obtain⟨ty,xs,h1,h2,h3,h4⟩:=R.blk;have hlt:i<xs.length:=by rw[h2];exact(zaf.1 hi).1
 have hx:xs[i]?=some (xs[i]'hlt):=zab hlt;refine⟨xs[i]'hlt,by rw[dU h1,hx];rfl,⟨ty,xs,h1,hx⟩,?_,R.hi⟩;have:=h4 i _ _ hi hx;simp only[CR]at this;rcases this with h5|⟨r,gg,off,n,cap,ex,ty,all,h5,h6,h7⟩
 ·exact .inl h5
 ·refine .inr ⟨r,gg,off,n,cap,ex,ty,all,h5,?_,h7⟩;intro e;subst e;rw[R.tag]at h6;cases h6
def Cur.load {i m:Nat}{x:AV}{l:List AV}(c:Cur b H q i x m l):ld (.ref q 0 i) H=some (x,H):=by
 obtain⟨g,xs,d,e⟩:=c.at_;rw[dU d,e];rfl
def Cur.ext {i m:Nat}{x:AV}{l:List AV}(c:Cur b H q i x m l)(z:H.next<=H'.next)(j:∀r,r<H.next->H'.get r=H.get r):Cur b H' q i x m l:=by
 obtain⟨d,xs,k,o⟩:=c.at_;refine⟨⟨d,xs,by rw[j q c.lt];exact k,o⟩,?_,by have:=c.lt;omega⟩;rcases c.own with h|⟨r,g,off,n,e,ex,d,all,p,k1,u,v,k4,w,y⟩
 ·exact .inl h
 ·exact .inr ⟨r,g,off,n,e,ex,d,all,p,k1,u,V,k4,by rw[j r v];exact w,y⟩
def Cur.new {i m:Nat}{x:AV}{l:List AV}(c:Cur b H q i x m l)(o:gB):Cur b (H.new o) q i x m l:=c.ext (za8 _) λr d=>by rw[jw,if_neg V]
def Cur.one {i m:Nat}{x:AV}{l:List AV}(c:Cur b H q i x m l):One x:=by
 rcases c.own with⟨rfl,_⟩|⟨r,g,off,n,d,ex,e,all,rfl,_⟩
 ·exact qx
 ·exact wU
def Cur.is {i m n:Nat}{x:AV}{l:List AV}(c:Cur b H q i x m l)(hm:0<m)(d:l.length=n*m):aH H x m n l:=by
 refine⟨d,?_⟩;rcases c.own with⟨rfl,rfl⟩|⟨r,g,off,n',e,ex,j,all,rfl,k1,p,k,k4,o,u,v,rfl⟩
 ·refine⟨rfl,rfl,?_⟩;simp only[zan]at d;rcases zdd.1 d.symm with h|h <;> omega
 ·have w:n'*m<=e*m:=zaF _ k4;rw[zau,zaR,zbm V]at d;have:n'=n:=zbM hm d;subst this;exact⟨rfl,rfl,⟨k,k4⟩,j,all,o,V,rfl⟩
def Cur.low {i m r:Nat}{x:AV}{l:List AV}(c:Cur b H q i x m l)(h:r<b):iE x≠some r:=by
 rcases c.own with⟨rfl,_⟩|⟨r',g,off,n,d,ex,j,all,rfl,k1,k,_⟩
 ·intro e;cases e
 ·intro e;simp only[iE,zaa]at e;omega
def Fit(H H1:ah)(d x:AV)(m:Nat)(l:List AV):Prop:=
 (x=zN/\l=[])∨∃r g off n b ex e all,x=.sl r g off m n b ex/\(iE d=some r∨H.next<=r)/\r<H1.next/\n<=b/\H1.get r=.blk g e all/\off+b*m<=all.length/\all.all AV.aS=true/\l=(all.drop off).take (n*m)
def Good.seat(G:Good b H g)(h:g q=some cs){i m:Nat}{l0:List AV}(hi:cs[i]?=some (.seq m l0)){x0:AV}(c:Cur b H q i x0 m l0){H1:ah}(hn:H.next<=H1.next)(hb:H1.base<=b)
  (hk:∀r,r<H.next->iE x0≠some r->H1.get r=H.get r) {x:AV} {m':Nat} {l:List AV} (hx:Fit H H1 x0 x m' l):
  ∃H',st 1 (.ref q 0 i) x H1=some (aY,H')/\Good b H' (upd g q (cs.set i (.seq m' l)))/\Step b H1 H'/\H'.next=H1.next:=by
 obtain⟨h0,τ,hR⟩:=G;have R:=hR q cs h;obtain⟨ty,xs,h1,h2,h3,h4⟩:=R.blk;have lo:=R.lo;have hi':=R.hi;have il:i<cs.length:=(zaf.1 hi).1;have hx0:xs[i]?=some x0:=by
  obtain⟨ty',xs',e1,e2⟩:=c.at_;rw[h1]at e1;cases e1;exact e2
 have htag:∀r,iE x0=some r->τ r=some (q,i+1,0,0)/\b<=r:=by
  intro r hr;have:=h4 i _ _ hi hx0;simp only[CR]at this;rcases this with⟨rfl,_⟩|⟨r',gg,off,n,cap,ex,ty',all,rfl,k1,k2,_⟩
  ·cases hr
  ·simp only[iE,zaa]at hr;subst hr;exact⟨k1,k2⟩
 have hqx:iE x0≠some q:=λe=>by have:=(htag q e).1;rw[R.tag]at this;cases this
 have hq1:H1.get q=.blk 0 ty xs:=by rw[hk q hi' hqx];exact h1
 have hone:One x:=by
  rcases hx with⟨rfl,_⟩|⟨r,gg,off,n,cap,ex,ty',all,rfl,_⟩
  ·exact qx
  ·exact wU
 refine⟨_,Ws hone hq1 (by omega) (by omega),?_,Step.put _ lo,rfl⟩;refine xX (τ':=λr=>if H.next<=r then some (q,i+1,0,0)else τ r) h0 hR (show H.next<=H1.next from hn) (λr hr ht=>⟨by rw[if_neg (by omega)],?_⟩)
  ⟨by rw[if_neg (by omega)];exact R.tag,R.lo,show q<H1.next by omega,wu (xs:=xs.set i x) (by rw[dP,if_pos rfl]) (R.tyl _ _ _ h1),ty,xs.set i x,by rw[dP,if_pos rfl],by simp[h2],aaF h3 hone.2 i,λj cc y hc hy=>?_⟩
 ·rw[dP,if_neg (by intro e;subst e;exact ht 0 0 0 R.tag)];exact hk r hr λe=>ht (i+1) 0 0 (htag r e).1
 ·rcases nC hc with⟨rfl,rfl⟩|⟨hj,hc⟩
  ·rcases nC hy with⟨_,rfl⟩|⟨hj,_⟩
   ·rcases hx with hx|⟨r,gg,off,n,cap,ex,ty',all,rfl,k1,k2,k3,k4,k5⟩
    ·exact .inl hx
    ·have hrq:r≠q:=by
      rcases k1 with k1|k1
      ·intro e;subst e;exact hqx k1
      ·omega
     refine .inr ⟨r,gg,off,n,cap,ex,ty',all,rfl,?_,?_,k2,k3,by rw[dP,if_neg hrq];exact k4,k5⟩
     ·show(if H.next<=r then some (q,j+1,0,0)else τ r)=some (q,j+1,0,0);split
      ·rfl
      ·rcases k1 with k1|k1
       ·exact(htag r k1).1
       ·omega
     ·rcases k1 with k1|k1
      ·exact(htag r k1).2
      ·omega
   ·exact absurd rfl hj
  ·rcases nC hy with⟨rfl,_⟩|⟨_,hy⟩
   ·exact absurd rfl hj
   ·refine(h4 j cc y hc hy).keep (show H.next<=H1.next from hn) λr s t hr ht=>⟨by rw[if_neg (by omega)];exact ht,?_⟩
    rw[dP,if_neg (by intro e;subst e;rw[R.tag]at ht;cases ht)];refine hk r hr λe=>?_;have:=(htag r e).1;rw[this]at ht;simp only[zaa,zad,zcc]at ht;exact hj ht.2.1.symm
end
section
variable {b:Nat}{H H':ah}{g:bF}{q:Nat}{cs:List Cell}
def aH.lnS {x:AV}{m n:Nat}{cells:List AV}(h:aH H x m n cells):lnS x H=some (I n,H):=by
 obtain⟨_,h⟩:=h;unfold Go.Proofs.YtgplhpgkompkmaaGreat.lnS kV asv;cases x with
 |sl r g off d len e ex=>simp only;rw[h.2.1];rfl
 |vs k d cs=>simp only;rw[h.2.1];rfl
 |s v=>
  cases v with
  |slice a b c=>
   cases a with
   |none=>simp only;rw[h.2.2,h.1];rfl
   |some a=>exact h.elim
  |_=>exact h.elim
 |_=>exact h.elim
def aH.ix {x:AV}{m n:Nat}{cells:List AV}(h:aH H x m n cells){k:IntKind}{i:Int}(h0:0<=i)(o:i<n):ix m x (.s (.int k i)) H=some (eP x i.toNat,H):=by
 obtain⟨_,h⟩:=h;unfold Go.Proofs.YtgplhpgkompkmaaGreat.ix kV ixO;cases x with
 |sl r g off d len e ex=>
  obtain⟨rfl,rfl,_,p,all,j,q,u⟩:=h;simp only[bQ,zaj,j,arL,gB.gen,true_and];rw[if_pos ⟨h0,V⟩];rfl
 |vs k' d cs=>
  obtain⟨rfl,rfl,rfl⟩:=h;simp only[true_and];rw[if_pos ⟨h0,V⟩];rfl
 |s v=>
  cases v with
  |slice a b c=>
   cases a with
   |none=>obtain⟨rfl,rfl,rfl⟩:=h;omega
   |some a=>exact h.elim
  |_=>exact h.elim
 |_=>exact h.elim
def aH.ld {x:AV}{n:Nat}{cells:List AV}(h:aH H x 1 n cells){i:Nat}(hi:i<n):ld (eP x i) H=(cells[i]?).map λv=>(v,H):=by
 obtain⟨_,h⟩:=h;cases x with
 |sl r g off d len e ex=>
  obtain⟨rfl,rfl,_,m,all,j,o,k⟩:=h;simp only[eP];rw[dU j,k,zaC,if_pos V,zaH,zby]
 |vs k' d cs=>
  obtain⟨rfl,rfl,rfl⟩:=h;simp only[eP];rw[anh,zaH,zby,zbL]
 |s v=>
  cases v with
  |slice a b c=>
   cases a with
   |none=>obtain⟨rfl,rfl,rfl⟩:=h;omega
   |some a=>exact h.elim
  |_=>exact h.elim
 |_=>exact h.elim
def aH.ahg {x:AV}{m n:Nat}{cells:List AV}(h:aH H x m n cells){i o:Nat}(hi:i<n)(u:o<m):(au (eP x i) o).bind (λp=>Go.Proofs.YtgplhpgkompkmaaGreat.ld p H)=(cells[i*m+o]?).map λv=>(v,H):=by
 obtain⟨w,h⟩:=h;have e:i*m+m<=n*m:=by
  have:(i+1)*m<=n*m:=zaF _ hi
  rwa [zbD]at this
 cases x with
 |sl r g off d len j ex=>
  obtain⟨rfl,rfl,_,y,all,k,z,q⟩:=h;simp only[eP,rC,za4];rw[dU k,q,zaC,if_pos V,zaH,zck]
 |vs k' d cs=>
  obtain⟨rfl,rfl,rfl⟩:=h;simp only[eP,zx,za4];rw[anh,zbN,zaH,zbL]
 |s v=>
  cases v with
  |slice a b c=>
   cases a with
   |none=>obtain⟨rfl,rfl,rfl⟩:=h;omega
   |some a=>exact h.elim
  |_=>exact h.elim
 |_=>exact h.elim
def aH.lda {x:AV}{m n:Nat}{cells:List AV}(h:aH H x m n cells){i:Nat}(hi:i<n):lda m (eP x i) H=some (.agg ((cells.drop (i*m)).take m),H):=by
 obtain⟨p,h⟩:=h;have e:i*m+m<=n*m:=by
  have:(i+1)*m<=n*m:=zaF _ hi
  rwa [zbD]at this
 cases x with
 |sl r g off d len j ex=>
  obtain⟨rfl,rfl,_,q,all,k,u,o⟩:=h;simp only[eP];rw[iP k V,o,zcI,zb4,zbN,zbm V]
 |vs k' d cs=>
  obtain⟨rfl,rfl,rfl⟩:=h;simp only[eP];rw[ani (by rw[zaR];omega)]
 |s v=>
  cases v with
  |slice a b c=>
   cases a with
   |none=>obtain⟨rfl,rfl,rfl⟩:=h;omega
   |some a=>exact h.elim
  |_=>exact h.elim
 |_=>exact h.elim
def Hw {all new:List AV}{off n:Nat}(h:off+n+new.length<=all.length):((aN all (off+n) new).drop off).take (n+new.length)=(all.drop off).take n++new:=by
 have e:(aN all (off+n) new).length=all.length:=oh V
 apply zbc
 intro j;rcases zaU j n with b|b
 ·rw[zaC,if_pos V,zaH,nD V,if_neg V,zaG (by rw[zau,zaR];omega),zaC,if_pos b,zaH]
 ·rcases zaU j (n+new.length)with d|d
  ·rw[zaC,if_pos d,zaH,nD V,if_pos V,za2 (by rw[zau,zaR];omega),zau,zaR]
   congr 1;omega
  ·rw[zaC,if_neg V,za2 (by rw[zau,zaR];omega),zau,zaR,zaI V]
def all_append {l b:List AV}(h:l.all AV.aS=true)(d:b.all AV.aS=true):(l++b).all AV.aS=true:=by rw[zbf,h,d];rfl
def ES {l:List AV}(h:l.all AV.aS=true)(n:Nat):(l.take n).all AV.aS=true:=by
 rw[za6]at h ⊢;exact λx b=>h x (zcE b)
def Af {l:List AV}(h:l.all AV.aS=true)(n:Nat):(l.drop n).all AV.aS=true:=by
 rw[za6]at h ⊢;exact λx b=>h x (List.mem_of_mem_drop b)
def Own(b:Nat)(H:ah)(x:AV)(m:Nat)(l:List AV):Prop:=
 (x=zN/\l=[])∨∃r g off n d ex e all,x=.sl r g off m n d ex/\b<=r/\r<H.next/\n<=d/\H.get r=.blk g e all/\off+d*m<=all.length/\all.all AV.aS=true/\l=(all.drop off).take (n*m)
def Own.app {m n k:Nat}{x y:AV}{l new:List AV}(c:Own b H x m l)(hb:H.base<=b)(hm:0<m)(hl:l.length=n*m)(hy:aH H y m k new)(hc:new.all AV.aS=true){e:TypeId}{by_:Nat}(h1:n+k<=most)(h2:(n+k)*by_<=most):
  ∃x' H1,app e m by_ x y H=some (x',H1)/\Fit H H1 x x' m (l++new)/\H.next<=H1.next/\H1.base=H.base/\∀r,r<H.next->iE x≠some r->H1.get r=H.get r:=by
 obtain⟨c1,c2⟩:=hy.wS;have c3:=hy.1;have key:Go.Proofs.YtgplhpgkompkmaaGreat.app e m by_ x y H=dW e m by_ x k new H:=by simp only[Go.Proofs.YtgplhpgkompkmaaGreat.app,c1,c2]
 rw[key];unfold dW;rw[if_pos ⟨c3,hc⟩];rcases c with⟨rfl,rfl⟩|⟨r,gg,off,n',cap,ex,ty,all,rfl,k2,k3,k4,k5,k6,k7,rfl⟩
 ·simp only[zan]at hl;have hn:n=0:=by rcases zdd.1 hl.symm with h|h <;> omega
  subst hn;rw[za7]at h1 h2;by_cases hk:k=0
  ·subst hk;rw[zbq]at c3;have:new=[]:=zaq c3;subst this;exact⟨zN,H,by simp only[if_true],.inl ⟨rfl,rfl⟩,zac _,rfl,λ_ _ _=>rfl⟩
  ·refine⟨.sl H.next 0 0 m k k false,H.new (.blk 0 (e+gV) new),by simp only[hk,h1,h2,and_self,if_true,if_false],.inr ⟨H.next,0,0,k,k,false,e+gV,new,rfl,.inr (zac _),by rw[EP];omega,zac _,by simp[jw],by omega,hc,?_⟩,za8 _,rfl,λr hr _=>by rw[jw,if_neg (by omega)]⟩;rw[zaN,zaS,zay (by omega)]
 ·have hcm:n'*m<=cap*m:=zaF _ k4;rw[zau,zaR,zbm (by omega)]at hl;have hn:n'=n:=zbM hm hl;subst hn;simp only[k5];rw[if_pos ⟨trivial,trivial,by omega⟩];by_cases hk:k=0
  ·subst hk;rw[zbq]at c3;have:new=[]:=zaq c3;subst this;exact⟨_,H,by rw[if_pos rfl],.inr ⟨r,gg,off,n',cap,ex,ty,all,rfl,.inl rfl,k3,k4,k5,k6,k7,by rw[zbd]⟩,zac _,rfl,λ_ _ _=>rfl⟩
  ·rw[if_neg hk];by_cases hf:n'+k<=cap
   ·have hfm:(n'+k)*m<=cap*m:=zaF _ hf;rw[if_pos hf,if_pos ⟨by omega,by omega⟩];refine⟨_,_,rfl,.inr ⟨r,gg,off,n'+k,cap,ex,ty,aN all (off+n'*m) new,rfl,.inl rfl,k3,hf,by rw[dP,if_pos rfl],?_,wV k7 hc _,?_⟩,zac _,rfl,λr' hr hne=>?_⟩
    ·rw[zbF]at hfm;rw[oh (by omega)];exact k6
    ·rw[zbF]at hfm ⊢;rw[<-c3,Hw (by omega)]
    ·rw[dP,if_neg];intro e';subst e';exact hne rfl
   ·rw[if_neg hf,if_pos ⟨h1,h2⟩];have e1:((all.drop off).take (n'*m)).length=n'*m:=by rw[zau,zaR];omega
    have e2:((all.drop off).take (n'*m)++new).length=(n'+k)*m:=by rw[zar,e1,c3,zbF]
    cases ex with
    |true=>
     simp only[if_true];refine⟨_,_,rfl,.inr ⟨H.next,0,0,n'+k,n'+k,false,e+gV,(all.drop off).take (n'*m)++new,rfl,.inr (zac _),by rw[EP];omega,zac _,by simp only[jw,if_true],by rw[e2,za7];exact zac _,all_append (ES (Af k7 _) _) hc,?_⟩,za8 _,rfl,λr' hr _=>by rw[jw,if_neg (by omega)]⟩;rw[zaS,zay (Nat.le_of_eq e2)]
    |false=>
     simp only[zal,if_false];rw[if_pos (by omega)];refine⟨_,_,rfl,.inr ⟨r,gg+1,0,n'+k,n'+k,false,grT e ty off,(all.drop off).take (n'*m)++new,rfl,.inl rfl,k3,zac _,by simp only[dP,if_true],by rw[e2,za7];exact zac _,all_append (ES (Af k7 _) _) hc,?_⟩,zac _,rfl,λr' hr hne=>?_⟩
     ·rw[zaS,zay (Nat.le_of_eq e2)]
     ·rw[dP,if_neg];intro e';subst e';exact hne rfl
def Cur.asD {i m:Nat}{x:AV}{l:List AV}(c:Cur b H q i x m l):Own b H x m l:=by
 rcases c.own with h|⟨r,gg,off,n',d,ex,e,all,g,k1,j⟩
 ·exact .inl h
 ·exact .inr ⟨r,gg,off,n',d,ex,e,all,g,j⟩
def Cur.app {i m n k:Nat}{x y:AV}{l new:List AV}(c:Cur b H q i x m l)(hb:H.base<=b)(hm:0<m)(g:l.length=n*m)(h:aH H y m k new)(hc:new.all AV.aS=true){e:TypeId}{by_:Nat}(j:n+k<=most)(o:(n+k)*by_<=most):
  ∃d H1,app e m by_ x y H=some (d,H1)/\Fit H H1 x d m (l++new)/\H.next<=H1.next/\H1.base=H.base/\∀r,r<H.next->iE x≠some r->H1.get r=H.get r:=
 c.asD.app hb hm g h hc j o
def Own.step {m n k:Nat}{x y:AV}{l new:List AV}(c:Own b H x m l)(q:b<=H.next)(hb:H.base<=b)(hm:0<m)(u:l.length=n*m)(v:aH H y m k new)(hc:new.all AV.aS=true){e:TypeId}{by_:Nat}(w:n+k<=most)(z:(n+k)*by_<=most):
  ∃h H1,Go.Proofs.YtgplhpgkompkmaaGreat.app e m by_ x y H=some (h,H1)/\Own b H1 h m (l++new)/\Step b H H1:=by
 obtain⟨h,H1,A,f,n1,C,k1⟩:=c.app hb hm u v hc (e:=e) (by_:=by_) w z;have j:∀r,iE x=some r->b<=r:=λr i=>by
  rcases c with⟨rfl,_⟩|⟨r',g,off,n',d,ex,o,all,rfl,E,_⟩
  ·cases i
  ·simp only[iE,zaa]at i;omega
 refine⟨h,H1,A,?_,C,n1,λr i=>k1 r V λe=>by have:=j r e;omega⟩;rcases f with f|⟨r,g,off,n',d,ex,o,all,rfl,p,D⟩
 ·exact .inl f
 ·exact .inr ⟨r,g,off,n',d,ex,o,all,rfl,p.elim (j r) λp=>V,D⟩
def Own.is {m n:Nat}{x:AV}{l:List AV}(c:Own b H x m l)(hm:0<m)(d:l.length=n*m):aH H x m n l:=by
 refine⟨d,?_⟩;rcases c with⟨rfl,rfl⟩|⟨r,g,off,n',e,ex,i,all,rfl,q,j,k4,k,u,v,rfl⟩
 ·refine⟨rfl,rfl,?_⟩;simp only[zan]at d;rcases zdd.1 d.symm with h|h <;> omega
 ·have o:n'*m<=e*m:=zaF _ k4;rw[zau,zaR,zbm V]at d;have p:n'=n:=zbM hm d;subst p;exact⟨rfl,rfl,⟨j,k4⟩,i,all,k,V,rfl⟩
def Own.ext {m:Nat}{x:AV}{l:List AV}(c:Own b H x m l)(u:H.next<=H'.next)(e:∀r,r<H.next->H'.get r=H.get r):Own b H' x m l:=by
 rcases c with h|⟨r,g,off,n,d,ex,i,all,j,k,o,k4,p,q⟩
 ·exact .inl h
 ·exact .inr ⟨r,g,off,n,d,ex,i,all,j,k,V,k4,by rw[e r o];exact p,q⟩
def Own.new {m:Nat}{x:AV}{l:List AV}(c:Own b H x m l)(o:gB):Own b (H.new o) x m l:=c.ext (za8 _) λr d=>by rw[jw,if_neg V]
def Good.append(G:Good b H g)(hb:H.base<=b)(h:g q=some cs){i m n k:Nat}{l new:List AV}(hi:cs[i]?=some (.seq m l))(hm:0<m)(o:l.length=n*m){x y:AV}(c:Cur b H q i x m l)(p:aH H y m k new)(hc:new.all AV.aS=true){e:TypeId}{by_:Nat}(u:n+k<=most)(v:(n+k)*by_<=most):
  ∃j H1 d,app e m by_ x y H=some (j,H1)/\st 1 (.ref q 0 i) j H1=some (aY,d)/\Good b d (upd g q (cs.set i (.seq m (l++new))))/\Step b H d:=by
 obtain⟨j,H1,w,f,n1,z,k1⟩:=c.app hb hm o p hc (e:=e) (by_:=by_) u v;obtain⟨d,A,C,D,K⟩:=G.seat h hi c n1 V k1 f;have E:=G.1;exact⟨j,H1,d,w,A,C,Step.trans ⟨z,n1,λr F=>k1 r V (c.low F)⟩ D⟩
def Good.elem(G:Good b H g)(hb:H.base<=b)(h:g q=some cs){i m n:Nat}{l:List AV}(hi:cs[i]?=some (.seq m l))(hm:0<m)(K:l.length=n*m){x:AV}(c:Cur b H q i x m l){j:Nat}(hj:j<n):
  ∃r gg off,eP x j=.ref r gg off/\∀(w o:Nat) (v:AV),v.cells.length=w->v.cells.all AV.aS=true->o+w<=m->
   ∃H',st w (.ref r gg (off+o)) v H=some (aY,H')/\Good b H' (upd g q (cs.set i (.seq m (aN l (j*m+o) v.cells))))/\Step b H H'/\H'.next=H.next:=by
 have ab:j*m+m<=n*m:=by
  have:(j+1)*m<=n*m:=zaF _ hj
  rwa [zbD]at this
 rcases c.own with⟨rfl,rfl⟩|⟨r,gg,off,n',u,ex,E,all,rfl,k1,W,k3,k4,k5,k6,k7,rfl⟩
 ·simp only[zan]at K;omega
 ·have ad:n'*m<=u*m:=zaF _ k4;rw[zau,zaR,zbm V]at K;have hn:n'=n:=zbM hm K;subst hn;refine⟨r,gg,off+j*m,rfl,λw o v hw hv ho=>?_⟩;obtain⟨h0,τ,X⟩:=G;have R:=X q cs h;obtain⟨L,xs,F,h2,h3,h4⟩:=R.blk;have C:xs[i]?=some (.sl r gg off m n' u ex):=by
   obtain⟨ae,af,e1,e2⟩:=c.at_;rw[F]at e1;cases e1;exact e2
  have d:τ r=some (q,i+1,0,0):=by
   have:=h4 i _ _ hi C;simp only[CR]at this;rcases this with⟨h,_⟩|⟨_,_,_,_,_,_,_,_,h,k,_⟩
   ·cases h
   ·cases h;exact k
  refine⟨H.put r (.blk gg E (aN all (off+j*m+o) v.cells)),?_,?_,Step.put _ W,rfl⟩
  ·show(match H.get r with
    |.blk g' E cells=>if g'=gg/\H.base<=r/\some w=some v.cells.length/\v.cells.all AV.aS=true/\off+j*m+o+v.cells.length<=cells.length then some (aY,H.put r (.blk gg E (aN cells (off+j*m+o) v.cells)))else none
    |.map ..=>none)=_
   rw[k5];simp only;rw[if_pos ⟨trivial,V,by rw[hw],hv,V⟩]
  ·refine xX (τ':=τ) h0 X (zac _) (λr' hr A=>⟨rfl,?_⟩) ⟨R.tag,R.lo,R.hi,wu (xs:=xs) (by rw[dP,if_neg (λe=>k1 e.symm)];exact F) (R.tyl _ _ _ F),L,xs,by rw[dP,if_neg (λe=>k1 e.symm)];exact F,by simp[h2],h3,λj' cc y z M=>?_⟩
   ·rw[dP,if_neg];intro e;subst e;exact A _ _ _ d
   ·rcases nC z with⟨rfl,rfl⟩|⟨Q,z⟩
    ·rw[C]at M;cases M;refine .inr ⟨r,gg,off,n',u,ex,E,_,rfl,d,W,k3,k4,by rw[dP,if_pos rfl],by rw[oh V];exact k6,wV k7 hv _,?_⟩
     apply zbc
     intro p;have aa:((all.drop off).take (n'*m)).length=n'*m:=by rw[zau,zaR];omega
     rw[nD V];rcases zaU p (n'*m)with T|T
     ·rw[zaC,if_pos T,zaH,zaC,if_pos T,zaH,nD V];by_cases D:j*m+o<=p/\p<j*m+o+v.cells.length
      ·rw[if_pos D,if_pos V];congr 1;omega
      ·rw[if_neg D,if_neg V]
     ·rw[zaC,if_neg V,zaC,if_neg V,if_neg V]
    ·refine(h4 j' cc y z M).keep (zac _) λr' s t hr A=>⟨A,?_⟩
     rw[dP,if_neg];intro e;subst e;rw[d]at A;simp only[zaa,zad,zcc]at A;exact Q A.2.1.symm
def Good.map(G:Good b H g)(h:g q=some cs){i:Nat}{k:IntKind}{es:List (Int × AV)}(hi:cs[i]?=some (.map k es)):
  ∃r,ld (.ref q 0 i) H=some (.mp r,H)/\(∀z n ok,lk k z (.mp r) (.s (.int k n)) ok H=some ((match ql es n with
   |some v=>if ok then .tup [v,.s (.bool true)]else v
   |none=>if ok then .tup [.s z,.s (.bool false)]else .s z),H))/\lnM (.mp r) H=some (I es.length,H)/\(H.base<=b->
   (∀n v,∃H',mup k (.mp r) (.s (.int k n)) v H=some (aY,H')/\Good b H' (upd g q (cs.set i (.map k (MF es n v))))/\Step b H H'/\H'.next=H.next)/\
   (∀n,∃H',del k (.mp r) (.s (.int k n)) H=some (.tup [],H')/\Good b H' (upd g q (cs.set i (.map k (zV es n))))/\Step b H H'/\H'.next=H.next)):=by
 obtain⟨h0,τ,hR⟩:=G;have R:=hR q cs h;obtain⟨ty,xs,h1,h2,h3,h4⟩:=R.blk;have hlt:i<xs.length:=by rw[h2];exact(zaf.1 hi).1
 have hx:xs[i]?=some (xs[i]'hlt):=zab hlt;have:=h4 i _ _ hi hx;simp only[CR]at this;obtain⟨r,e,t1,t2,t3,t4⟩:=this;rw[e]at hx;have hrq:q≠r:=by intro e;subst e;rw[R.tag]at t1;cases t1
 have put:∀es',Good b (H.put r (.map k es')) (upd g q (cs.set i (.map k es'))):=by
  intro es';refine xX (τ':=τ) h0 hR (zac _) (λr' hr ht=>⟨rfl,?_⟩) ⟨R.tag,R.lo,R.hi,wu (xs:=xs) (by rw[dP,if_neg hrq];exact h1) (R.tyl _ _ _ h1),ty,xs,by rw[dP,if_neg hrq];exact h1,by simp[h2],h3,λj c y hc hy=>?_⟩
  ·rw[dP,if_neg];intro e;subst e;exact ht _ _ _ t1
  ·rcases nC hc with⟨rfl,rfl⟩|⟨hj,hc⟩
   ·rw[hx]at hy;cases hy;exact⟨r,rfl,t1,t2,t3,by rw[dP,if_pos rfl]⟩
   ·refine(h4 j c y hc hy).keep (zac _) λr' s t hr ht=>⟨ht,?_⟩
    rw[dP,if_neg];intro e;subst e;rw[t1]at ht;simp only[zaa,zad,zcc]at ht;exact hj ht.2.1.symm
 refine⟨r,by rw[dU h1,hx];rfl,λz n ok=>?_,?_,λhb=>⟨λn v=>⟨H.put r (.map k (MF es n v)),?_,put _,Step.put _ t2,rfl⟩,λn=>⟨H.put r (.map k (zV es n)),?_,put _,Step.put _ t2,rfl⟩⟩⟩
 ·simp only[lk,kV,bQ,zaj,lkO,t4,and_self,if_true];cases ql es n <;> rfl
 ·simp only[lnM,kV,bQ,zaj,amF,t4]
 ·simp only[mup,t4];rw[if_pos ⟨trivial,trivial,V⟩]
 ·simp only[del,t4];rw[if_pos ⟨trivial,trivial,V⟩]
end
abbrev w64(n:Int):Int:=IntKind.wrap .i64 n
structure Cfg where
 aG:Int
 aO:Int
 aV:Int
 sets:Int
 ways:Int
 out:Int
 inn:Int
 init:List Int
structure Pkt where
 aU:Int
 src:Int
 dst:Int
 id:Int
 ak:Int
 ptr:Int
 state:Int
 flag:Bool
 data:List Int
 deriving DecidableEq
structure Opn where
 aU:Int
 addr:Int
 value:Int
 deriving DecidableEq
structure Evn where
 bH:Int
 index:Int
 done:Bool
 value:Int
 deriving DecidableEq
structure Ent where
 fwd:Int
 back:Int
 ak:Int
 used:Int
 bP:Bool
 data:List Int
 deriving DecidableEq
structure Row where
 state:Int
 head:Int
 data:List Int
 deriving DecidableEq
structure bU where
 aU:Int
 ak:Int
 id:Int
 step:Int
 state:Int
 head:Int
 data:List Int
 next:Int
 told:Int
 deriving DecidableEq
structure Pck where
 deliver:Bool
 at_:Int
 bit:Int
 mask:Int
def vsl {α:Type}(m:Nat)(enc:α->List AV)(l:List α):AV:=if l=[]then zN else .vs l.length m (l.flatMap enc)
def arT(n:Int):List AV:=[I n]
def dat(l:List Int):AV:=vsl 1 arT l
def Cfg.av(c:Cfg):List AV:=[I c.aG,I c.aO,I c.aV,I c.sets,I c.ways,I c.out,I c.inn,dat c.init]
def Pkt.av(p:Pkt):List AV:=[I p.aU,I p.src,I p.dst,I p.id,I p.ak,I p.ptr,I p.state,B p.flag,dat p.data]
def Opn.av(o:Opn):List AV:=[I o.aU,I o.addr,I o.value]
def Evn.av(e:Evn):List AV:=[I e.bH,I e.index,B e.done,I e.value]
def Ent.av(e:Ent):List AV:=[I e.fwd,I e.back,I e.ak,I e.used,B e.bP,dat e.data]
def Row.av(r:Row):List AV:=[I r.state,I r.head,dat r.data]
def bU.av(d:bU):List AV:=[I d.aU,I d.ak,I d.id,I d.step,I d.state,I d.head,dat d.data,I d.next,I d.told]
def Pck.av(p:Pck):List AV:=[B p.deliver,I p.at_,I p.bit,.s (.int .u16 p.mask)]
def Pkt.zero:Pkt:=⟨0,0,0,0,0,0,0,false,[]⟩
def Opn.zero:Opn:=⟨0,0,0⟩
def Ent.zero:Ent:=⟨0,0,0,0,false,[]⟩
def Row.zero:Row:=⟨0,0,[]⟩
def bU.zero:bU:=⟨0,0,0,0,0,0,[],0,0⟩
def dF {α:Type}{enc:α->List AV}{m:Nat}(b:∀a,(enc a).length=m)(l:List α):(l.flatMap enc).length=l.length*m:=Uf b l
def HY {α:Type}{enc:α->List AV}{m:Nat}(b:∀a,(enc a).length=m)(H:ah)(l:List α):aH H (vsl m enc l) m l.length (l.flatMap enc):=by
 unfold vsl;split
 ·rename_i h;subst h;exact aH.nil
 ·exact aH.vs (dF b l)
def gI {α:Type}{enc:α->List AV}{m:Nat}:vsl m enc ([]:List α)=zN:=by simp[vsl]
def ET {α:Type}{enc:α->List AV}{m:Nat}{l:List α}(h:l≠[]):vsl m enc l=.vs l.length m (l.flatMap enc):=by simp[vsl,h]
def Ug {α:Type}{enc:α->List AV}{m:Nat}{l:List α}:One (vsl m enc l):=by
 unfold vsl;split
 ·exact qx
 ·exact ahf
def sJ {l:List Int}:One (dat l):=Ug
def aeQ(n:Int):(arT n).length=1:=rfl
def Qy(l:List Int):l.flatMap arT=l.map I:=by
 induction l with
 |nil=>rfl
 |cons a l b=>rw[zaE,b];rfl
def fH(H:ah)(l:List Int):aH H (dat l) 1 l.length (l.map I):=by
 have:=HY aeQ H l;rw[Qy]at this;exact this
def bZ(p:Pkt):p.av.length=9:=rfl
def eU(p:Opn):p.av.length=3:=rfl
def tZ(p:Evn):p.av.length=4:=rfl
def dI(p:Ent):p.av.length=6:=rfl
def CG(p:Row):p.av.length=3:=rfl
def KL(p:Cfg):p.av.length=8:=rfl
def Ib(p:bU):p.av.length=9:=rfl
def KN(p:Pck):p.av.length=4:=rfl
def ahh(p:Cfg):p.av.take 8=p.av:=rfl
def Qz(p:Pkt):p.av.take 9=p.av:=rfl
def ahi(p:Opn):p.av.take 3=p.av:=rfl
def ahj(p:Evn):p.av.take 4=p.av:=rfl
def ahk(p:Ent):p.av.take 6=p.av:=rfl
def ahl(p:Row):p.av.take 3=p.av:=rfl
def aaG(p:bU):p.av.take 9=p.av:=rfl
def ahm(p:Pck):p.av.take 4=p.av:=rfl
def Ic {l:List Int}:(dat l).cells=[dat l]:=sJ.1
def oq {l:List Int}:(dat l).aS=true:=sJ.2
def Ie {α:Type}{enc:α->List AV}{m:Nat}{l:List α}:(vsl m enc l).cells=[vsl m enc l]:=Ug.1
def KP {α:Type}{enc:α->List AV}{m:Nat}{l:List α}:(vsl m enc l).aS=true:=Ug.2
def eu(c:Cfg):c.av.all AV.aS=true:=by simp[Cfg.av,iI,oq]
def aW(p:Pkt):p.av.all AV.aS=true:=by simp[Pkt.av,iI,kR,oq]
def oz(p:Opn):p.av.all AV.aS=true:=by simp[Opn.av,iI]
def CJ(p:Evn):p.av.all AV.aS=true:=by simp[Evn.av,iI,kR]
def jO(p:Ent):p.av.all AV.aS=true:=by simp[Ent.av,iI,kR,oq]
def Ig(p:Row):p.av.all AV.aS=true:=by simp[Row.av,iI,oq]
def bG(p:bU):p.av.all AV.aS=true:=by simp[bU.av,iI,oq]
def Ih(p:Pck):p.av.all AV.aS=true:=by simp[Pck.av,iI,kR]
def EU {α:Type}{enc:α->List AV}(h:∀a,(enc a).all AV.aS=true)(l:List α):(l.flatMap enc).all AV.aS=true:=by
 rw[za6];intro x b;obtain⟨a,_,ha⟩:=za5.1 b;exact za6.1 (h a) x ha
def iJ {H:ah}{n d:Nat}:∀(l:List AV),(∀x∈l,bV H n d x=some x)->l.mapM (bV H n d)=some l
 |[],_=>rfl
 |x::l,h=>by
  rw[zbC,iJ l λy b=>h y (by simp[b]),h x O];rfl
def iY {H:ah}{n d:Nat}{v:Value}:bV H n (d+1) (.s v)=some (.s v):=by rw[bV]
def aaH {H:ah}{n d k m:Nat}{l:List AV}(h:∀x∈l,bV H n d x=some x):bV H n (d+1) (.vs k m l)=some (.vs k m l):=by
 rw[bV];simp only[iJ l h,zaj]
def KQ {H:ah}{n d:Nat}{l:List AV}(h:∀x∈l,bV H n d x=some x):bV H n (d+1) (.agg l)=some (.agg l):=by
 rw[bV];simp only[iJ l h,zaj]
def KR {H:ah}{n d:Nat}{l:List AV}(h:∀x∈l,bV H n d x=some x):bV H n (d+1) (.tup l)=some (.tup l):=by
 rw[bV];simp only[iJ l h,zaj]
def kS {H:ah}{n d r g off b len cap:Nat}{ex:Bool}{l:List AV}(e:n<=r){cells:List AV}(hc:cZ H (.sl r g off b len cap ex)=some cells)(h:cells.mapM (bV H n d)=some l):bV H n (d+1) (.sl r g off b len cap ex)=some (.vs len b l):=by
 rw[bV];simp only[if_neg (zdO.2 e),hc,h,zaj]
def Frz(d:Nat)(x:AV):Prop:=∀H n,bV H n d x=some x
def fC {v:Value}{d:Nat}:Frz (d+1) (.s v):=λ_ _=>iY
def ahn {d k m:Nat}{l:List AV}(h:∀x∈l,Frz d x):Frz (d+1) (.vs k m l):=λH n=>aaH λx b=>h x b H n
def mF {d:Nat}{l:List AV}(h:∀x∈l,Frz d x):Frz (d+1) (.agg l):=λH n=>KQ λx b=>h x b H n
def wW {d:Nat}{l:List AV}(h:∀x∈l,Frz d x):Frz (d+1) (.tup l):=λH n=>KR λx b=>h x b H n
def akb {α:Type}{enc:α->List AV}{m d:Nat}{l:List α}(h:∀a,∀x∈enc a,Frz (d+1) x):Frz (d+2) (vsl m enc l):=by
 unfold vsl;split
 ·exact fC
 ·refine ahn λx b=>?_;obtain⟨a,_,ha⟩:=za5.1 b;exact h a x ha
def sK {l:List Int}{d:Nat}:Frz (d+2) (dat l):=akb λa x b=>by
 simp only[arT,zaV]at b;subst b;exact fC
section
variable {β:Type}{x:Option (AV × ah)}{H:ah}{k:AV->ah->Option β}
def anj:gdA (some (.s (.bool true))) true x H k=bnd x k:=rfl
def ank:gdA (some (.s (.bool true))) false x H k=k aY H:=rfl
def anl:gdA (some (.s (.bool false))) true x H k=k aY H:=rfl
def anm:gdA (some (.s (.bool false))) false x H k=bnd x k:=rfl
def auZ {a b:AV}:bJ (.s (.bool true)) a b=some a:=rfl
def au0 {a b:AV}:bJ (.s (.bool false)) a b=some b:=rfl
end
def aaI {r g o:Nat}:ay (.ref r g o)=some (.ref r g o):=rfl
def aho {l:List AV}:ay (.ip l)=some (.ip l):=rfl
def ahp {f:FuncId}{a c:List AV}:ay (.fn (.func f) a c)=some (.fn (.func f) a c):=rfl
def ahq {l:List AV}{i:Nat}:aF (.tup l) i=l[i]?:=rfl
def ahr {l:List AV}{o:Nat}:fl (.agg l) o=l[o]?:=rfl
def ahs {r g off:Nat}{H:ah}:ld (.ref r g off) H=match H.get r with
  |.blk g' _ cells=>if g'=g then(cells[off]?).map λv=>(v,H)else none
  |.map ..=>none:=by
 simp only[ld,kV,bQ,zaj,ldO];cases H.get r with
 |map k b=>rfl
 |blk g' d cells=>simp only;split <;> rfl
def Uh {r g off n:Nat}{H:ah}:lda n (.ref r g off) H=match H.get r with
  |.blk g' _ cells=>if g'=g then(if off+n<=cells.length then some (.agg ((cells.drop off).take n),H)else none)else none
  |.map ..=>none:=by
 simp only[lda,kV,bQ,zaj,arR];cases H.get r with
 |map k b=>rfl
 |blk g' d cells=>
  simp only;split
  ·split <;> rfl
  ·rfl
def aC {t:TypeId}{l:List AV}{H:ah}(h:l.all AV.aS=true)(b:t<1000000000):fM t (.agg l) H=some (.ref H.next 0 0,H.new (.blk 0 t l)):=V5 h b
def aht {t:TypeId}{z:List AV}{H:ah}:alc t z H=some (.ref H.next 0 0,H.new (.blk 0 t z)):=rfl
def ahu {k:IntKind}{H:ah}:mkm k H=some (.mp H.next,H.new (.map k [])):=rfl
def leS {a b:Nat}(h:a<=b):a<=b+1:=V
def ltS {a b:Nat}(h:a<b):a<b+1:=V
def eF {H:ah}{o:gB}:(H.new o).next=H.next+1:=Eq.trans rfl rfl
def al8 {H:ah}{r:Nat}{o:gB}:(H.put r o).next=H.next:=Eq.trans rfl rfl
def jh {H:ah}{o:gB}:(H.new o).base=H.base:=Eq.trans rfl rfl
def au1 {H:ah}{r:Nat}{o:gB}:(H.put r o).base=H.base:=Eq.trans rfl rfl
def xY {H:ah}:H.guard.next=H.next:=Eq.trans rfl rfl
def al9 {H:ah}:H.guard.base=H.next:=Eq.trans rfl rfl
def ad6 {H:ah}:H.guard.get=H.get:=Eq.trans rfl rfl
def qA {H:ah}{o:gB}:(H.new o).get H.next=o:=by rw[jw,if_pos rfl]
def aP {H:ah}{o:gB}{r:Nat}(h:r=H.next):(H.new o).get r=o:=by rw[jw,if_pos h]
def bC {H:ah}{o:gB}{r:Nat}(h:r<H.next):(H.new o).get r=H.get r:=by rw[jw,if_neg (by omega)]
def Ii {H:ah}{o:gB}{r:Nat}:(H.put r o).get r=o:=by rw[dP,if_pos rfl]
def ND {n r off:Nat}{v:AV}{H:ah}:st n (.ref r 0 off) v H=match H.get r with
  |.blk g' ty cells=>if g'=0/\H.base<=r/\n=v.cells.length/\v.cells.all AV.aS=true/\off+v.cells.length<=cells.length then some (aY,H.put r (.blk 0 ty (aN cells off v.cells)))else none
  |.map ..=>none:=by
 unfold st;simp only[zaa];cases H.get r <;> rfl
def ahv {H:ah}{r off:Nat}{ty:TypeId}{cells:List AV}(h:r=H.next):ld (.ref r 0 off) (H.new (.blk 0 ty cells))=(cells[off]?).map λv=>(v,H.new (.blk 0 ty cells)):=dU (aP h)
def aaJ {H:ah}{r off n:Nat}{ty:TypeId}{cells:List AV}(h:r=H.next):lda n (.ref r 0 off) (H.new (.blk 0 ty cells))=if off+n<=cells.length then some (.agg ((cells.drop off).take n),H.new (.blk 0 ty cells))else none:=by
 split
 ·rename_i b;exact iP (aP h) b
 ·rename_i b;rw[Uh,aP h];simp only[if_true,b,if_false]
def DV {H:ah}{r off:Nat}{o:gB}(h:r<H.next):ld (.ref r 0 off) (H.new o)=(ld (.ref r 0 off) H).map λp=>(p.1,H.new o):=by
 rw[ahs,ahs,bC h];cases H.get r with
 |map k b=>rfl
 |blk g d cells=>simp only;split <;> first|rfl|(cases cells[off]? <;> rfl)
def aaK {H:ah}{r off n:Nat}{o:gB}(h:r<H.next):lda n (.ref r 0 off) (H.new o)=(lda n (.ref r 0 off) H).map λp=>(p.1,H.new o):=by
 rw[Uh,Uh,bC h];cases H.get r with
 |map k b=>rfl
 |blk g d cells=>simp only;split <;> first|rfl|(split <;> rfl)
def Ij {H:ah}{a b:gB}:(H.new a).put H.next b=H.new b:=by
 unfold ah.put ah.new;simp only
 congr 1
 funext x
 split <;> rfl
def ano {H:ah}{r:Nat}{a b:gB}(h:r<H.next):(H.new a).put r b=(H.put r b).new a:=by
 unfold ah.put ah.new;simp only
 congr 1
 funext x
 split <;> split <;> first|rfl|(exfalso;omega)
def uf {n:Nat}{H:ah}{r off:Nat}{v:AV}{ty:TypeId}{cells:List AV}(h:r=H.next):st n (.ref r 0 off) v (H.new (.blk 0 ty cells))=if H.base<=r/\n=v.cells.length/\v.cells.all AV.aS=true/\off+v.cells.length<=cells.length then some (aY,H.new (.blk 0 ty (aN cells off v.cells)))else none:=by
 subst h;rw[ND,aP rfl];simp only[true_and,jh,Ij]
def QA {n:Nat}{H:ah}{r off:Nat}{v:AV}{o:gB}(h:r<H.next):st n (.ref r 0 off) v (H.new o)=(st n (.ref r 0 off) v H).map λp=>(p.1,p.2.new o):=by
 rw[ND,ND,bC h];cases H.get r with
 |map k b=>rfl
 |blk g d cells=>
  simp only[jh];split
  ·simp only[zaj,ano h]
  ·rfl
def ahw {r off n:Nat}{v:AV}{ty:TypeId}{xs:List AV}{H:ah}(h:H.get r=.blk 0 ty xs)(hb:H.base<=r)(hv:v.cells.all AV.aS=true)(b:v.cells.length=n)(d:off+n<=xs.length):st n (.ref r 0 off) v H=some (aY,H.put r (.blk 0 ty (aN xs off v.cells))):=by
 show(match H.get r with
  |.blk g' ty cells=>if g'=0/\H.base<=r/\some n=some v.cells.length/\v.cells.all AV.aS=true/\off+v.cells.length<=cells.length then some (aY,H.put r (.blk 0 ty (aN cells off v.cells)))else none
  |.map ..=>none)=_
 rw[h];simp only;rw[if_pos ⟨trivial,hb,by rw[b],hv,V⟩]
def dY {b:Nat->Option (Nat × Nat)}{z:List AV}:fK b z []=some z:=rfl
def Ik {b:Nat->Option (Nat × Nat)}{z:List AV}{i off:Nat}{v:AV}{ps:List (Nat × AV)}(d:b i=some (off,1))(hv:v.cells=[v])(e:off<z.length):fK b z ((i,v)::ps)=fK b (z.set off v) ps:=by
 rw[fK];simp only[d,hv,zak,zan];rw[if_pos ⟨trivial,V⟩,Qx e]
def zD {e m:Nat}{z:List AV}{H:ah}:bsl e m z 0 [] H=some (.sl H.next 0 0 m 0 0 true,H.new (.blk 0 e [])):=rfl
def jP {e m:Nat}{z:List AV}{v:AV}{H:ah}(b:z.length=m)(hv:v.cells.length=m)(hc:v.cells.all AV.aS=true):bsl e m z 1 [(0,v)] H=some (.sl H.next 0 0 m 1 1 true,H.new (.blk 0 e v.cells)):=by
 have d:(dK z 1).length=m:=by simp[dK,b]
 unfold bsl;rw[fK];simp only[zbq,hv,d,za7,zac,and_self,if_true,fK];have:aN (dK z 1) 0 v.cells=v.cells:=by
  simp only[aN,zdF,zaN,za7];rw[zaP V,zbd]
 rw[this,if_pos hc]
def jX {e m n:Nat}{l:List AV}{H:ah}{ex:Bool}(h:l.length=n*m):aH (H.new (.blk 0 e l)) (.sl H.next 0 0 m n n ex) m n l:=
 ⟨h,rfl,rfl,⟨by rw[eF];omega,zac _⟩,e,l,by simp[jw],V,by rw[zaS,zay V]⟩
def ug {e m by_ r n ty:Nat}{y:AV}{cells:List AV}{H:ah}(d:H.get r=.blk 0 ty [])(b:aH H y m n cells)(hc:cells.all AV.aS=true)(g:n≠0)(k:n<=most)(h:n*by_<=most):
  app e m by_ (.sl r 0 0 m 0 0 true) y H=some (.sl H.next 0 0 m n n false,H.new (.blk 0 (e+gV) cells)):=by
 obtain⟨i,j⟩:=b.wS;simp only[app,i,j];unfold dW;rw[if_pos ⟨b.1,hc⟩];simp only[d];rw[if_pos ⟨trivial,trivial,O⟩,if_neg g,if_neg V,if_pos ⟨V,by rw[za7];exact h⟩];simp
def Ui {e m by_ n:Nat}{y:AV}{cells:List AV}{H:ah}(b:aH H y m n cells)(hc:cells.all AV.aS=true)(d:n≠0)(g:n<=most)(h:n*by_<=most):
  app e m by_ zN y H=some (.sl H.next 0 0 m n n false,H.new (.blk 0 (e+gV) cells)):=by
 obtain⟨i,j⟩:=b.wS;simp only[app,i,j];unfold dW;rw[if_pos ⟨b.1,hc⟩];simp only;rw[if_neg d,if_pos ⟨g,h⟩]
def uh {P:Program}{t e:TypeId}{n m:Nat}{l:List AV}(h:P.underlying t=some (.slice e)):pY P .eql t (.vs n m l) (.s (.slice none 0 0))=some (B false):=by
 simp[pY,AV.val?,PL,h]
def CO {P:Program}{t e:TypeId}{r g o m n c:Nat}{ex:Bool}(h:P.underlying t=some (.slice e)):pY P .eql t (.sl r g o m n c ex) (.s (.slice none 0 0))=some (B false):=by
 simp[pY,AV.val?,PL,h]
def uj {P:Program}{C:aA}{f:FuncId}{a c args:List AV}{H:ah}(h:qm P f=true):qo P C (.fn (.func f) a c) args H=C f (a++args++c) H:=aeD h
def wrap_i64 {a:Int}(b:-9223372036854775808<=a)(d:a<=9223372036854775807):IntKind.wrap .i64 a=a:=amx b d
def xq_:(type_of% @agQ)/\(type_of% @amH)/\(type_of% @VY)/\(type_of% @aax)/\(type_of% @KJ)/\(type_of% @Hu)/\(type_of% @Ql)/\(type_of% @decide_true)/\
 (type_of% @decide_false)/\(type_of% @anj)/\(type_of% @ank)/\(type_of% @anl)/\(type_of% @anm)/\(type_of% @V6)/\
 (type_of% @Qn)/\(type_of% @V3)/\(type_of% @Option.map_some.{0,0})/\(type_of% @Option.bind_some.{0,0})/\(type_of% @rC)/\(type_of% @zx)/\
 (type_of% @aaI)/\(type_of% @aho)/\(type_of% @ahp)/\(type_of% @ahq)/\(type_of% @ahr)/\(type_of% @List.getElem?_cons_zero.{0})/\
 (type_of% @List.getElem?_cons_succ.{0})/\(type_of% @Nat.zero_add)/\(type_of% @Nat.add_zero)/\(type_of% @auZ)/\(type_of% @au0)/\(type_of% @aai)/\
 (type_of% @aaj)/\(type_of% @TY)/\(type_of% @Ns)/\(type_of% @aak)/\(type_of% @aal)/\(type_of% @V4)/\
 (type_of% @beq_self_eq_true.{0})/\(type_of% @if_true.{1})/\(type_of% @Bool.false_eq_true)/\(type_of% @if_false.{1})/\(type_of% @List.nil_append.{0})/\(type_of% @List.cons_append.{0})/\
 (type_of% @List.append_nil.{0})/\(type_of% @aht)/\(type_of% @ahu)/\(type_of% @eF)/\(type_of% @al8)/\(type_of% @jh)/\
 (type_of% @au1)/\(type_of% @xY)/\(type_of% @al9):=
 ⟨@agQ,@amH,@VY,@aax,@KJ,@Hu,@Ql,@decide_true,@decide_false,@anj,@ank,@anl,@anm,@V6,@Qn,@V3,@Option.map_some.{0,0},@Option.bind_some.{0,0},@rC,@zx,@aaI,@aho,@ahp,@ahq,@ahr,@List.getElem?_cons_zero.{0},@List.getElem?_cons_succ.{0},@Nat.zero_add,@Nat.add_zero,@auZ,@au0,@aai,@aaj,@TY,@Ns,@aak,@aal,@V4,@beq_self_eq_true.{0},@if_true.{1},@Bool.false_eq_true,@if_false.{1},@List.nil_append.{0},@List.cons_append.{0},@List.append_nil.{0},@aht,@ahu,@eF,@al8,@jh,@au1,@xY,@al9⟩
def hq_:(type_of% @ahv)/\(type_of% @DV)/\(type_of% @aaJ)/\(type_of% @aaK)/\(type_of% @uf)/\(type_of% @QA)/\
 (type_of% @Nat.lt_add_one)/\(type_of% @ne_eq.{1})/\(type_of% @nx1)/\(type_of% @nx2)/\(type_of% @nx3)/\(type_of% @ny1)/\
 (type_of% @ny2)/\(type_of% @ny3)/\(type_of% @not_false_eq_true)/\(type_of% @List.length_cons.{0})/\(type_of% @List.length_nil.{0})/\(type_of% @List.take_succ_cons.{0})/\
 (type_of% @List.take_zero.{0})/\(type_of% @List.drop_succ_cons.{0})/\(type_of% @List.drop_zero.{0})/\(type_of% @Ic)/\(type_of% @Qo)/\(type_of% @Kw)/\
 (type_of% @eH)/\(type_of% @List.all_cons.{0})/\(type_of% @List.all_nil.{0})/\(type_of% @iI)/\(type_of% @kR)/\(type_of% @oq)/\
 (type_of% @Ky)/\(type_of% @KA)/\(type_of% @KP)/\(type_of% @Ie)/\(type_of% @KL)/\(type_of% @bZ)/\
 (type_of% @eU)/\(type_of% @tZ)/\(type_of% @dI)/\(type_of% @CG)/\(type_of% @Ib)/\(type_of% @KN)/\
 (type_of% @ahh)/\(type_of% @Qz)/\(type_of% @ahi)/\(type_of% @ahj)/\(type_of% @ahk)/\(type_of% @ahl)/\
 (type_of% @aaG)/\(type_of% @ahm)/\(type_of% @eu)/\(type_of% @aW)/\(type_of% @oz)/\(type_of% @CJ)/\
 (type_of% @jO)/\(type_of% @Ig)/\(type_of% @bG)/\(type_of% @Ih)/\(type_of% @List.drop_nil.{0})/\(type_of% @Bool.and_true)/\
 (type_of% @Bool.and_self)/\(type_of% @and_self)/\(type_of% @Nat.le_refl)/\(type_of% @true_and)/\(type_of% @and_true)/\(type_of% @Nat.le_add_right)/\
 (type_of% @leS)/\(type_of% @ltS):=
 ⟨@ahv,@DV,@aaJ,@aaK,@uf,@QA,@Nat.lt_add_one,@ne_eq.{1},@nx1,@nx2,@nx3,@ny1,@ny2,@ny3,@not_false_eq_true,@List.length_cons.{0},@List.length_nil.{0},@List.take_succ_cons.{0},@List.take_zero.{0},@List.drop_succ_cons.{0},@List.drop_zero.{0},@Ic,@Qo,@Kw,@eH,@List.all_cons.{0},@List.all_nil.{0},@iI,@kR,@oq,@Ky,@KA,@KP,@Ie,@KL,@bZ,@eU,@tZ,@dI,@CG,@Ib,@KN,@ahh,@Qz,@ahi,@ahj,@ahk,@ahl,@aaG,@ahm,@eu,@aW,@oz,@CJ,@jO,@Ig,@bG,@Ih,@List.drop_nil.{0},@Bool.and_true,@Bool.and_self,@and_self,@Nat.le_refl,@true_and,@and_true,@Nat.le_add_right,@leS,@ltS⟩
def uJ(g g':bF):Prop:=∀q cs,g q=some cs->g' q=some cs
def uJ.refl(g:bF):uJ g g:=λ_ _ h=>h
def uJ.more {g g':bF}(h:uJ g g'){n:Nat}(d:g n=none)(c:List Cell):uJ g (upd g' n c):=λq cs b=>by
 rw[bD (λe=>by rw[e,d]at b;cases b)];exact h q cs b
def uJ.both {g g':bF}(h:uJ g g')(n:Nat)(c:List Cell):uJ (upd g n c) (upd g' n c):=λq cs b=>by
 by_cases e:q=n
 ·subst e;rw[aT]at b ⊢;exact b
 ·rw[bD e]at b ⊢;exact h q cs b
def Ah {g:bF}{q n:Nat}{c:List Cell}(h:g n=none)(b:n≠q):upd g q c n=none:=by rw[bD b];exact h
section
variable {b:Nat}{H H':ah}{g:bF}{q:Nat}{cs:List Cell}
def Cur.length {i m n:Nat}{x:AV}{l:List AV}(c:Cur b H q i x m l)(hm:0<m)(d:l.length=n*m):(x=zN/\n=0)∨∃r g off cap ex ty all,x=.sl r g off m n cap ex/\r≠q/\b<=r/\r<H.next/\n<=cap/\H.get r=.blk g ty all/\off+cap*m<=all.length/\all.all AV.aS=true/\l=(all.drop off).take (n*m):=by
 rcases c.own with⟨rfl,rfl⟩|⟨r,g,off,n',cap,ex,ty,all,rfl,k1,e,j,k4,k,o,p,rfl⟩
 ·left;simp only[zan]at d;refine⟨rfl,?_⟩;rcases zdd.1 d.symm with h|h <;> omega
 ·right;have u:n'*m<=cap*m:=zaF _ k4;rw[zau,zaR,zbm V]at d;have:n'=n:=zbM hm d;subst this;exact⟨r,g,off,cap,ex,ty,all,rfl,k1,e,j,k4,k,o,p,rfl⟩
def anp {r gg off m len cap:Nat}{ex:Bool}{k1 k2:IntKind}{lo hi:Int}(h0:0<=lo)(d:lo<=hi)(e:hi<=cap):slS m (.sl r gg off m len cap ex) (some (.s (.int k1 lo))) (some (.s (.int k2 hi))) none=some (.sl r gg (off+lo.toNat*m) m (hi.toNat-lo.toNat) (cap-lo.toNat) ex):=by
 have b:0<=hi:=V
 simp only[slS,jc,h0,b,if_true,isNone,zae,zdK];rw[if_pos ⟨trivial,V,V,V,O⟩]
def Wv {r gg off m len cap:Nat}{ex:Bool}{k2:IntKind}{hi:Int}(h0:0<=hi)(b:hi<=cap):slS m (.sl r gg off m len cap ex) none (some (.s (.int k2 hi))) none=some (.sl r gg off m hi.toNat cap ex):=by
 simp only[slS,jc,h0,if_true,isNone,zae,zdK];rw[if_pos ⟨trivial,V,V,V,O⟩];simp
def EX {r gg off m len cap:Nat}{ex:Bool}{k1:IntKind}{lo:Int}(h0:0<=lo)(b:lo<=len)(d:len<=cap):slS m (.sl r gg off m len cap ex) (some (.s (.int k1 lo))) none none=some (.sl r gg (off+lo.toNat*m) m (len-lo.toNat) (cap-lo.toNat) ex):=by
 simp only[slS,jc,h0,if_true,isNone,zae,zdK];rw[if_pos ⟨trivial,V,V,V,O⟩]
def akc {r gg off m len cap:Nat}{ex:Bool}{k1 k2 d:IntKind}{lo hi b:Int}(h0:0<=lo)(h:lo<=hi)(i:hi<=b)(j:b<=cap):slS m (.sl r gg off m len cap ex) (some (.s (.int k1 lo))) (some (.s (.int k2 hi))) (some (.s (.int d b)))=some (.sl r gg (off+lo.toNat*m) m (hi.toNat-lo.toNat) (b.toNat-lo.toNat) true):=by
 have e:0<=hi:=V
 have g:0<=b:=V
 simp only[slS,jc,h0,e,g,if_true,isNone,zai,Bool.or_true];rw[if_pos ⟨trivial,V,V,V,O⟩]
def xZ {z:List AV}(h:z.all AV.aS=true):∀n,(dK z n).all AV.aS=true
 |0=>rfl
 |n+1=>by rw[dK,zbf,h,xZ h n];rfl
def Wx {i m n:Nat}{x:AV}{l z:List AV}(c:Cur b H q i x m l)(hb:H.base<=b)(hm:0<m)(hl:l.length=n*m)(hn:n<1000000000){j:Nat}(hj:j<n)(Q:z.length=m)(o:z.all AV.aS=true){e:TypeId}{by_:Nat}(aa:by_<1000):
  ∃y R T C H1 W u,slS m x (some (I j)) (some (I (j+1))) (some (I n))=some y/\slS m x none (some (I j)) none=some R/\slS m x (some (I (j+1))) none none=some T/\app e m by_ R T H=some (C,H1)/\
   lnS C H1=some (I ((n:Int)-1),H1)/\slS m C (some (I ((n:Int)-1))) (some (I n)) none=some W/\clr m z W H1=some (.tup [],u)/\
   Fit H u x C m (l.take (j*m)++l.drop ((j+1)*m))/\u.next=H.next/\u.base=H.base/\∀r,iE x≠some r->u.get r=H.get r:=by
 rcases c.length hm hl with⟨_,D⟩|⟨r,gg,off,cap,ex,k,all,rfl,k1,k2,k3,k4,E,k6,F,rfl⟩
 ·omega
 have ab:(j+1)*m<=n*m:=zaF _ hj;have ad:n*m<=cap*m:=zaF _ k4;have ae:(j+1)*m=j*m+m:=zbD j m;have af:(n-(j+1))*m=n*m-(j+1)*m:=Nat.sub_mul n (j+1) m;have ag:(n-1)*m=n*m-m:=by rw[Nat.sub_mul,zbk]
 let new:=(all.drop (off+(j+1)*m)).take ((n-(j+1))*m);have h:new.length=(n-(j+1))*m:=by simp only[new];rw[zau,zaR];omega
 let d:=aN all (off+j*m) new;have v:d.length=all.length:=oh V;let g:=aN d (off+(n-1)*m) (dK z 1);have ai:(dK z 1).length=m:=by simp[dK,Q]
 have al:g.length=all.length:=by rw[oh V];exact v
 have G:d.all AV.aS=true:=wV F (ES (Af F _) _) _;have K:g.all AV.aS=true:=wV G (xZ o 1) _;have w:app e m by_ (.sl r gg off m j cap ex) (.sl r gg (off+(j+1)*m) m (n-(j+1)) (cap-(j+1)) ex) H=some (.sl r gg off m (n-1) cap ex,H.put r (.blk gg k d)):=by
  have hs:cZ H (.sl r gg (off+(j+1)*m) m (n-(j+1)) (cap-(j+1)) ex)=some new:=by
   simp only[cZ,E];rw[if_pos ⟨trivial,V⟩]
  simp only[app,kK,hs];unfold dW;rw[if_pos ⟨h,ES (Af F _) _⟩];simp only[E];rw[if_pos ⟨trivial,trivial,V⟩];by_cases D:n-(j+1)=0
  ·rw[if_pos D];have L:new=[]:=zaq (by rw[h,D,zbq]);have:d=all:=by
    simp only[d,L,aN,zaN,zan,zbL,zb5]
   rw[this,show j=n-1 by omega]
   congr 2
   ·unfold ah.put;have:(λx=>if x=r then gB.blk gg k all else H.get x)=H.get:=by
     funext x
     split
     ·rename_i e;rw[e,E]
     ·rfl
    rw[this]
  ·rw[if_neg D,if_pos V,if_pos ⟨V,by
    have:(j+(n-(j+1)))*m<=cap*m:=zaF _ V;omega⟩]
   rw[show j+(n-(j+1))=n-1 by omega]
 refine⟨_,.sl r gg off m j cap ex,.sl r gg (off+(j+1)*m) m (n-(j+1)) (cap-(j+1)) ex,.sl r gg off m (n-1) cap ex,H.put r (.blk gg k d),.sl r gg (off+(n-1)*m) m 1 (cap-(n-1)) ex,(H.put r (.blk gg k d)).put r (.blk gg k g),akc V V V V,?_,?_,w,?_,?_,?_,.inr ⟨r,gg,off,n-1,cap,ex,k,g,rfl,.inl rfl,k3,V,by simp[dP],V,K,?_⟩,rfl,rfl,?_⟩
 ·exact Wv V V
 ·have:=EX (r:=r) (gg:=gg) (off:=off) (m:=m) (len:=n) (cap:=cap) (ex:=ex) (k1:=.i64) (lo:=(j:Int)+1) V V  k4;rw[show((j:Int)+1).toNat=j+1 by omega]at this;exact this
 ·simp only[lnS,kV,asv,zaj]
  congr 5
  omega
 ·have:=anp (r:=r) (gg:=gg) (off:=off) (m:=m) (len:=n-1) (cap:=cap) (ex:=ex) (k1:=.i64) (k2:=.i64) (lo:=(n:Int)-1) (hi:=n) V V V;rw[show((n:Int)-1).toNat=n-1 by omega,show(n:Int).toNat=n by omega,show n-(n-1)=1 by omega]at this;exact this
 ·simp only[clr,Nat.one_ne_zero,if_false,dP,if_true];rw[if_pos ⟨trivial,trivial,by rw[aeE];omega,Q,o,by rw[v];omega⟩]
 ·-- what is there then
  apply zbc
  intro p;have A:((all.drop off).take (n*m)).length=n*m:=by rw[zau,zaR];omega
  rcases zaU p (j*m)with X|X
  ·rw[zaG (by rw[zau];omega),zaC,if_pos X,zaC,if_pos V,zaC,if_pos V,zaH,zaH];rw[nD V,if_neg V,nD V,if_neg V]
  ·rw[za2 (by rw[zau];omega),zau,A,zbm V,zaH];rcases zaU p ((n-1)*m)with h2|h2
   ·rw[zaC,if_pos V,zaH,zaC,if_pos h2,zaH];rw[nD V,if_neg V,nD V,if_pos V];simp only[new];rw[zaC,if_pos V,zaH]
    congr 1;omega
   ·rw[zaI (by rw[A];omega),zaI (by rw[zau,zaR];omega)]
 ·intro r' M;have:r'≠r:=λe=>M (by rw[e];rfl);rw[dP,if_neg this,dP,if_neg this]
def aaL {e m by_:Nat}{z:List AV}{n:Int}{H:ah}(b:z.length=m)(hc:z.all AV.aS=true)(h0:0<=n)(d:n<=1000000)(hb:by_<=1000):mks e m by_ z (I n) (I n) H=some (.sl H.next 0 0 m n.toNat n.toNat true,H.new (.blk 0 e (dK z n.toNat))):=by
 have g:(by_:Int)*n<=140737488355328:=by
  have:(by_:Int)*n<=1000*1000000:=zbV V d h0 V;omega
 simp only[mks];rw[if_pos ⟨b,hc,h0,zbt _,V,g⟩]
def kZ {v:AV}:∀n,dK [v] n=List.replicate n v
 |0=>rfl
 |n+1=>by rw[dK,kZ n];rfl
def aH.from_ {x:AV}{m n:Nat}{cells:List AV}(h:aH H x m n cells){k:IntKind}{lo:Int}(h0:0<=lo)(o:lo<=n):∃y,slS m x (some (.s (.int k lo))) none none=some y/\aH H y m (n-lo.toNat) (cells.drop (lo.toNat*m)):=by
 obtain⟨i,h⟩:=h;have p:lo.toNat*m<=n*m:=zaF _ V;have d:(n-lo.toNat)*m=n*m-lo.toNat*m:=Nat.sub_mul n lo.toNat m;cases x with
 |sl r g off e len q ex=>
  obtain⟨rfl,rfl,⟨u,hc⟩,w,all,z,j,A⟩:=h;refine⟨_,EX h0 o hc,by rw[zaR,i,d],rfl,rfl,⟨u,V⟩,w,all,z,by rw[d];omega,?_⟩;rw[A,zcI,zbN,d]
 |vs k' e cs=>
  obtain⟨rfl,rfl,rfl⟩:=h;refine⟨.vs (k'-lo.toNat) e ((cs.drop (lo.toNat*e)).take ((k'-lo.toNat)*e)),?_,by rw[zaR,i,d],rfl,rfl,?_⟩
  ·simp only[slS,jc,h0,if_true];rw[if_pos ⟨trivial,V,V⟩]
  ·rw[zay (by rw[zaR,i,d];exact zac _)]
 |s v=>
  cases v with
  |slice a b c=>
   cases a with
   |none=>
    obtain⟨rfl,rfl,rfl⟩:=h;have j:lo=0:=V
    subst j;refine⟨zN,by simp[slS,jc],?_,rfl,rfl,rfl⟩
    simpa using i
   |some a=>exact h.elim
  |_=>exact h.elim
 |_=>exact h.elim
def anr {r g off m len cap ty n:Nat}{ex:Bool}{cells new:List AV}{y:AV}(hx:H.get r=.blk g ty cells)(hb:H.base<=r)(hl:off+len*m<=cells.length)(hy:aH H y m n new)(hc:new.all AV.aS=true):
  ∃H',cpy m (.sl r g off m len cap ex) y H=some (I ((min n len:Nat):Int),H')/\H'.get r=.blk g ty (aN cells off (new.take (min n len*m)))/\(∀r',r'≠r->H'.get r'=H.get r')/\H'.next=H.next/\H'.base=H.base:=by
 obtain⟨c1,c2⟩:=hy.wS;have c3:=hy.1;have s1:kK (AV.sl r g off m len cap ex)=some len:=rfl;simp only[cpy,s1,c1,c2];rw[if_pos ⟨c3,hc⟩];by_cases hk:min n len=0
 ·refine⟨H,by rw[if_pos hk,hk];rfl,?_,λ_ _=>rfl,rfl,rfl⟩;rw[hx,hk,zbq,zdF];simp only[aN,zaN,zan,zbL,zb5]
 ·rw[if_neg hk];simp only[hx];rw[if_pos ⟨trivial,trivial,hb,hl⟩];exact⟨_,rfl,by rw[dP,if_pos rfl],λr' hr=>by rw[dP,if_neg hr],rfl,rfl⟩
end
def jY {α:Type}:List (Int × α)->Int->Option α
 |[],_=>none
 |(k,v)::l,n=>if k=n then some v else jY l n
def mO {α:Type}:List (Int × α)->Int->α->List (Int × α)
 |[],n,x=>[(n,x)]
 |(k,v)::l,n,x=>if k=n then(n,x)::l else(k,v)::mO l n x
def Ai {α:Type}:List (Int × α)->Int->List (Int × α)
 |[],_=>[]
 |(k,v)::l,n=>if k=n then l else(k,v)::Ai l n
section
variable {α:Type}(f:α->AV)
def Il(l:List (Int × α)):List (Int × AV):=l.map λe=>(e.1,f e.2)
def vG:∀(l:List (Int × α)) (n:Int),ql (Il f l) n=(jY l n).map f
 |[],_=>rfl
 |(k,v)::l,n=>by
  simp only[Il,zaD,ql,jY];by_cases h:k=n
  ·simp[h]
  ·simp only[h,if_false];exact vG l n
def CQ:∀(l:List (Int × α)) (n:Int) (x:α),MF (Il f l) n (f x)=Il f (mO l n x)
 |[],_,_=>rfl
 |(k,v)::l,n,x=>by
  simp only[Il,zaD,MF,mO];by_cases h:k=n
  ·simp[h]
  ·simp only[h,if_false,zaD,zbQ,true_and];exact CQ l n x
def Wy:∀(l:List (Int × α)) (n:Int),zV (Il f l) n=Il f (Ai l n)
 |[],_=>rfl
 |(k,v)::l,n=>by
  simp only[Il,zaD,zV,Ai];by_cases h:k=n
  ·simp[h]
  ·simp only[h,if_false,zaD,zbQ,true_and];exact Wy l n
end
abbrev jZ(n most:Int):Bool:=decide (1<=n) && decide (n<=most)
def Cfg.ok(c:Cfg):Bool:=
 jZ c.aG 6 && jZ c.aO 8 && jZ c.aV 4 && jZ c.sets 4 && jZ c.ways 3 && jZ c.out 8 && jZ c.inn 8 && decide ((c.init.length:Int)<=c.aO*c.aV)
def wX(ak by_:Int):Int:=if ak<0 then -1 else ak % by_
def Cfg.aZ(c:Cfg)(ak:Int):Int:=wX ak c.aG
def Cfg.iC(c:Cfg):Int:=c.aO*c.aV
def Cfg.bW(c:Cfg)(a:Int):Int:=if a<0∨c.iC<=a then -1 else a / c.aV
def Cfg.dG(c:Cfg)(a:Int):Int:=if a<0∨c.iC<=a then 0 else a % c.aV
def Cfg.first(c:Cfg)(ak:Int):List Int:=
 if ak<0∨c.aO<=ak then []else(List.range c.aV.toNat).map λi=>c.init.getD ((ak*c.aV).toNat+i) 0
def Cfg.right(c:Cfg)(o:Opn):Bool:=decide (1<=o.aU) && decide (o.aU<=4) && decide (c.bW o.addr≠-1) && (decide (o.value=0) || decide (o.aU=2) || decide (o.aU=3))
def Cfg.sO(c:Cfg)(ps:List (List Opn)):Bool:=(ps.all λl=>decide (l.length<=24) && l.all c.right) && decide ((ps.length:Int)=c.aG)
def rG(k:Int):Bool:=decide (1<=k) && decide (k<=6)
def DW(k:Int):Int:=if k=1 then 7 else if k=2∨k=4∨k=5 then 8 else if k=3∨k=6 then 9 else 0
def Pkt.ok(p:Pkt):Bool:=
 decide (0<=p.src) && decide (p.src<6) && decide (0<=p.dst) && decide (p.dst<6) && decide (0<=p.id) && decide (p.id<4096) && decide (1<=p.aU) && decide (p.aU<10) && decide (0<=p.ak) && decide (p.ak<8) &&
 decide (-1<=p.ptr) && decide (p.ptr<6) && decide (0<=p.state) && decide (p.state<3) && decide (p.data.length<=4)
structure Cache where
 l:List Ent
 sets:Int
 ways:Int
 dM:Int
def Cache.at_(c:Cache)(ak:Int):Option Nat:=c.l.findIdx? λe=>decide (e.ak=ak)
def Cache.vH(c:Cache)(ak:Int):List Ent:=c.l.filter λe=>decide (0<=ak) && decide (e.ak.tmod c.sets=ak.tmod c.sets)
def Cache.find(c:Cache)(ak:Int):Option Ent:=c.l.find? λe=>decide (e.ak=ak)
def Cache.full(c:Cache)(ak:Int):Bool:=(c.find ak).isNone && decide (c.ways<=(c.vH ak).length)
def Cache.put(c:Cache)(e:Ent):Cache × Int:=
 if e.ak<0 then(c,1)else
 match c.at_ e.ak with
 |some i=>({ c with l:=c.l.set i { e with used:=(c.l.getD i .zero).used } },0)
 |none=>if c.full e.ak then(c,5)else({ c with l:=c.l++[{ e with used:=c.dM+1 }],dM:=c.dM+1 },0)
def Cache.drop(c:Cache)(ak:Int):Cache:=
 match c.at_ ak with
 |some i=>{ c with l:=c.l.eraseIdx i }
 |none=>c
def Cache.touch(c:Cache)(ak:Int):Cache:=
 match c.at_ ak with
 |some i=>{ c with l:=c.l.set i { c.l.getD i .zero with used:=c.dM+1 },dM:=c.dM+1 }
 |none=>c
def zF:List Ent->Option Ent
 |[]=>none
 |e::l=>some (l.foldl (λm x=>if x.used<m.used then x else m) e)
def Cache.qB(c:Cache)(ak:Int):Option Int:=(zF (c.vH ak)).map (·.ak)
structure Turns where
 iF:List (Int × Int)
 wait:List (Int × List (Int × Int))
def Turns.owner(t:Turns)(ak:Int):Int:=(jY t.iF ak).getD (-1)
def Turns.owned(t:Turns)(ak:Int):Bool:=(jY t.iF ak).isSome
def Turns.ws(t:Turns)(ak:Int):List (Int × Int):=(jY t.wait ak).getD []
def Turns.ask(t:Turns)(ak who id:Int):Turns × Bool:=
 if who<0 then(t,false)else
 if t.owned ak || !(t.ws ak).isEmpty then({ t with wait:=mO t.wait ak (t.ws ak++[(who,id)]) },false)
 else({ t with iF:=mO t.iF ak who },true)
def Turns.release(t:Turns)(ak who:Int):Turns × Int:=
 if jY t.iF ak=some who then({ t with iF:=Ai t.iF ak },0)else(t,6)
def Turns.next(t:Turns)(ak:Int):Turns × Option (Int × Int):=
 if t.owned ak then(t,none)else
 match t.ws ak with
 |[]=>(t,none)
 |w::ws=>({ iF:=mO t.iF ak w.1,wait:=mO t.wait ak ws },some w)
def Turns.ready(t:Turns)(b:List Int):List Int:=b.filter λak=>!t.owned ak && !(t.ws ak).isEmpty
abbrev Rows:=List (Int × Row)
def jy(c:Cfg)(dR:Rows)(ak state head:Int)(data:List Int):Rows × Int:=
 match jY dR ak with
 |none=>(dR,3)
 |some r=>
  if state<0∨2<state∨head < -1∨c.aG<=head then(dR,1)
  else if(decide (head=-1) !=decide (state=0)) || (decide (data≠[]) && decide ((data.length:Int)≠c.aV))then(dR,1)
  else(mO dR ak ⟨state,head,if data=[]then r.data else data⟩,0)
structure Home where
 dR:Rows
 bf:Turns
def iK(dR:Rows)(ak:Int):Row:=(jY dR ak).getD .zero
def granted(dR:Rows)(bH ak who id:Int):Pkt:=⟨7,bH,who,id,ak,(iK dR ak).head,(iK dR ak).state,false,(iK dR ak).data⟩
def Home.unlock(c:Cfg)(h:Home)(p:Pkt):Home × Int:=
 if h.bf.owner p.ak≠p.src then(h,6)else
 let r:=jy c h.dR p.ak p.state p.ptr (if p.flag then p.data else [])
 if r.2=0 then(⟨r.1,(h.bf.release p.ak p.src).1⟩,(h.bf.release p.ak p.src).2)else(h,r.2)
def Home.handle(c:Cfg)(bH:Int)(h:Home)(p:Pkt):Home × Pkt × Bool × Int:=
 if !(p.ok && decide (p.dst=bH) && decide (p.src<c.aG)) || (decide (p.aU≠1) && decide (p.aU≠2))then(h,.zero,false,1)
 else if c.aZ p.ak≠bH∨c.aO<=p.ak then(h,.zero,false,3)
 else if p.aU=1 then
  let a:=h.bf.ask p.ak p.src p.id
  if a.2=true then({ h with bf:=a.1 },granted h.dR bH p.ak p.src p.id,true,0)else({ h with bf:=a.1 },.zero,false,0)
 else
  let u:=h.unlock c p
  if u.2=0 then(u.1,⟨8,bH,p.src,p.id,p.ak,0,0,false,[]⟩,true,0)else(u.1,.zero,false,u.2)
def fP(c:Cache)(p:Pkt):Cache × Pkt × Int:=
 if !p.ok || decide (p.aU<3) || decide (6<p.aU)then(c,.zero,1)else
 match c.find p.ak with
 |none=>(c,.zero,2+1)
 |some e=>
  let out:Pkt:=⟨DW p.aU,p.dst,p.src,p.id,p.ak,0,0,false,[]⟩
  if p.aU=3 then let r:=c.put { e with bP:=false,back:=p.ptr };(r.1,{ out with data:=e.data,flag:=e.bP },r.2)
  else if p.aU=4 then let r:=c.put { e with fwd:=p.ptr };(r.1,out,r.2)
  else if p.aU=5 then let r:=c.put { e with back:=p.ptr };(r.1,out,r.2)
  else(c.drop p.ak,{ out with data:=e.data,flag:=e.bP,ptr:=e.fwd },0)
def bU.begin(aU ak id:Int):bU:=⟨aU,ak,id,1,0,-1,[],-1,-1⟩
def Aj(step:Int):Int:=if step=1 then 1 else if step=2 then 3 else if step=3 then 6 else if step=4 then 4 else if step=5 then 5 else if step=6 then 2 else 0
def bU.ask(d:bU)(bH home:Int):Pkt:=
 if d.step=1 then⟨1,bH,home,d.id,d.ak,0,0,false,[]⟩
 else if d.step=2 then⟨3,bH,d.head,d.id,d.ak,bH,0,false,[]⟩
 else if d.step=3 then⟨6,bH,d.next,d.id,d.ak,0,0,false,[]⟩
 else if d.step=4 then⟨4,bH,d.head,d.id,d.ak,d.next,0,false,[]⟩
 else if d.step=5 then⟨5,bH,d.next,d.id,d.ak,d.head,0,false,[]⟩
 else if d.step=6 then⟨2,bH,home,d.id,d.ak,d.head,d.state,decide (d.data≠[]),d.data⟩
 else .zero
def bU.fits(d:bU)(p:Pkt):Bool:=
 decide (DW (Aj d.step)≠0) && decide (p.aU=DW (Aj d.step)) && decide (p.id=d.id) && decide (p.ak=d.ak)
abbrev Nxt:=Cache × bU × Bool
def yK(c:Cache):Nxt:=(c,.zero,false)
def dX(d:bU)(bH:Int)(c:Cache)(p:Pkt):Nxt:=
 if d.aU≠1∨d.fits p=false then yK c
 else if d.step=1 then
  if p.state≠0 then(c,{ d with state:=p.state,head:=p.ptr,told:=p.ptr,data:=p.data,step:=2 },true)
  else((c.put ⟨-1,-1,d.ak,0,false,p.data⟩).1,{ d with told:=p.ptr,step:=6,state:=1,head:=bH,data:=[] },true)
 else if d.step=2 then
  ((c.put ⟨d.head,-1,d.ak,0,false,p.data⟩).1,{ d with step:=6,state:=1,head:=bH,data:=if p.flag then p.data else [] },true)
 else if d.step=6 then(c,{ d with step:=0 },true)
 else yK c
def dw(d:bU)(bH:Int)(c:Cache):Cache × bU:=
 let d:bU:=match c.find d.ak with
  |some own=>if d.next=bH then { d with next:=own.fwd } else d
  |none=>d
 if d.next≠-1 then(c,{ d with step:=3 })
 else((c.put ⟨-1,-1,d.ak,0,true,d.data⟩).1,{ d with step:=6,state:=2,head:=bH,data:=[] })
def dZ(d:bU)(bH:Int)(c:Cache)(p:Pkt):Nxt:=
 if d.aU≠2∨d.fits p=false then yK c
 else if d.step=1 then
  let r:=dw { d with state:=p.state,head:=p.ptr,told:=p.ptr,data:=(match c.find d.ak with|some own=>own.data|none=>p.data),next:=p.ptr } bH c
  (r.1,r.2,true)
 else if d.step=3 then
  let r:=dw { d with data:=(match c.find d.ak with|some _=>d.data|none=>p.data),next:=p.ptr } bH c
  (r.1,r.2,true)
 else if d.step=6 then(c,{ d with step:=0 },true)
 else yK c
def gW(d:bU)(c:Cache)(head:Int):Nxt:=(c.drop d.ak,{ d with step:=6,state:=1,head:=head,data:=[] },true)
def eG(d:bU)(c:Cache)(p:Pkt):Nxt:=
 if d.aU≠3∨d.fits p=false then yK c
 else if d.step=1 then
  let d:bU:={ d with state:=p.state,head:=p.ptr,told:=p.ptr,data:=[],step:=6 }
  match c.find d.ak with
  |none=>(c,d,true)
  |some e=>
   if e.back=-1/\e.fwd=-1 then(c.drop d.ak,{ d with state:=0,head:=-1,data:=if e.bP then e.data else [] },true)
   else if e.back=-1 then(c,{ d with head:=-1,next:=e.fwd,step:=5 },true)
   else(c,{ d with head:=e.back,next:=e.fwd,step:=4 },true)
 else if d.step=4 then
  if d.next=-1 then gW d c d.told else(c,{ d with step:=5 },true)
 else if d.step=5 then
  if d.head=-1 then gW d c d.next else gW d c d.told
 else if d.step=6 then(c,{ d with step:=0 },true)
 else yK c
structure Proc where
 ops:List Opn
 bT:List Int
 fU:Bool
def Proc.cur(p:Proc):Option Opn:=p.ops[p.bT.length]?
def Proc.left(p:Proc):Int:=(p.ops.length:Int)-p.bT.length
structure Port where
 rq:List Pkt
 rin:List Pkt
 an:List Pkt
 ain:List Pkt
def Port.sort(p:Port)(req:Bool):List Pkt:=if req then p.rq else p.an
def Port.um(p:Port)(req:Bool):List Pkt:=if req then p.rin else p.ain
def Port.kM(p:Port)(req:Bool)(l:List Pkt):Port:=if req then { p with rq:=l } else { p with an:=l }
def Port.lq(p:Port)(req:Bool)(l:List Pkt):Port:=if req then { p with rin:=l } else { p with ain:=l }
def Port.zero:Port:=⟨[],[],[],[]⟩
structure Fab where
 out:Int
 inn:Int
 l:List Port
def Fab.is(f:Fab)(bH:Int):Bool:=decide (0<=bH) && decide (bH<f.l.length)
def Fab.port(f:Fab)(bH:Int):Port:=f.l.getD bH.toNat .zero
def Fab.room(f:Fab)(req:Bool):Int:=if req then f.inn else 1
def Fab.put(f:Fab)(bH:Int)(p:Port):Fab:={ f with l:=f.l.set bH.toNat p }
def Fab.send(f:Fab)(p:Pkt):Fab × Int:=
 if !p.ok || !f.is p.src || !f.is p.dst then(f,1)else
 if(f.out:Int)<=((f.port p.src).sort (rG p.aU)).length then(f,5)
 else(f.put p.src ((f.port p.src).kM (rG p.aU) ((f.port p.src).sort (rG p.aU)++[p])),0)
def Fab.jA(f:Fab):List (List Pkt):=f.l.flatMap λp=>[p.rq,p.an]
def Fab.all(f:Fab):List Pkt:=f.l.flatMap λp=>p.rq++p.an
def Fab.under(f:Fab):Nat:=f.all.length
def Ak:List Port->Nat->Nat->Option (Nat × Bool × Nat)
 |[],_,_=>none
 |p::l,i,k=>if k<p.rq.length then some (i,true,k)else if k<p.rq.length+p.an.length then some (i,false,k-p.rq.length)else Ak l (i+1) (k-(p.rq.length+p.an.length))
def Fab.take(f:Fab)(bH:Int)(req:Bool):Fab × Option Pkt:=
 if f.is bH then
  match(f.port bH).um req with
  |[]=>(f,none)
  |p::l=>(f.put bH ((f.port bH).lq req l),some p)
 else(f,none)
def Fab.roomOf(f:Fab)(bH:Int)(req:Bool):Int:=if f.is bH then f.out-((f.port bH).sort req).length else 0
open Go.ChangeShapes Go.WideShapes Go.ChangeAt Go.RowKit
abbrev ρ0:Ren:=λ_=>none
abbrev G0:Nat->Nat:=λ_=>0
def aaM {w:World}(d:ad3 ρ0 w):Rel ρ0 ah.empty w:=⟨λr _=>⟨rfl,rfl⟩,λr b e h=>(by cases h),λr r' b e g h=>(by cases h),d⟩
def aaN {P:Program}{L:Pol}(i:Yt P L)(hm:P.follows .mixedOrders=true){k:FuncId}{xs:List AV}{b:Bool}{H':ah}(h:callω P L k xs ah.empty=some (.s (.bool b),H')){W:World}{args:Array Value}(j:ad3 ρ0 W)(ha:RVs ρ0 G0 W xs args.toList):
  Calls P k args W λe m=>e=.returned (.bool b)/\Below W.heap.size W m:=by
 refine((callω_ok i hm).1 k xs _ _ H' h ρ0 W args (aaM j) ha).mono λe w' n=>?_;obtain⟨cv,ρ',rfl,_,g,d⟩:=n;simp only[RV]at g;subst g;exact⟨rfl,d.os,d.tape,d.output,d.size,λk hk=>d.frame k hk λr o h=>(by cases h)⟩
section
variable {H:Type}{enc:TypeId × Value->H}{P:Program}
def Am(m:laidOutB P=true){W n:World}(hb:Below W.heap.size W n):∀{g:List TypeId} {vs:List Value} {i:List (DataW H)} {ps:List MemPlace},g.all (λt=>P.readableRec t && decide (t<P.types.size))=true->
  DataW.TrodAll enc P W 0 (λ_=>true) true g vs i ps->(∀x∈ps,x.block<W.heap.size)->DataW.TrodAll enc P n 0 (λb=>decide (b<W.heap.size)) true g vs i ps
 |[],vs,i,ps,_,h,_=>by
  obtain⟨rfl,rfl,rfl⟩:=trodAll_nil h;exact trodAll_mk0
 |t::g,vs,i,ps,j,h,e=>by
  simp only[zb0,zah,decide_eq_true_eq]at j;obtain⟨v,o,d,u,p,q,rfl,rfl,rfl,w,y⟩:=trodAll_cons h;exact⟨p,q,Below.trod m j.1.1 j.1.2 w hb λx k=>e x (by simp[k]),Am m hb (by simpa using j.2) y λx k=>e x (by simp[k]),rfl⟩
def aaO {f:Func}{s:ChangeSpec}{W j:World}{args:Array Value}{d n:List (DataW H)}{b:List MemPlace}{k:TypeId}(o:laidOutB P=true)
  (u:f.params.toList.all (λt=>P.readableRec t && decide (t<P.types.size))=true) (v:f.resultTypes=#[k]) (hb:P.underlying k=some .bool)
  (g:DataW.Whole enc P f.params.toList s.vars false W args.toList d n b) (hv:s.vars=[])
  (w:(s.fn H d).results=[.lit (.bool true)]) (y:(s.fn H d).args=d) (z:(s.fn H d).vars=[]) (B:Below W.heap.size W j):
  s.post enc P f false true false false W args (.bool true) j:=by
 have e:∀x∈b,x.block<W.heap.size:=λx A=>g.lt x A;have i:=g;obtain⟨p,q,C,m,rfl,_,_⟩:=g;rw[hv]at m;obtain⟨rfl,rfl⟩:=trodVars_none m;rw[zbd]at e;refine⟨d,[],p++[],[],p,[],i,?_,?_,?_,B.frame _,λh=>by cases h⟩
 ·rw[zbd,w,v];exact trodAll_mk1 (shut_bool hb true)
 ·rw[zbd,y];exact Am o B u C e
 ·rw[zbd,z,hv];exact rfl
def DY {W:World}{k:IntKind}{n:Int}:RV ρ0 G0 W (.s (.int k n)) (.int k n):=by simp[RV]
def Ap {W:World}{x:AV}{v:Value}{xs:List AV}{vs:List Value}(h:RV ρ0 G0 W x v)(b:RVs ρ0 G0 W xs vs):RVs ρ0 G0 W (x::xs) (v::vs):=by
 simp only[RVs];exact⟨v,vs,rfl,h,b⟩
def au2 {W:World}:RVs ρ0 G0 W [] []:=by simp only[RVs]
def ints(ks:List IntKind)(zs:List Int):List AV:=List.zipWith (λk z=>.s (.int k z)) ks zs
def Uj(ks:List IntKind)(zs:List Int):List Value:=List.zipWith (λk z=>.int k z) ks zs
def aaP(P:Program)(e:TypeId)(ks:List IntKind):Prop:=
 ∀{H:Type} {enc:TypeId × Value->H} {W:World} {base:Nat} {g:Nat->Bool} {b:Bool} {n:Nat} {cs:List Value} {y:DataW H × List MemPlace},DataW.trod enc P W base g b n e cs=some y->
  ∃d:List Int,d.length=ks.length/\cs=Uj ks d/\∀(i:Nat) (k:IntKind) (z:Int),ks[i]?=some k->d[i]?=some z->(Lit.int k z).wf=true
def aeR {e:TypeId}{k:IntKind}(j:P.underlying e=some (.int k)):aaP P e [k]:=by
 intro H enc W base m d n cs y h;obtain⟨z,rfl,rfl,hw⟩:=DataW.trod_int j h;refine⟨[z],rfl,rfl,λi k' o b g=>?_⟩;cases i with
 |zero=>simp at b g;subst b;subst g;exact hw
 |succ i=>simp at b
def zG {ks:List IntKind}{zs:List Int}(h:zs.length=ks.length):(ints ks zs).length=ks.length:=by
 simp[ints,h]
def WA {W:World}:∀(ks:List IntKind) (zs:List Int),RVs ρ0 G0 W (ints ks zs) (Uj ks zs)
 |[],zs=>by simp[ints,Uj,RVs]
 |k::ks,[]=>by simp[ints,Uj,RVs]
 |k::ks,z::zs=>by
  simp only[ints,Uj,List.zipWith_cons_cons,RVs];exact⟨_,_,rfl,DY,WA ks zs⟩
def asE:Value->Int
 |.int _ n=>n
 |_=>0
def Uk {e:TypeId}{g:Array Field}{ks:List IntKind}(A:P.underlying e=some (.struct g))(hc:P.cellsOf e=ks.length)(G:g.size=ks.length)
  (C:∀(i:Nat) (f:Field) (k:IntKind),g[i]?=some f->ks[i]?=some k->P.underlying f.type=some (.int k)/\f.offset=i/\P.cellsOf f.type=1):aaP P e ks:=by
 intro H enc W base K w n cs y h;obtain⟨xs,m,rfl,rfl,D,L,E⟩:=DataW.trod_struct A h;have b:∀(i:Nat) (k:IntKind),ks[i]?=some k->∃z,cs[i]?=some (.int k z)/\(Lit.int k z).wf=true:=by
  intro i k hk;have hi:i<ks.length:=(zaf.1 hk).1;have j:g[i]?=some (g[i]' V):=zbG _;obtain⟨p,q,F⟩:=C i _ k j hk;have o:=E i _ j;have u:xs[i]?=some (xs[i]' V):=zab _;rw[u,q,F]at o;obtain⟨z,d,_,hw⟩:=DataW.trod_int p o;refine⟨z,?_,hw⟩;have:((cs.drop i).take 1)[0]?=some (.int k z):=by rw[d];rfl
  rw[zaC,if_pos V,zaH,zbL]at this;exact this
 refine⟨cs.map asE,by rw[zaz,D,hc],?_,λi k z hk d=>?_⟩
 ·apply zbc
  intro i;rcases zaU i ks.length with hi|hi
  ·obtain⟨z,d,_⟩:=b i _ (zab hi);simp[Uj,zdw,d,zab hi,asE]
  ·have p:cs[i]?=none:=zaI V;have q:ks[i]?=none:=zaI hi;simp[Uj,zdw,p,q]
 ·obtain⟨M,v,hw⟩:=b i k hk;rw[zaw,v]at d;simp[asE]at d;rw[<-d];exact hw
structure aaQ(ks:List IntKind)(av:AV)(l:List (List Int)):Prop where
 is:aH ah.empty av ks.length l.length (l.flatMap (ints ks))
 len:∀zs∈l,zs.length=ks.length
 wf:∀zs∈l,∀(i:Nat) (k:IntKind) (z:Int),ks[i]?=some k->zs[i]?=some z->(Lit.int k z).wf=true
def zH {ks:List IntKind}:∀{l:List (List Int)},(∀zs∈l,zs.length=ks.length)->(l.flatMap (ints ks)).length=l.length*ks.length
 |[],_=>by simp
 |zs::l,h=>by
  rw[zaE,zar,zG (h zs O),zH λz b=>h z (by simp[b]),zak,zbD];omega
def QB {t e:TypeId}{ks:List IntKind}(ht:P.underlying t=some (.slice e))(hc:P.cellsOf e=ks.length)(hF:aaP P e ks){W:World}{r:Reach}{b0 base:Nat}{sp:Nat->Bool}{C:Bool}{v:Value}{D:Nat}{y:DataW H × List MemPlace}
  (q:Cell.okWide P W r b0 t v) (h:DataW.trod enc P W base sp C D t [v]=some y):∃(av:AV) (l:List (List Int)),RV ρ0 G0 W av v/\aaQ ks av l/\av.aS=true:=by
 rcases DataW.trod_slice ht h with⟨L,_⟩|⟨a,len,E,M,rest,n,_,hv,_,hb,hl,hm,ab,Q,_,_⟩
 ·have L:v=.slice none 0 0:=by simpa using L
  subst L;exact⟨.s (.slice none 0 0),[],by simp[RV],⟨⟨O,rfl,rfl,rfl⟩,O,O⟩,rfl⟩
 ·have hv:v=.slice (some a) len E:=by simpa using hv
  subst hv;simp only[Cell.okWide,ht,Cell.ok]at q;obtain⟨_,_,_,d,row,cells,R,_⟩:=q;obtain⟨b,o,ad⟩:=a;simp only at d;subst d;have F:∀i,∃g:List Int,i<len->g.length=ks.length/\(∀(j:Nat) (k:IntKind) (z:Int),ks[j]?=some k->g[j]?=some z->(Lit.int k z).wf=true)/\RVc ρ0 G0 W (ints ks g) b (o+i*ks.length):=by
   intro i;by_cases hi:i<len
   ·have:=Q i hi;rw[zab V]at this;obtain⟨cs,T,X⟩:=Option.bind_eq_some_iff.1 this;obtain⟨g,z1,z2,z3⟩:=hF X;refine⟨g,λ_=>⟨z1,z3,qh λj x hx=>?_⟩⟩;obtain⟨_,c1,c2⟩:=World.cells?_some T;have hj:j<ks.length:=by
     have:=(zaf.1 hx).1
     rwa [zG z1]at this
    have G:=c2 j (by rw[hc];exact hj);obtain⟨u,hu,aa⟩:=jL (WA (W:=W) ks g) hx;refine⟨u,?_,aa⟩;rw[z2,hu]at G;rw[<-G,hc]
    congr 1
    unfold Addr.add;by_cases h1:i*ks.length=0
    ·rw[if_pos h1,h1];by_cases w:j=0
     ·rw[if_pos w,w];rfl
     ·rw[if_neg w];rfl
    ·rw[if_neg h1];by_cases w:j=0
     ·rw[if_pos w,w];rfl
     ·rw[if_neg w]
   ·exact⟨[],λh=>absurd h hi⟩
  obtain⟨f,K⟩:=Classical.axiomOfChoice F;have A:∀g∈(List.range len).map f,g.length=ks.length:=by
   intro g hz;obtain⟨i,hi,rfl⟩:=zaM.1 hz;exact(K i (za0.1 hi)).1
  have p:∀m s,s+m<=len->RVc ρ0 G0 W (((List.range' s m).map f).flatMap (ints ks)) b (o+s*ks.length):=by
   intro m
   induction m with
   |zero=>intro s _;simp[RVc]
   |succ m ih=>
    intro s hs;rw[zc7,zaD,zaE];refine Yb (K s V).2.2 ?_;rw[zG (K s V).1];have:=ih (s+1) V
    rwa [zbD,<-zck]at this
  refine⟨.vs len ks.length (((List.range len).map f).flatMap (ints ks)),(List.range len).map f,?_,⟨?_,A,λg hz=>?_⟩,rfl⟩
  ·simp only[RV];refine⟨b,o,E,rfl,hl,?_,Gv R,λr sh h=>(by cases h),?_⟩
   ·rw[zH A];simp
   ·have:=p len 0 V;rw[zcF]
    simpa using this
  ·have:=aH.vs (H:=ah.empty) (m:=ks.length) (n:=len) (cs:=((List.range len).map f).flatMap (ints ks)) (by rw[zH A];simp)
   simpa using this
  ·obtain⟨i,hi,rfl⟩:=zaM.1 hz;exact(K i (za0.1 hi)).2.1
def Ul {t:TypeId}{m:Array Field}{b:List TypeId}(T:P.underlying t=some (.struct m))(M:P.cellTypes P.depth t=some b)(q:m.toList.map (λ(f:Field)=>(f.type,f.offset))=b.zipIdx)
  (hc:∀u∈b,P.cellsOf u=1) (w:P.cellsOf t=b.length) {W:World} {r:Reach} {X base:Nat} {Q:Nat->Bool} {e:Bool} {v:Value} {d:DataW H} {ps:List MemPlace}
  (g:Value.okWide P W r X t v) (h:DataW.Trod enc P W base Q e t v d ps):
  ∃cs:Array Value,v=.agg cs/\cs.size=b.length/\∀(i:Nat) (u:TypeId),b[i]?=some u->∃(c:Value) (n:Nat) (y:DataW H × List MemPlace),cs[i]?=some c/\Cell.okWide P W r X u c/\DataW.trod enc P W base Q e n u [c]=some y:=by
 unfold Value.okWide at g;rw[T]at g;obtain⟨cs,rfl,hsz,ab,z,_,A⟩:=g;rw[M]at z;cases z;obtain⟨aa,hf⟩:=h;obtain⟨xs,n,_,_,hl,hx,hr⟩:=DataW.trod_struct T hf;have ad:m.size=b.length:=by
  have:=congrArg List.length q
  simpa using this
 have C:∀(i:Nat) (u:TypeId),b[i]?=some u->∃f:Field,m[i]?=some f/\f.type=u/\f.offset=i:=by
  intro i u k;have hi:i<b.length:=(zaf.1 k).1;have D:m[i]?=some (m[i]' V):=zbG _;have o:(m.toList.map (λ(f:Field)=>(f.type,f.offset)))[i]?=some ((m[i]' V).type,(m[i]' V).offset):=by
   rw[zaw];simp[D]
  rw[q,List.getElem?_zipIdx,k]at o;simp at o;exact⟨_,D,o.1.symm,o.2.symm⟩
 have E:∀(i:Nat) (u:TypeId),b[i]?=some u->∃c y,cs[i]?=some c/\DataW.trod enc P W base Q e n u [c]=some y:=by
  intro i u k;obtain⟨f,o,R,L⟩:=C i u k;have hi:i<b.length:=(zaf.1 k).1;have:=hr i f o;rw[R,L,hc u (zas k),zab (show i<xs.length by omega)]at this;have F:i<cs.size:=by rw[hsz,w];exact hi
  cases j:cs[i]? with
  |none=>rw[zbG F]at j;cases j
  |some c=>
   have G:i<cs.size:=by
    rcases zaU i cs.size with K|K
    ·exact K
    ·rw[zcU K]at j;cases j
   have K:(((Value.agg cs).cells.toList.drop i).take 1)=[c]:=by
    have p:cs.toList[i]?=some c:=by simpa using j
    show(cs.toList.drop i).take 1=[c]
    rw[zaT (by simpa using G)];rw[zab (by simpa using G)]at p;simp at p;simp[p]
   rw[K]at this;exact⟨c,_,rfl,this⟩
 refine⟨cs,rfl,?_,λi u k=>?_⟩
 ·rw[hsz,w]
 ·obtain⟨c,y,o,R⟩:=E i u k;obtain⟨u',L,h4⟩:=A i c o;have hi:i<b.length:=(zaf.1 k).1;rw[zcq hi,k]at L;cases L;exact⟨c,n,y,o,h4,R⟩
structure Io(k:IntKind)(av:AV)(zs:List Int):Prop where
 is:aH ah.empty av 1 zs.length (zs.map λz=>.s (.int k z))
 wf:∀z∈zs,(Lit.int k z).wf=true
 cell:av.aS=true
def QC {k:IntKind}:∀(l:List (List Int)),(∀zs∈l,zs.length=1)->l.flatMap (ints [k])=(l.map (λzs=>zs.headD 0)).map λz=>.s (.int k z)
 |[],_=>rfl
 |zs::l,h=>by
  have b:=h zs O;rw[zaE,QC l λz d=>h z (by simp[d])];cases zs with
  |nil=>simp at b
  |cons z zs=>
   cases zs with
   |nil=>rfl
   |cons _ _=>simp at b
def aaQ.ints {k:IntKind}{av:AV}{l:List (List Int)}(h:aaQ [k] av l)(hc:av.aS=true):Io k av (l.map λzs=>zs.headD 0):=by
 refine⟨?_,λz d=>?_,hc⟩
 ·have:=h.is;rw[QC l h.len]at this
  simpa using this
 ·obtain⟨zs,b,rfl⟩:=zaM.1 d;have e:=h.len zs b;cases zs with
  |nil=>simp at e
  |cons z zs=>exact h.wf _ b 0 k z rfl rfl
structure kT where
 aG:Int
 aO:Int
 aV:Int
 sets:Int
 ways:Int
 out:Int
 inn:Int
 init:AV
 who:AV
 kinds:AV
 iC:AV
 bT:AV
def kT.cells(s:kT):List AV:=
 [.s (.int .i64 s.aG),.s (.int .i64 s.aO),.s (.int .i64 s.aV),.s (.int .i64 s.sets),.s (.int .i64 s.ways),.s (.int .i64 s.out),.s (.int .i64 s.inn),s.init,s.who,s.kinds,s.iC,s.bT]
abbrev qC(z:Int):Prop:=-9223372036854775808<=z/\z<=9223372036854775807
def ama {z:Int}(h:(Lit.int .i64 z).wf=true):qC z:=by
 simp[Lit.wf,IntKind.min,IntKind.max,IntKind.signed,IntKind.bits]at h;exact⟨V,V⟩
structure kT.Ok(s:kT)(zi zw zk za zv:List Int):Prop where
 aG:qC s.aG
 aO:qC s.aO
 aV:qC s.aV
 sets:qC s.sets
 ways:qC s.ways
 out:qC s.out
 inn:qC s.inn
 init:Io .i64 s.init zi
 who:Io .i64 s.who zw
 kinds:Io .i64 s.kinds zk
 iC:Io .i64 s.iC za
 bT:Io .i64 s.bT zv
def Yy {t b sl e:TypeId}{fs:Array Field}(ht:P.underlying t=some (.struct fs))(p:P.cellTypes P.depth t=some [b,b,b,b,b,b,b,sl,sl,sl,sl,sl])
  (q:fs.toList.map (λ(f:Field)=>(f.type,f.offset))=[b,b,b,b,b,b,b,sl,sl,sl,sl,sl].zipIdx) (w:P.cellsOf t=12) (A:P.underlying b=some (.int .i64)) (af:P.cellsOf b=1)
  (C:P.underlying sl=some (.slice e)) (j:P.cellsOf sl=1) (D:P.underlying e=some (.int .i64)) (E:P.cellsOf e=1)
  {W:World} {r:Reach} {b0 base:Nat} {sp:Nat->Bool} {k:Bool} {v:Value} {d:DataW H} {ps:List MemPlace} (m:Value.okWide P W r b0 t v) (h:DataW.Trod enc P W base sp k t v d ps):
  ∃(s:kT) (zi zw zk za zv:List Int),RV ρ0 G0 W (.agg s.cells) v/\s.Ok zi zw zk za zv:=by
 obtain⟨cs,rfl,hsz,g⟩:=Ul ht p q (λu hu=>by
  simp only[zao,zaB,or_false]at hu;rcases hu with rfl|rfl|rfl|rfl|rfl|rfl|rfl|rfl|rfl|rfl|rfl|rfl <;> assumption) w m h
 have num:∀i:Nat,[b,b,b,b,b,b,b,sl,sl,sl,sl,sl][i]?=some b->∃z,cs[i]?=some (.int .i64 z)/\qC z:=by
  intro i hi;obtain⟨c,n,y,o,_,F⟩:=g i b hi;obtain⟨z,hz,_,hw⟩:=DataW.trod_int A F;simp at hz;subst hz;exact⟨z,o,ama hw⟩
 have row:∀i:Nat,[b,b,b,b,b,b,b,sl,sl,sl,sl,sl][i]?=some sl->∃c av zs,cs[i]?=some c/\RV ρ0 G0 W av c/\Io .i64 av zs:=by
  intro i hi;obtain⟨c,n,y,o,h2,F⟩:=g i sl hi;obtain⟨av,l,r1,r2,r3⟩:=QB C (ks:=[.i64]) E (aeR D) h2 F;exact⟨c,av,_,o,r1,r2.ints r3⟩
 obtain⟨z0,a0,w0⟩:=num 0 rfl;obtain⟨z1,a1,w1⟩:=num 1 rfl;obtain⟨z2,a2,w2⟩:=num 2 rfl;obtain⟨z3,a3,w3⟩:=num 3 rfl;obtain⟨z4,a4,w4⟩:=num 4 rfl;obtain⟨z5,a5,w5⟩:=num 5 rfl;obtain⟨z6,a6,w6⟩:=num 6 rfl;obtain⟨c7,v7,l7,a7,r7,o7⟩:=row 7 rfl;obtain⟨c8,v8,l8,a8,r8,o8⟩:=row 8 rfl;obtain⟨c9,v9,l9,a9,r9,o9⟩:=row 9 rfl;obtain⟨G,K,L,M,Q,R⟩:=row 10 rfl;obtain⟨T,X,aa,ab,ad,ae⟩:=row 11 rfl;have j:cs.toList=[.int .i64 z0,.int .i64 z1,.int .i64 z2,.int .i64 z3,.int .i64 z4,.int .i64 z5,.int .i64 z6,c7,c8,c9,G,T]:=by
  apply zbc
  intro i;rcases zaU i 12 with hi|hi
  ·have:i=0∨i=1∨i=2∨i=3∨i=4∨i=5∨i=6∨i=7∨i=8∨i=9∨i=10∨i=11:=V
   rcases this with rfl|rfl|rfl|rfl|rfl|rfl|rfl|rfl|rfl|rfl|rfl|rfl <;> simp[a0,a1,a2,a3,a4,a5,a6,a7,a8,a9,M,ab]
  ·have o:cs.toList.length=12:=by simpa using hsz
   rw[zaI V,zaI (by simpa using hi)]
 refine⟨⟨z0,z1,z2,z3,z4,z5,z6,v7,v8,v9,K,X⟩,l7,l8,l9,L,aa,?_,⟨w0,w1,w2,w3,w4,w5,w6,o7,o8,o9,R,ae⟩⟩;simp only[RV,kT.cells];refine⟨cs,rfl,?_⟩;rw[j];exact Ap DY (Ap DY (Ap DY (Ap DY (Ap DY (Ap DY (Ap DY (Ap r7 (Ap r8 (Ap r9 (Ap Q (Ap ad au2)))))))))))
end
open Go.RowKit
variable {P:Program}{ρ:Ren}{H:ah}{w w':World}
def KT {f:FuncId}{p:List AV->ah->Option (AV × ah)}
  (h:∀args H v H',p args H=some (v,H')->∀(ρ:Ren) (w:World) (b:Array Value),Rel ρ H w->RVs ρ H.gen w args b.toList->
   Calls P f b w λe w'=>∃cv ρ',e=.returned cv/\Rel ρ' H' w'/\RV ρ' H'.gen w' v cv/\Ext ρ H w ρ' H' w'):qQ P (λg args H=>if g=f then p args H else none):=by
 intro g args H v H' d ρ w b R ha;simp only at d;split at d
 ·rename_i e;subst e;exact h args H v H' d ρ w b R ha
 ·cases d
def wY(R:Rel ρ H w)(B:Below w.heap.size w w'):Rel ρ H w'/\Ext ρ H w ρ H w':=by
 have E:Ext ρ H w ρ H w':=⟨zac _,λ_=>zac _,λ_ _ h _=>h,λ_ _ h=>h,λ_ _ d h=>.inr ⟨d,h⟩,B.size,λb hb _=>B.block b hb,λb hb=>by rw[fE,fE,B.block b hb],B.os,B.tape,B.output⟩
 exact⟨⟨R.out,λr b d h=>yR.mono E.toMono (B.block b (R.block h)) (R.obj r b d h),R.inj,R.gl.ext E⟩,E⟩
def QD(R:Rel ρ H w){b:Nat}(hb:w.heap.size<=b):Imm ρ b:=λr d h=>by
 have:=R.block h;omega
def Um {G:Nat->Nat}{x:AV}{b:Array Value}(h:RVs ρ G w [x] b.toList):∃c,b=#[c]/\RV ρ G w x c:=by
 obtain⟨d,l,e,g,i⟩:=(by simpa only[RVs]using h)
 subst i;exact⟨d,zcp.1 (by simpa using e),g⟩
def aeS:AV:=.s (.slice none 0 0)
def QE(ks:List Int):AV:=if ks=[]then aeS else .vs ks.length 1 ((ks.mergeSort λx y=>decide (x<=y)).map λn=>.s (.int .i64 n))
def Ip:List AV->Option (List Int)
 |[]=>some []
 |.s (.int .i64 n)::l=>(Ip l).map (n:: ·)
 |_=>none
def Iq:∀l:List Int,Ip (l.map λn=>.s (.int .i64 n))=some l
 |[]=>rfl
 |n::l=>by simp only[zaD,Ip,Iq l,zaj]
def QF:∀{cells:List AV} {zs:List Int},Ip cells=some zs->cells=zs.map λn=>.s (.int .i64 n)
 |[],_,h=>by cases h;rfl
 |x::l,zs,h=>by
  unfold Ip at h;split at h
  ·rename_i e;cases e
  ·rename_i n g e;cases e;obtain⟨b,d,rfl⟩:=zbO.1 h;rw[QF d];rfl
  ·cases h
def sQ(j h:List Nat)(args:List AV)(H:ah):Option (AV × ah):=
 match args with
 |[.fn (.func f) [] [.ref r g 0]]=>
  match H.get r with
  |.blk g' b [.mp m]=>match H.get m with
   |.map .i64 d=>if g'=g/\b<gV/\f≠0/\f∈j/\(d.map (·.1)).Nodup/\(d.all λe=>(Lit.int .i64 e.1).wf)=true/\d.length<=1000000 then some (QE (d.map (·.1)),H)else none
   |_=>none
  |.blk g' b [.vs n 1 cells]=>match Ip cells with
   |some i=>if g'=g/\b<gV/\f≠0/\f∈h/\n=i.length/\n<=1000 then some (QE i,H)else none
   |none=>none
  |.blk g' b [.s (.slice none 0 0)]=>if g'=g/\b<gV/\f≠0/\f∈h then some (aeS,H)else none
  |_=>none
 |_=>none
structure Node where
 aI:Cache
 dn:Proc
 home:Home
 aJ:bU
 num:Int
structure cO where
 c:Cfg
 aG:List Node
 fab:Fab
 trace:List Evn
def Cfg.jF(c:Cfg)(me:Int):Nat->Rows
 |0=>[]
 |n+1=>if c.aZ n=me then mO (c.jF me n) n ⟨0,-1,c.first n⟩else c.jF me n
def Home.new(c:Cfg)(me:Int):Home:=⟨c.jF me c.aO.toNat,⟨[],[]⟩⟩
def Node.new(c:Cfg)(me:Int)(l:List Opn):Node:=⟨⟨[],c.sets,c.ways,0⟩,⟨l,[],false⟩,.new c me,.zero,0⟩
def Fab.new(c:Cfg):Fab:=⟨c.out,c.inn,List.replicate c.aG.toNat .zero⟩
def cO.new(c:Cfg)(ps:List (List Opn)):cO:=⟨c,ps.mapIdx λi l=>.new c i l,.new c,[]⟩
structure ahx where
 owner:List (Int × Int)
 wait:List (Int × Int × Int)
structure Ir where
 dR:List Row
 bf:ahx
structure Iu where
 aI:Cache
 homes:Ir
 ops:List Opn
 fU:Bool
 bT:List Int
 has:Bool
 aJ:bU
 num:Int
structure NG where
 c:Cfg
 fab:List Port
 aG:List Iu
 ev:List Evn
def Ir.new(c:Cfg):Ir:=⟨(List.range c.aO.toNat).map λ(i:Nat)=>(⟨0,-1,c.first (i:Int)⟩:Row),⟨[],[]⟩⟩
def Iu.new(c:Cfg)(l:List Opn):Iu:=⟨⟨[],c.sets,c.ways,0⟩,.new c,l,false,[],false,.zero,0⟩
def NG.new(c:Cfg)(ps:List (List Opn)):NG:=⟨c,List.replicate c.aG.toNat .zero,ps.map (.new c),[]⟩
inductive QG {α:Type} (R:α->List AV->Prop):List α->List AV->Prop
 |nil:QG R [] []
 |cons {a:α} {l:List α} {cs cells:List AV}:R a cs->QG R l cells->QG R (a::l) (cs++cells)
section
variable {α:Type}{R:α->List AV->Prop}{l:List α}{cells:List AV}
def QG.mono {b:α->List AV->Prop}(d:∀a cs,a∈l->R a cs->b a cs)(h:QG R l cells):QG b l cells:=by
 induction h with
 |nil=>exact .nil
 |cons e _ g=>exact .cons (d _ _ O e) (g λa cs ha=>d a cs (by simp[ha]))
def QG.plain {enc:α->List AV}:∀l:List α,QG (λa cs=>cs=enc a) l (l.flatMap enc)
 |[]=>.nil
 |a::l=>.cons rfl (QG.plain l)
def QG.of {enc:α->List AV}(b:∀a,a∈l->R a (enc a)):QG R l (l.flatMap enc):=
 (QG.plain (enc:=enc) l).mono λa cs ha (h:cs=enc a)=>by rw[h];exact b a ha
end
def Pkt.avx(p:Pkt)(x:AV):List AV:=[I p.aU,I p.src,I p.dst,I p.id,I p.ak,I p.ptr,I p.state,B p.flag,x]
def Ent.avx(e:Ent)(x:AV):List AV:=[I e.fwd,I e.back,I e.ak,I e.used,B e.bP,x]
def Row.avx(r:Row)(x:AV):List AV:=[I r.state,I r.head,x]
def bU.avx(d:bU)(x:AV):List AV:=[I d.aU,I d.ak,I d.id,I d.step,I d.state,I d.head,x,I d.next,I d.told]
def NH(g:bF)(x:AV)(l:List Int):Prop:=x=dat l∨∃q ex,l≠[]/\x=.sl q 0 0 1 l.length l.length ex/\g q=some (l.map λn=>.av (I n))
def aaR(cs:List Cell):Prop:=∃c∈cs,∀n,c≠.av (I n)
section
variable {b:Nat}{H:ah}{g g':bF}{x:AV}{l:List Int}
def NH.dat:NH g (dat l) l:=.inl rfl
def NH.sub(h:NH g x l)(b:∀q cs,g q=some cs->¬aaR cs->g' q=some cs):NH g' x l:=by
 rcases h with rfl|⟨q,ex,d,rfl,h⟩
 ·exact .inl rfl
 ·refine .inr ⟨q,ex,d,rfl,b _ _ h λ⟨c,hc,e⟩=>?_⟩;obtain⟨n,_,rfl⟩:=zaM.1 hc;exact e n rfl
end
def avr(g:bF)(p:Pkt)(cs:List AV):Prop:=∃x,NH g x p.data/\cs=p.avx x
def avs(g:bF)(e:Ent)(cs:List AV):Prop:=∃x,NH g x e.data/\cs=e.avx x
def asF(g:bF)(r:Row)(cs:List AV):Prop:=∃x,NH g x r.data/\cs=r.avx x
def asG(g:bF)(d:bU)(cs:List AV):Prop:=∃x,NH g x d.data/\cs=d.avx x
def akd {g:bF}(p:Row):asF g p p.av:=⟨_,.dat,rfl⟩
def CS(c:Cache)(cells:List AV):List Cell:=[.av (I c.sets),.av (I c.ways),.av (I c.dM),.seq 6 cells]
def pF(c:Cfg)(me:Int)(dR:List AV)(t:ahx):List Cell:=c.av.map .av++[.av (I me),.seq 3 dR,.seq 2 (t.owner.flatMap λe=>[I e.1,I e.2]),.seq 3 (t.wait.flatMap λe=>[I e.1,I e.2.1,I e.2.2])]
def DZ(a:Nat->Nat)(c:Cfg)(me:Int)(n:Iu)(d:List AV):List Cell:=
 c.av.map .av++[.av (I me),.av (.ref (a 1) 0 0),.av (.ref (a 2) 0 0),.seq 3 (n.ops.flatMap Opn.av),.av (B n.fU),.seq 1 (n.bT.map I),.av (B n.has)]++d.map .av++[.av (I n.num)]
def Yz(c:Cfg)(ls:List (List AV)):List Cell:=c.av.map .av++[.ang 4 9 ls]
def qE(f:Nat)(N:Nat->Nat->Nat)(c:Cfg)(n:Nat)(ev:List Evn):List Cell:=c.av.map .av++[.av (.ref f 0 0),.seq 1 ((List.range n).map λi=>.ref (N i 0) 0 0),.seq 4 (ev.flatMap Evn.av)]
structure oC(g:bF)(a:Nat->Nat)(c:Cfg)(me:Int)(n:Iu):Prop where
 bH:∃d,asG g n.aJ d/\g (a 0)=some (DZ a c me n d)
 aI:∃cells,QG (avs g) n.aI.l cells/\g (a 1)=some (CS n.aI cells)
 homes:∃dR,QG (asF g) n.homes.dR dR/\g (a 2)=some (pF c me dR n.homes.bf)
def asH(N:Nat->Nat->Nat)(n:Nat):Prop:=∀i j s t,i<n->j<n->s<3->t<3->N i s=N j t->i=j/\s=t
def ahy(p:Port):List (List Pkt):=[p.rq,p.an,p.rin,p.ain]
structure aaS(g:bF)(q f:Nat)(N:Nat->Nat->Nat)(m:NG):Prop where
 iL:g q=some (qE f N m.c m.aG.length m.ev)
 fab:∃ls:List (List AV),g f=some (Yz m.c ls)/\ls.length=4*m.fab.length/\∀(i:Nat) l cells,(m.fab.flatMap ahy)[i]?=some l->ls[i]?=some cells->QG (avr g) l cells
 bH:∀(i:Nat) n,m.aG[i]?=some n->oC g (N i) m.c i n
 inj:asH N m.aG.length
def D7(x:Int):List Int->List Int
 |[]=>[x]
 |y::rp=>if x<y then y::D7 x rp else x::y::rp
def srt:List Int->List Int->List Int
 |b,[]=>b.reverse
 |b,x::l=>srt (D7 x b) l
def Ent.word(e:Ent)(w:Int):Int:=if 0<=w/\w<e.data.length then e.data.getD w.toNat 0 else 0
def Ent.write(e:Ent)(w v:Int):Ent:=if e.bP=true/\0<=w/\w<e.data.length then { e with data:=e.data.set w.toNat v } else e
def Home.ready(h:Home):List Int:=h.bf.ready (srt [] (h.bf.wait.map (·.1)))
def Home.grant(bH:Int)(h:Home):Home × Pkt × Bool:=
 match h.ready with
 |[]=>(h,.zero,false)
 |ak::_=>match h.bf.next ak with
  |(t,some w)=>({ h with bf:=t },granted h.dR bH ak w.1 w.2,true)
  |(_,none)=>(h,.zero,false)
def Proc.idx(p:Proc):Int:=match p.cur with
 |some _=>p.bT.length
 |none=>0
def Proc.op(p:Proc):Opn:=p.cur.getD .zero
def Proc.CU(p:Proc)(v:Int):Proc:=if p.fU then⟨p.ops,p.bT++[v],false⟩else p
def Proc.Aq(p:Proc):Proc:=if p.fU=true∨p.cur=none then p else { p with fU:=true }
abbrev NT:=Node × List Evn
def Node.done(me:Int)(n:Node)(t:List Evn)(v:Int):NT:=({ n with dn:=n.dn.CU v },t++[⟨me,n.dn.idx,true,v⟩])
def eX(e:Ent)(o:Opn)(w:Int):Ent:=if o.aU=2 then e.write w o.value else if o.aU=3 then e.write w (w64 (e.word w+o.value))else e
def Node.effect(c:Cfg)(me:Int)(n:Node)(t:List Evn):NT:=
 let o:=n.dn.op;let e:=(n.aI.find (c.bW o.addr)).getD .zero;let n':={ n with aI:=(n.aI.put (eX e o (c.dG o.addr))).1 }
 n'.done me t (if o.aU=2 then 0 else e.word (c.dG o.addr))
def Node.amb(c:Cfg)(me:Int)(n:Node)(f:Fab):Fab:=(f.send (n.aJ.ask me (c.aZ n.aJ.ak))).1
def Node.after(me:Int)(n:Node)(p:Pkt):Nxt:=
 if n.aJ.aU=1 then dX n.aJ me n.aI p else if n.aJ.aU=2 then dZ n.aJ me n.aI p else if n.aJ.aU=3 then eG n.aJ n.aI p else yK n.aI
abbrev NFT:=Node × Fab × List Evn
def Node.answered(c:Cfg)(me:Int)(n:Node)(f:Fab)(t:List Evn)(p:Pkt):NFT:=
 match n.after me p with
 |(ca,d,ok)=>
  if ok=false then({ n with aI:=ca },f,t)else
  let n:={ n with aI:=ca,aJ:=d }
  if d.step=0 then(if d.aU=3/\n.dn.op.aU=4 then((n.done me t 0).1,f,(n.done me t 0).2)else(n,f,t))
  else
   let b:=if d.step=6/\d.aU≠3 then n.effect c me t else(n,t)
   (b.1,b.1.amb c me f,b.2)
def Node.begin_(c:Cfg)(me:Int)(n:Node)(f:Fab)(aU ak:Int):Node × Fab:=
 let n:={ n with aJ:=.begin aU ak n.num,num:=(n.num+1).tmod 4096 }
 (n,n.amb c me f)
def Node.asked(c:Cfg)(me:Int)(n:Node)(f:Fab)(p:Pkt):Node × Fab:=
 if p.aU=1∨p.aU=2 then
  match n.home.handle c me p with
  |(h,out,ok,e)=>({ n with home:=h },if ok=true/\e=0 then(f.send out).1 else f)
 else
  match fP n.aI p with
  |(ca,out,e)=>({ n with aI:=ca },if e=0 then(f.send out).1 else f)
def Node.work(c:Cfg)(me:Int)(n:Node)(f:Fab)(t:List Evn)(o:Opn):NFT:=
 let t:=if n.dn.fU then t else t++[⟨me,n.dn.bT.length,false,0⟩]
 let n:={ n with dn:={ n.dn with fU:=true } }
 let ak:=c.bW o.addr;let e:=n.aI.find ak
 if o.aU=4/\e=none then((n.done me t 0).1,f,(n.done me t 0).2)
 else if o.aU=4 then((n.begin_ c me f 3 ak).1,(n.begin_ c me f 3 ak).2,t)
 else if e.isSome=true/\(o.aU=1∨(e.getD .zero).bP=true)then
  let n:={ n with aI:=n.aI.touch ak }
  ((n.effect c me t).1,f,(n.effect c me t).2)
 else if n.aI.full ak=true then((n.begin_ c me f 3 ((n.aI.qB ak).getD 0)).1,(n.begin_ c me f 3 ((n.aI.qB ak).getD 0)).2,t)
 else if o.aU=1 then((n.begin_ c me f 1 ak).1,(n.begin_ c me f 1 ak).2,t)
 else((n.begin_ c me f 2 ak).1,(n.begin_ c me f 2 ak).2,t)
def Node.step(c:Cfg)(me:Int)(n:Node)(f:Fab)(t:List Evn):NFT × Int:=
 match f.take me false with
 |(b,some p)=>(n.answered c me b t p,1)
 |(_,none)=>
  if n.home.ready≠[]/\f.roomOf me false≠0 then
   (({ n with home:=(n.home.grant me).1 },(f.send (n.home.grant me).2.1).1,t),2)
  else
   match(if f.roomOf me false=0 then(f,none)else f.take me true)with
   |(b,some p)=>(((n.asked c me b p).1,(n.asked c me b p).2,t),3)
   |(_,none)=>
    match n.dn.cur with
    |some o=>if n.aJ.step=0 then(n.work c me f t o,4)else((n,f,t),0)
    |none=>((n,f,t),0)
def cO.bH(m:cO)(i:Int):Option Node:=if 0<=i then m.aG[i.toNat]? else none
def cO.step(m:cO)(i:Int):cO × Int:=
 match m.bH i with
 |none=>(m,0)
 |some n=>match n.step m.c i m.fab m.trace with
  |((n',f,t),k)=>({ m with aG:=m.aG.set i.toNat n',fab:=f,trace:=t },k)
def bf(bytes:Nat)(bit mask:Int):Bool:=(List.range 16).any λi=>decide ((mask.toNat >>> (15-i)) % 2=1) && decide (0<=bit+i) && decide (bit+i<8*bytes)
def Pkt.bytes(p:Pkt):Nat:=12+8*p.data.length
def Port.drop(p:Port)(req:Bool)(k:Nat):Port:=p.kM req ((p.sort req).eraseIdx k)
def Fab.remove(f:Fab)(at_:Nat):Fab:=match Ak f.l 0 at_ with
 |some (i,req,k)=>f.put i ((f.port i).drop req k)
 |none=>f
def Fab.deliver(f:Fab)(at_ bit mask:Int):Fab × Int:=
 if at_<0 then(f,3)else
 match f.all[at_.toNat]? with
 |none=>(f,3)
 |some p=>
  if bf p.bytes bit mask=true then(f,2)else
  if f.room (rG p.aU)<=((f.port p.dst).um (rG p.aU)).length then(f,5)else
  ((f.put p.dst ((f.port p.dst).lq (rG p.aU) ((f.port p.dst).um (rG p.aU)++[p]))).remove at_.toNat,0)
def cO.deliver(m:cO)(at_ bit mask:Int):cO × Int:=({ m with fab:=(m.fab.deliver at_ bit mask).1 },(m.fab.deliver at_ bit mask).2)
def cO.do_(m:cO)(p:Pck):cO × Bool:=
 if p.deliver then((m.deliver p.at_ p.bit p.mask).1,decide ((m.deliver p.at_ p.bit p.mask).2=0))
 else((m.step p.at_).1,decide ((m.step p.at_).2≠0))
def wZ(c:Cfg)(me ak:Int):Bool:=decide (0<=ak) && decide (ak<c.aO) && decide (ak % c.aG=me)
def Lines(l:List Ent):Prop:=l.Pairwise λa b=>a.ak≠b.ak
def Lines.inj:∀{l:List Ent},Lines l->∀{a b:Ent},a∈l->b∈l->a.ak=b.ak->a=b
 |[],_,a,_,ha,_,_=>by cases ha
 |x::l,h,a,b,ha,hb,e=>by
  have i:=zb6.1 h;rcases zao.1 ha with g|g
  ·rcases zao.1 hb with d|d
   ·rw[g,d]
   ·rw[g]at e;exact absurd e (i.1 b d)
  ·rcases zao.1 hb with d|d
   ·rw[d]at e;exact absurd e.symm (i.1 a g)
   ·exact Lines.inj i.2 g d e
def jm {l:List Ent}(h:Lines l){ak:Int}{e:Ent}:(l.find? λx=>decide (x.ak=ak))=some e↔e∈l/\e.ak=ak:=by
 constructor
 ·intro b;exact⟨zbs b,by simpa using zcQ b⟩
 ·rintro⟨d,g⟩;cases b:l.find? λx=>decide (x.ak=ak)with
  |none=>
   have:=zdg.1 b e d;simp[g]at this
  |some x=>
   have i:=zbs b;have j:x.ak=ak:=by simpa using zcQ b
   rw[h.inj i d (by rw[j,g])]
def Ar {l:List Ent}{ak:Int}:(l.find? λx=>decide (x.ak=ak))=none↔∀e∈l,e.ak≠ak:=by
 rw[zdg];simp
def Iw {c:Cache}{ak:Int}:c.at_ ak=none↔c.find ak=none:=by
 unfold Cache.at_ Cache.find;rw[List.findIdx?_eq_none_iff,zdg];simp
def NJ {c:Cache}{ak:Int}{i:Nat}(h:c.at_ ak=some i):∃e,c.l[i]?=some e/\c.find ak=some e/\e.ak=ak:=by
 unfold Cache.at_ at h;have hi:=List.findIdx?_eq_some_iff_getElem.1 h;obtain⟨b,d,g⟩:=hi;refine⟨c.l[i],zab b,?_,by simpa using d⟩;unfold Cache.find;rw[List.find?_eq_some_iff_getElem];exact⟨d,i,b,rfl,λj k=>by simpa using g j k⟩
def KU {c:Cache}{ak:Int}{e:Ent}(h:c.find ak=some e):∃i,c.at_ ak=some i/\c.l[i]?=some e:=by
 cases ha:c.at_ ak with
 |none=>rw[Iw.1 ha]at h;cases h
 |some i=>
  obtain⟨g,d,b,_⟩:=NJ ha;rw[h]at b;cases b;exact⟨i,rfl,d⟩
def Un:∀{l:List Ent},Lines l->∀{i:Nat} {e v:Ent},l[i]?=some e->l.set i v=l.map λx=>if x.ak=e.ak then v else x
 |[],_,i,e,v,h=>by simp at h
 |x::l,d,i,e,v,h=>by
  have b:=zb6.1 d;cases i with
  |zero=>
   simp only[zaY,zaa]at h;subst h;simp only[zb7,zaD,if_true]
   congr 1
   have:∀y∈l,(if y.ak=x.ak then v else y)=y:=λy g=>if_neg (Ne.symm (b.1 y g));rw[zbo this];simp
  |succ i=>
   simp only[zbe]at h;have j:x.ak≠e.ak:=b.1 e (zas h);simp only[zb8,zaD,if_neg j];rw[Un b.2 h]
def D8:∀{l:List Ent},Lines l->∀{i:Nat} {e:Ent},l[i]?=some e->l.eraseIdx i=l.filter λx=>decide (x.ak≠e.ak)
 |[],_,i,e,h=>by simp at h
 |x::l,d,i,e,h=>by
  have b:=zb6.1 d;cases i with
  |zero=>
   simp only[zaY,zaa]at h;subst h;simp only[List.eraseIdx_cons_zero,zb2,ne_eq,not_true,decide_false,zal,if_false];rw[List.filter_eq_self.2];intro y g;have:=b.1 y g;simp only[decide_eq_true_eq];exact λe=>this e.symm
  |succ i=>
   simp only[zbe]at h;have j:x.ak≠e.ak:=b.1 e (zas h);simp only[zdj,zb2,j,ne_eq,not_false_eq_true,decide_true,if_true];rw[D8 b.2 h]
def nG {c:Cache}(g:Lines c.l){e x:Ent}(h0:0<=e.ak)(h:c.find e.ak=some x):c.put e=({ c with l:=c.l.map λy=>if y.ak=e.ak then { e with used:=x.used } else y },0):=by
 obtain⟨i,d,b⟩:=KU h;have j:x.ak=e.ak:=by
  obtain⟨y,k1,_,k⟩:=NJ d;rw[b]at k1;cases k1;exact k
 unfold Cache.put;rw[if_neg V,d];simp only;rw[zaA,b,zat,Un g b,j]
def Uo {c:Cache}(b:Lines c.l)(ak:Int):c.drop ak={ c with l:=c.l.filter λx=>decide (x.ak≠ak) }:=by
 unfold Cache.drop;cases ha:c.at_ ak with
 |none=>
  have:=Ar.1 (show(c.l.find? λx=>decide (x.ak=ak))=none from Iw.1 ha);simp only;rw[List.filter_eq_self.2 λx d=>by simpa using this x d]
 |some i=>
  obtain⟨e,g,_,h⟩:=NJ ha;simp only;rw[D8 b g,h]
def EY {c:Cache}(g:Lines c.l){ak:Int}{e:Ent}(h:c.find ak=some e):c.touch ak={ c with l:=c.l.map λx=>if x.ak=ak then { e with used:=c.dM+1 } else x,dM:=c.dM+1 }:=by
 obtain⟨i,d,b⟩:=KU h;obtain⟨y,k1,_,j⟩:=NJ d;rw[b]at k1;cases k1;unfold Cache.touch;rw[d];simp only;rw[zaA,b,zat,Un g b,j]
def Iy:∀(l:List Ent) (m:Ent),(l.foldl (λm x=>if x.used<m.used then x else m) m)∈m::l/\∀x∈m::l,(l.foldl (λm x=>if x.used<m.used then x else m) m).used<=x.used
 |[],m=>by simp
 |x::l,m=>by
  rw[zbW];obtain⟨i,e⟩:=Iy l (if x.used<m.used then x else m);refine⟨?_,λy b=>?_⟩
  ·rcases zao.1 i with h|h
   ·rw[h];split <;> simp
   ·simp[h]
  ·have d:(if x.used<m.used then x else m).used<=x.used/\(if x.used<m.used then x else m).used<=m.used:=by
    split
    ·omega
    ·omega
   have g:=e _ (zdh ..);rcases zao.1 b with b|b
   ·rw[b];exact Int.le_trans g d.2
   ·rcases zao.1 b with b|b
    ·rw[b];exact Int.le_trans g d.1
    ·exact e y (by simp[b])
def D9 {l:List Ent}{e:Ent}(h:zF l=some e):e∈l/\∀x∈l,e.used<=x.used:=by
 cases l with
 |nil=>cases h
 |cons m l=>
  simp only[zF,zaa]at h;subst h;exact Iy l m
def YA(l:List Ent):Prop:=l.Pairwise λa b=>a.used≠b.used
def zJ(x:Int):∀l,(D7 x l).Perm (x::l)
 |[]=>List.Perm.refl _
 |y::l=>by
  simp only[D7];split
  ·exact((zJ x l).cons y).trans (List.Perm.swap x y l)
  ·exact List.Perm.refl _
def Au(x:Int):∀l,l.Pairwise (· ≥ ·)->(D7 x l).Pairwise (· ≥ ·)
 |[],_=>by simp[D7]
 |y::l,h=>by
  simp only[D7];rw[zb6]at h;split
  ·rename_i d;refine zb6.2 ⟨λz b=>?_,Au x l h.2⟩;rcases zao.1 ((zJ x l).mem_iff.1 b)with rfl|b
   ·omega
   ·exact h.1 z b
  ·rename_i d;refine zb6.2 ⟨λz b=>?_,zb6.2 h⟩;rcases zao.1 b with rfl|b
   ·omega
   ·have:=h.1 z b;omega
def x8:∀(l b:List Int),b.Pairwise (· ≥ ·)->(srt b l).Perm (b++l)/\(srt b l).Pairwise (· <= ·)
 |[],b,h=>by
  simp only[srt,zbd];exact⟨List.reverse_perm b,List.pairwise_reverse.2 (h.imp λh=>h)⟩
 |x::l,b,h=>by
  have:=x8 l (D7 x b) (Au x b h);simp only[srt];refine⟨this.1.trans ?_,this.2⟩;refine((zJ x b).append_right l).trans ?_;rw[za3];exact(zdq (a:=x) (l₁:=b) (l₂:=l)).symm
def ahz {l d:List Int}(h:l.Perm d)(i:d.Pairwise (· <= ·)):srt [] l=d:=by
 obtain⟨e,g⟩:=x8 l [] List.Pairwise.nil;exact(e.trans h).eq_of_pairwise (λa b _ _ e g=>Int.le_antisymm e g) g i
def lQ {α:Type}:∀(l:List (Int × α)) (n m:Int) (x:α),jY (mO l n x) m=if n=m then some x else jY l m
 |[],n,m,x=>by simp[mO,jY]
 |(k,v)::l,n,m,x=>by
  simp only[mO];by_cases h:k=n
  ·subst h;simp only[if_true,jY];by_cases b:k=m <;> simp[b]
  ·simp only[h,if_false,jY];rw[lQ l n m x];by_cases b:k=m
   ·subst b;simp only[if_true];rw[if_neg (λe=>h e.symm)]
   ·simp[b]
def KW {α:Type}:∀(l:List (Int × α)) (n:Int),(Ai l n).map (·.1)=(l.map (·.1)).erase n
 |[],n=>rfl
 |(k,v)::l,n=>by
  simp only[Ai,zaD,List.erase_cons];by_cases h:k=n
  ·simp[h]
  ·simp[h,KW l n]
def QH {α:Type}:∀(l:List (Int × α)) (n:Int) (x:α),(mO l n x).map (·.1)=if n∈l.map (·.1)then l.map (·.1)else l.map (·.1)++[n]
 |[],n,x=>by simp[mO]
 |(k,v)::l,n,x=>by
  simp only[mO,zaD,zao];by_cases h:k=n
  ·simp[h]
  ·have b:¬n=k:=λe=>h e.symm;simp only[h,if_false,zaD,b,false_or,QH l n x];split <;> simp
def x9 {α:Type}{l:List (Int × α)}(h:(l.map (·.1)).Nodup)(n:Int)(x:α):((mO l n x).map (·.1)).Nodup:=by
 rw[QH];split
 ·exact h
 ·rename_i d;rw[zbp];refine⟨h,O,λa ha b hb=>?_⟩;simp only[zaV]at hb;subst hb;intro e;subst e;exact d ha
def KX {α:Type}:∀{l:List (Int × α)},(l.map (·.1)).Nodup->∀(n m:Int),jY (Ai l n) m=if n=m then none else jY l m
 |[],_,n,m=>by simp[Ai,jY]
 |(k,v)::l,h,n,m=>by
  rw[zaD,za1]at h;simp only[Ai];by_cases hk:k=n
  ·subst hk;simp only[if_true,jY];by_cases b:k=m
   ·subst b;simp only[if_true];exact KY.2 h.1
   ·simp[b]
  ·simp only[hk,if_false,jY];rw[KX h.2 n m];by_cases b:k=m
   ·subst b;simp only[if_true];rw[if_neg λe=>hk e.symm]
   ·simp[b]
where
 KY {α:Type}:∀{es:List (Int × α)} {n:Int},jY es n=none↔n∉es.map (·.1)
 |[],n=>by simp[jY]
 |(k,v)::l,n=>by
  simp only[jY,zaD,zao,not_or];by_cases h:k=n
  ·simp[h]
  ·simp only[h,if_false];rw[KY (es:=l)];exact⟨λd=>⟨λe=>h e.symm,d⟩,λd=>d.2⟩
def rH {α:Type}:∀{l:List (Int × α)} {n:Int} {x:α},jY l n=some x->(n,x)∈l
 |[],n,x,h=>by cases h
 |(k,v)::l,n,x,h=>by
  simp only[jY]at h;split at h
  ·rename_i e;cases h;subst e;simp
  ·simp[rH h]
def rJ {α:Type}:∀{l:List (Int × α)} {n:Int} {x:α} {e:Int × α},e∈mO l n x->e=(n,x)∨e∈l
 |[],n,x,e,h=>by simp[mO]at h;exact .inl h
 |(k,v)::l,n,x,e,h=>by
  simp only[mO]at h;split at h
  ·rcases zao.1 h with h|h
   ·exact .inl h
   ·exact .inr (by simp[h])
  ·rcases zao.1 h with h|h
   ·exact .inr (by simp[h])
   ·rcases rJ h with h|h
    ·exact .inl h
    ·exact .inr (by simp[h])
def QI {α:Type}:∀{l:List (Int × α)} {n:Int} {e:Int × α},e∈Ai l n->e∈l
 |[],n,e,h=>by cases h
 |(k,v)::l,n,e,h=>by
  simp only[Ai]at h;split at h
  ·simp[h]
  ·rcases zao.1 h with h|h
   ·simp[h]
   ·simp[QI h]
structure Td(t:Turns):Prop where
 ok:(t.iF.map (·.1)).Nodup
 oge:∀e∈t.iF,0<=e.2
 wk:(t.wait.map (·.1)).Nodup
 wge:∀e∈t.wait,∀w∈e.2,0<=w.1
def Td.owned {t:Turns}(h:Td t)(ak:Int):t.owned ak=true↔t.owner ak≠-1:=by
 unfold Turns.owned Turns.owner;cases ha:jY t.iF ak with
 |none=>simp
 |some v=>
  have:=h.oge _ (rH ha);simp only[zaO,zat,true_iff];simp only at this;omega
structure ake(c:Cfg)(me:Int)(h:Home):Prop where
 bf:Td h.bf
 here:∀e∈h.bf.wait,wZ c me e.1=true
def aeT {t:Turns}{ak who id:Int}{e:Int × List (Int × Int)}(h:e∈(t.ask ak who id).1.wait):e.1=ak∨e∈t.wait:=by
 unfold Turns.ask at h;split at h
 ·exact .inr h
 ·split at h
  ·rcases rJ h with rfl|h
   ·exact .inl rfl
   ·exact .inr h
  ·exact .inr h
def QJ {t:Turns}{ak who:Int}:(t.release ak who).1.wait=t.wait:=by
 unfold Turns.release;split <;> rfl
def aaT {t:Turns}{ak:Int}{e:Int × List (Int × Int)}(h:e∈(t.next ak).1.wait):e∈t.wait∨(e.1=ak/\t.ws ak≠[]):=by
 unfold Turns.next at h
 split at h
 ·exact .inl h
 ·split at h
  ·exact .inl h
  ·rename_i w ws hw;rcases rJ h with rfl|h
   ·exact .inr ⟨rfl,by rw[hw];simp⟩
   ·exact .inl h
def QK {c:Cfg}(hc:c.ok=true){me ak:Int}(h0:0<=ak):(c.aZ ak≠me∨c.aO<=ak)↔wZ c me ak=false:=by
 have b:c.aZ ak=ak % c.aG:=by unfold Cfg.aZ wX;rw[if_neg V]
 unfold wZ;rw[b];constructor
 ·rintro(h|h)
  ·simp[h]
  ·have:¬ak<c.aO:=V
   simp[this]
 ·intro h;simp only[zc0,decide_eq_false_iff_not]at h;rcases h with(h|h)|h
  ·omega
  ·right;omega
  ·exact .inl h
def Aw {h:Home}{ak:Int}{l:List Int}(d:h.ready=ak::l):h.bf.owned ak=false/\h.bf.ws ak≠[]/\ak∈h.bf.wait.map (·.1):=by
 have:ak∈h.ready:=by rw[d];simp
 unfold Home.ready Turns.ready at this;rw[zbv]at this;obtain⟨g,b⟩:=this;simp only[zah,zbj]at b;refine⟨b.1,λe=>by rw[e]at b;exact absurd b.2 O,?_⟩;have:=(x8 (h.bf.wait.map (·.1)) [] List.Pairwise.nil).1;rw[zaN]at this;exact this.mem_iff.1 g
def Ea(d:bU)(bH:Int)(c:Cache)(p:Pkt):Nxt:=
 if d.aU=1 then dX d bH c p else if d.aU=2 then dZ d bH c p else if d.aU=3 then eG d c p else yK c
def I64(z:Int):Prop:=-9223372036854775808<=z/\z<=9223372036854775807
def ant(z:Int):I64 (w64 z):=by
 show -9223372036854775808<=IntKind.wrap .i64 z/\IntKind.wrap .i64 z<=9223372036854775807;simp only[IntKind.wrap,IntKind.bits,IntKind.signed];simp;split <;> constructor <;> omega
def pG(c:Cfg)(d:List Int):Prop:=(d.length:Int)=c.aV/\∀v∈d,I64 v
structure yL(c:Cfg)(p:Pkt):Prop where
 ok:p.ok=true
 dat:p.aU=7∨p.aU=9->pG c p.data
 num:∀v∈p.data,I64 v
structure KZ(c:Cfg)(p:Port):Prop where
 rq:(p.rq.length:Int)<=c.out
 an:(p.an.length:Int)<=c.out
 rin:(p.rin.length:Int)<=c.inn
 ain:(p.ain.length:Int)<=1
 pkt:∀q,q∈p.rq∨q∈p.an∨q∈p.rin∨q∈p.ain->yL c q
structure xg(c:Cfg)(f:Fab):Prop where
 out:f.out=c.out
 inn:f.inn=c.inn
 len:(f.l.length:Int)=c.aG
 port:∀p∈f.l,KZ c p
def lS {c:Cfg}(h:c.ok=true):(1<=c.aG/\c.aG<=6)/\(1<=c.aO/\c.aO<=8)/\(1<=c.aV/\c.aV<=4)/\(1<=c.sets/\c.sets<=4)/\(1<=c.ways/\c.ways<=3)/\(1<=c.out/\c.out<=8)/\(1<=c.inn/\c.inn<=8):=by
 unfold Cfg.ok at h;simp only[zah,decide_eq_true_eq]at h;omega
def xg.get {c:Cfg}{f:Fab}(F:xg c f){i:Int}(h:f.is i=true):KZ c (f.port i):=by
 unfold Fab.is at h;simp only[zah,decide_eq_true_eq]at h;have hi:i.toNat<f.l.length:=V
 unfold Fab.port;rw[zaA,zab hi,zat];exact F.port _ (zc3 hi)
def xg.put {c:Cfg}{f:Fab}(F:xg c f)(i:Int){p:Port}(h:KZ c p):xg c (f.put i p):=by
 refine⟨F.out,F.inn,by simp only[Fab.put,zcd];exact F.len,λq b=>?_⟩;simp only[Fab.put]at b;rcases zbR b with b|b
 ·exact F.port q b
 ·rw[b];exact h
def xg.send {c:Cfg}{f:Fab}(F:xg c f){p:Pkt}(e:p.ok=true->yL c p):xg c (f.send p).1:=by
 unfold Fab.send;split
 ·exact F
 ·rename_i h;simp only[zbu,zbj,not_or,zcW]at h;obtain⟨⟨g,i⟩,j⟩:=h;have P:=F.get i;have Q:=e g;split
  ·exact F
  ·rename_i d;refine F.put _ ?_;rw[F.out]at d;cases hk:rG p.aU with
   |true=>
    rw[hk]at d;simp only[Port.sort,if_true]at d;refine⟨?_,P.an,P.rin,P.ain,λq b=>?_⟩
    ·simp only[Port.kM,Port.sort,if_true,zar,zak,zan];omega
    ·simp only[Port.kM,Port.sort,if_true,zaQ,zaV]at b;rcases b with(b|b)|b
     ·exact P.pkt q (.inl b)
     ·rw[b];exact Q
     ·exact P.pkt q (.inr b)
   |false=>
    rw[hk]at d;simp only[Port.sort,zal,if_false]at d;refine⟨P.rq,?_,P.rin,P.ain,λq b=>?_⟩
    ·simp only[Port.kM,Port.sort,zal,if_false,zar,zak,zan];omega
    ·simp only[Port.kM,Port.sort,zal,if_false,zaQ,zaV]at b;rcases b with b|(b|b)|b
     ·exact P.pkt q (.inl b)
     ·exact P.pkt q (.inr (.inl b))
     ·rw[b];exact Q
     ·exact P.pkt q (.inr (.inr b))
def xg.take {c:Cfg}{f:Fab}(F:xg c f)(i:Int)(req:Bool):xg c (f.take i req).1/\∀p,(f.take i req).2=some p->yL c p:=by
 unfold Fab.take;split
 ·rename_i h;have P:=F.get h;cases d:(f.port i).um req with
  |nil=>exact⟨F,λp e=>by cases e⟩
  |cons p l=>
   simp only;cases req with
   |true=>
    simp only[Port.um,if_true]at d;have g:=P.rin;rw[d]at g;simp only[zak]at g;refine⟨F.put _ ⟨P.rq,P.an,?_,P.ain,λq b=>?_⟩,λj e=>?_⟩
    ·simp only[Port.lq,if_true];omega
    ·simp only[Port.lq,if_true]at b;rcases b with b|b|b|b
     ·exact P.pkt q (.inl b)
     ·exact P.pkt q (.inr (.inl b))
     ·exact P.pkt q (.inr (.inr (.inl (by rw[d];simp[b]))))
     ·exact P.pkt q (.inr (.inr (.inr b)))
    ·cases e;exact P.pkt _ (.inr (.inr (.inl (by rw[d];simp))))
   |false=>
    simp only[Port.um,zal,if_false]at d;have g:=P.ain;rw[d]at g;simp only[zak]at g;refine⟨F.put _ ⟨P.rq,P.an,P.rin,?_,λq b=>?_⟩,λj e=>?_⟩
    ·simp only[Port.lq,zal,if_false];omega
    ·simp only[Port.lq,zal,if_false]at b;rcases b with b|b|b|b
     ·exact P.pkt q (.inl b)
     ·exact P.pkt q (.inr (.inl b))
     ·exact P.pkt q (.inr (.inr (.inl b)))
     ·exact P.pkt q (.inr (.inr (.inr (by rw[d];simp[b]))))
    ·cases e;exact P.pkt _ (.inr (.inr (.inr (by rw[d];simp))))
 ·exact⟨F,λp e=>by cases e⟩
def Az {α:Type}{l:List α}{i:Nat}{a:α}(h:a∈l.eraseIdx i):a∈l:=(zcY l i).subset h
def KZ.drop {c:Cfg}{p:Port}(P:KZ c p)(req:Bool)(k:Nat):KZ c (p.drop req k):=by
 have d:∀(l:List Pkt),((l.eraseIdx k).length:Int)<=l.length:=λl=>by
  have:=(zcY l k).length_le;omega
 cases req with
 |true=>
  refine⟨?_,P.an,P.rin,P.ain,λq b=>?_⟩
  ·have:=d p.rq;have:=P.rq;simp only[Port.drop,Port.kM,Port.sort,if_true];omega
  ·simp only[Port.drop,Port.kM,Port.sort,if_true]at b;rcases b with b|b
   ·exact P.pkt q (.inl (Az b))
   ·exact P.pkt q (.inr b)
 |false=>
  refine⟨P.rq,?_,P.rin,P.ain,λq b=>?_⟩
  ·have:=d p.an;have:=P.an;simp only[Port.drop,Port.kM,Port.sort,zal,if_false];omega
  ·simp only[Port.drop,Port.kM,Port.sort,zal,if_false]at b;rcases b with b|b|b
   ·exact P.pkt q (.inl b)
   ·exact P.pkt q (.inr (.inl (Az b)))
   ·exact P.pkt q (.inr (.inr b))
def QL:∀(l:List Port) (i k:Nat) {j:Nat} {req:Bool} {k':Nat},Ak l i k=some (j,req,k')->i<=j/\j<i+l.length
 |[],i,k,j,req,k',h=>by cases h
 |p::l,i,k,j,req,k',h=>by
  simp only[Ak]at h;split at h
  ·cases h;simp
  ·split at h
   ·cases h;simp
   ·have:=QL l (i+1) _ h;simp only[zak];omega
def xg.remove {c:Cfg}{f:Fab}(F:xg c f)(k:Nat):xg c (f.remove k):=by
 unfold Fab.remove;split
 ·rename_i i req k' h;have hi:=QL _ _ _ h;refine F.put _ ((F.get ?_).drop _ _);unfold Fab.is;simp only[zah,decide_eq_true_eq];omega
 ·exact F
def xg.pkt {c:Cfg}{f:Fab}(F:xg c f){p:Pkt}(h:p∈f.all):yL c p:=by
 unfold Fab.all at h;obtain⟨q,d,b⟩:=za5.1 h;rcases zaQ.1 b with b|b
 ·exact(F.port q d).pkt p (.inl b)
 ·exact(F.port q d).pkt p (.inr (.inl b))
def xg.deliver {c:Cfg}{f:Fab}(F:xg c f)(at_ bit mask:Int):xg c (f.deliver at_ bit mask).1:=by
 unfold Fab.deliver;split
 ·exact F
 split
 ·exact F
 ·rename_i p g;have Q:=F.pkt (zas g);split
  ·exact F
  split
  ·exact F
  ·rename_i d;refine xg.remove ?_ _;by_cases h:f.is p.dst=true
   ·have P:=F.get h;refine F.put _ ?_;cases hk:rG p.aU with
    |true=>
     rw[hk]at d;simp only[Fab.room,Port.um,if_true,F.inn]at d;refine⟨P.rq,P.an,?_,P.ain,λq b=>?_⟩
     ·simp only[Port.lq,Port.um,if_true,zar,zak,zan];omega
     ·simp only[Port.lq,Port.um,if_true,zaQ,zaV]at b;rcases b with b|b|(b|b)|b
      ·exact P.pkt q (.inl b)
      ·exact P.pkt q (.inr (.inl b))
      ·exact P.pkt q (.inr (.inr (.inl b)))
      ·rw[b];exact Q
      ·exact P.pkt q (.inr (.inr (.inr b)))
    |false=>
     rw[hk]at d;simp only[Fab.room,Port.um,zal,if_false]at d;refine⟨P.rq,P.an,P.rin,?_,λq b=>?_⟩
     ·simp only[Port.lq,Port.um,zal,if_false,zar,zak,zan];omega
     ·simp only[Port.lq,Port.um,zal,if_false,zaQ,zaV]at b;rcases b with b|b|b|(b|b)
      ·exact P.pkt q (.inl b)
      ·exact P.pkt q (.inr (.inl b))
      ·exact P.pkt q (.inr (.inr (.inl b)))
      ·exact P.pkt q (.inr (.inr (.inr b)))
      ·rw[b];exact Q
   ·-- no such bH:nothing is put
    have i:f.l.length<=p.dst.toNat:=by
     have e:=Q.ok;simp only[Pkt.ok,zah,decide_eq_true_eq]at e;simp only[Fab.is,zah,decide_eq_true_eq]at h;omega
    unfold Fab.put;rw[List.set_eq_of_length_le i];exact⟨F.out,F.inn,F.len,F.port⟩
structure asI(c:Cfg)(k:Int)(e:Ent):Prop where
 lo:0<=e.ak
 hi:e.ak<c.aO
 used:e.used<=k
 u0:0<=e.used
 dat:pG c e.data
structure EZ(c:Cfg)(ca:Cache):Prop where
 sets:ca.sets=c.sets
 ways:ca.ways=c.ways
 aO:Lines ca.l
 aeU:YA ca.l
 ent:∀e∈ca.l,asI c ca.dM e
 room:∀ak,((ca.vH ak).length:Int)<=ca.ways
 akf:0<=ca.dM
structure anu(c:Cfg)(n:Node):Prop where
 fU:n.dn.fU=true
 op:∃o,n.dn.cur=some o/\c.bW o.addr=n.aJ.ak/\(n.aJ.aU=1->o.aU=1)/\(n.aJ.aU=2->o.aU=2∨o.aU=3)
 full:n.aI.full n.aJ.ak=false
structure ahA(c:Cfg)(n:Node):Prop where
 lo:0<=n.aJ.ak
 hi:n.aJ.ak<c.aO
 aU:1<=n.aJ.aU/\n.aJ.aU<=3
 dat:n.aJ.data=[]∨pG c n.aJ.data
 akg:n.aJ.aU=2->n.aJ.step=3->pG c n.aJ.data
 roll:n.aJ.aU=3->n.dn.fU=true
 work:n.aJ.aU≠3->n.aJ.step≠6->anu c n
 rest:n.aJ.aU≠3->n.aJ.step=6->n.dn.fU=false
structure arU(c:Cfg)(p:Proc):Prop where
 most:p.ops.length<=24
 right:∀o∈p.ops,c.right o=true/\I64 o.value
 vals:p.bT.length<=p.ops.length
 fU:p.fU=true->p.bT.length<p.ops.length
structure YB(c:Cfg)(me:Int)(n:Node):Prop where
 dn:arU c n.dn
 aI:EZ c n.aI
 dR:∀e∈n.home.dR,pG c e.2.data
 home:ake c me n.home
 aJ:n.aJ.step≠0->ahA c n
 clk:n.aI.dM<=n.dn.bT.length
def aaU {l:List Ent}{f:Ent->Ent}(h:YA l)(d:∀x∈l,(f x).used=x.used):YA (l.map f):=by
 unfold YA;rw[zcj];exact h.imp_of_mem λha hb b=>by rw[d _ ha,d _ hb];exact b
def AA {l:List Ent}{f:Ent->Ent}(h:Lines l)(d:∀x∈l,(f x).ak=x.ak):Lines (l.map f):=by
 unfold Lines;rw[zcj];exact h.imp_of_mem λha hb b=>by rw[d _ ha,d _ hb];exact b
def AB(ca:Cache)(ak:Int){q:Ent->Bool}:(({ ca with l:=ca.l.filter q }:Cache).vH ak).length<=(ca.vH ak).length:=by
 unfold Cache.vH;rw[zdI];have:(ca.l.filter λe=>(decide (0<=ak) && decide (e.ak.tmod ca.sets=ak.tmod ca.sets)) && q e)=((ca.l.filter λe=>decide (0<=ak) && decide (e.ak.tmod ca.sets=ak.tmod ca.sets))).filter q:=by
  rw[zdI]
  apply zdl
  intro x _;rw[Bool.and_comm]
 rw[this];exact zb9 _ _
def Iz(ca:Cache)(ak k:Int){f:Ent->Ent}(b:∀x∈ca.l,(f x).ak=x.ak):(({ ca with l:=ca.l.map f,dM:=k }:Cache).vH ak).length=(ca.vH ak).length:=by
 unfold Cache.vH;rw[List.filter_map,zaz]
 congr 1
 apply zdl
 intro y d;simp only[Function.comp,b y d]
def EZ.put {c:Cfg}{ca:Cache}(I:EZ c ca){e:Ent}(h0:0<=e.ak)(k:e.ak<c.aO)(hd:pG c e.data):EZ c (ca.put e).1:=by
 cases i:ca.find e.ak with
 |some x=>
  obtain⟨m,n⟩:=(jm I.aO).1 i;rw[nG I.aO h0 i];refine⟨I.sets,I.ways,AA I.aO λy _=>?_,aaU I.aeU λy g=>?_,λy g=>?_,λak=>?_,I.akf⟩
  ·split
   ·rename_i h;exact h.symm
   ·rfl
  ·split
   ·rename_i h;rw[I.aO.inj g m (by rw[h,n])]
   ·rfl
  ·obtain⟨z,q,rfl⟩:=zaM.1 g;split
   ·exact⟨h0,k,(I.ent x m).used,(I.ent x m).u0,hd⟩
   ·exact I.ent z q
  ·have:=Iz ca ak ca.dM (f:=λy=>if y.ak=e.ak then { e with used:=x.used } else y) (λy _=>by
    split
    ·rename_i h;exact h.symm
    ·rfl)
   have o:=I.room ak;rw[<-this]at o;exact o
 |none=>
  unfold Cache.put;rw[if_neg V,Iw.2 i];simp only;split
  ·exact I
  ·rename_i d;have u:=Ar.1 (show(ca.l.find? λx=>decide (x.ak=e.ak))=none from i);refine⟨I.sets,I.ways,?_,?_,λy g=>?_,λak=>?_,by have:=I.akf;simp only;omega⟩
   ·unfold Lines;rw[List.pairwise_append];exact⟨I.aO,O,λa ha b hb=>by rw[zaV.1 hb];exact u a ha⟩
   ·unfold YA;rw[List.pairwise_append];refine⟨I.aeU,O,λa ha b hb=>?_⟩;rw[zaV.1 hb];have:=(I.ent a ha).used;simp only;omega
   ·rcases zaQ.1 g with g|g
    ·have:=I.ent y g;exact⟨this.lo,this.hi,by have:=this.used;simp only;omega,this.u0,this.dat⟩
    ·rw[zaV.1 g];exact⟨h0,k,by simp only;omega,by have:=I.akf;simp only;omega,hd⟩
   ·simp only[Cache.full,i,zdf,zaJ,decide_eq_true_eq]at d;have p:=I.room ak;unfold Cache.vH at d p ⊢;simp only[zcr,zar];by_cases j:(decide (0<=ak) && decide (e.ak.tmod ca.sets=ak.tmod ca.sets))=true
    ·simp only[zah,decide_eq_true_eq]at j;have:(ca.l.filter λx=>decide (0<=ak) && decide (x.ak.tmod ca.sets=ak.tmod ca.sets))=ca.l.filter λx=>decide (0<=e.ak) && decide (x.ak.tmod ca.sets=e.ak.tmod ca.sets):=by
      apply zdl
      intro x _;rw[j.2];simp[j.1,h0]
     rw[this];have k:(([({ e with used:=ca.dM+1 }:Ent)].filter λx=>decide (0<=ak) && decide (x.ak.tmod ca.sets=ak.tmod ca.sets)).length)<=1:=zb9 _ _;omega
    ·have:([({ e with used:=ca.dM+1 }:Ent)].filter λx=>decide (0<=ak) && decide (x.ak.tmod ca.sets=ak.tmod ca.sets))=[]:=by
      simp only[zb2,List.filter_nil];rw[if_neg j]
     rw[this];simp only[zan,zbL];exact p
def EZ.drop {c:Cfg}{ca:Cache}(I:EZ c ca)(b:Int):EZ c (ca.drop b):=by
 rw[Uo I.aO];refine⟨I.sets,I.ways,I.aO.filter _,I.aeU.filter _,λe d=>I.ent e (zbv.1 d).1,λak=>?_,I.akf⟩;have:=I.room ak;have g:(({ ca with l:=ca.l.filter λx=>decide (x.ak≠b) }:Cache).vH ak).length<=(ca.vH ak).length:=AB _ _;simp only at g ⊢;omega
def EZ.touch {c:Cfg}{ca:Cache}(I:EZ c ca){ak:Int}{e:Ent}(h:ca.find ak=some e):EZ c (ca.touch ak):=by
 obtain⟨k,j⟩:=(jm I.aO).1 h;rw[EY I.aO h];refine⟨I.sets,I.ways,AA I.aO λy _=>?_,?_,λy m=>?_,λd=>?_,by have:=I.akf;simp only;omega⟩
 ·split
  ·rename_i h;rw[h];exact j
  ·rfl
 ·unfold YA;rw[zcj];refine(I.aO.and I.aeU).imp_of_mem λ{a b} ha hb g=>?_;have p:=(I.ent a ha).used;have q:=(I.ent b hb).used;split <;> split
  ·rename_i n i;exact absurd (by rw[n,i]) g.1
  ·simp only;omega
  ·simp only;omega
  ·exact g.2
 ·obtain⟨z,o,rfl⟩:=zaM.1 m;split
  ·have:=I.ent e k;exact⟨this.lo,this.hi,by simp only;omega,by have:=I.akf;simp only;omega,this.dat⟩
  ·have:=I.ent z o;exact⟨this.lo,this.hi,by have:=this.used;simp only;omega,this.u0,this.dat⟩
 ·have:=Iz ca d (ca.dM+1) (f:=λx=>if x.ak=ak then { e with used:=ca.dM+1 } else x) (λy _=>by
   split
   ·rename_i h;rw[h];exact j
   ·rfl)
  have i:=I.room d;rw[<-this]at i;exact i
def aeV {ca:Cache}(d:Lines ca.l){e x:Ent}(h0:0<=e.ak)(g:ca.find e.ak=some x)(ak:Int):(ca.put e).1.full ak=ca.full ak:=by
 obtain⟨n,k⟩:=(jm d).1 g;rw[nG d h0 g];have hm:∀y∈ca.l,(if y.ak=e.ak then { e with used:=x.used } else y).ak=y.ak:=λy _=>by
  split
  ·rename_i h;exact h.symm
  ·rfl
 have i:({ ca with l:=ca.l.map λy=>if y.ak=e.ak then { e with used:=x.used } else y }:Cache).find ak=none↔ca.find ak=none:=by
  unfold Cache.find;rw[Ar,Ar];constructor
  ·intro h y b;have:=h _ (zaM.2 ⟨y,b,rfl⟩)
   rwa [hm y b]at this
  ·intro h y b;obtain⟨z,j,rfl⟩:=zaM.1 b;rw[hm z j];exact h z j
 have m:(({ ca with l:=ca.l.map λy=>if y.ak=e.ak then { e with used:=x.used } else y }:Cache).vH ak).length=(ca.vH ak).length:=by
  unfold Cache.vH;rw[List.filter_map,zaz]
  congr 1
  apply zdl
  intro y b;simp only[Function.comp,hm y b]
 unfold Cache.full;rw[m]
 congr 1
 cases ha:ca.find ak with
 |none=>rw[i.2 ha]
 |some u=>
  cases hb:({ ca with l:=ca.l.map λy=>if y.ak=e.ak then { e with used:=x.used } else y }:Cache).find ak with
  |none=>rw[i.1 hb]at ha;cases ha
  |some v=>rfl
def AL {α:Type}{p q:α->Bool}:∀{l:List α},(∀x∈l,q x=true->p x=true)->∀{a:α},a∈l->p a=true->q a=false->(l.filter q).length<(l.filter p).length
 |[],_,a,h,_,_=>by cases h
 |x::l,b,a,h,k,m=>by
  have g:∀{l:List α},(∀x∈l,q x=true->p x=true)->(l.filter q).length<=(l.filter p).length:=by
   intro l b
   induction l with
   |nil=>simp
   |cons y l i=>
    have:=i λz d=>b z (by simp[d]);simp only[zb2];cases j:q y
    ·simp only[zal,if_false];split
     ·simp only[zak];omega
     ·exact this
    ·rw[b y O j];simp only[if_true,zak];omega
  simp only[zb2];rcases zao.1 h with e|h
  ·subst e;rw[k,m];simp only[if_true,zal,if_false,zak];have:=g λz d=>b z (zbb _ d);omega
  ·have i:=AL (λz d=>b z (zbb _ d)) h k m;cases j:q x
   ·simp only[zal,if_false];split
    ·simp only[zak];omega
    ·exact i
   ·rw[b x O j];simp only[if_true,zak];omega
def aaV {c:Cfg}(hc:c.ok=true){ca:Cache}(I:EZ c ca){b ak:Int}(h:ca.full ak=false):(ca.drop b).full ak=false:=by
 rw[Uo I.aO];unfold Cache.full at h ⊢;have k:(({ ca with l:=ca.l.filter λx=>decide (x.ak≠b) }:Cache).vH ak).length<=(ca.vH ak).length:=AB _ _;cases j:ca.find ak with
 |none=>
  rw[j]at h;simp only[zdf,zaJ,decide_eq_false_iff_not]at h;simp only[zc0,decide_eq_false_iff_not];right;omega
 |some e=>
  obtain⟨d,g⟩:=(jm I.aO).1 j;by_cases i:ak=b
  ·subst i;simp only[zc0,decide_eq_false_iff_not];right;have n:=I.room ak;have o:=(I.ent e d).lo;have m:(({ ca with l:=ca.l.filter λx=>decide (x.ak≠ak) }:Cache).vH ak).length<(ca.vH ak).length:=by
    unfold Cache.vH;rw[zdI];refine AL (λx _ h=>?_) d ?_ ?_
    ·simp only[zah]at h ⊢;exact h.1
    ·rw[g];simp;omega
    ·simp[g]
   omega
  ·have:({ ca with l:=ca.l.filter λx=>decide (x.ak≠b) }:Cache).find ak=some e:=by
    unfold Cache.find;rw[jm (I.aO.filter _)];refine⟨zbv.2 ⟨d,?_⟩,g⟩;simp only[decide_eq_true_eq];omega
   rw[this];rfl
abbrev By:=BitVec 8
abbrev S16:=BitVec 16
def shS(s:S16):S16:=(s <<< 1) ^^^ (if s.msb then 0x1021#16 else 0#16)
def shN:Nat->S16->S16
 |0,s=>s
 |n+1,s=>shN n (shS s)
def ZC(s:S16)(c:By):S16:=shN 8 (s ^^^ (c.setWidth 16 <<< 8))
def vI(s:S16)(l:List By):S16:=l.foldl ZC s
def ZE(s:S16):By:=(s >>> 8).setWidth 8
def ZF(s:S16):By:=s.setWidth 8
def jQ(l:List By):List By:=l++[ZE (vI 0xffff#16 l),ZF (vI 0xffff#16 l)]
def aeW:shS 0#16=0#16:=J
def aaW(s t:S16):shS (s ^^^ t)=shS s ^^^ shS t:=by
 unfold shS;rw[BitVec.msb_xor,BitVec.shiftLeft_xor_distrib];cases s.msb <;> cases t.msb <;> simp
 ·rw[zbw]
 ·rw[zbw,zbw,BitVec.xor_comm (t <<< 1)]
 ·rw[zbw,<-zbw 4129#16,BitVec.xor_comm 4129#16,zbw,zcR,zdx]
def aeX {s:S16}(h:shS s=0#16):s=0#16:=by
 unfold shS at h;cases hm:s.msb with
 |true=>
  rw[hm]at h;have:=congrArg (λv:S16=>v.getLsbD 0) h;simp at this
 |false=>
  rw[hm]at h;simp only[zal,if_false,zdx]at h
  apply zcm
  intro i hi;by_cases b:i=15
  ·subst b;have:s.getLsbD 15=s.msb:=by simp[BitVec.msb_eq_getLsbD_last]
   rw[this,hm];simp
  ·have:=congrArg (λv:S16=>v.getLsbD (i+1)) h;simp only[zce,BitVec.getLsbD_zero]at this;have d:i+1<16:=V
   simp[d]at this
   simpa using this
def NM:∀n,shN n 0#16=0#16
 |0=>rfl
 |n+1=>by rw[shN,aeW,NM n]
def aaX:∀n (s t:S16),shN n (s ^^^ t)=shN n s ^^^ shN n t
 |0,_,_=>rfl
 |n+1,s,t=>by rw[shN,aaW,aaX n];rfl
def NP:∀n {s:S16},shN n s=0#16->s=0#16
 |0,_,h=>h
 |n+1,s,h=>aeX (NP n h)
def amc(b:Bool):S16:=if b then 0x8000#16 else 0#16
def Eb(s:S16)(b:Bool):S16:=shS (s ^^^ amc b)
def Ur:List Bool->S16
 |[]=>0#16
 |b::l=>amc b ^^^ (Ur l >>> 1)
def akh:∀i:Fin 16,(0x8000#16).getLsbD i.val=decide (i.val=15):=J
def aeY(b:Bool){i:Nat}(h:i<16):(amc b).getLsbD i=(b && decide (i=15)):=by
 unfold amc;cases b
 ·simp
 ·simp only[if_true,zaJ];exact akh ⟨i,h⟩
def AO:∀(l:List Bool) (i:Nat),l.length<=16->i<16->(Ur l).getLsbD i=(l[15-i]?).getD false
 |[],i,_,_=>by simp[Ur]
 |b::l,i,h,hi=>by
  simp only[zak]at h;rw[Ur,BitVec.getLsbD_xor,zc9,aeY b hi];by_cases d:i=15
  ·subst d;have:(Ur l).getLsbD (1+15)=false:=BitVec.getLsbD_of_ge _ _ V;rw[this];simp
  ·rw[AO l (1+i) V V];have e:15-i=(15-(1+i))+1:=V
   rw[e,zbe];simp[d]
def yc:∀(l:List Bool) (s:S16),l.length<=16->l.foldl Eb s=shN l.length (s ^^^ Ur l)
 |[],s,_=>by simp[Ur,shN]
 |b::l,s,h=>by
  simp only[zak]at h;rw[zbW,yc l _ V];show shN l.length (Eb s b ^^^ Ur l)=shN l.length (shS (s ^^^ Ur (b::l)))
  congr 1
  rw[Ur,<-zbw,aaW];unfold Eb
  congr 1
  unfold shS;have hm:(Ur l >>> 1).msb=false:=by simp[BitVec.msb_ushiftRight]
  rw[hm];simp only[zal,if_false,zdx];have d:(Ur l).getLsbD 0=false:=by
   rw[AO l 0 V V,zaI V];rfl
  apply zcm
  intro i hi;rw[zce,zc9];cases i with
  |zero=>rw[d];simp
  |succ i=>
   have e:1+(i+1-1)=i+1:=V
   have g:¬(i+1<1):=V
   rw[e];simp[hi,g]
def aaY {l:List Bool}(h:l.length<=16)(h0:Ur l=0#16):∀b∈l,b=false:=by
 intro b hb;obtain⟨k,hk,rfl⟩:=zc8.1 hb;have:=AO l (15-k) h V;rw[h0,show 15-(15-k)=k by omega,zab hk]at this
 simpa using this.symm
def xk(c:By):List Bool:=[c.getLsbD 7,c.getLsbD 6,c.getLsbD 5,c.getLsbD 4,c.getLsbD 3,c.getLsbD 2,c.getLsbD 1,c.getLsbD 0]
def yM(l:List By):List Bool:=l.flatMap xk
def aaZ(c:By):Ur (xk c)=c.setWidth 16 <<< 8:=by
 apply zcm
 intro i hi;rw[AO _ _ (by simp[xk]) hi,zce,BitVec.getLsbD_setWidth];rcases(show i=0∨i=1∨i=2∨i=3∨i=4∨i=5∨i=6∨i=7∨i=8∨i=9∨i=10∨i=11∨i=12∨i=13∨i=14∨i=15 by omega)with h|h|h|h|h|h|h|h|h|h|h|h|h|h|h|h <;> subst h <;> simp[xk]
def aa0(s:S16)(c:By):ZC s c=(xk c).foldl Eb s:=by
 rw[yc _ _ (by simp[xk]),aaZ];rfl
def CV:∀(l:List By) (s:S16),vI s l=(yM l).foldl Eb s
 |[],s=>rfl
 |c::l,s=>by
  show vI (ZC s c) l=_;rw[CV l,aa0];show _=(xk c++yM l).foldl Eb s;rw[zdm]
def rM(l:List By):(yM l).length=8*l.length:=by
 unfold yM
 induction l with
 |nil=>rfl
 |cons c l b=>rw[zaE,zar,b];simp[xk];omega
def QM(l:List By):vI 0xffff#16 (jQ l)=0#16:=by
 unfold jQ;obtain⟨s,b⟩:∃s,s=vI 0xffff#16 l:=⟨_,rfl⟩
 rw[<-b];unfold vI at b ⊢;rw[zdm,<-b];show vI s [ZE s,ZF s]=0#16;rw[CV,yc _ _ (by rw[rM];simp)];have:Ur (yM [ZE s,ZF s])=s:=by
  apply zcm
  intro i hi;rw[AO _ _ (by rw[rM];simp) hi];have e:yM [ZE s,ZF s]=[s.getLsbD 15,s.getLsbD 14,s.getLsbD 13,s.getLsbD 12,s.getLsbD 11,s.getLsbD 10,s.getLsbD 9,s.getLsbD 8,s.getLsbD 7,s.getLsbD 6,s.getLsbD 5,s.getLsbD 4,s.getLsbD 3,s.getLsbD 2,s.getLsbD 1,s.getLsbD 0]:=by
   simp[yM,xk,ZE,ZF,zaE]
  rw[e];rcases(show i=0∨i=1∨i=2∨i=3∨i=4∨i=5∨i=6∨i=7∨i=8∨i=9∨i=10∨i=11∨i=12∨i=13∨i=14∨i=15 by omega)with h|h|h|h|h|h|h|h|h|h|h|h|h|h|h|h <;> subst h <;> rfl
 rw[this,zcR,NM]
def YC(l m:List By):List By:=List.zipWith (· ^^^ ·) l m
def aeZ(s t:S16)(c d:By):ZC (s ^^^ t) (c ^^^ d)=ZC s c ^^^ ZC t d:=by
 unfold ZC;rw[<-aaX]
 congr 1
 rw[BitVec.setWidth_xor,BitVec.shiftLeft_xor_distrib];rw[zbw,zbw]
 congr 1
 rw[<-zbw,<-zbw,BitVec.xor_comm t]
def QN:∀(l m:List By) (s t:S16),l.length=m.length->vI (s ^^^ t) (YC l m)=vI s l ^^^ vI t m
 |[],[],s,t,_=>rfl
 |c::l,d::m,s,t,h=>by
  show vI (ZC (s ^^^ t) (c ^^^ d)) (YC l m)=vI (ZC s c) l ^^^ vI (ZC t d) m;rw[aeZ,QN l m _ _ (by simpa using h)]
 |[],_::_,_,_,h=>by simp at h
 |_::_,[],_,_,h=>by simp at h
def CW:∀(l:List Bool) (s:S16),(∀b∈l,b=false)->l.foldl Eb s=shN l.length s
 |[],s,_=>rfl
 |b::l,s,h=>by
  have hb:=h b O;subst hb;rw[zbW,CW l _ λb hb=>h b (by simp[hb])];show shN l.length (shS (s ^^^ amc false))=shN l.length (shS s);simp[amc]
def YD {B:List Bool}{a:Int}(h:∀(k:Nat),B[k]?=some true->a<=k/\(k:Int)<a+16)(h0:B.foldl Eb 0#16=0#16):∀b∈B,b=false:=by
 obtain⟨p,n⟩:∃p,p=a.toNat:=⟨_,rfl⟩
 have g:B=B.take p++((B.drop p).take 16++(B.drop p).drop 16):=by rw[zb5,zb5]
 have i:∀b∈B.take p,b=false:=by
  intro b hb;obtain⟨k,hk,rfl⟩:=zc8.1 hb;cases d:(B.take p)[k]with
  |false=>rfl
  |true=>
   have e:k<p:=by rw[zau]at hk;omega
   have:B[k]?=some true:=by
    rw[<-d,<-zab hk,zaC,if_pos e]
   have:=h k this;omega
 have j:∀b∈(B.drop p).drop 16,b=false:=by
  intro b hb;obtain⟨k,hk,rfl⟩:=zc8.1 hb;cases d:((B.drop p).drop 16)[k]with
  |false=>rfl
  |true=>
   have:B[p+(16+k)]?=some true:=by
    rw[<-d,<-zab hk,zaH,zaH]
   have:=h _ this;omega
 rw[g,zdm,zdm,CW _ _ i,NM,CW _ _ j,yc _ _ (by rw[zau];omega),BitVec.zero_xor]at h0;have m:=aaY (by rw[zau];omega) (NP _ (NP _ h0));intro b hb;rw[g]at hb;rcases zaQ.1 hb with hb|hb
 ·exact i b hb
 ·rcases zaQ.1 hb with hb|hb
  ·exact m b hb
  ·exact j b hb
def ae0 {c d:By}(h:∀b∈xk (c ^^^ d),b=false):c=d:=by
 apply zcm
 intro i hi;have key:(c ^^^ d).getLsbD i=false:=by
  apply h
  rcases(show i=0∨i=1∨i=2∨i=3∨i=4∨i=5∨i=6∨i=7 by omega)with h|h|h|h|h|h|h|h <;> subst h <;> simp[xk]
 rw[BitVec.getLsbD_xor]at key;cases e:c.getLsbD i <;> cases g:d.getLsbD i <;> simp[e,g]at key ⊢
def IB:∀{l m:List By},l.length=m.length->(∀b∈yM (YC l m),b=false)->l=m
 |[],[],_,_=>rfl
 |c::l,d::m,h,hb=>by
  have e:yM (YC (c::l) (d::m))=xk (c ^^^ d)++yM (YC l m):=rfl;rw[e]at hb;rw[ae0 λb h=>hb b (zc5 _ h),IB (by simpa using h) λb h=>hb b (zdv _ h)]
 |[],_::_,h,_=>by simp at h
 |_::_,[],h,_=>by simp at h
def Us {x y:List By}{a:Int}(b:(jQ x).length=(jQ y).length)(h:∀(k:Nat),(yM (YC (jQ x) (jQ y)))[k]?=some true->a<=k/\(k:Int)<a+16):jQ x=jQ y:=by
 refine IB b (YD h ?_);rw[<-CV];have:=QN (jQ x) (jQ y) 0xffff#16 0xffff#16 b;rw[zcR,QM,QM,zcR]at this;exact this
def ahB(bit mask:Int)(k:Nat):Bool:=decide (0<=(k:Int)-bit) && decide ((k:Int)-bit<16) && mask.toNat.testBit (15-((k:Int)-bit).toNat)
def vJ(bit mask:Int)(at_:Nat):By:=
 if 8*(at_:Int)-bit<=-8∨16<=8*(at_:Int)-bit then 0#8 else(((BitVec.ofNat 32 mask.toNat) <<< 8 <<< (8*(at_:Int)-bit+8).toNat) >>> 24).setWidth 8
def qF(bit mask:Int)(l:List By):List By:=l.mapIdx λi c=>c ^^^ vJ bit mask i
def Ut {m k:Nat}(hm:m<=65535)(hk:16<=k):m.testBit k=false:=by
 apply Nat.testBit_lt_two_pow
 calc m<2 ^ 16:=V
  _<=2 ^ k:=Nat.pow_le_pow_right J hk
def aa1 {bit mask:Int}(h0:0<=mask)(v:mask<=65535)(at_ j:Nat)(g:j<8):(vJ bit mask at_).getLsbD j=ahB bit mask (8*at_+(7-j)):=by
 unfold vJ ahB;obtain⟨y,i⟩:∃y:Int,y=8*(at_:Int)-bit:=⟨_,rfl⟩
 have hk:((8*at_+(7-j):Nat):Int)-bit=y+(7-(j:Int)):=V
 rw[<-i,hk];by_cases h:y<=-8∨16<=y
 ·rw[if_pos h];simp only[BitVec.getLsbD_zero];rcases h with h|h
  ·have:¬(0<=y+(7-(j:Int))):=V
   simp[this]
  ·have:¬(y+(7-(j:Int))<16):=V
   simp[this]
 ·rw[if_neg h];simp only[not_or]at h;obtain⟨n,k⟩:∃n:Nat,n=(y+8).toNat:=⟨_,rfl⟩
  rw[<-k];rw[BitVec.getLsbD_setWidth,zc9,zce,zce,BitVec.getLsbD_ofNat];have m:24+j<32:=V
  have o:¬(24+j<n):=V
  have p:24+j-n<32:=V
  by_cases b:24+j-n<8
  ·have:¬(y+(7-(j:Int))<16):=V
   simp[b,this]
  ·have q:24+j-n-8<32:=V
   have u:y+(7-(j:Int))<16:=V
   by_cases d:0<=y+(7-(j:Int))
   ·have e:24+j-n-8=15-(y+(7-(j:Int))).toNat:=V
    simp only[g,m,o,p,q,b,d,u,decide_true,decide_false,zai,zaJ,zcz];rw[e]
   ·have:mask.toNat.testBit (24+j-n-8)=false:=Ut V V;simp[this,d]
def jo(bit mask:Int)(l:List By):(qF bit mask l).length=l.length:=by simp[qF]
def aa2(c:By)(j:Nat)(b:j<8):(xk c)[j]?=some (c.getLsbD (7-j)):=by
 rcases(show j=0∨j=1∨j=2∨j=3∨j=4∨j=5∨j=6∨j=7 by omega)with h|h|h|h|h|h|h|h <;> subst h <;> rfl
def IC:∀(l:List By) (k:Nat),(yM l)[k]?=(l[k / 8]?).map λc=>c.getLsbD (7-k % 8)
 |[],k=>by simp[yM]
 |c::l,k=>by
  have b:yM (c::l)=xk c++yM l:=rfl;rw[b];by_cases h:k<8
  ·rw[zaG (by simp[xk];exact h),aa2 c k h,show k / 8=0 by omega,show k % 8=k by omega];rfl
  ·rw[za2 (by simp[xk];omega)];have:(xk c).length=8:=rfl;rw[this,IC l (k-8),show k / 8=(k-8) / 8+1 by omega,show k % 8=(k-8) % 8 by omega];rfl
def CX {bit mask:Int}(h0:0<=mask)(b:mask<=65535)(l:List By)(k:Nat)(hk:k<8*l.length):(yM (YC l (qF bit mask l)))[k]?=some (ahB bit mask k):=by
 rw[IC];have hi:k / 8<l.length:=V
 have:(YC l (qF bit mask l))[k / 8]?=some (vJ bit mask (k / 8)):=by
  unfold YC qF;rw[zdw,za9,zab hi];simp only[zaj]
  congr 1
  rw[<-zbw,zcR,BitVec.zero_xor]
 rw[this,zaj,aa1 h0 b _ _ V]
 congr 2
 omega
def QO {n:Nat}{bit mask:Int}:bf n bit mask=true↔∃k:Nat,k<8*n/\ahB bit mask k=true:=by
 unfold bf;rw[zc6];constructor
 ·rintro⟨i,hi,h⟩;rw[za0]at hi;simp only[zah,decide_eq_true_eq]at h;obtain⟨⟨a,b⟩,c⟩:=h;refine⟨(bit+i).toNat,V,?_⟩;unfold ahB;have e:(((bit+i).toNat:Nat):Int)-bit=i:=V
  rw[e];simp only[zah,decide_eq_true_eq];refine⟨⟨V,V⟩,?_⟩;rw[zam,zdr];rw[zcG]at a
  simpa using a
 ·rintro⟨k,hk,h⟩;unfold ahB at h;simp only[zah,decide_eq_true_eq]at h;obtain⟨⟨a,b⟩,c⟩:=h;refine⟨((k:Int)-bit).toNat,za0.2 V,?_⟩;simp only[zah,decide_eq_true_eq];refine⟨⟨?_,V⟩,V⟩;rw[zdr]at c;rw[zcG]
  simpa using c
def YE {bit mask:Int}(h0:0<=mask)(e:mask<=65535){l:List By}(h:bf l.length bit mask=false):qF bit mask l=l:=by
 have g:l.length=(qF bit mask l).length:=(jo _ _ _).symm;refine(IB g λb hb=>?_).symm;obtain⟨k,hk,rfl⟩:=zc8.1 hb;have d:k<8*l.length:=by
  rw[rM]at hk;unfold YC at hk;rw[List.length_zipWith]at hk;omega
 have:=CX (bit:=bit) h0 e l k d;rw[zab hk,zaa]at this;rw[this];cases i:ahB bit mask k with
 |false=>rfl
 |true=>
  have:=QO.2 ⟨k,d,i⟩;rw[h]at this;cases this
def Uu {bit mask:Int}(h0:0<=mask)(g:mask<=65535){x y:List By}(h:bf (jQ x).length bit mask=true):qF bit mask (jQ x)≠jQ y:=by
 intro e;have j:(jQ x).length=(jQ y).length:=by rw[<-e,jo]
 have m:=Us (a:=bit) j λk hk=>by
  rw[<-e]at hk;have d:k<8*(jQ x).length:=by
   have b:=(zaf.1 hk).1;rw[rM]at b;unfold YC at b;rw[List.length_zipWith]at b;omega
  rw[CX h0 g _ k d]at hk;simp only[zaa]at hk;unfold ahB at hk;simp only[zah,decide_eq_true_eq]at hk;omega
 obtain⟨k,hk,n⟩:=QO.1 h;have:=CX (bit:=bit) h0 g (jQ x) k hk;rw[e,<-m,n,IC]at this;have o:∀l:List By,YC l l=l.map λ_=>0#8:=by
  intro l
  induction l with
  |nil=>rfl
  |cons c l p=>
   show(c ^^^ c)::YC l l=_;rw[p,zcR];rfl
 rw[o,zaw]at this;cases i:(jQ x)[k / 8]? with
 |none=>rw[i]at this;cases this
 |some c=>rw[i]at this;simp at this
def by8(n:Int):By:=BitVec.ofInt 8 n
def qR(n:Int):List By:=[by8 (n.fdiv (2 ^ 56)),by8 (n.fdiv (2 ^ 48)),by8 (n.fdiv (2 ^ 40)),by8 (n.fdiv (2 ^ 32)),by8 (n.fdiv (2 ^ 24)),by8 (n.fdiv (2 ^ 16)),by8 (n.fdiv (2 ^ 8)),by8 (n.fdiv (2 ^ 0))]
def fG(p:Pkt):List By:=[by8 p.aU,by8 p.src,by8 p.dst,by8 (p.id.fdiv 256),by8 p.id,by8 p.ak,by8 (p.ptr+1),by8 p.state,by8 (if p.flag then 1 else 0),by8 p.data.length]++p.data.flatMap qR
def sS(p:Pkt):List By:=jQ (fG p)
def jK(n:Int):(qR n).length=8:=rfl
def rO(p:Pkt):(sS p).length=p.bytes:=by
 unfold sS jQ fG Pkt.bytes;rw[zar,zar,dF NQ];simp;omega
where
 NQ:∀n,(qR n).length=8:=λ_=>rfl
 dF {α β:Type} {f:α->List β} {m:Nat} (h:∀a,(f a).length=m):∀{l:List α},(l.flatMap f).length=l.length*m:=by
  intro l
  induction l with
  |nil=>simp
  |cons a l b=>rw[zaE,zar,h,b,zak,zbD];omega
section
variable {P:Program}{t:TypeId}{k k':IntKind}{a b n:Int}
def aa3(h:0<=n):pY P .shl t (.s (.int k a)) (.s (.int k' n))=some (.s (.int k (k.wrap (a*2 ^ (min n.toNat k.bits))))):=by
 have:¬n<0:=V
 simp[pY,AV.val?,eqGuard,binOp,Op.shift,dO,this]
def Uw(h:0<=n):pY P .shr t (.s (.int k a)) (.s (.int k' n))=some (.s (.int k (a.fdiv (2 ^ (min n.toNat k.bits))))):=by
 have:¬n<0:=V
 simp[pY,AV.val?,eqGuard,binOp,Op.shift,dO,this]
def aki:pY P .xor t (.s (.int k a)) (.s (.int k b))=some (.s (.int k (k.wrap (BitVec.ofInt k.bits a ^^^ BitVec.ofInt k.bits b).toNat))):=by
 simp[pY,AV.val?,eqGuard,binOp,Op.intBits,dO]
def ahC:pY P .or t (.s (.int k a)) (.s (.int k b))=some (.s (.int k (k.wrap (BitVec.ofInt k.bits a ||| BitVec.ofInt k.bits b).toNat))):=by
 simp[pY,AV.val?,eqGuard,binOp,Op.intBits,dO]
end
def U(k:IntKind)(v:BitVec k.bits):AV:=.s (.int k (v.toNat:Int))
abbrev Y(c:By):AV:=U .u8 c
abbrev U16(s:S16):AV:=U .u16 s
abbrev U32(s:BitVec 32):AV:=U .u32 s
abbrev U64(s:BitVec 64):AV:=U .u64 s
def ahD {k:IntKind}(hk:k.signed=false)(z:Int):k.wrap z=z % (2 ^ k.bits:Int):=by simp[IntKind.wrap,hk]
def AP {k:IntKind}(hk:k.signed=false)(m:Nat):k.wrap (m:Int)=((BitVec.ofNat k.bits m).toNat:Int):=by
 rw[ahD hk,zct]
 norm_cast
def qG {w:Nat}(v:BitVec w):BitVec.ofInt w (v.toNat:Int)=v:=by
 rw[zdy,zdJ,BitVec.setWidth_eq]
def WB {k:IntKind}(hk:k.signed=false)(v:BitVec k.bits):k.wrap (v.toNat:Int)=(v.toNat:Int):=by
 rw[AP hk,zdJ,BitVec.setWidth_eq]
section
variable {P:Program}{t:TypeId}{k k':IntKind}
def akj(hk:k.signed=false)(x y:BitVec k.bits):pY P .xor t (U k x) (U k y)=some (U k (x ^^^ y)):=by
 unfold U;rw[aki,qG,qG,WB hk]
def avt(hk:k.signed=false)(x y:BitVec k.bits):pY P .or t (U k x) (U k y)=some (U k (x ||| y)):=by
 unfold U;rw[ahC,qG,qG,WB hk]
def aa4(hk:k.signed=false)(x:BitVec k.bits)(n:Int)(h0:0<=n)(h:n<=k.bits):pY P .shl t (U k x) (.s (.int k' n))=some (U k (x <<< n.toNat)):=by
 unfold U;rw[aa3 h0,show min n.toNat k.bits=n.toNat by omega];have:((x.toNat:Int)*2 ^ n.toNat)=((x.toNat*2 ^ n.toNat:Nat):Int):=by norm_cast
 rw[this,AP hk,zct,BitVec.toNat_shiftLeft,zds]
def akk(x:BitVec k.bits)(n:Int)(h0:0<=n)(h:n<=k.bits):pY P .shr t (U k x) (.s (.int k' n))=some (U k (x >>> n.toNat)):=by
 unfold U;rw[Uw h0,show min n.toNat k.bits=n.toNat by omega,BitVec.toNat_ushiftRight,zcG];have:(2:Int) ^ n.toNat=((2 ^ n.toNat:Nat):Int):=by norm_cast
 rw[this,zb1 _ (Int.natCast_nonneg _)]
 norm_cast
def asJ(hk:k.signed=false)(x y:BitVec k.bits):pY P .mul t (U k x) (U k y)=some (U k (x*y)):=by
 unfold U;rw[iM];have:((x.toNat:Int)*y.toNat)=((x.toNat*y.toNat:Nat):Int):=by norm_cast
 rw[this,AP hk,zct,BitVec.toNat_mul]
def anv(hk:k'.signed=false)(x:BitVec k.bits):(AV.s (.int k' (k'.wrap (x.toNat:Int))))=U k' (x.setWidth k'.bits):=by
 unfold U;rw[AP hk,zdJ]
end
def ae1(l:List By):(l.map Y).all AV.aS=true:=by
 rw[za6];intro x b;obtain⟨c,_,rfl⟩:=zaM.1 b;rfl
def yOf:AV->Option By
 |.s (.int .u8 n)=>if 0<=n/\n<256 then some (BitVec.ofInt 8 n)else none
 |_=>none
def IE(x:AV)(H:ah):Option (List By):=
 match x with
 |.sl r g off b n _ _=>match H.get r with
  |.blk g' _ cells=>if b=1/\g'=g/\off+n<=cells.length/\0<n/\n<=800 then((cells.drop off).take n).mapM yOf else none
  |_=>none
 |_=>none
structure Pkt.fit(p:Pkt):Prop where
 ok:p.ok=true
 num:∀v∈p.data,I64 v
open Classical in
def CY(args:List AV)(H:ah):Option (AV × ah):=
 match args with
 |[x]=>match IE x H with
  |some l=>if h:∃p:Pkt,p.fit/\sS p=l then some (.tup [.agg (Classical.choose h).av,I 0],H)
   else if(∀y,l≠jQ y)then some (.tup [.agg Pkt.zero.av,I 2],H)else none
  |none=>none
 |_=>none
def akl:List Nat:=[
 36,
 116,
 132,
 70,
 235,
 159,
 102,
 59,
 60,
 106,
 108,
 109,
 148,
 57,
 42,
 204,
 30,
 51,
 17,
 21,
 68,
 27,
 119,
 33,
 34,
 120,
 76,
 121,
 77,
 173,
 24,
 259,
 266,
 83,
 189,
 82,
 201,
 41,
 151,
 152,
 31,
 124,
 80,
 26,
 55,
 69,
 28,
 236,
 196,
 192,
 200,
 216,
 174,
 92,
 229,
 90,
 193,
 140,
 126,
 203,
 85,
 225,
 226,
 43,
 25,
 9,
 16,
 37,
 38,
 39,
 10,
 11,
 12,
 13,
 47,
 89,
 53,
 100,
 58,
 19,
 18,
 54,
 56,
 103,
 154,
 40,
 81,
 44,
 88,
 99,
 153,
 14,
 0]
def yX:List Nat:=[
 239,
 0]
def rP:List Nat:=[
 87,
 0]
def asK:Pol:=⟨λ_=>false,λ_=>none⟩
def cl0:aA:=callω Tryz.prog asK
def akm:List (Nat × (List AV->ah->Option (AV × ah))):=[
 (45,sQ yX rP),
 (190,cl0 190),
 (129,CY),
 (128,cl0 128),
 (130,cl0 130),
 (0,λ_ _=>none)]
def pol:Pol:=⟨λf=>akl.contains f,λf=>akm.lookup f⟩
def cl:aA:=callω Tryz.prog pol
def WC(f:FuncId)(p:List AV->ah->Option (AV × ah)):Prop:=
 qQ Tryz.prog (λg b H=>if g=f then p b H else none)/\∀b H v H',p b H=some (v,H')->Keeps H H'
def akn(f:FuncId):WC f (cl0 f):=by
 have hc:=callω_ok (P:=Tryz.prog) (L:=asK) (λf p h=>by cases h) Z;refine⟨λg b H v H' h=>?_,λb H v H' h=>hc.2 f b H v H' h⟩;simp only at h;split at h
 ·rename_i e;subst e;exact hc.1 _ b H v H' h
 ·cases h
def iR {f:FuncId}{args:List AV}{H:ah}{r:AV × ah}(h:zT Tryz.prog cl0 f args H=some r):cl0 f args H=some r:=agL rfl rfl h
def bn {f:FuncId}{args:List AV}{H:ah}{r:AV × ah}(b:pol.ad5 f=none)(d:pol.pure f=false)(h:zT Tryz.prog cl f args H=some r):cl f args H=some r:=agL b d h
def iy {f:FuncId}{args:List AV}{H H1:ah}{v v':AV}(b:pol.ad5 f=none)(d:pol.pure f=true)(h:zT Tryz.prog cl f args H.guard=some (v,H1))(e:bV H1 H.next 9 v=some v'):cl f args H=some (v',H):=ajZ b d h e
def kN {f:FuncId}{args:List AV}{H:ah}{v:AV}{Q:ah->Prop}{sh:Option (AV × ah)}(b:pol.ad5 f=none)(d:pol.pure f=false)(rn:∀{r},sh=some r->zT Tryz.prog cl f args H=some r)(h:∃H',sh=some (v,H')/\Q H'):∃H',cl f args H=some (v,H')/\Q H':=by
 obtain⟨H',e,q⟩:=h;exact⟨H',bn b d (rn e),q⟩
def bg {f:FuncId}{args:List AV}{H:ah}{v:AV}{sh:Option (AV × ah)}(d:pol.ad5 f=none)(e:pol.pure f=true)(rn:∀{r},sh=some r->zT Tryz.prog cl f args H.guard=some r)(h:sh.map Prod.fst=some v)(g:Frz 9 v):cl f args H=some (v,H):=by
 cases b:sh with
 |none=>rw[b]at h;cases h
 |some r=>
  rw[b]at h;simp only[zaj,zaa]at h;subst h;exact iy d e (rn b) (g _ _)
open Go.RowKit
structure Cho where
 do_:Int
 at_:Int
 bit:Int
 mask:Int
def Cho.av(c:Cho):List AV:=[I c.do_,I c.at_,I c.bit,.s (.int .u16 c.mask)]
def ako(c:Cho):c.av.all AV.aS=true:=by simp[Cho.av,iI]
structure Cho.In(c:Cho):Prop where
 do_:qC c.do_
 at_:qC c.at_
 bit:qC c.bit
 mask0:0<=c.mask
 mask:c.mask<=65535
structure ahE(av:AV)(cs:List Cho):Prop where
 is:aH ah.empty av 4 cs.length (cs.flatMap Cho.av)
 wf:∀c∈cs,c.In
 cell:av.aS=true
def akp(zs:List Int):Cho:=⟨zs.getD 0 0,zs.getD 1 0,zs.getD 2 0,zs.getD 3 0⟩
abbrev anw:List IntKind:=[.i64,.i64,.i64,.u16]
def ae2 {zs:List Int}(h:zs.length=4):ints anw zs=(akp zs).av:=by
 match zs,h with
 |[a,b,c,d],_=>rfl
def anx {z:Int}(h:(Lit.int .u16 z).wf=true):0<=z/\z<=65535:=by
 simp[Lit.wf,IntKind.min,IntKind.max,IntKind.signed,IntKind.bits]at h;exact⟨V,V⟩
section
variable {P:Program}{H:Type}{enc:TypeId × Value->H}
def QS {t e:TypeId}(n:P.underlying t=some (.slice e))(o:P.cellsOf e=4)(w:aaP P e anw){W:World}{r:Reach}{y base:Nat}{A:Nat->Bool}{j:Bool}{v:Value}{d:DataW H}{ps:List MemPlace}
  (g:Value.okWide P W r y t v) (h:DataW.Trod enc P W base A j t v d ps):∃(x:AV) (cs:List Cho),RV ρ0 G0 W x v/\ahE x cs:=by
 unfold Value.okWide at g;rw[n]at g;obtain⟨p,q⟩:=h;have hv:v.cells.toList=[v]:=by
  cases v <;> first|rfl|(simp[Cell.okWide,n,Cell.ok]at g)
 rw[hv]at q;obtain⟨av,l,C,m,D⟩:=QB n (ks:=anw) o w g q;have key:∀l:List (List Int),(∀i∈l,i.length=4)->l.flatMap (ints anw)=(l.map akp).flatMap Cho.av:=by
  intro l
  induction l with
  |nil=>intro _;rfl
  |cons i l E=>
   intro h;rw[zaE,zaD,zaE,E λz F=>h z (by simp[F]),ae2 (h i O)]
 refine⟨av,l.map akp,C,⟨?_,λc hc=>?_,D⟩⟩
 ·have:=m.is;rw[key l m.len]at this
  simpa using this
 ·obtain⟨i,k,rfl⟩:=zaM.1 hc;have G:=m.len i k;have hw:=m.wf i k
  match i,G with
  |[a,b,c,d],_=>
   have u:=anx (hw 3 .u16 d rfl rfl);exact⟨ama (hw 0 .i64 a rfl rfl),ama (hw 1 .i64 b rfl rfl),ama (hw 2 .i64 c rfl rfl),u.1,u.2⟩
end
end
end Go.Proofs.YtgplhpgkompkmaaGreat
