/-
  Own work, a part.
-/
import Derived.Test.YtgplhpgkompkmaaGreatProg
import Derived.KernelRfl
import Derived.ProofKit
import Derived.Below
import Derived.Test.YtgplhpgkompkmaaGreatFb
set_option linter.all false
namespace Go.Proofs.YtgplhpgkompkmaaGreat
open Option renaming some->ZC,none->Z1
open Bool renaming true->Z0,false->ZV
open Decidable renaming decide->u,decide->YM
def Z{p:Prop}(h:p:=by kernel_rfl):p:=h
def ZD{p:Prop}(h:p:=by kernel_rfl):p:=h
def J{p:Prop}(h:p:=by decide):p:=h
def ZS{p:Prop}(h:p:=by decide):p:=h
noncomputable section
abbrev bi(op:BinOp)(t:TypeId)(x y:AV):Option AV:=qj Tryz.prog op t x y
abbrev un(op:UnOp)(x:AV):Option AV:=unA Tryz.prog op x
abbrev cv(s d:TypeId)(x:AV):AM AV:=kM Tryz.prog s d x
def stk:AM AV:=λ_=>Z1
abbrev bd(t:TypeId)(ps:List (Nat × AV)):Option AV:=fV Tryz.prog t ps
abbrev bs(t:TypeId)(n:Nat)(ps:List (Nat × AV)):AM AV:=dI Tryz.prog t n ps
def Rn0(f:FuncId)(s:aA->ah->OA):Prop:=∀C H {r:AV × ah},s C H=ZC r->zY Tryz.prog C f [] H=ZC r
def Rn1(f:FuncId)(s:aA->AV->ah->OA):Prop:=∀C a0 H {r:AV × ah},s C a0 H=ZC r->zY Tryz.prog C f [a0] H=ZC r
def Rn2(f:FuncId)(s:aA->AV->AV->ah->OA):Prop:=∀C a0 a1 H {r:AV × ah},s C a0 a1 H=ZC r->zY Tryz.prog C f [a0,a1] H=ZC r
def Rn3(f:FuncId)(s:aA->AV->AV->AV->ah->OA):Prop:=∀C a0 a1 a2 H {r:AV × ah},s C a0 a1 a2 H=ZC r->zY Tryz.prog C f [a0,a1,a2] H=ZC r
def Rn4(f:FuncId)(s:aA->AV->AV->AV->AV->ah->OA):Prop:=∀C a0 a1 a2 a3 H {r:AV × ah},s C a0 a1 a2 a3 H=ZC r->zY Tryz.prog C f [a0,a1,a2,a3] H=ZC r
def Rn5(f:FuncId)(s:aA->AV->AV->AV->AV->AV->ah->OA):Prop:=∀C a0 a1 a2 a3 a4 H {r:AV × ah},s C a0 a1 a2 a3 a4 H=ZC r->zY Tryz.prog C f [a0,a1,a2,a3,a4] H=ZC r
def ND {n:Nat}{ps:Q (Nat × AV)}{H:ah}(h:n*1<=16777216):dI Tryz.prog 22 n ps H=bsl 3 1 [zI] n ps H:=rM Z Z Z W h
def asq {n:Nat}{ps:Q (Nat × AV)}{H:ah}(h:n*1<=16777216):dI Tryz.prog 27 n ps H=bsl 62 1 [zN] n ps H:=rM Z Z Z W h
def asr {n:Nat}{ps:Q (Nat × AV)}{H:ah}(h:n*1<=16777216):dI Tryz.prog 51 n ps H=bsl 64 1 [zP] n ps H:=rM Z Z Z W h
def aj6 {n:Nat}{ps:Q (Nat × AV)}{H:ah}(h:n*3<=16777216):dI Tryz.prog 62 n ps H=bsl 61 3 [zI,zI,zI] n ps H:=rM Z Z Z W h
def aay {n:Nat}{ps:Q (Nat × AV)}{H:ah}(h:n*6<=16777216):dI Tryz.prog 111 n ps H=bsl 100 6 [zI,zI,zI,zI,zB,zN] n ps H:=rM Z Z Z W h
def amK {n:Nat}{ps:Q (Nat × AV)}{H:ah}(h:n*2<=16777216):dI Tryz.prog 116 n ps H=bsl 121 2 [zP,zP] n ps H:=rM Z Z Z W h
def Wp {n:Nat}{ps:Q (Nat × AV)}{H:ah}(h:n*4<=16777216):dI Tryz.prog 123 n ps H=bsl 184 4 [zI,zI,zB,zI] n ps H:=rM Z Z Z W h
def amL {n:Nat}{ps:Q (Nat × AV)}{H:ah}(h:n*4<=16777216):dI Tryz.prog 143 n ps H=bsl 142 4 [zP,zP,zP,zP] n ps H:=rM Z Z Z W h
def amM {n:Nat}{ps:Q (Nat × AV)}{H:ah}(h:n*1<=16777216):dI Tryz.prog 155 n ps H=bsl 158 1 [zP] n ps H:=rM Z Z Z W h
def agX {n:Nat}{ps:Q (Nat × AV)}{H:ah}(h:n*9<=16777216):dI Tryz.prog 175 n ps H=bsl 81 9 [zI,zI,zI,zI,zI,zI,zI,zB,zN] n ps H:=rM Z Z Z W h
def Wq {n:Nat}{ps:Q (Nat × AV)}{H:ah}(h:n*1<=16777216):dI Tryz.prog 220 n ps H=bsl 5 1 [.s (.int .u8 0)] n ps H:=rM Z Z Z W h
def amN {n:Nat}{ps:Q (Nat × AV)}{H:ah}(h:n*3<=16777216):dI Tryz.prog 266 n ps H=bsl 274 3 [zI,zI,zN] n ps H:=rM Z Z Z W h
def agY {n:Nat}{ps:Q (Nat × AV)}{H:ah}(h:n*2<=16777216):dI Tryz.prog 320 n ps H=bsl 322 2 [zI,zI] n ps H:=rM Z Z Z W h
def amO {n:Nat}{ps:Q (Nat × AV)}{H:ah}(h:n*1<=16777216):dI Tryz.prog 326 n ps H=bsl 220 1 [zN] n ps H:=rM Z Z Z W h
def aj7:Nat->M (Nat × Nat)
 |0=>ZC (0,1)
 |1=>ZC (1,1)
 |2=>ZC (2,1)
 |3=>ZC (3,1)
 |4=>ZC (4,1)
 |5=>ZC (5,1)
 |6=>ZC (6,1)
 |7=>ZC (7,1)
 |_=>Z1
def amP {ps:List (Nat × AV)}:fV Tryz.prog 31 ps=jf aj7 [zI,zI,zI,zI,zI,zI,zI,zN] ps:=iQ Z Tryz.underlying31 Z (by funext i;rcases i with _|_|_|_|_|_|_|_|i <;> kernel_rfl)
def aaz:Nat->M (Nat × Nat)
 |0=>ZC (0,1)
 |1=>ZC (1,1)
 |2=>ZC (2,1)
 |3=>ZC (3,1)
 |_=>Z1
def aeM {ps:List (Nat × AV)}:fV Tryz.prog 44 ps=jf aaz [zB,zI,zI,.s (.int .u16 0)] ps:=iQ Z Tryz.underlying44 Z (by funext i;rcases i with _|_|_|_|i <;> kernel_rfl)
def amQ:Nat->M (Nat × Nat)
 |0=>ZC (0,1)
 |1=>ZC (1,1)
 |2=>ZC (2,8)
 |3=>ZC (10,1)
 |_=>Z1
def asu {ps:List (Nat × AV)}:fV Tryz.prog 53 ps=jf amQ [zP,zP,zI,zI,zI,zI,zI,zI,zI,zN,zN] ps:=iQ Z Tryz.underlying53 Z (by funext i;rcases i with _|_|_|_|i <;> kernel_rfl)
def aeN:Nat->M (Nat × Nat)
 |0=>ZC (0,1)
 |1=>ZC (1,1)
 |2=>ZC (2,1)
 |_=>Z1
def aeO {ps:List (Nat × AV)}:fV Tryz.prog 61 ps=jf aeN [zI,zI,zI] ps:=iQ Z Tryz.underlying61 Z (by funext i;rcases i with _|_|_|i <;> kernel_rfl)
def amR:Nat->M (Nat × Nat)
 |0=>ZC (0,1)
 |_=>Z1
def asv {ps:List (Nat × AV)}:fV Tryz.prog 71 ps=jf amR [zP] ps:=iQ Z Tryz.underlying71 Z (by funext i;rcases i with _|i <;> kernel_rfl)
def amS:Nat->M (Nat × Nat)
 |0=>ZC (0,1)
 |1=>ZC (1,1)
 |2=>ZC (2,1)
 |3=>ZC (3,1)
 |4=>ZC (4,1)
 |5=>ZC (5,1)
 |6=>ZC (6,1)
 |7=>ZC (7,1)
 |8=>ZC (8,1)
 |_=>Z1
def aaA {ps:List (Nat × AV)}:fV Tryz.prog 73 ps=jf amS [zI,zI,zI,zI,zI,zI,zN,zI,zI] ps:=iQ Z Tryz.underlying73 Z (by funext i;rcases i with _|_|_|_|_|_|_|_|_|i <;> kernel_rfl)
def amT:Nat->M (Nat × Nat)
 |0=>ZC (0,1)
 |1=>ZC (1,1)
 |2=>ZC (2,8)
 |3=>ZC (10,1)
 |4=>ZC (11,1)
 |5=>ZC (12,9)
 |6=>ZC (21,1)
 |_=>Z1
def asw {ps:List (Nat × AV)}:fV Tryz.prog 75 ps=jf amT [zP,zP,zI,zI,zI,zI,zI,zI,zI,zN,zI,zP,zI,zI,zI,zI,zI,zI,zN,zI,zI,zI] ps:=iQ Z Tryz.underlying75 Z (by funext i;rcases i with _|_|_|_|_|_|_|i <;> kernel_rfl)
def Uj:Nat->M (Nat × Nat)
 |0=>ZC (0,1)
 |1=>ZC (1,1)
 |2=>ZC (2,1)
 |3=>ZC (3,1)
 |4=>ZC (4,1)
 |5=>ZC (5,1)
 |6=>ZC (6,1)
 |7=>ZC (7,1)
 |8=>ZC (8,1)
 |_=>Z1
def zC {ps:List (Nat × AV)}:fV Tryz.prog 81 ps=jf Uj [zI,zI,zI,zI,zI,zI,zI,zB,zN] ps:=iQ Z Tryz.underlying81 Z (by funext i;rcases i with _|_|_|_|_|_|_|_|_|i <;> kernel_rfl)
def amU:Nat->M (Nat × Nat)
 |0=>ZC (0,1)
 |1=>ZC (1,1)
 |2=>ZC (2,1)
 |_=>Z1
def asx {ps:List (Nat × AV)}:fV Tryz.prog 95 ps=jf amU [zI,zI,zN] ps:=iQ Z Tryz.underlying95 Z (by funext i;rcases i with _|_|_|i <;> kernel_rfl)
def amV:Nat->M (Nat × Nat)
 |0=>ZC (0,1)
 |1=>ZC (1,1)
 |_=>Z1
def asy {ps:List (Nat × AV)}:fV Tryz.prog 98 ps=jf amV [zI,zI] ps:=iQ Z Tryz.underlying98 Z (by funext i;rcases i with _|_|i <;> kernel_rfl)
def agZ:Nat->M (Nat × Nat)
 |0=>ZC (0,2)
 |1=>ZC (2,1)
 |2=>ZC (3,1)
 |3=>ZC (4,1)
 |4=>ZC (5,1)
 |_=>Z1
def aaB {ps:List (Nat × AV)}:fV Tryz.prog 100 ps=jf agZ [zI,zI,zI,zI,zB,zN] ps:=iQ Z Tryz.underlying100 Z (by funext i;rcases i with _|_|_|_|_|i <;> kernel_rfl)
def ag0:Nat->M (Nat × Nat)
 |0=>ZC (0,1)
 |1=>ZC (1,1)
 |_=>Z1
def ag1 {ps:List (Nat × AV)}:fV Tryz.prog 121 ps=jf ag0 [zP,zP] ps:=iQ Z Tryz.underlying121 Z (by funext i;rcases i with _|_|i <;> kernel_rfl)
def ag2:Nat->M (Nat × Nat)
 |0=>ZC (0,1)
 |1=>ZC (1,1)
 |2=>ZC (2,1)
 |_=>Z1
def amW {ps:List (Nat × AV)}:fV Tryz.prog 135 ps=jf ag2 [zN,zN,zB] ps:=iQ Z Tryz.underlying135 Z (by funext i;rcases i with _|_|_|i <;> kernel_rfl)
def ag3:Nat->M (Nat × Nat)
 |0=>ZC (0,2)
 |1=>ZC (2,2)
 |_=>Z1
def amX {ps:List (Nat × AV)}:fV Tryz.prog 142 ps=jf ag3 [zP,zP,zP,zP] ps:=iQ Z Tryz.underlying142 Z (by funext i;rcases i with _|_|i <;> kernel_rfl)
def amY:Nat->M (Nat × Nat)
 |0=>ZC (0,1)
 |_=>Z1
def amZ {ps:List (Nat × AV)}:fV Tryz.prog 145 ps=jf amY [zN] ps:=iQ Z Tryz.underlying145 Z (by funext i;rcases i with _|i <;> kernel_rfl)
def ag4:Nat->M (Nat × Nat)
 |0=>ZC (0,1)
 |1=>ZC (1,1)
 |2=>ZC (2,1)
 |3=>ZC (3,1)
 |_=>Z1
def am0 {ps:List (Nat × AV)}:fV Tryz.prog 147 ps=jf ag4 [zN,zI,zI,zI] ps:=iQ Z Tryz.underlying147 Z (by funext i;rcases i with _|_|_|_|i <;> kernel_rfl)
def ag5:Nat->M (Nat × Nat)
 |0=>ZC (0,8)
 |1=>ZC (8,1)
 |2=>ZC (9,1)
 |3=>ZC (10,1)
 |_=>Z1
def am1 {ps:List (Nat × AV)}:fV Tryz.prog 157 ps=jf ag5 [zI,zI,zI,zI,zI,zI,zI,zN,zP,zN,zN] ps:=iQ Z Tryz.underlying157 Z (by funext i;rcases i with _|_|_|_|i <;> kernel_rfl)
def ag6:Nat->M (Nat × Nat)
 |0=>ZC (0,1)
 |1=>ZC (1,1)
 |2=>ZC (2,8)
 |3=>ZC (10,1)
 |_=>Z1
def am2 {ps:List (Nat × AV)}:fV Tryz.prog 166 ps=jf ag6 [zP,zP,zI,zI,zI,zI,zI,zI,zI,zN,zI] ps:=iQ Z Tryz.underlying166 Z (by funext i;rcases i with _|_|_|_|i <;> kernel_rfl)
def ag7:Nat->M (Nat × Nat)
 |0=>ZC (0,1)
 |1=>ZC (1,1)
 |_=>Z1
def am3 {ps:List (Nat × AV)}:fV Tryz.prog 177 ps=jf ag7 [zN,zI] ps:=iQ Z Tryz.underlying177 Z (by funext i;rcases i with _|_|i <;> kernel_rfl)
def aaC:Nat->M (Nat × Nat)
 |0=>ZC (0,1)
 |1=>ZC (1,1)
 |2=>ZC (2,1)
 |3=>ZC (3,1)
 |_=>Z1
def ag8 {ps:List (Nat × AV)}:fV Tryz.prog 184 ps=jf aaC [zI,zI,zB,zI] ps:=iQ Z Tryz.underlying184 Z (by funext i;rcases i with _|_|_|_|i <;> kernel_rfl)
def ag9:Nat->M (Nat × Nat)
 |0=>ZC (0,1)
 |_=>Z1
def am4 {ps:List (Nat × AV)}:fV Tryz.prog 186 ps=jf ag9 [zN] ps:=iQ Z Tryz.underlying186 Z (by funext i;rcases i with _|i <;> kernel_rfl)
def aha:Nat->M (Nat × Nat)
 |0=>ZC (0,1)
 |1=>ZC (1,1)
 |_=>Z1
def am5 {ps:List (Nat × AV)}:fV Tryz.prog 200 ps=jf aha [zN,zI] ps:=iQ Z Tryz.underlying200 Z (by funext i;rcases i with _|_|i <;> kernel_rfl)
def ahb:Nat->M (Nat × Nat)
 |0=>ZC (0,8)
 |1=>ZC (8,1)
 |_=>Z1
def am6 {ps:List (Nat × AV)}:fV Tryz.prog 206 ps=jf ahb [zI,zI,zI,zI,zI,zI,zI,zN,zN] ps:=iQ Z Tryz.underlying206 Z (by funext i;rcases i with _|_|i <;> kernel_rfl)
def ahc:Nat->M (Nat × Nat)
 |0=>ZC (0,8)
 |1=>ZC (8,1)
 |2=>ZC (9,1)
 |3=>ZC (10,1)
 |4=>ZC (11,1)
 |5=>ZC (12,1)
 |6=>ZC (13,1)
 |7=>ZC (14,1)
 |8=>ZC (15,9)
 |9=>ZC (24,1)
 |_=>Z1
def am7 {ps:List (Nat × AV)}:fV Tryz.prog 213 ps=jf ahc [zI,zI,zI,zI,zI,zI,zI,zN,zI,zP,zP,zN,zB,zN,zB,zI,zI,zI,zI,zI,zI,zN,zI,zI,zI] ps:=iQ Z Tryz.underlying213 Z (by funext i;rcases i with _|_|_|_|_|_|_|_|_|_|i <;> kernel_rfl)
def ahd:Nat->M (Nat × Nat)
 |0=>ZC (0,1)
 |1=>ZC (1,1)
 |_=>Z1
def am8 {ps:List (Nat × AV)}:fV Tryz.prog 218 ps=jf ahd [zM,zM] ps:=iQ Z Tryz.underlying218 Z (by funext i;rcases i with _|_|i <;> kernel_rfl)
def ahe:Nat->M (Nat × Nat)
 |0=>ZC (0,8)
 |1=>ZC (8,1)
 |_=>Z1
def am9 {ps:List (Nat × AV)}:fV Tryz.prog 246 ps=jf ahe [zI,zI,zI,zI,zI,zI,zI,zN,zN] ps:=iQ Z Tryz.underlying246 Z (by funext i;rcases i with _|_|i <;> kernel_rfl)
def ahf:Nat->M (Nat × Nat)
 |0=>ZC (0,1)
 |1=>ZC (1,1)
 |2=>ZC (2,1)
 |3=>ZC (3,1)
 |_=>Z1
def ana {ps:List (Nat × AV)}:fV Tryz.prog 265 ps=jf ahf [zI,zI,zI,zN] ps:=iQ Z Tryz.underlying265 Z (by funext i;rcases i with _|_|_|_|i <;> kernel_rfl)
def ahg:Nat->M (Nat × Nat)
 |0=>ZC (0,8)
 |1=>ZC (8,1)
 |2=>ZC (9,1)
 |3=>ZC (10,2)
 |_=>Z1
def anb {ps:List (Nat × AV)}:fV Tryz.prog 272 ps=jf ahg [zI,zI,zI,zI,zI,zI,zI,zN,zI,zN,zN,zN] ps:=iQ Z Tryz.underlying272 Z (by funext i;rcases i with _|_|_|_|i <;> kernel_rfl)
def ahh:Nat->M (Nat × Nat)
 |0=>ZC (0,1)
 |1=>ZC (1,1)
 |2=>ZC (2,1)
 |_=>Z1
def anc {ps:List (Nat × AV)}:fV Tryz.prog 274 ps=jf ahh [zI,zI,zN] ps:=iQ Z Tryz.underlying274 Z (by funext i;rcases i with _|_|_|i <;> kernel_rfl)
def ahi:Nat->M (Nat × Nat)
 |0=>ZC (0,8)
 |1=>ZC (8,1)
 |_=>Z1
def ane {ps:List (Nat × AV)}:fV Tryz.prog 277 ps=jf ahi [zI,zI,zI,zI,zI,zI,zI,zN,zM] ps:=iQ Z Tryz.underlying277 Z (by funext i;rcases i with _|_|i <;> kernel_rfl)
def ahj:Nat->M (Nat × Nat)
 |0=>ZC (0,1)
 |1=>ZC (1,1)
 |_=>Z1
def anf {ps:List (Nat × AV)}:fV Tryz.prog 322 ps=jf ahj [zI,zI] ps:=iQ Z Tryz.underlying322 Z (by funext i;rcases i with _|_|i <;> kernel_rfl)
def ahk {k:IntKind}{n:Int}{H:ah}:kM Tryz.prog 3 5 (.s (.int k n)) H=ZC (.s (.int .u8 (IntKind.wrap .u8 n)),H):=DZ Z Tryz.underlying3 Tryz.underlying5
def ang {k:IntKind}{n:Int}{H:ah}:kM Tryz.prog 5 3 (.s (.int k n)) H=ZC (.s (.int .i64 (IntKind.wrap .i64 n)),H):=DZ Z Tryz.underlying5 Tryz.underlying3
def aj8 {k:IntKind}{n:Int}{H:ah}:kM Tryz.prog 5 42 (.s (.int k n)) H=ZC (.s (.int .u16 (IntKind.wrap .u16 n)),H):=DZ Z Tryz.underlying5 Tryz.underlying42
def aeP {k:IntKind}{n:Int}{H:ah}:kM Tryz.prog 5 262 (.s (.int k n)) H=ZC (.s (.int .u64 (IntKind.wrap .u64 n)),H):=DZ Z Tryz.underlying5 Tryz.underlying262
def aaD {k:IntKind}{n:Int}{H:ah}:kM Tryz.prog 42 5 (.s (.int k n)) H=ZC (.s (.int .u8 (IntKind.wrap .u8 n)),H):=DZ Z Tryz.underlying42 Tryz.underlying5
def aaE {k:IntKind}{n:Int}{H:ah}:kM Tryz.prog 42 260 (.s (.int k n)) H=ZC (.s (.int .u32 (IntKind.wrap .u32 n)),H):=DZ Z Tryz.underlying42 Tryz.underlying260
def aeQ {k:IntKind}{n:Int}{H:ah}:kM Tryz.prog 260 5 (.s (.int k n)) H=ZC (.s (.int .u8 (IntKind.wrap .u8 n)),H):=DZ Z Tryz.underlying260 Tryz.underlying5
def aeR {k:IntKind}{n:Int}{H:ah}:kM Tryz.prog 262 3 (.s (.int k n)) H=ZC (.s (.int .i64 (IntKind.wrap .i64 n)),H):=DZ Z Tryz.underlying262 Tryz.underlying3
inductive Cell where
 |av (x:AV)
 |seq (m:Nat) (cells:List AV)
 |map (k:IntKind) (es:List (Int × AV))
 |maps (k:IntKind) (m:Nat) (es:List (Int × List AV))
 |anh (w m:Nat) (ls:List (List AV))
abbrev Tag:=Nat × Nat × Nat × Int
section
variable (b:Nat)(H:ah)(τ:Nat->Option Tag)
def OS(T:Tag)(x:AV)(m:Nat)(cells:Q AV):Prop:=
 (x=zN/\cells=[])∨∃r g off n d ex e all,x=.sl r g off m n d ex/\τ r=ZC T/\b<=r/\r<H.next/\n<=d/\H.get r=.blk g e all/\off+d*m<=all.length/\all.all AV.aU=Z0/\cells=(all.drop off).take (n*m)
def OM(T:Tag)(x:AV)(k:IntKind)(es:Q (Int × AV)):Prop:=∃r,x=.mp r/\τ r=ZC T/\b<=r/\r<H.next/\H.get r=.map k es
def CR(q i:Nat):Cell->AV->Prop
 |.av x,y=>y=x
 |.seq m cells,y=>OS b H τ (q,i+1,0,0) y m cells
 |.map k e,y=>OM b H τ (q,i+1,0,0) y k e
 |.maps k m e,y=>∃d:Q (Int × AV),OM b H τ (q,i+1,0,0) y k d/\d.map (·.1)=e.map (·.1)/\∀(j:Nat) n cells x,e[j]?=ZC (n,cells)->d[j]?=ZC (n,x)->OS b H τ (q,i+1,1,n) x m cells
 |.anh w m ls,y=>∃xs:Q AV,OS b H τ (q,i+1,0,0) y w xs/\xs.length=ls.length/\∀(j:Nat) cells x,ls[j]?=ZC cells->xs[j]?=ZC x->OS b H τ (q,i+1,1,(j:Int)) x m cells
structure amb(q:Nat)(cs:List Cell):Prop where
 tag:τ q=some (q,0,0,0)
 lo:b<=q
 hi:q<H.next
 tyl:∀gg ty xs,H.get q=.blk gg ty xs->ty<gW
 blk:∃ty xs,H.get q=.blk 0 ty xs/\xs.length=cs.length/\xs.all AV.aU=true/\∀(i:Nat) c x,cs[i]?=some c->xs[i]?=some x->CR b H τ q i c x
end
abbrev bG:=Nat->Option (List Cell)
def Good(b:Nat)(H:ah)(g:bG):Prop:=b<=H.next/\∃τ,∀q cs,g q=ZC cs->amb b H τ q cs
def upd(g:bG)(q:Nat)(cs:Q Cell):bG:=λx=>if x=q then ZC cs else g x
section
variable {b:Nat}{H H':ah}{g:bG}{q:Nat}{cs:List Cell}
def aQ:upd g q cs q=ZC cs:=by simp[upd]
def bF {x:Nat}(h:x≠q):upd g q cs x=g x:=by simp[upd,h]
def pz {b:List Cell}:upd (upd g q cs) q b=upd g q b:=by funext x;simp only[upd];split <;> rfl
def fP(h:g q=some cs):upd g q cs=g:=by
 funext x
 simp only[upd];split
 ·rename_i e;rw[e,h]
 ·rfl
def OS.keep {τ τ':Nat->M Tag}{T:Tag}{x:AV}{m:Nat}{cells:Q AV}(h:OS b H τ T x m cells)(z:H.next<=H'.next)(e:∀r,r<H.next->τ r=ZC T->τ' r=ZC T/\H'.get r=H.get r):OS b H' τ' T x m cells:=by
 rcases h with h|⟨r,g,off,n,d,ex,i,all,rfl,j,k,o,p,q,u,v,w⟩
 ·exact .inl h
 ·have⟨k1,y⟩:=e r o j;exact .inr ⟨r,g,off,n,d,ex,i,all,W,k1,k,V,p,by rw[y];exact q,u,v,w⟩
def OM.keep {τ τ':Nat->M Tag}{T:Tag}{x:AV}{k:IntKind}{es:Q (Int × AV)}(h:OM b H τ T x k es)(n:H.next<=H'.next)(d:∀r,r<H.next->τ r=ZC T->τ' r=ZC T/\H'.get r=H.get r):OM b H' τ' T x k es:=by
 obtain⟨r,rfl,e,g,i,j⟩:=h;have⟨k1,m⟩:=d r i e;exact⟨r,W,k1,g,V,by rw[m];exact j⟩
def CR.keep {τ τ':Nat->M Tag}{i:Nat}:∀{c:Cell} {x:AV},CR b H τ q i c x->H.next<=H'.next->(∀r s t,r<H.next->τ r=ZC (q,i+1,s,t)->τ' r=ZC (q,i+1,s,t)/\H'.get r=H.get r)->CR b H' τ' q i c x
 |.av _,_,h,_,_=>h
 |.seq _ _,_,h,g,k=>OS.keep h g λr d e=>k r 0 0 d e
 |.map _ _,_,h,g,k=>OM.keep h g λr d e=>k r 0 0 d e
 |.maps _ _ _,_,⟨m,d,e,o⟩,g,k=>⟨m,d.keep g λr d e=>k r 0 0 d e,e,λj n cells x p u=>(o j n cells x p u).keep g λr d e=>k r 1 n d e⟩
 |.anh _ _ _,_,⟨xs,d,e,o⟩,g,k=>⟨xs,d.keep g λr d e=>k r 0 0 d e,e,λj cells x p u=>(o j cells x p u).keep g λr d e=>k r 1 j d e⟩
def vY {ty:Nat}{xs:Q AV}(h:H.get q=.blk 0 ty xs)(d:ty<gW):∀gg ty' b,H.get q=.blk gg ty' b->ty'<gW:=λ_ _ _ e=>by
 rw[h]at e;cases e;exact d
def amb.keep {τ τ':Nat->M Tag}(h:amb b H τ q cs)(j:H.next<=H'.next)(e:∀r i s t,r<H.next->τ r=ZC (q,i,s,t)->τ' r=ZC (q,i,s,t)/\H'.get r=H.get r):amb b H' τ' q cs:=by
 have⟨k1,g⟩:=e q 0 0 0 h.hi h.tag;have⟨k,xs,d,m,n,o⟩:=h.blk;exact⟨k1,h.lo,by have:=h.hi;omega,vY (by rw[g];exact d) (h.tyl _ _ _ d),k,xs,by rw[g];exact d,m,n,λi c x hc p=>(o i c x hc p).keep j λr s t u v=>e r (i+1) s t u v⟩
def Good.lt(G:Good b H g)(h:g q=ZC cs):q<H.next:=(G.2.choose_spec q cs h).hi
def Good.le(G:Good b H g)(h:g q=ZC cs):b<=q:=(G.2.choose_spec q cs h).lo
def Good.isNone(G:Good b H g)(h:H.next<=q):g q=none:=by
 cases d:g q with
 |none=>rfl
 |some cs=>have:=G.lt d;omega
def Good.ne(G:Good b H g)(h:g q=ZC cs):q≠H.next:=by have:=G.lt h;omega
def Good.ext(G:Good b H g)(d:H.next<=H'.next)(e:∀r,r<H.next->H'.get r=H.get r):Good b H' g:=by
 have⟨n,τ,h⟩:=G;exact⟨V,τ,λq cs j=>(h q cs j).keep d λr i s t k m=>⟨m,e r k⟩⟩
def Good.new(G:Good b H g)(o:gG):Good b (H.new o) g:=G.ext (Nat.le_succ _) λr d=>by rw[jq,F V]
def Good.guard(G:Good b H g):Good b H.guard g:=G.ext (Nat.le_refl _) λ_ _=>rfl
def Good.sub(G:Good b H g){g':bG}(h:∀q cs,g' q=ZC cs->g q=ZC cs):Good b H g':=by
 have⟨d,τ,e⟩:=G;exact⟨d,τ,λq cs i=>e q cs (h q cs i)⟩
def Good.empty(H:ah):Good H.next H λ_=>none:=⟨Nat.le_refl _,λ_=>Z1,λ_ _ h=>by cases h⟩
def Good.empty' {b:Nat}(h:b<=H.next):Good b H λ_=>none:=⟨h,λ_=>Z1,λ_ _ h=>by cases h⟩
def Good.weak(G:Good b H g){e:Nat}(h:e<=b):Good e H g:=by
 have⟨h0,τ,L⟩:=G;have os:∀{T x m cells},OS b H τ T x m cells->OS e H τ T x m cells:=by
  intro T x m cells o;rcases o with o|⟨r,g,off,n,p,ex,u,all,v,w,M,y⟩
  ·exact .inl o
  ·exact .inr ⟨r,g,off,n,p,ex,u,all,v,w,V,y⟩
 have K:∀{T x k z},OM b H τ T x k z->OM e H τ T x k z:=by
  intro T x k z ⟨r,v,w,M,y⟩;exact⟨r,v,w,V,y⟩
 refine⟨V,τ,λq cs Q=>?_⟩;have R:=L q cs Q;have⟨u,xs,k1,W,X,k4⟩:=R.blk;refine⟨R.tag,by have:=R.lo;omega,R.hi,R.tyl,u,xs,k1,W,X,λi c x hc d=>?_⟩;have:=k4 i c x hc d;cases c with
 |av _=>exact this
 |seq _ _=>exact os this
 |map _ _=>exact K this
 |maps _ _ _=>
  have⟨A,C,D,E⟩:=this;exact⟨A,K C,D,λj n cells x F d=>os (E j n cells x F d)⟩
 |anh _ _ _=>
  have⟨ys,C,D,E⟩:=this;exact⟨ys,os C,D,λj cells x F d=>os (E j cells x F d)⟩
structure Step(b:Nat)(H H':ah):Prop where
 base:H'.base=H.base
 next:H.next<=H'.next
 low:∀r,r<b->H'.get r=H.get r
def Step.refl(b:Nat)(H:ah):Step b H H:=⟨W,Nat.le_refl _,λ_ _=>rfl⟩
def Step.trans {b:Nat}{H H' H'':ah}(s:Step b H H')(t:Step b H' H''):Step b H H'':=⟨t.base.trans s.base,Nat.le_trans s.next t.next,λr d=>by rw[t.low r d,s.low r d]⟩
def Step.new {b:Nat}{H:ah}(o:gG)(h:b<=H.next):Step b H (H.new o):=⟨W,Nat.le_succ _,λr d=>by rw[jq,F V]⟩
def Step.put {b:Nat}{H:ah}{r:Nat}(o:gG)(h:b<=r):Step b H (H.put r o):=⟨W,Nat.le_refl _,λx d=>by rw[dJ,F V]⟩
def Good.newObj(G:Good b H g){ty:XN}{xs:Q AV}(hc:xs.all AV.aU=Z0)(k:ty<gW:=by decide):Good b (H.new (.blk 0 ty xs)) (upd g H.next (xs.map .av)):=by
 have⟨m,τ,h⟩:=G;refine⟨by rw[EU];omega,λr=>if r=H.next then ZC (r,0,0,0)else τ r,λq cs j=>?_⟩;by_cases e:q=H.next
 ·subst e;rw[aQ]at j;cases j;refine⟨O,m,by rw[EU];omega,vY (xs:=xs) (by simp[jq]) k,ty,xs,by simp[jq],O,hc,λi c x d n=>?_⟩;rw[List.getElem?_map,n]at d;simp only[Option.map_some,Option.some.injEq]at d;subst d;exact W
 ·rw[bF e]at j;have R:=h q cs j;exact R.keep (H':=H.new (.blk 0 ty xs)) (Nat.le_succ _) λr i s t o k=>⟨by rw[F V];exact k,by rw[jq,F V]⟩
def dG {r off g:Nat}{ty:XN}{xs:Q AV}(h:H.get r=.blk g ty xs):ld (.ref r g off) H=(xs[off]?).map λv=>(v,H):=by
 simp only[ld,kV,bT,Option.map_some,ldO,h,zad]
def iE {r off g n:Nat}{ty:XN}{xs:Q AV}(h:H.get r=.blk g ty xs)(b:off+n<=xs.length):lda n (.ref r g off) H=ZC (.agg ((xs.drop off).take n),H):=by
 simp only[lda,kV,bT,Option.map_some,arO,h,zad,b]
def ani {cells:Q AV}:ld (.ip cells) H=(cells[0]?).map λv=>(v,H):=by simp only[ld,kV,ldO]
def anj {cells:Q AV}{n:Nat}(h:n<=cells.length):lda n (.ip cells) H=ZC (.agg (cells.take n),H):=by
 simp only[lda,kV,arO,Nat.zero_add,h,zad,List.drop_zero,Option.map_some]
def Good.load(G:Good b H g)(h:g q=ZC cs){i:Nat}{x:AV}(hi:cs[i]?=ZC (.av x)):ld (.ref q 0 i) H=ZC (x,H):=by
 have⟨_,τ,hR⟩:=G;have⟨ty,xs,h1,h2,h3,h4⟩:=(hR q cs h).blk;rw[dG h1];have hlt:i<xs.length:=by rw[h2];exact(List.getElem?_eq_some_iff.1 hi).1
 have hx:xs[i]?=ZC (xs[i]'hlt):=List.getElem?_eq_getElem hlt;have:=h4 i _ _ hi hx;simp only[CR]at this;rw[hx,this];rfl
def Good.loads(G:Good b H g)(h:g q=some cs){i n:Nat}{xs:List AV}(hi:(cs.drop i).take n=xs.map .av)(hn:xs.length=n)(hp:0<n):lda n (.ref q 0 i) H=some (.agg xs,H):=by
 obtain⟨_,τ,hR⟩:=G;obtain⟨ty,ys,h1,h2,h3,h4⟩:=(hR q cs h).blk;have hl:=congrArg List.length hi;simp only[List.length_take,List.length_drop,List.length_map]at hl
 ·rw[iE h1 V]
  congr 2
  congr 1
  apply List.ext_getElem?
  intro j;rcases Nat.lt_or_ge j n with hj|hj
  ·have hx:xs[j]?=some (xs[j]' V):=List.getElem?_eq_getElem _;have hc:cs[i+j]?=some (.av (xs[j]' V)):=by
    have:=congrArg (λl=>l[j]?) hi;simp only[List.getElem?_take,hj,if_true,List.getElem?_drop,List.getElem?_map,hx,Option.map_some]at this;exact this
   have hlt:i+j<ys.length:=V
   have hy:ys[i+j]?=some (ys[i+j]'hlt):=List.getElem?_eq_getElem hlt;have:=h4 _ _ _ hc hy;simp only[CR]at this;rw[List.getElem?_take,if_pos hj,List.getElem?_drop,hy,this,hx]
  ·rw[List.getElem?_take,if_neg V,List.getElem?_eq_none V]
end
def aH(H:ah)(x:AV)(m n:Nat)(cells:Q AV):Prop:=
 cells.length=n*m/\
 match x with
 |.sl r g off d len e _=>d=m/\len=n/\(r<H.next/\len<=e)/\∃h all,H.get r=.blk g h all/\off+n*m<=all.length/\cells=(all.drop off).take (n*m)
 |.vs k d cs=>d=m/\k=n/\cs=cells
 |.s (.slice none a b)=>a=0/\b=0/\n=0
 |_=>False
def eH(x:AV)(i:Nat):AV:=
 match x with
 |.sl r g off b _ _ _=>.ref r g (off+i*b)
 |.vs _ b cs=>.ip (cs.drop (i*b))
 |_=>aX
section
variable {P:Program}{H:ah}{x:AV}{m n:Nat}{cells:List AV}
def aH.wQ(h:aH H x m n cells):kL x=ZC n/\cZ H x=ZC cells:=by
 have⟨p,h⟩:=h;cases x with
 |sl r g off d len e ex=>
  obtain⟨rfl,rfl,_,q,all,i,j,o⟩:=h;refine⟨W,?_⟩;simp only[cZ,i];rw[y ⟨zac,j⟩,o]
 |vs k d cs=>obtain⟨rfl,rfl,rfl⟩:=h;exact⟨W,W⟩
 |s v=>
  cases v with
  |slice a b c=>
   cases a with
   |none=>
    obtain⟨rfl,rfl,rfl⟩:=h;refine⟨W,?_⟩;have:cells=[]:=List.eq_nil_of_length_eq_zero V;rw[this];rfl
   |some a=>exact h.elim
  |_=>exact h.elim
 |_=>exact h.elim
def iH:AV->M Nat
 |.sl r _ _ _ _ _ _=>ZC r
 |_=>Z1
def aH.iD {H':ah}(h:aH H x m n cells)(e:H.next<=H'.next)(i:∀r,iH x=ZC r->r<H.next->H'.get r=H.get r):aH H' x m n cells:=by
 have⟨j,h⟩:=h;refine⟨j,?_⟩;cases x with
 |sl r g off k len o ex=>
  have⟨p,q,d,u,all,w,y,z⟩:=h;exact⟨p,q,⟨Nat.lt_of_lt_of_le d.1 e,d.2⟩,u,all,by rw[i r W d.1];exact w,y,z⟩
 |s v=>
  cases v with
  |slice a b c=>cases a <;> exact h
  |_=>exact h
 |_=>exact h
def aH.new(h:aH H x m n cells)(o:gG):aH (H.new o) x m n cells:=
 h.iD (Nat.le_succ _) λr _ b=>by rw[jq,F V]
def aH.guard(h:aH H x m n cells):aH H.guard x m n cells:=h
def aH.nil {m:Nat}:aH H (.s (.slice Z1 0 0)) m 0 []:=⟨O,W,W,W⟩
def aH.vs {m n:Nat}{cs:Q AV}(h:cs.length=n*m):aH H (.vs n m cs) m n cs:=⟨h,W,W,W⟩
end
def Uk {α:Type}{enc:α->Q AV}{m:Nat}(b:∀a,(enc a).length=m)(l:Q α):(l.flatMap enc).length=l.length*m:=by
 induction l with
 |nil=>simp
 |cons a l d=>simp only[List.flatMap_cons,List.length_append,b,d,List.length_cons,Nat.succ_mul];omega
def vg {α:Type}{enc:α->Q AV}{m:Nat}(d:∀a,(enc a).length=m):∀(l:Q α) (i:Nat) (a:α),l[i]?=ZC a->((l.flatMap enc).drop (i*m)).take m=enc a
 |[],i,a,h=>by simp at h
 |b::l,0,a,h=>by
  simp only[List.getElem?_cons_zero,Option.some.injEq]at h;subst h;rw[Nat.zero_mul,List.drop_zero,List.flatMap_cons,List.take_append_of_le_length (by rw[d];omega),List.take_of_length_le (by rw[d];omega)]
 |b::l,i+1,a,h=>by
  simp only[List.getElem?_cons_succ]at h;have e:(enc b).drop ((i+1)*m)=[]:=List.drop_of_length_le (by rw[d,Nat.succ_mul];omega);have g:(i+1)*m-(enc b).length=i*m:=by rw[d,Nat.succ_mul];omega
  rw[List.flatMap_cons,List.drop_append,e,g,List.nil_append];exact vg d l i a h
section
variable {b:Nat}{H H':ah}{g:bG}{q:Nat}{cs:List Cell}
def xW {τ τ':Nat->M Tag}{cs':Q Cell}(h0:b<=H.next)(h:∀q cs,g q=ZC cs->amb b H τ q cs)(o:H.next<=H'.next)
  (hk:∀r,r<H.next->(∀i s t,τ r≠ZC (q,i,s,t))->τ' r=τ r/\H'.get r=H.get r) (p:amb b H' τ' q cs'):Good b H' (upd g q cs'):=by
 refine⟨V,τ',λk j d=>?_⟩;by_cases e:k=q
 ·subst e;rw[aQ]at d;cases d;exact p
 ·rw[bF e]at d;refine(h k j d).keep o λr i s t u m=>?_;have⟨k1,v⟩:=hk r u λw y t' n=>by rw[m]at n;cases n;exact e W
  exact⟨by rw[k1];exact m,v⟩
def ny {α:Type}{l:Q α}{i j:Nat}{a x:α}(h:(l.set i a)[j]?=ZC x):(j=i/\x=a)∨(j≠i/\l[j]?=ZC x):=by
 by_cases e:i=j
 ·subst e;have b:i<l.length:=by
   have:=(List.getElem?_eq_some_iff.1 h).1
   simpa using this
  rw[List.getElem?_set_self b]at h;cases h;exact .inl ⟨W,W⟩
 ·rw[List.getElem?_set_ne e]at h;exact .inr ⟨λd=>e d.symm,h⟩
def aaF {l:Q AV}(h:l.all AV.aU=Z0){v:AV}(hv:v.aU=Z0)(i:Nat):(l.set i v).all AV.aU=true:=by
 rw[List.all_eq_true]at h ⊢;intro x b;rcases List.mem_or_eq_of_mem_set b with b|rfl
 ·exact h x b
 ·exact hv
def Ic {l:Q AV}{i:Nat}{v:AV}(hi:i<l.length):aI l i [v]=l.set i v:=by
 rw[List.set_eq_take_append_cons_drop];simp only[aI,hi,zad,List.length_cons,List.length_nil];rfl
def One(v:AV):Prop:=v.cells=[v]/\v.aU=Z0
def dU {k:IntKind}{n:Int}:One (.s (.int k n)):=⟨W,W⟩
def EX {x:Bool}:One (.s (.bool x)):=⟨W,W⟩
def vZ {r g off b len cap:Nat}{ex:Bool}:One (.sl r g off b len cap ex):=⟨W,W⟩
def ahl {n b:Nat}{cells:Q AV}:One (.vs n b cells):=⟨W,W⟩
def qG:One zN:=⟨W,W⟩
def Qu {r gg off:Nat}{v:AV}{ty:XN}{xs:Q AV}(hv:One v)(h:H.get r=.blk gg ty xs)(hb:H.base<=r)(b:off<xs.length):st 1 (.ref r gg off) v H=ZC (aX,H.put r (.blk gg ty (xs.set off v))):=by
 show(match H.get r with
  |.blk g' ty cells=>if g'=gg/\H.base<=r/\ZC 1=ZC v.cells.length/\v.cells.all AV.aU=Z0/\off+v.cells.length<=cells.length then ZC (aX,H.put r (.blk gg ty (aI cells off v.cells)))else Z1
  |.map ..=>Z1)=_
 rw[h];simp only;rw[y ⟨zac,hb,by rw[hv.1];rfl,by rw[hv.1];simp[hv.2],by rw[hv.1];exact b⟩,hv.1,Ic b]
def Ws {r gg off n:Nat}{vs:Q AV}{ty:XN}{xs:Q AV}(hv:vs.all AV.aU=Z0)(b:vs.length=n)(h:H.get r=.blk gg ty xs)(hb:H.base<=r)(d:off+n<=xs.length):st n (.ref r gg off) (.agg vs) H=ZC (aX,H.put r (.blk gg ty (aI xs off vs))):=by
 show(match H.get r with
  |.blk g' ty cells=>if g'=gg/\H.base<=r/\ZC n=ZC (AV.agg vs).cells.length/\(AV.agg vs).cells.all AV.aU=Z0/\off+(AV.agg vs).cells.length<=cells.length then ZC (aX,H.put r (.blk gg ty (aI cells off (AV.agg vs).cells)))else Z1
  |.map ..=>Z1)=_
 rw[h];simp only[eU];rw[y ⟨zac,hb,by rw[b],hv,V⟩]
def Good.store(G:Good b H g)(hb:H.base<=b)(h:g q=ZC cs){i:Nat}(hi:i<cs.length){v:AV}(hv:One v):
  ∃H',st 1 (.ref q 0 i) v H=ZC (aX,H')/\Good b H' (upd g q (cs.set i (.av v)))/\Step b H H'/\H'.next=H.next:=by
 have⟨p,τ,n⟩:=G;have R:=n q cs h;have⟨u,xs,o,w,y,z⟩:=R.blk;have lo:=R.lo;refine⟨_,Qu hv o V V,?_,Step.put _ lo,W⟩;refine xW (τ':=τ) p n (Nat.le_refl _) (λr A d=>⟨W,?_⟩) ⟨R.tag,R.lo,R.hi,vY (xs:=xs.set i v) (by rw[dJ,YY W]) (R.tyl _ _ _ o),u,xs.set i v,by rw[dJ,YY W],by simp[w],aaF y hv.2 i,λj c x hc k=>?_⟩
 ·rw[dJ,F];intro e;subst e;exact d 0 0 0 R.tag
 ·rcases ny hc with⟨rfl,rfl⟩|⟨m,hc⟩
  ·rcases ny k with⟨_,rfl⟩|⟨m,_⟩
   ·exact W
   ·exact absurd W m
  ·rcases ny k with⟨rfl,_⟩|⟨_,k⟩
   ·exact absurd W m
   ·refine(z j c x hc k).keep (Nat.le_refl _) λr s t A d=>⟨d,?_⟩
    rw[dJ,F];intro e;subst e;rw[R.tag]at d;cases d
def rO(cs:Q Cell)(i:Nat)(vs:Q AV):Q Cell:=cs.take i++(vs.map .av++cs.drop (i+vs.length))
def nC {l:List AV}{i:Nat}{vs:List AV}(h:i+vs.length<=l.length)(j:Nat):(aI l i vs)[j]?=if i<=j/\j<i+vs.length then vs[j-i]? else l[j]?:=by
 unfold aI;rcases Nat.lt_or_ge j i with b|b
 ·rw[List.getElem?_append_left (by rw[List.length_take];omega),List.getElem?_take,if_pos b,if_neg V]
 ·have d:(l.take i).length=i:=by rw[List.length_take];omega
  rw[List.getElem?_append_right V,d];rcases Nat.lt_or_ge j (i+vs.length)with hk|hk
  ·rw[if_pos ⟨b,hk⟩,List.getElem?_append_left V]
  ·rw[if_neg V,List.getElem?_append_right V,List.getElem?_drop]
   congr 1;omega
def YA {i:Nat}{vs:List AV}(h:i+vs.length<=cs.length)(j:Nat):(rO cs i vs)[j]?=if i<=j/\j<i+vs.length then(vs[j-i]?).map .av else cs[j]?:=by
 unfold rO;rcases Nat.lt_or_ge j i with b|b
 ·rw[List.getElem?_append_left (by rw[List.length_take];omega),List.getElem?_take,if_pos b,if_neg V]
 ·have d:(cs.take i).length=i:=by rw[List.length_take];omega
  rw[List.getElem?_append_right V,d];rcases Nat.lt_or_ge j (i+vs.length)with hk|hk
  ·rw[if_pos ⟨b,hk⟩,List.getElem?_append_left (by rw[List.length_map];omega),List.getElem?_map]
  ·rw[if_neg V,List.getElem?_append_right (by rw[List.length_map];omega),List.length_map,List.getElem?_drop]
   congr 1;omega
def oz {l:Q AV}{i:Nat}{vs:Q AV}(h:i+vs.length<=l.length):(aI l i vs).length=l.length:=by
 simp only[aI,List.length_append,List.length_take,List.length_drop];omega
def NG {i:Nat}{vs:Q AV}(h:i+vs.length<=cs.length):(rO cs i vs).length=cs.length:=by
 simp only[rO,List.length_append,List.length_take,List.length_drop,List.length_map];omega
def wR {l vs:Q AV}(h:l.all AV.aU=Z0)(hv:vs.all AV.aU=Z0)(i:Nat):(aI l i vs).all AV.aU=true:=by
 rw[List.all_eq_true]at h hv ⊢;intro x b;simp only[aI,List.mem_append]at b;rcases b with b|b|b
 ·exact h x (List.mem_of_mem_take b)
 ·exact hv x b
 ·exact h x (List.mem_of_mem_drop b)
def Good.stores(G:Good b H g)(hb:H.base<=b)(h:g q=ZC cs){i n:Nat}{vs:Q AV}(hi:i+n<=cs.length)(u:vs.length=n)(hv:vs.all AV.aU=Z0):
  ∃H',st n (.ref q 0 i) (.agg vs) H=ZC (aX,H')/\Good b H' (upd g q (rO cs i vs))/\Step b H H'/\H'.next=H.next:=by
 have⟨v,τ,o⟩:=G;have R:=o q cs h;have⟨w,xs,p,y,z,A⟩:=R.blk;have lo:=R.lo;refine⟨_,Ws hv u p V V,?_,Step.put _ lo,W⟩;refine xW (τ':=τ) v o (Nat.le_refl _) (λr C d=>⟨W,?_⟩) ⟨R.tag,R.lo,R.hi,vY (xs:=aI xs i vs) (by rw[dJ,YY W]) (R.tyl _ _ _ p),w,aI xs i vs,by rw[dJ,YY W],by rw[oz V,NG V,y],wR z hv i,λj c x hc k=>?_⟩
 ·rw[dJ,F];intro e;subst e;exact d 0 0 0 R.tag
 ·rw[YA V]at hc;rw[nC V]at k;split at hc
  ·rename_i m;rw[YY m]at k;rw[k]at hc;simp only[Option.map_some,Option.some.injEq]at hc;subst hc;exact W
  ·rename_i m;rw[F m]at k;refine(A j c x hc k).keep (Nat.le_refl _) λr s t C d=>⟨d,?_⟩
   rw[dJ,F];intro e;subst e;rw[R.tag]at d;cases d
structure Cur(b:Nat)(H:ah)(q i:Nat)(x:AV)(m:Nat)(l:List AV):Prop where
 at_:∃ty xs,H.get q=.blk 0 ty xs/\xs[i]?=some x
 own:(x=zN/\l=[])∨∃r g off n cap ex ty all,x=.sl r g off m n cap ex/\r≠q/\b<=r/\r<H.next/\n<=cap/\H.get r=.blk g ty all/\off+cap*m<=all.length/\all.all AV.aU=true/\l=(all.drop off).take (n*m)
 lt:q<H.next
def Good.seq(G:Good b H g)(h:g q=ZC cs){i m:Nat}{l:Q AV}(hi:cs[i]?=ZC (.seq m l)):∃x,ld (.ref q 0 i) H=ZC (x,H)/\Cur b H q i x m l:=by
 have⟨_,τ,hR⟩:=G;have R:=hR q cs h;have⟨ty,xs,h1,h2,h3,h4⟩:=R.blk;have hlt:i<xs.length:=by rw[h2];exact(List.getElem?_eq_some_iff.1 hi).1
 have hx:xs[i]?=ZC (xs[i]'hlt):=List.getElem?_eq_getElem hlt;refine⟨xs[i]'hlt,by rw[dG h1,hx];rfl,⟨ty,xs,h1,hx⟩,?_,R.hi⟩;have:=h4 i _ _ hi hx;simp only[CR]at this;rcases this with h5|⟨r,gg,off,n,cap,ex,ty,all,h5,h6,h7⟩
 ·exact .inl h5
 ·refine .inr ⟨r,gg,off,n,cap,ex,ty,all,h5,?_,h7⟩;intro e;subst e;rw[R.tag]at h6;cases h6
def Cur.load {i m:Nat}{x:AV}{l:Q AV}(c:Cur b H q i x m l):ld (.ref q 0 i) H=ZC (x,H):=by
 have⟨g,xs,d,e⟩:=c.at_;rw[dG d,e];rfl
def Cur.ext {i m:Nat}{x:AV}{l:Q AV}(c:Cur b H q i x m l)(z:H.next<=H'.next)(j:∀r,r<H.next->H'.get r=H.get r):Cur b H' q i x m l:=by
 have⟨d,xs,k,o⟩:=c.at_;refine⟨⟨d,xs,by rw[j q c.lt];exact k,o⟩,?_,by have:=c.lt;omega⟩;rcases c.own with h|⟨r,g,off,n,e,ex,d,all,p,k1,u,v,k4,w,y⟩
 ·exact .inl h
 ·exact .inr ⟨r,g,off,n,e,ex,d,all,p,k1,u,V,k4,by rw[j r v];exact w,y⟩
def Cur.new {i m:Nat}{x:AV}{l:Q AV}(c:Cur b H q i x m l)(o:gG):Cur b (H.new o) q i x m l:=c.ext (Nat.le_succ _) λr d=>by rw[jq,F V]
def Cur.one {i m:Nat}{x:AV}{l:Q AV}(c:Cur b H q i x m l):One x:=by
 rcases c.own with⟨rfl,_⟩|⟨r,g,off,n,d,ex,e,all,rfl,_⟩
 ·exact qG
 ·exact vZ
def Cur.is {i m n:Nat}{x:AV}{l:Q AV}(c:Cur b H q i x m l)(hm:0<m)(d:l.length=n*m):aH H x m n l:=by
 refine⟨d,?_⟩;rcases c.own with⟨rfl,rfl⟩|⟨r,g,off,n',e,ex,j,all,rfl,k1,p,k,k4,o,u,v,rfl⟩
 ·refine⟨W,W,?_⟩;simp only[List.length_nil]at d;rcases Nat.mul_eq_zero.1 d.symm with h|h <;> omega
 ·have w:n'*m<=e*m:=Nat.mul_le_mul_right _ k4;rw[List.length_take,List.length_drop,Nat.min_eq_left V]at d;have:n'=n:=Nat.eq_of_mul_eq_mul_right hm d;subst this;exact⟨W,W,⟨k,k4⟩,j,all,o,V,W⟩
def Cur.low {i m r:Nat}{x:AV}{l:Q AV}(c:Cur b H q i x m l)(h:r<b):iH x≠ZC r:=by
 rcases c.own with⟨rfl,_⟩|⟨r',g,off,n,d,ex,j,all,rfl,k1,k,_⟩
 ·intro e;cases e
 ·intro e;simp only[iH,Option.some.injEq]at e;omega
def Fit(H H1:ah)(d x:AV)(m:Nat)(l:Q AV):Prop:=
 (x=zN/\l=[])∨∃r g off n b ex e all,x=.sl r g off m n b ex/\(iH d=ZC r∨H.next<=r)/\r<H1.next/\n<=b/\H1.get r=.blk g e all/\off+b*m<=all.length/\all.all AV.aU=Z0/\l=(all.drop off).take (n*m)
def Good.seat(G:Good b H g)(h:g q=ZC cs){i m:Nat}{l0:Q AV}(hi:cs[i]?=ZC (.seq m l0)){x0:AV}(c:Cur b H q i x0 m l0){H1:ah}(hn:H.next<=H1.next)(hb:H1.base<=b)
  (hk:∀r,r<H.next->iH x0≠ZC r->H1.get r=H.get r) {x:AV} {m':Nat} {l:Q AV} (hx:Fit H H1 x0 x m' l):
  ∃H',st 1 (.ref q 0 i) x H1=ZC (aX,H')/\Good b H' (upd g q (cs.set i (.seq m' l)))/\Step b H1 H'/\H'.next=H1.next:=by
 have⟨h0,τ,hR⟩:=G;have R:=hR q cs h;have⟨ty,xs,h1,h2,h3,h4⟩:=R.blk;have lo:=R.lo;have hi':=R.hi;have il:i<cs.length:=(List.getElem?_eq_some_iff.1 hi).1;have hx0:xs[i]?=ZC x0:=by
  have⟨ty',xs',e1,e2⟩:=c.at_;rw[h1]at e1;cases e1;exact e2
 have htag:∀r,iH x0=ZC r->τ r=ZC (q,i+1,0,0)/\b<=r:=by
  intro r hr;have:=h4 i _ _ hi hx0;simp only[CR]at this;rcases this with⟨rfl,_⟩|⟨r',gg,off,n,cap,ex,ty',all,rfl,k1,k2,_⟩
  ·cases hr
  ·simp only[iH,Option.some.injEq]at hr;subst hr;exact⟨k1,k2⟩
 have hqx:iH x0≠ZC q:=λe=>by have:=(htag q e).1;rw[R.tag]at this;cases this
 have hq1:H1.get q=.blk 0 ty xs:=by rw[hk q hi' hqx];exact h1
 have hone:One x:=by
  rcases hx with⟨rfl,_⟩|⟨r,gg,off,n,cap,ex,ty',all,rfl,_⟩
  ·exact qG
  ·exact vZ
 refine⟨_,Qu hone hq1 (by omega) (by omega),?_,Step.put _ lo,W⟩;refine xW (τ':=λr=>if H.next<=r then ZC (q,i+1,0,0)else τ r) h0 hR (show H.next<=H1.next from hn) (λr hr ht=>⟨by rw[F (by omega)],?_⟩)
  ⟨by rw[F (by omega)];exact R.tag,R.lo,show q<H1.next by omega,vY (xs:=xs.set i x) (by rw[dJ,YY W]) (R.tyl _ _ _ h1),ty,xs.set i x,by rw[dJ,YY W],by simp[h2],aaF h3 hone.2 i,λj cc y hc hy=>?_⟩
 ·rw[dJ,F (by intro e;subst e;exact ht 0 0 0 R.tag)];exact hk r hr λe=>ht (i+1) 0 0 (htag r e).1
 ·rcases ny hc with⟨rfl,rfl⟩|⟨hj,hc⟩
  ·rcases ny hy with⟨_,rfl⟩|⟨hj,_⟩
   ·rcases hx with hx|⟨r,gg,off,n,cap,ex,ty',all,rfl,k1,k2,k3,k4,k5⟩
    ·exact .inl hx
    ·have hrq:r≠q:=by
      rcases k1 with k1|k1
      ·intro e;subst e;exact hqx k1
      ·omega
     refine .inr ⟨r,gg,off,n,cap,ex,ty',all,W,?_,?_,k2,k3,by rw[dJ,F hrq];exact k4,k5⟩
     ·show(if H.next<=r then ZC (q,j+1,0,0)else τ r)=ZC (q,j+1,0,0);split
      ·rfl
      ·rcases k1 with k1|k1
       ·exact(htag r k1).1
       ·omega
     ·rcases k1 with k1|k1
      ·exact(htag r k1).2
      ·omega
   ·exact absurd W hj
  ·rcases ny hy with⟨rfl,_⟩|⟨_,hy⟩
   ·exact absurd W hj
   ·refine(h4 j cc y hc hy).keep (show H.next<=H1.next from hn) λr s t hr ht=>⟨by rw[F (by omega)];exact ht,?_⟩
    rw[dJ,F (by intro e;subst e;rw[R.tag]at ht;cases ht)];refine hk r hr λe=>?_;have:=(htag r e).1;rw[this]at ht;simp only[Option.some.injEq,zaa,Nat.add_right_cancel_iff]at ht;exact hj ht.2.1.symm
end
section
variable {b:Nat}{H H':ah}{g:bG}{q:Nat}{cs:List Cell}
def aH.lnS {x:AV}{m n:Nat}{cells:Q AV}(h:aH H x m n cells):lnS x H=ZC (I n,H):=by
 have⟨_,h⟩:=h;unfold Go.Proofs.YtgplhpgkompkmaaGreat.lnS kV asn;cases x with
 |sl r g off d len e ex=>simp only;rw[h.2.1];rfl
 |vs k d cs=>simp only;rw[h.2.1];rfl
 |s v=>
  cases v with
  |slice a b c=>
   cases a with
   |none=>simp only;rw[h.2.2,h.1];rfl
   |some a=>exact h.elim
  |_=>exact h.elim
 |_=>exact h.elim
def aH.ix {x:AV}{m n:Nat}{cells:Q AV}(h:aH H x m n cells){k:IntKind}{i:Int}(h0:0<=i)(o:i<n):ix m x (.s (.int k i)) H=ZC (eH x i.toNat,H):=by
 have⟨_,h⟩:=h;unfold Go.Proofs.YtgplhpgkompkmaaGreat.ix kV ixO;cases x with
 |sl r g off d len e ex=>
  obtain⟨rfl,rfl,_,p,all,j,q,u⟩:=h;simp only[bT,Option.map_some,j,arI,gG.gen,zaD];rw[y ⟨h0,V⟩];rfl
 |vs k' d cs=>
  obtain⟨rfl,rfl,rfl⟩:=h;simp only[zaD];rw[y ⟨h0,V⟩];rfl
 |s v=>
  cases v with
  |slice a b c=>
   cases a with
   |none=>obtain⟨rfl,rfl,rfl⟩:=h;omega
   |some a=>exact h.elim
  |_=>exact h.elim
 |_=>exact h.elim
def aH.ld {x:AV}{n:Nat}{cells:Q AV}(h:aH H x 1 n cells){i:Nat}(hi:i<n):ld (eH x i) H=(cells[i]?).map λv=>(v,H):=by
 have⟨_,h⟩:=h;cases x with
 |sl r g off d len e ex=>
  obtain⟨rfl,rfl,_,m,all,j,o,k⟩:=h;simp only[eH];rw[dG j,k,List.getElem?_take,y V,List.getElem?_drop,Nat.mul_one]
 |vs k' d cs=>
  obtain⟨rfl,rfl,rfl⟩:=h;simp only[eH];rw[ani,List.getElem?_drop,Nat.mul_one,Nat.add_zero]
 |s v=>
  cases v with
  |slice a b c=>
   cases a with
   |none=>obtain⟨rfl,rfl,rfl⟩:=h;omega
   |some a=>exact h.elim
  |_=>exact h.elim
 |_=>exact h.elim
def aH.ahm {x:AV}{m n:Nat}{cells:Q AV}(h:aH H x m n cells){i o:Nat}(hi:i<n)(u:o<m):(au (eH x i) o).bind (λp=>Go.Proofs.YtgplhpgkompkmaaGreat.ld p H)=(cells[i*m+o]?).map λv=>(v,H):=by
 have⟨w,h⟩:=h;have e:i*m+m<=n*m:=by
  have:(i+1)*m<=n*m:=Nat.mul_le_mul_right _ hi
  rwa [Nat.succ_mul]at this
 cases x with
 |sl r g off d len j ex=>
  obtain⟨rfl,rfl,_,y,all,k,z,q⟩:=h;simp only[eH,rJ,Option.bind_some];rw[dG k,q,List.getElem?_take,YY V,List.getElem?_drop,Nat.add_assoc]
 |vs k' d cs=>
  obtain⟨rfl,rfl,rfl⟩:=h;simp only[eH,zx,Option.bind_some];rw[ani,List.drop_drop,List.getElem?_drop,Nat.add_zero]
 |s v=>
  cases v with
  |slice a b c=>
   cases a with
   |none=>obtain⟨rfl,rfl,rfl⟩:=h;omega
   |some a=>exact h.elim
  |_=>exact h.elim
 |_=>exact h.elim
def aH.lda {x:AV}{m n:Nat}{cells:Q AV}(h:aH H x m n cells){i:Nat}(hi:i<n):lda m (eH x i) H=ZC (.agg ((cells.drop (i*m)).take m),H):=by
 have⟨p,h⟩:=h;have e:i*m+m<=n*m:=by
  have:(i+1)*m<=n*m:=Nat.mul_le_mul_right _ hi
  rwa [Nat.succ_mul]at this
 cases x with
 |sl r g off d len j ex=>
  obtain⟨rfl,rfl,_,q,all,k,u,o⟩:=h;simp only[eH];rw[iE k V,o,List.drop_take,List.take_take,List.drop_drop,Nat.min_eq_left V]
 |vs k' d cs=>
  obtain⟨rfl,rfl,rfl⟩:=h;simp only[eH];rw[anj (by rw[List.length_drop];omega)]
 |s v=>
  cases v with
  |slice a b c=>
   cases a with
   |none=>obtain⟨rfl,rfl,rfl⟩:=h;omega
   |some a=>exact h.elim
  |_=>exact h.elim
 |_=>exact h.elim
def Ie {all new:List AV}{off n:Nat}(h:off+n+new.length<=all.length):((aI all (off+n) new).drop off).take (n+new.length)=(all.drop off).take n++new:=by
 have e:(aI all (off+n) new).length=all.length:=oz V
 apply List.ext_getElem?
 intro j;rcases Nat.lt_or_ge j n with b|b
 ·rw[List.getElem?_take,if_pos V,List.getElem?_drop,nC V,if_neg V,List.getElem?_append_left (by rw[List.length_take,List.length_drop];omega),List.getElem?_take,if_pos b,List.getElem?_drop]
 ·rcases Nat.lt_or_ge j (n+new.length)with d|d
  ·rw[List.getElem?_take,if_pos d,List.getElem?_drop,nC V,if_pos V,List.getElem?_append_right (by rw[List.length_take,List.length_drop];omega),List.length_take,List.length_drop]
   congr 1;omega
  ·rw[List.getElem?_take,if_neg V,List.getElem?_append_right (by rw[List.length_take,List.length_drop];omega),List.length_take,List.length_drop,List.getElem?_eq_none V]
def all_append {l b:Q AV}(h:l.all AV.aU=Z0)(d:b.all AV.aU=Z0):(l++b).all AV.aU=true:=by rw[List.all_append,h,d];rfl
def EY {l:Q AV}(h:l.all AV.aU=Z0)(n:Nat):(l.take n).all AV.aU=true:=by
 rw[List.all_eq_true]at h ⊢;exact λx b=>h x (List.mem_of_mem_take b)
def Am {l:Q AV}(h:l.all AV.aU=Z0)(n:Nat):(l.drop n).all AV.aU=true:=by
 rw[List.all_eq_true]at h ⊢;exact λx b=>h x (List.mem_of_mem_drop b)
def Own(b:Nat)(H:ah)(x:AV)(m:Nat)(l:Q AV):Prop:=
 (x=zN/\l=[])∨∃r g off n d ex e all,x=.sl r g off m n d ex/\b<=r/\r<H.next/\n<=d/\H.get r=.blk g e all/\off+d*m<=all.length/\all.all AV.aU=Z0/\l=(all.drop off).take (n*m)
def Own.app {m n k:Nat}{x y:AV}{l new:Q AV}(c:Own b H x m l)(hb:H.base<=b)(hm:0<m)(hl:l.length=n*m)(hy:aH H y m k new)(hc:new.all AV.aU=Z0){e:XN}{by_:Nat}(h1:n+k<=most)(h2:(n+k)*by_<=most):
  ∃x' H1,app e m by_ x y H=ZC (x',H1)/\Fit H H1 x x' m (l++new)/\H.next<=H1.next/\H1.base=H.base/\∀r,r<H.next->iH x≠ZC r->H1.get r=H.get r:=by
 have⟨c1,c2⟩:=hy.wQ;have c3:=hy.1;have key:Go.Proofs.YtgplhpgkompkmaaGreat.app e m by_ x y H=dV e m by_ x k new H:=by simp only[Go.Proofs.YtgplhpgkompkmaaGreat.app,c1,c2]
 rw[key];unfold dV;rw[YY ⟨c3,hc⟩];rcases c with⟨rfl,rfl⟩|⟨r,gg,off,n',cap,ex,ty,all,rfl,k2,k3,k4,k5,k6,k7,rfl⟩
 ·simp only[List.length_nil]at hl;have hn:n=0:=by rcases Nat.mul_eq_zero.1 hl.symm with h|h <;> omega
  subst hn;rw[Nat.zero_add]at h1 h2;by_cases hk:k=0
  ·subst hk;rw[Nat.zero_mul]at c3;have:new=[]:=List.eq_nil_of_length_eq_zero c3;subst this;exact⟨zN,H,by simp only[zad],.inl ⟨W,W⟩,Nat.le_refl _,W,λ_ _ _=>rfl⟩
  ·refine⟨.sl H.next 0 0 m k k ZV,H.new (.blk 0 (e+gW) new),by simp only[hk,h1,h2,and_self,zad,zaf],.inr ⟨H.next,0,0,k,k,ZV,e+gW,new,W,.inr (Nat.le_refl _),by rw[EU];omega,Nat.le_refl _,by simp[jq],by omega,hc,?_⟩,Nat.le_succ _,W,λr hr _=>by rw[jq,F (by omega)]⟩;rw[List.nil_append,List.drop_zero,List.take_of_length_le (by omega)]
 ·have hcm:n'*m<=cap*m:=Nat.mul_le_mul_right _ k4;rw[List.length_take,List.length_drop,Nat.min_eq_left (by omega)]at hl;have hn:n'=n:=Nat.eq_of_mul_eq_mul_right hm hl;subst hn;simp only[k5];rw[YY ⟨zac,zac,by omega⟩];by_cases hk:k=0
  ·subst hk;rw[Nat.zero_mul]at c3;have:new=[]:=List.eq_nil_of_length_eq_zero c3;subst this;exact⟨_,H,by rw[YY W],.inr ⟨r,gg,off,n',cap,ex,ty,all,W,.inl W,k3,k4,k5,k6,k7,by rw[List.append_nil]⟩,Nat.le_refl _,W,λ_ _ _=>rfl⟩
  ·rw[F hk];by_cases hf:n'+k<=cap
   ·have hfm:(n'+k)*m<=cap*m:=Nat.mul_le_mul_right _ hf;rw[YY hf,YY ⟨by omega,by omega⟩];refine⟨_,_,W,.inr ⟨r,gg,off,n'+k,cap,ex,ty,aI all (off+n'*m) new,W,.inl W,k3,hf,by rw[dJ,YY W],?_,wR k7 hc _,?_⟩,Nat.le_refl _,W,λr' hr hne=>?_⟩
    ·rw[Nat.add_mul]at hfm;rw[oz (by omega)];exact k6
    ·rw[Nat.add_mul]at hfm ⊢;rw[<-c3,Ie (by omega)]
    ·rw[dJ,F];intro e';subst e';exact hne W
   ·rw[F hf,YY ⟨h1,h2⟩];have e1:((all.drop off).take (n'*m)).length=n'*m:=by rw[List.length_take,List.length_drop];omega
    have e2:((all.drop off).take (n'*m)++new).length=(n'+k)*m:=by rw[List.length_append,e1,c3,Nat.add_mul]
    cases ex with
    |true=>
     simp only[zad];refine⟨_,_,W,.inr ⟨H.next,0,0,n'+k,n'+k,ZV,e+gW,(all.drop off).take (n'*m)++new,W,.inr (Nat.le_refl _),by rw[EU];omega,Nat.le_refl _,by simp only[jq,zad],by rw[e2,Nat.zero_add];exact Nat.le_refl _,all_append (EY (Am k7 _) _) hc,?_⟩,Nat.le_succ _,W,λr' hr _=>by rw[jq,F (by omega)]⟩;rw[List.drop_zero,List.take_of_length_le (Nat.le_of_eq e2)]
    |false=>
     simp only[Bool.false_eq_true,zaf];rw[YY (by omega)];refine⟨_,_,W,.inr ⟨r,gg+1,0,n'+k,n'+k,ZV,grT e ty off,(all.drop off).take (n'*m)++new,W,.inl W,k3,Nat.le_refl _,by simp only[dJ,zad],by rw[e2,Nat.zero_add];exact Nat.le_refl _,all_append (EY (Am k7 _) _) hc,?_⟩,Nat.le_refl _,W,λr' hr hne=>?_⟩
     ·rw[List.drop_zero,List.take_of_length_le (Nat.le_of_eq e2)]
     ·rw[dJ,F];intro e';subst e';exact hne W
def Cur.asz {i m:Nat}{x:AV}{l:Q AV}(c:Cur b H q i x m l):Own b H x m l:=by
 rcases c.own with h|⟨r,gg,off,n',d,ex,e,all,g,k1,j⟩
 ·exact .inl h
 ·exact .inr ⟨r,gg,off,n',d,ex,e,all,g,j⟩
def Cur.app {i m n k:Nat}{x y:AV}{l new:Q AV}(c:Cur b H q i x m l)(hb:H.base<=b)(hm:0<m)(g:l.length=n*m)(h:aH H y m k new)(hc:new.all AV.aU=Z0){e:XN}{by_:Nat}(j:n+k<=most)(o:(n+k)*by_<=most):
  ∃d H1,app e m by_ x y H=ZC (d,H1)/\Fit H H1 x d m (l++new)/\H.next<=H1.next/\H1.base=H.base/\∀r,r<H.next->iH x≠ZC r->H1.get r=H.get r:=
 c.asz.app hb hm g h hc j o
def Own.step {m n k:Nat}{x y:AV}{l new:Q AV}(c:Own b H x m l)(q:b<=H.next)(hb:H.base<=b)(hm:0<m)(u:l.length=n*m)(v:aH H y m k new)(hc:new.all AV.aU=Z0){e:XN}{by_:Nat}(w:n+k<=most)(z:(n+k)*by_<=most):
  ∃h H1,Go.Proofs.YtgplhpgkompkmaaGreat.app e m by_ x y H=ZC (h,H1)/\Own b H1 h m (l++new)/\Step b H H1:=by
 have⟨h,H1,A,f,n1,C,k1⟩:=c.app hb hm u v hc (e:=e) (by_:=by_) w z;have j:∀r,iH x=ZC r->b<=r:=λr i=>by
  rcases c with⟨rfl,_⟩|⟨r',g,off,n',d,ex,o,all,rfl,E,_⟩
  ·cases i
  ·simp only[iH,Option.some.injEq]at i;omega
 refine⟨h,H1,A,?_,C,n1,λr i=>k1 r V λe=>by have:=j r e;omega⟩;rcases f with f|⟨r,g,off,n',d,ex,o,all,rfl,p,D⟩
 ·exact .inl f
 ·exact .inr ⟨r,g,off,n',d,ex,o,all,W,p.elim (j r) λp=>V,D⟩
def Own.is {m n:Nat}{x:AV}{l:Q AV}(c:Own b H x m l)(hm:0<m)(d:l.length=n*m):aH H x m n l:=by
 refine⟨d,?_⟩;rcases c with⟨rfl,rfl⟩|⟨r,g,off,n',e,ex,i,all,rfl,q,j,k4,k,u,v,rfl⟩
 ·refine⟨W,W,?_⟩;simp only[List.length_nil]at d;rcases Nat.mul_eq_zero.1 d.symm with h|h <;> omega
 ·have o:n'*m<=e*m:=Nat.mul_le_mul_right _ k4;rw[List.length_take,List.length_drop,Nat.min_eq_left V]at d;have p:n'=n:=Nat.eq_of_mul_eq_mul_right hm d;subst p;exact⟨W,W,⟨j,k4⟩,i,all,k,V,W⟩
def Own.ext {m:Nat}{x:AV}{l:Q AV}(c:Own b H x m l)(u:H.next<=H'.next)(e:∀r,r<H.next->H'.get r=H.get r):Own b H' x m l:=by
 rcases c with h|⟨r,g,off,n,d,ex,i,all,j,k,o,k4,p,q⟩
 ·exact .inl h
 ·exact .inr ⟨r,g,off,n,d,ex,i,all,j,k,V,k4,by rw[e r o];exact p,q⟩
def Own.new {m:Nat}{x:AV}{l:Q AV}(c:Own b H x m l)(o:gG):Own b (H.new o) x m l:=c.ext (Nat.le_succ _) λr d=>by rw[jq,F V]
def Good.append(G:Good b H g)(hb:H.base<=b)(h:g q=ZC cs){i m n k:Nat}{l new:Q AV}(hi:cs[i]?=ZC (.seq m l))(hm:0<m)(o:l.length=n*m){x y:AV}(c:Cur b H q i x m l)(p:aH H y m k new)(hc:new.all AV.aU=Z0){e:XN}{by_:Nat}(u:n+k<=most)(v:(n+k)*by_<=most):
  ∃j H1 d,app e m by_ x y H=ZC (j,H1)/\st 1 (.ref q 0 i) j H1=ZC (aX,d)/\Good b d (upd g q (cs.set i (.seq m (l++new))))/\Step b H d:=by
 have⟨j,H1,w,f,n1,z,k1⟩:=c.app hb hm o p hc (e:=e) (by_:=by_) u v;have⟨d,A,C,D,K⟩:=G.seat h hi c n1 V k1 f;have E:=G.1;exact⟨j,H1,d,w,A,C,Step.trans ⟨z,n1,λr F=>k1 r V (c.low F)⟩ D⟩
def Good.elem(G:Good b H g)(hb:H.base<=b)(h:g q=some cs){i m n:Nat}{l:List AV}(hi:cs[i]?=some (.seq m l))(hm:0<m)(K:l.length=n*m){x:AV}(c:Cur b H q i x m l){j:Nat}(hj:j<n):
  ∃r gg off,eH x j=.ref r gg off/\∀(w o:Nat) (v:AV),v.cells.length=w->v.cells.all AV.aU=true->o+w<=m->
   ∃H',st w (.ref r gg (off+o)) v H=some (aX,H')/\Good b H' (upd g q (cs.set i (.seq m (aI l (j*m+o) v.cells))))/\Step b H H'/\H'.next=H.next:=by
 have ab:j*m+m<=n*m:=by
  have:(j+1)*m<=n*m:=Nat.mul_le_mul_right _ hj
  rwa [Nat.succ_mul]at this
 rcases c.own with⟨rfl,rfl⟩|⟨r,gg,off,n',u,ex,E,all,rfl,k1,W,k3,k4,k5,k6,k7,rfl⟩
 ·simp only[List.length_nil]at K;omega
 ·have ad:n'*m<=u*m:=Nat.mul_le_mul_right _ k4;rw[List.length_take,List.length_drop,Nat.min_eq_left V]at K;have hn:n'=n:=Nat.eq_of_mul_eq_mul_right hm K;subst hn;refine⟨r,gg,off+j*m,rfl,λw o v hw hv ho=>?_⟩;obtain⟨h0,τ,X⟩:=G;have R:=X q cs h;obtain⟨L,xs,F,h2,h3,h4⟩:=R.blk;have C:xs[i]?=some (.sl r gg off m n' u ex):=by
   obtain⟨ae,af,e1,e2⟩:=c.at_;rw[F]at e1;cases e1;exact e2
  have d:τ r=some (q,i+1,0,0):=by
   have:=h4 i _ _ hi C;simp only[CR]at this;rcases this with⟨h,_⟩|⟨_,_,_,_,_,_,_,_,h,k,_⟩
   ·cases h
   ·cases h;exact k
  refine⟨H.put r (.blk gg E (aI all (off+j*m+o) v.cells)),?_,?_,Step.put _ W,rfl⟩
  ·show(match H.get r with
    |.blk g' E cells=>if g'=gg/\H.base<=r/\some w=some v.cells.length/\v.cells.all AV.aU=true/\off+j*m+o+v.cells.length<=cells.length then some (aX,H.put r (.blk gg E (aI cells (off+j*m+o) v.cells)))else none
    |.map ..=>none)=_
   rw[k5];simp only;rw[if_pos ⟨trivial,V,by rw[hw],hv,V⟩]
  ·refine xW (τ':=τ) h0 X (Nat.le_refl _) (λr' hr A=>⟨rfl,?_⟩) ⟨R.tag,R.lo,R.hi,vY (xs:=xs) (by rw[dJ,if_neg (λe=>k1 e.symm)];exact F) (R.tyl _ _ _ F),L,xs,by rw[dJ,if_neg (λe=>k1 e.symm)];exact F,by simp[h2],h3,λj' cc y z M=>?_⟩
   ·rw[dJ,if_neg];intro e;subst e;exact A _ _ _ d
   ·rcases ny z with⟨rfl,rfl⟩|⟨Q,z⟩
    ·rw[C]at M;cases M;refine .inr ⟨r,gg,off,n',u,ex,E,_,rfl,d,W,k3,k4,by rw[dJ,if_pos rfl],by rw[oz V];exact k6,wR k7 hv _,?_⟩
     apply List.ext_getElem?
     intro p;have aa:((all.drop off).take (n'*m)).length=n'*m:=by rw[List.length_take,List.length_drop];omega
     rw[nC V];rcases Nat.lt_or_ge p (n'*m)with T|T
     ·rw[List.getElem?_take,if_pos T,List.getElem?_drop,List.getElem?_take,if_pos T,List.getElem?_drop,nC V];by_cases D:j*m+o<=p/\p<j*m+o+v.cells.length
      ·rw[if_pos D,if_pos V];congr 1;omega
      ·rw[if_neg D,if_neg V]
     ·rw[List.getElem?_take,if_neg V,List.getElem?_take,if_neg V,if_neg V]
    ·refine(h4 j' cc y z M).keep (Nat.le_refl _) λr' s t hr A=>⟨A,?_⟩
     rw[dJ,if_neg];intro e;subst e;rw[d]at A;simp only[Option.some.injEq,Prod.mk.injEq,Nat.add_right_cancel_iff]at A;exact Q A.2.1.symm
def Good.map(G:Good b H g)(h:g q=ZC cs){i:Nat}{k:IntKind}{es:Q (Int × AV)}(hi:cs[i]?=ZC (.map k es)):
  ∃r,ld (.ref q 0 i) H=ZC (.mp r,H)/\(∀z n ok,lk k z (.mp r) (.s (.int k n)) ok H=ZC ((match qA es n with
   |some v=>if ok then .tup [v,.s (.bool Z0)]else v
   |none=>if ok then .tup [.s z,.s (.bool ZV)]else .s z),H))/\lnM (.mp r) H=ZC (I es.length,H)/\(H.base<=b->
   (∀n v,∃H',mup k (.mp r) (.s (.int k n)) v H=ZC (aX,H')/\Good b H' (upd g q (cs.set i (.map k (MJ es n v))))/\Step b H H'/\H'.next=H.next)/\
   (∀n,∃H',del k (.mp r) (.s (.int k n)) H=ZC (.tup [],H')/\Good b H' (upd g q (cs.set i (.map k (Aa es n))))/\Step b H H'/\H'.next=H.next)):=by
 have⟨h0,τ,hR⟩:=G;have R:=hR q cs h;have⟨ty,xs,h1,h2,h3,h4⟩:=R.blk;have hlt:i<xs.length:=by rw[h2];exact(List.getElem?_eq_some_iff.1 hi).1
 have hx:xs[i]?=ZC (xs[i]'hlt):=List.getElem?_eq_getElem hlt;have:=h4 i _ _ hi hx;simp only[CR]at this;have⟨r,e,t1,t2,t3,t4⟩:=this;rw[e]at hx;have hrq:q≠r:=by intro e;subst e;rw[R.tag]at t1;cases t1
 have put:∀es',Good b (H.put r (.map k es')) (upd g q (cs.set i (.map k es'))):=by
  intro es';refine xW (τ':=τ) h0 hR (Nat.le_refl _) (λr' hr ht=>⟨W,?_⟩) ⟨R.tag,R.lo,R.hi,vY (xs:=xs) (by rw[dJ,F hrq];exact h1) (R.tyl _ _ _ h1),ty,xs,by rw[dJ,F hrq];exact h1,by simp[h2],h3,λj c y hc hy=>?_⟩
  ·rw[dJ,F];intro e;subst e;exact ht _ _ _ t1
  ·rcases ny hc with⟨rfl,rfl⟩|⟨hj,hc⟩
   ·rw[hx]at hy;cases hy;exact⟨r,W,t1,t2,t3,by rw[dJ,YY W]⟩
   ·refine(h4 j c y hc hy).keep (Nat.le_refl _) λr' s t hr ht=>⟨ht,?_⟩
    rw[dJ,F];intro e;subst e;rw[t1]at ht;simp only[Option.some.injEq,zaa,Nat.add_right_cancel_iff]at ht;exact hj ht.2.1.symm
 refine⟨r,by rw[dG h1,hx];rfl,λz n ok=>?_,?_,λhb=>⟨λn v=>⟨H.put r (.map k (MJ es n v)),?_,put _,Step.put _ t2,W⟩,λn=>⟨H.put r (.map k (Aa es n)),?_,put _,Step.put _ t2,W⟩⟩⟩
 ·simp only[lk,kV,bT,Option.map_some,lkO,t4,and_self,zad];cases qA es n <;> rfl
 ·simp only[lnM,kV,bT,Option.map_some,aso,t4]
 ·simp only[mup,t4];rw[YY ⟨zac,zac,V⟩]
 ·simp only[del,t4];rw[YY ⟨zac,zac,V⟩]
end
abbrev w64(n:Int):Int:=IntKind.wrap .i64 n
structure Cfg where
 aF:Int
 aT:Int
 aP:Int
 sets:Int
 ways:Int
 out:Int
 inn:Int
 init:List Int
structure Pkt where
 aW:Int
 src:Int
 dst:Int
 id:Int
 ak:Int
 ptr:Int
 state:Int
 flag:Bool
 data:List Int
 deriving DecidableEq
structure Opn where
 aW:Int
 addr:Int
 value:Int
 deriving DecidableEq
structure Evn where
 bC:Int
 index:Int
 done:Bool
 value:Int
 deriving DecidableEq
structure Ent where
 fwd:Int
 back:Int
 ak:Int
 used:Int
 bJ:Bool
 data:List Int
 deriving DecidableEq
structure Row where
 state:Int
 head:Int
 data:List Int
 deriving DecidableEq
structure bW where
 aW:Int
 ak:Int
 id:Int
 step:Int
 state:Int
 head:Int
 data:List Int
 next:Int
 told:Int
 deriving DecidableEq
structure Pck where
 deliver:Bool
 at_:Int
 bit:Int
 mask:Int
def vsl {α:Type}(m:Nat)(enc:α->Q AV)(l:Q α):AV:=if l=[]then zN else .vs l.length m (l.flatMap enc)
def arQ(n:Int):Q AV:=[I n]
def dat(l:Q Int):AV:=vsl 1 arQ l
def Cfg.av(c:Cfg):Q AV:=[I c.aF,I c.aT,I c.aP,I c.sets,I c.ways,I c.out,I c.inn,dat c.init]
def Pkt.av(p:Pkt):Q AV:=[I p.aW,I p.src,I p.dst,I p.id,I p.ak,I p.ptr,I p.state,B p.flag,dat p.data]
def Opn.av(o:Opn):Q AV:=[I o.aW,I o.addr,I o.value]
def Evn.av(e:Evn):Q AV:=[I e.bC,I e.index,B e.done,I e.value]
def Ent.av(e:Ent):Q AV:=[I e.fwd,I e.back,I e.ak,I e.used,B e.bJ,dat e.data]
def Row.av(r:Row):Q AV:=[I r.state,I r.head,dat r.data]
def bW.av(d:bW):Q AV:=[I d.aW,I d.ak,I d.id,I d.step,I d.state,I d.head,dat d.data,I d.next,I d.told]
def Pck.av(p:Pck):Q AV:=[B p.deliver,I p.at_,I p.bit,.s (.int .u16 p.mask)]
def Pkt.zero:Pkt:=⟨0,0,0,0,0,0,0,ZV,[]⟩
def Opn.zero:Opn:=⟨0,0,0⟩
def Ent.zero:Ent:=⟨0,0,0,0,ZV,[]⟩
def Row.zero:Row:=⟨0,0,[]⟩
def bW.zero:bW:=⟨0,0,0,0,0,0,[],0,0⟩
def dF {α:Type}{enc:α->Q AV}{m:Nat}(b:∀a,(enc a).length=m)(l:Q α):(l.flatMap enc).length=l.length*m:=Uk b l
def Ig {α:Type}{enc:α->Q AV}{m:Nat}(b:∀a,(enc a).length=m)(H:ah)(l:Q α):aH H (vsl m enc l) m l.length (l.flatMap enc):=by
 unfold vsl;split
 ·rename_i h;subst h;exact aH.nil
 ·exact aH.vs (dF b l)
def gu {α:Type}{enc:α->Q AV}{m:Nat}:vsl m enc ([]:Q α)=zN:=by simp[vsl]
def EZ {α:Type}{enc:α->Q AV}{m:Nat}{l:Q α}(h:l≠[]):vsl m enc l=.vs l.length m (l.flatMap enc):=by simp[vsl,h]
def Ul {α:Type}{enc:α->Q AV}{m:Nat}{l:Q α}:One (vsl m enc l):=by
 unfold vsl;split
 ·exact qG
 ·exact ahl
def sU {l:Q Int}:One (dat l):=Ul
def aeS(n:Int):(arQ n).length=1:=rfl
def Qv(l:Q Int):l.flatMap arQ=l.map I:=by
 induction l with
 |nil=>rfl
 |cons a l b=>rw[List.flatMap_cons,b];rfl
def gJ(H:ah)(l:Q Int):aH H (dat l) 1 l.length (l.map I):=by
 have:=Ig aeS H l;rw[Qv]at this;exact this
def cO(p:Pkt):p.av.length=9:=rfl
def eG(p:Opn):p.av.length=3:=rfl
def oC(p:Evn):p.av.length=4:=rfl
def dK(p:Ent):p.av.length=6:=rfl
def CX(p:Row):p.av.length=3:=rfl
def KL(p:Cfg):p.av.length=8:=rfl
def Ih(p:bW):p.av.length=9:=rfl
def KN(p:Pck):p.av.length=4:=rfl
def ahn(p:Cfg):p.av.take 8=p.av:=rfl
def Qw(p:Pkt):p.av.take 9=p.av:=rfl
def aho(p:Opn):p.av.take 3=p.av:=rfl
def ahp(p:Evn):p.av.take 4=p.av:=rfl
def ahq(p:Ent):p.av.take 6=p.av:=rfl
def ahr(p:Row):p.av.take 3=p.av:=rfl
def aaG(p:bW):p.av.take 9=p.av:=rfl
def ahs(p:Pck):p.av.take 4=p.av:=rfl
def Ii {l:Q Int}:(dat l).cells=[dat l]:=sU.1
def oD {l:Q Int}:(dat l).aU=true:=sU.2
def Ij {α:Type}{enc:α->Q AV}{m:Nat}{l:Q α}:(vsl m enc l).cells=[vsl m enc l]:=Ul.1
def KP {α:Type}{enc:α->Q AV}{m:Nat}{l:Q α}:(vsl m enc l).aU=true:=Ul.2
def eF(c:Cfg):c.av.all AV.aU=true:=by simp[Cfg.av,iL,oD]
def aV(p:Pkt):p.av.all AV.aU=true:=by simp[Pkt.av,iL,kR,oD]
def mg(p:Opn):p.av.all AV.aU=true:=by simp[Opn.av,iL]
def zD(p:Evn):p.av.all AV.aU=true:=by simp[Evn.av,iL,kR]
def jR(p:Ent):p.av.all AV.aU=true:=by simp[Ent.av,iL,kR,oD]
def Ik(p:Row):p.av.all AV.aU=true:=by simp[Row.av,iL,oD]
def bH(p:bW):p.av.all AV.aU=true:=by simp[bW.av,iL,oD]
def Il(p:Pck):p.av.all AV.aU=true:=by simp[Pck.av,iL,kR]
def E8 {α:Type}{enc:α->Q AV}(h:∀a,(enc a).all AV.aU=Z0)(l:Q α):(l.flatMap enc).all AV.aU=true:=by
 rw[List.all_eq_true];intro x b;have⟨a,_,ha⟩:=List.mem_flatMap.1 b;exact List.all_eq_true.1 (h a) x ha
def iM {H:ah}{n d:Nat}:∀(l:Q AV),(∀x∈l,bV H n d x=ZC x)->l.mapM (bV H n d)=ZC l
 |[],_=>rfl
 |x::l,h=>by
  rw[List.mapM_cons,iM l λy b=>h y (by simp[b]),h x O];rfl
def iF {H:ah}{n d:Nat}{v:XS}:bV H n (d+1) (.s v)=ZC (.s v):=by rw[bV]
def aaH {H:ah}{n d k m:Nat}{l:Q AV}(h:∀x∈l,bV H n d x=ZC x):bV H n (d+1) (.vs k m l)=ZC (.vs k m l):=by
 rw[bV];simp only[iM l h,Option.map_some]
def KQ {H:ah}{n d:Nat}{l:Q AV}(h:∀x∈l,bV H n d x=ZC x):bV H n (d+1) (.agg l)=ZC (.agg l):=by
 rw[bV];simp only[iM l h,Option.map_some]
def KR {H:ah}{n d:Nat}{l:Q AV}(h:∀x∈l,bV H n d x=ZC x):bV H n (d+1) (.tup l)=ZC (.tup l):=by
 rw[bV];simp only[iM l h,Option.map_some]
def kS {H:ah}{n d r g off b len cap:Nat}{ex:Bool}{l:Q AV}(e:n<=r){cells:Q AV}(hc:cZ H (.sl r g off b len cap ex)=ZC cells)(h:cells.mapM (bV H n d)=ZC l):bV H n (d+1) (.sl r g off b len cap ex)=ZC (.vs len b l):=by
 rw[bV];simp only[F (Nat.not_lt.2 e),hc,h,Option.map_some]
def Frz(d:Nat)(x:AV):Prop:=∀H n,bV H n d x=ZC x
def fC {v:XS}{d:Nat}:Frz (d+1) (.s v):=λ_ _=>iF
def aht {d k m:Nat}{l:Q AV}(h:∀x∈l,Frz d x):Frz (d+1) (.vs k m l):=λH n=>aaH λx b=>h x b H n
def mD {d:Nat}{l:Q AV}(h:∀x∈l,Frz d x):Frz (d+1) (.agg l):=λH n=>KQ λx b=>h x b H n
def wS {d:Nat}{l:Q AV}(h:∀x∈l,Frz d x):Frz (d+1) (.tup l):=λH n=>KR λx b=>h x b H n
def aj9 {α:Type}{enc:α->Q AV}{m d:Nat}{l:Q α}(h:∀a,∀x∈enc a,Frz (d+1) x):Frz (d+2) (vsl m enc l):=by
 unfold vsl;split
 ·exact fC
 ·refine aht λx b=>?_;have⟨a,_,ha⟩:=List.mem_flatMap.1 b;exact h a x ha
def sV {l:Q Int}{d:Nat}:Frz (d+2) (dat l):=aj9 λa x b=>by
 simp only[arQ,List.mem_singleton]at b;subst b;exact fC
section
variable {β:Type}{x:Option (AV × ah)}{H:ah}{k:AV->ah->Option β}
def ank:gdA (ZC (.s (.bool Z0))) Z0 x H k=bnd x k:=rfl
def anl:gdA (ZC (.s (.bool Z0))) ZV x H k=k aX H:=rfl
def anm:gdA (ZC (.s (.bool ZV))) Z0 x H k=k aX H:=rfl
def ano:gdA (ZC (.s (.bool ZV))) ZV x H k=bnd x k:=rfl
def auM {a b:AV}:bQ (.s (.bool Z0)) a b=ZC a:=rfl
def auN {a b:AV}:bQ (.s (.bool ZV)) a b=ZC b:=rfl
end
def aaI {r g o:Nat}:ay (.ref r g o)=ZC (.ref r g o):=rfl
def ahu {l:Q AV}:ay (.ip l)=ZC (.ip l):=rfl
def ahv {f:FuncId}{a c:Q AV}:ay (.fn (.func f) a c)=ZC (.fn (.func f) a c):=rfl
def ahw {l:Q AV}{i:Nat}:aG (.tup l) i=l[i]?:=rfl
def ahx {l:Q AV}{o:Nat}:fl (.agg l) o=l[o]?:=rfl
def ahy {r g off:Nat}{H:ah}:ld (.ref r g off) H=match H.get r with
  |.blk g' _ cells=>if g'=g then(cells[off]?).map λv=>(v,H)else Z1
  |.map ..=>none:=by
 simp only[ld,kV,bT,Option.map_some,ldO];cases H.get r with
 |map k b=>rfl
 |blk g' d cells=>simp only;split <;> rfl
def Um {r g off n:Nat}{H:ah}:lda n (.ref r g off) H=match H.get r with
  |.blk g' _ cells=>if g'=g then(if off+n<=cells.length then ZC (.agg ((cells.drop off).take n),H)else Z1)else Z1
  |.map ..=>none:=by
 simp only[lda,kV,bT,Option.map_some,arO];cases H.get r with
 |map k b=>rfl
 |blk g' d cells=>
  simp only;split
  ·split <;> rfl
  ·rfl
def aC {t:XN}{l:Q AV}{H:ah}(h:l.all AV.aU=Z0)(b:t<1000000000):fK t (.agg l) H=ZC (.ref H.next 0 0,H.new (.blk 0 t l)):=V5 h b
def ahz {t:XN}{z:Q AV}{H:ah}:alc t z H=ZC (.ref H.next 0 0,H.new (.blk 0 t z)):=rfl
def ahA {k:IntKind}{H:ah}:mkm k H=ZC (.mp H.next,H.new (.map k [])):=rfl
def leS {a b:Nat}(h:a<=b):a<=b+1:=V
def ltS {a b:Nat}(h:a<b):a<b+1:=V
def eu {H:ah}{o:gG}:(H.new o).next=H.next+1:=Eq.trans W W
def asA {H:ah}{r:Nat}{o:gG}:(H.put r o).next=H.next:=Eq.trans W W
def iO {H:ah}{o:gG}:(H.new o).base=H.base:=Eq.trans W W
def auO {H:ah}{r:Nat}{o:gG}:(H.put r o).base=H.base:=Eq.trans W W
def wU {H:ah}:H.guard.next=H.next:=Eq.trans W W
def amc {H:ah}:H.guard.base=H.next:=Eq.trans W W
def ad9 {H:ah}:H.guard.get=H.get:=Eq.trans W W
def qH {H:ah}{o:gG}:(H.new o).get H.next=o:=by rw[jq,y W]
def aK {H:ah}{o:gG}{r:Nat}(h:r=H.next):(H.new o).get r=o:=by rw[jq,y h]
def aZ {H:ah}{o:gG}{r:Nat}(h:r<H.next):(H.new o).get r=H.get r:=by rw[jq,F (by omega)]
def Io {H:ah}{o:gG}{r:Nat}:(H.put r o).get r=o:=by rw[dJ,y W]
def NH {n r off:Nat}{v:AV}{H:ah}:st n (.ref r 0 off) v H=match H.get r with
  |.blk g' ty cells=>if g'=0/\H.base<=r/\n=v.cells.length/\v.cells.all AV.aU=Z0/\off+v.cells.length<=cells.length then ZC (aX,H.put r (.blk 0 ty (aI cells off v.cells)))else Z1
  |.map ..=>none:=by
 unfold st;simp only[Option.some.injEq];cases H.get r <;> rfl
def ahB {H:ah}{r off:Nat}{ty:XN}{cells:Q AV}(h:r=H.next):ld (.ref r 0 off) (H.new (.blk 0 ty cells))=(cells[off]?).map λv=>(v,H.new (.blk 0 ty cells)):=dG (aK h)
def aaJ {H:ah}{r off n:Nat}{ty:XN}{cells:Q AV}(h:r=H.next):lda n (.ref r 0 off) (H.new (.blk 0 ty cells))=if off+n<=cells.length then ZC (.agg ((cells.drop off).take n),H.new (.blk 0 ty cells))else none:=by
 split
 ·rename_i b;exact iE (aK h) b
 ·rename_i b;rw[Um,aK h];simp only[zad,b,zaf]
def D7 {H:ah}{r off:Nat}{o:gG}(h:r<H.next):ld (.ref r 0 off) (H.new o)=(ld (.ref r 0 off) H).map λp=>(p.1,H.new o):=by
 rw[ahy,ahy,aZ h];cases H.get r with
 |map k b=>rfl
 |blk g d cells=>simp only;split <;> first|rfl|(cases cells[off]? <;> rfl)
def aaK {H:ah}{r off n:Nat}{o:gG}(h:r<H.next):lda n (.ref r 0 off) (H.new o)=(lda n (.ref r 0 off) H).map λp=>(p.1,H.new o):=by
 rw[Um,Um,aZ h];cases H.get r with
 |map k b=>rfl
 |blk g d cells=>simp only;split <;> first|rfl|(split <;> rfl)
def Ip {H:ah}{a b:gG}:(H.new a).put H.next b=H.new b:=by
 unfold ah.put ah.new;simp only
 congr 1
 funext x
 split <;> rfl
def anp {H:ah}{r:Nat}{a b:gG}(h:r<H.next):(H.new a).put r b=(H.put r b).new a:=by
 unfold ah.put ah.new;simp only
 congr 1
 funext x
 split <;> split <;> first|rfl|(exfalso;omega)
def pR {n:Nat}{H:ah}{r off:Nat}{v:AV}{ty:XN}{cells:Q AV}(h:r=H.next):st n (.ref r 0 off) v (H.new (.blk 0 ty cells))=if H.base<=r/\n=v.cells.length/\v.cells.all AV.aU=Z0/\off+v.cells.length<=cells.length then ZC (aX,H.new (.blk 0 ty (aI cells off v.cells)))else none:=by
 subst h;rw[NH,aK W];simp only[zaD,iO,Ip]
def Qx {n:Nat}{H:ah}{r off:Nat}{v:AV}{o:gG}(h:r<H.next):st n (.ref r 0 off) v (H.new o)=(st n (.ref r 0 off) v H).map λp=>(p.1,p.2.new o):=by
 rw[NH,NH,aZ h];cases H.get r with
 |map k b=>rfl
 |blk g d cells=>
  simp only[iO];split
  ·simp only[Option.map_some,anp h]
  ·rfl
def ahC {r off n:Nat}{v:AV}{ty:XN}{xs:Q AV}{H:ah}(h:H.get r=.blk 0 ty xs)(hb:H.base<=r)(hv:v.cells.all AV.aU=Z0)(b:v.cells.length=n)(d:off+n<=xs.length):st n (.ref r 0 off) v H=ZC (aX,H.put r (.blk 0 ty (aI xs off v.cells))):=by
 show(match H.get r with
  |.blk g' ty cells=>if g'=0/\H.base<=r/\ZC n=ZC v.cells.length/\v.cells.all AV.aU=Z0/\off+v.cells.length<=cells.length then ZC (aX,H.put r (.blk 0 ty (aI cells off v.cells)))else Z1
  |.map ..=>Z1)=_
 rw[h];simp only;rw[y ⟨zac,hb,by rw[b],hv,V⟩]
def dX {b:Nat->M (Nat × Nat)}{z:Q AV}:fO b z []=ZC z:=rfl
def Iq {b:Nat->M (Nat × Nat)}{z:Q AV}{i off:Nat}{v:AV}{ps:Q (Nat × AV)}(d:b i=ZC (off,1))(hv:v.cells=[v])(e:off<z.length):fO b z ((i,v)::ps)=fO b (z.set off v) ps:=by
 rw[fO];simp only[d,hv,List.length_cons,List.length_nil];rw[y ⟨zac,V⟩,Ic e]
def zF {e m:Nat}{z:Q AV}{H:ah}:bsl e m z 0 [] H=ZC (.sl H.next 0 0 m 0 0 Z0,H.new (.blk 0 e [])):=rfl
def jE {e m:Nat}{z:Q AV}{v:AV}{H:ah}(b:z.length=m)(hv:v.cells.length=m)(hc:v.cells.all AV.aU=Z0):bsl e m z 1 [(0,v)] H=ZC (.sl H.next 0 0 m 1 1 Z0,H.new (.blk 0 e v.cells)):=by
 have d:(dM z 1).length=m:=by simp[dM,b]
 unfold bsl;rw[fO];simp only[Nat.zero_mul,hv,d,Nat.zero_add,Nat.le_refl,and_self,zad,fO];have:aI (dM z 1) 0 v.cells=v.cells:=by
  simp only[aI,List.take_zero,List.nil_append,Nat.zero_add];rw[List.drop_of_length_le V,List.append_nil]
 rw[this,y hc]
def jZ {e m n:Nat}{l:Q AV}{H:ah}{ex:Bool}(h:l.length=n*m):aH (H.new (.blk 0 e l)) (.sl H.next 0 0 m n n ex) m n l:=
 ⟨h,W,W,⟨by rw[eu];omega,Nat.le_refl _⟩,e,l,by simp[jq],V,by rw[List.drop_zero,List.take_of_length_le V]⟩
def tZ {e m by_ r n ty:Nat}{y:AV}{cells:Q AV}{H:ah}(d:H.get r=.blk 0 ty [])(b:aH H y m n cells)(hc:cells.all AV.aU=Z0)(g:n≠0)(k:n<=most)(h:n*by_<=most):
  app e m by_ (.sl r 0 0 m 0 0 Z0) y H=ZC (.sl H.next 0 0 m n n ZV,H.new (.blk 0 (e+gW) cells)):=by
 have⟨i,j⟩:=b.wQ;simp only[app,i,j];unfold dV;rw[YY ⟨b.1,hc⟩];simp only[d];rw[YY ⟨zac,zac,O⟩,F g,F V,YY ⟨V,by rw[Nat.zero_add];exact h⟩];simp
def Un {e m by_ n:Nat}{y:AV}{cells:Q AV}{H:ah}(b:aH H y m n cells)(hc:cells.all AV.aU=Z0)(d:n≠0)(g:n<=most)(h:n*by_<=most):
  app e m by_ zN y H=ZC (.sl H.next 0 0 m n n ZV,H.new (.blk 0 (e+gW) cells)):=by
 have⟨i,j⟩:=b.wQ;simp only[app,i,j];unfold dV;rw[YY ⟨b.1,hc⟩];simp only;rw[F d,YY ⟨g,h⟩]
def uf {P:XX}{t e:XN}{n m:Nat}{l:Q AV}(h:P.underlying t=ZC (.slice e)):qj P .eql t (.vs n m l) (.s (.slice Z1 0 0))=ZC (B ZV):=by
 simp[qj,AV.val?,PG,h]
def CY {P:XX}{t e:XN}{r g o m n c:Nat}{ex:Bool}(h:P.underlying t=ZC (.slice e)):qj P .eql t (.sl r g o m n c ex) (.s (.slice Z1 0 0))=ZC (B ZV):=by
 simp[qj,AV.val?,PG,h]
def ug {P:XX}{C:aA}{f:FuncId}{a c args:Q AV}{H:ah}(h:qB P f=Z0):qC P C (.fn (.func f) a c) args H=C f (a++args++c) H:=aeF h
def wrap_i64 {a:Int}(b:-9223372036854775808<=a)(d:a<=9223372036854775807):IntKind.wrap .i64 a=a:=amB b d
def xq_:(type_of% @agW)/\(type_of% @amJ)/\(type_of% @VY)/\(type_of% @aax)/\(type_of% @KJ)/\(type_of% @Ib)/\(type_of% @Qi)/\(type_of% @decide_true)/\
 (type_of% @decide_false)/\(type_of% @ank)/\(type_of% @anl)/\(type_of% @anm)/\(type_of% @ano)/\(type_of% @V6)/\
 (type_of% @Qk)/\(type_of% @V3)/\(type_of% @Option.map_some.{0,0})/\(type_of% @Option.bind_some.{0,0})/\(type_of% @rJ)/\(type_of% @zx)/\
 (type_of% @aaI)/\(type_of% @ahu)/\(type_of% @ahv)/\(type_of% @ahw)/\(type_of% @ahx)/\(type_of% @List.getElem?_cons_zero.{0})/\
 (type_of% @List.getElem?_cons_succ.{0})/\(type_of% @Nat.zero_add)/\(type_of% @Nat.add_zero)/\(type_of% @auM)/\(type_of% @auN)/\(type_of% @aai)/\
 (type_of% @aaj)/\(type_of% @Ue)/\(type_of% @Nv)/\(type_of% @aak)/\(type_of% @aal)/\(type_of% @V4)/\
 (type_of% @beq_self_eq_true.{0})/\(type_of% @if_true.{1})/\(type_of% @Bool.false_eq_true)/\(type_of% @if_false.{1})/\(type_of% @List.nil_append.{0})/\(type_of% @List.cons_append.{0})/\
 (type_of% @List.append_nil.{0})/\(type_of% @ahz)/\(type_of% @ahA)/\(type_of% @eu)/\(type_of% @asA)/\(type_of% @iO)/\
 (type_of% @auO)/\(type_of% @wU)/\(type_of% @amc):=
 ⟨@agW,@amJ,@VY,@aax,@KJ,@Ib,@Qi,@decide_true,@decide_false,@ank,@anl,@anm,@ano,@V6,@Qk,@V3,@Option.map_some.{0,0},@Option.bind_some.{0,0},@rJ,@zx,@aaI,@ahu,@ahv,@ahw,@ahx,@List.getElem?_cons_zero.{0},@List.getElem?_cons_succ.{0},@Nat.zero_add,@Nat.add_zero,@auM,@auN,@aai,@aaj,@Ue,@Nv,@aak,@aal,@V4,@beq_self_eq_true.{0},@if_true.{1},@Bool.false_eq_true,@if_false.{1},@List.nil_append.{0},@List.cons_append.{0},@List.append_nil.{0},@ahz,@ahA,@eu,@asA,@iO,@auO,@wU,@amc⟩
def hq_:(type_of% @ahB)/\(type_of% @D7)/\(type_of% @aaJ)/\(type_of% @aaK)/\(type_of% @pR)/\(type_of% @Qx)/\
 (type_of% @Nat.lt_add_one)/\(type_of% @ne_eq.{1})/\(type_of% @nx1)/\(type_of% @nx2)/\(type_of% @nx3)/\(type_of% @ny1)/\
 (type_of% @ny2)/\(type_of% @ny3)/\(type_of% @not_false_eq_true)/\(type_of% @List.length_cons.{0})/\(type_of% @List.length_nil.{0})/\(type_of% @List.take_succ_cons.{0})/\
 (type_of% @List.take_zero.{0})/\(type_of% @List.drop_succ_cons.{0})/\(type_of% @List.drop_zero.{0})/\(type_of% @Ii)/\(type_of% @Ql)/\(type_of% @Kw)/\
 (type_of% @eU)/\(type_of% @List.all_cons.{0})/\(type_of% @List.all_nil.{0})/\(type_of% @iL)/\(type_of% @kR)/\(type_of% @oD)/\
 (type_of% @Ky)/\(type_of% @KA)/\(type_of% @KP)/\(type_of% @Ij)/\(type_of% @KL)/\(type_of% @cO)/\
 (type_of% @eG)/\(type_of% @oC)/\(type_of% @dK)/\(type_of% @CX)/\(type_of% @Ih)/\(type_of% @KN)/\
 (type_of% @ahn)/\(type_of% @Qw)/\(type_of% @aho)/\(type_of% @ahp)/\(type_of% @ahq)/\(type_of% @ahr)/\
 (type_of% @aaG)/\(type_of% @ahs)/\(type_of% @eF)/\(type_of% @aV)/\(type_of% @mg)/\(type_of% @zD)/\
 (type_of% @jR)/\(type_of% @Ik)/\(type_of% @bH)/\(type_of% @Il)/\(type_of% @List.drop_nil.{0})/\(type_of% @Bool.and_true)/\
 (type_of% @Bool.and_self)/\(type_of% @and_self)/\(type_of% @Nat.le_refl)/\(type_of% @true_and)/\(type_of% @and_true)/\(type_of% @Nat.le_add_right)/\
 (type_of% @leS)/\(type_of% @ltS):=
 ⟨@ahB,@D7,@aaJ,@aaK,@pR,@Qx,@Nat.lt_add_one,@ne_eq.{1},@nx1,@nx2,@nx3,@ny1,@ny2,@ny3,@not_false_eq_true,@List.length_cons.{0},@List.length_nil.{0},@List.take_succ_cons.{0},@List.take_zero.{0},@List.drop_succ_cons.{0},@List.drop_zero.{0},@Ii,@Ql,@Kw,@eU,@List.all_cons.{0},@List.all_nil.{0},@iL,@kR,@oD,@Ky,@KA,@KP,@Ij,@KL,@cO,@eG,@oC,@dK,@CX,@Ih,@KN,@ahn,@Qw,@aho,@ahp,@ahq,@ahr,@aaG,@ahs,@eF,@aV,@mg,@zD,@jR,@Ik,@bH,@Il,@List.drop_nil.{0},@Bool.and_true,@Bool.and_self,@and_self,@Nat.le_refl,@true_and,@and_true,@Nat.le_add_right,@leS,@ltS⟩
def uF(g g':bG):Prop:=∀q cs,g q=ZC cs->g' q=ZC cs
def uF.refl(g:bG):uF g g:=λ_ _ h=>h
def uF.more {g g':bG}(h:uF g g'){n:Nat}(d:g n=Z1)(c:Q Cell):uF g (upd g' n c):=λq cs b=>by
 rw[bF (λe=>by rw[e,d]at b;cases b)];exact h q cs b
def uF.both {g g':bG}(h:uF g g')(n:Nat)(c:Q Cell):uF (upd g n c) (upd g' n c):=λq cs b=>by
 by_cases e:q=n
 ·subst e;rw[aQ]at b ⊢;exact b
 ·rw[bF e]at b ⊢;exact h q cs b
def Ap {g:bG}{q n:Nat}{c:Q Cell}(h:g n=Z1)(b:n≠q):upd g q c n=none:=by rw[bF b];exact h
section
variable {b:Nat}{H H':ah}{g:bG}{q:Nat}{cs:List Cell}
def Cur.length {i m n:Nat}{x:AV}{l:Q AV}(c:Cur b H q i x m l)(hm:0<m)(d:l.length=n*m):(x=zN/\n=0)∨∃r g off cap ex ty all,x=.sl r g off m n cap ex/\r≠q/\b<=r/\r<H.next/\n<=cap/\H.get r=.blk g ty all/\off+cap*m<=all.length/\all.all AV.aU=Z0/\l=(all.drop off).take (n*m):=by
 rcases c.own with⟨rfl,rfl⟩|⟨r,g,off,n',cap,ex,ty,all,rfl,k1,e,j,k4,k,o,p,rfl⟩
 ·left;simp only[List.length_nil]at d;refine⟨W,?_⟩;rcases Nat.mul_eq_zero.1 d.symm with h|h <;> omega
 ·right;have u:n'*m<=cap*m:=Nat.mul_le_mul_right _ k4;rw[List.length_take,List.length_drop,Nat.min_eq_left V]at d;have:n'=n:=Nat.eq_of_mul_eq_mul_right hm d;subst this;exact⟨r,g,off,cap,ex,ty,all,W,k1,e,j,k4,k,o,p,W⟩
def anq {r gg off m len cap:Nat}{ex:Bool}{k1 k2:IntKind}{lo hi:Int}(h0:0<=lo)(d:lo<=hi)(e:hi<=cap):slS m (.sl r gg off m len cap ex) (ZC (.s (.int k1 lo))) (ZC (.s (.int k2 hi))) Z1=ZC (.sl r gg (off+lo.toNat*m) m (hi.toNat-lo.toNat) (cap-lo.toNat) ex):=by
 have b:0<=hi:=V
 simp only[slS,jc,h0,b,zad,isNone,Bool.not_true,Bool.or_false];rw[y ⟨zac,V,V,V,O⟩]
def Wu {r gg off m len cap:Nat}{ex:Bool}{k2:IntKind}{hi:Int}(h0:0<=hi)(b:hi<=cap):slS m (.sl r gg off m len cap ex) Z1 (ZC (.s (.int k2 hi))) Z1=ZC (.sl r gg off m hi.toNat cap ex):=by
 simp only[slS,jc,h0,zad,isNone,Bool.not_true,Bool.or_false];rw[y ⟨zac,V,V,V,O⟩];simp
def E9 {r gg off m len cap:Nat}{ex:Bool}{k1:IntKind}{lo:Int}(h0:0<=lo)(b:lo<=len)(d:len<=cap):slS m (.sl r gg off m len cap ex) (ZC (.s (.int k1 lo))) Z1 Z1=ZC (.sl r gg (off+lo.toNat*m) m (len-lo.toNat) (cap-lo.toNat) ex):=by
 simp only[slS,jc,h0,zad,isNone,Bool.not_true,Bool.or_false];rw[y ⟨zac,V,V,V,O⟩]
def akb {r gg off m len cap:Nat}{ex:Bool}{k1 k2 d:IntKind}{lo hi b:Int}(h0:0<=lo)(h:lo<=hi)(i:hi<=b)(j:b<=cap):slS m (.sl r gg off m len cap ex) (ZC (.s (.int k1 lo))) (ZC (.s (.int k2 hi))) (ZC (.s (.int d b)))=ZC (.sl r gg (off+lo.toNat*m) m (hi.toNat-lo.toNat) (b.toNat-lo.toNat) Z0):=by
 have e:0<=hi:=V
 have g:0<=b:=V
 simp only[slS,jc,h0,e,g,zad,isNone,Bool.not_false,Bool.or_true];rw[y ⟨zac,V,V,V,O⟩]
def xX {z:Q AV}(h:z.all AV.aU=Z0):∀n,(dM z n).all AV.aU=Z0
 |0=>rfl
 |n+1=>by rw[dM,List.all_append,h,xX h n];rfl
def Wv {i m n:Nat}{x:AV}{l z:List AV}(c:Cur b H q i x m l)(hb:H.base<=b)(hm:0<m)(hl:l.length=n*m)(hn:n<1000000000){j:Nat}(hj:j<n)(Q:z.length=m)(o:z.all AV.aU=true){e:TypeId}{by_:Nat}(aa:by_<1000):
  ∃y R T C H1 W u,slS m x (some (I j)) (some (I (j+1))) (some (I n))=some y/\slS m x none (some (I j)) none=some R/\slS m x (some (I (j+1))) none none=some T/\app e m by_ R T H=some (C,H1)/\
   lnS C H1=some (I ((n:Int)-1),H1)/\slS m C (some (I ((n:Int)-1))) (some (I n)) none=some W/\clr m z W H1=some (.tup [],u)/\
   Fit H u x C m (l.take (j*m)++l.drop ((j+1)*m))/\u.next=H.next/\u.base=H.base/\∀r,iH x≠some r->u.get r=H.get r:=by
 rcases c.length hm hl with⟨_,D⟩|⟨r,gg,off,cap,ex,k,all,rfl,k1,k2,k3,k4,E,k6,F,rfl⟩
 ·omega
 have ab:(j+1)*m<=n*m:=Nat.mul_le_mul_right _ hj;have ad:n*m<=cap*m:=Nat.mul_le_mul_right _ k4;have ae:(j+1)*m=j*m+m:=Nat.succ_mul j m;have af:(n-(j+1))*m=n*m-(j+1)*m:=Nat.sub_mul n (j+1) m;have ag:(n-1)*m=n*m-m:=by rw[Nat.sub_mul,Nat.one_mul]
 let new:=(all.drop (off+(j+1)*m)).take ((n-(j+1))*m);have h:new.length=(n-(j+1))*m:=by simp only[new];rw[List.length_take,List.length_drop];omega
 let d:=aI all (off+j*m) new;have v:d.length=all.length:=oz V;let g:=aI d (off+(n-1)*m) (dM z 1);have ai:(dM z 1).length=m:=by simp[dM,Q]
 have al:g.length=all.length:=by rw[oz V];exact v
 have G:d.all AV.aU=true:=wR F (EY (Am F _) _) _;have K:g.all AV.aU=true:=wR G (xX o 1) _;have w:app e m by_ (.sl r gg off m j cap ex) (.sl r gg (off+(j+1)*m) m (n-(j+1)) (cap-(j+1)) ex) H=some (.sl r gg off m (n-1) cap ex,H.put r (.blk gg k d)):=by
  have hs:cZ H (.sl r gg (off+(j+1)*m) m (n-(j+1)) (cap-(j+1)) ex)=some new:=by
   simp only[cZ,E];rw[if_pos ⟨trivial,V⟩]
  simp only[app,kL,hs];unfold dV;rw[if_pos ⟨h,EY (Am F _) _⟩];simp only[E];rw[if_pos ⟨trivial,trivial,V⟩];by_cases D:n-(j+1)=0
  ·rw[if_pos D];have L:new=[]:=List.eq_nil_of_length_eq_zero (by rw[h,D,Nat.zero_mul]);have:d=all:=by
    simp only[d,L,aI,List.nil_append,List.length_nil,Nat.add_zero,List.take_append_drop]
   rw[this,show j=n-1 by omega]
   congr 2
   ·unfold ah.put;have:(λx=>if x=r then gG.blk gg k all else H.get x)=H.get:=by
     funext x
     split
     ·rename_i e;rw[e,E]
     ·rfl
    rw[this]
  ·rw[if_neg D,if_pos V,if_pos ⟨V,by
    have:(j+(n-(j+1)))*m<=cap*m:=Nat.mul_le_mul_right _ V;omega⟩]
   rw[show j+(n-(j+1))=n-1 by omega]
 refine⟨_,.sl r gg off m j cap ex,.sl r gg (off+(j+1)*m) m (n-(j+1)) (cap-(j+1)) ex,.sl r gg off m (n-1) cap ex,H.put r (.blk gg k d),.sl r gg (off+(n-1)*m) m 1 (cap-(n-1)) ex,(H.put r (.blk gg k d)).put r (.blk gg k g),akb V V V V,?_,?_,w,?_,?_,?_,.inr ⟨r,gg,off,n-1,cap,ex,k,g,rfl,.inl rfl,k3,V,by simp[dJ],V,K,?_⟩,rfl,rfl,?_⟩
 ·exact Wu V V
 ·have:=E9 (r:=r) (gg:=gg) (off:=off) (m:=m) (len:=n) (cap:=cap) (ex:=ex) (k1:=.i64) (lo:=(j:Int)+1) V V k4;rw[show((j:Int)+1).toNat=j+1 by omega]at this;exact this
 ·simp only[lnS,kV,asn,Option.map_some]
  congr 5
  omega
 ·have:=anq (r:=r) (gg:=gg) (off:=off) (m:=m) (len:=n-1) (cap:=cap) (ex:=ex) (k1:=.i64) (k2:=.i64) (lo:=(n:Int)-1) (hi:=n) V V V;rw[show((n:Int)-1).toNat=n-1 by omega,show(n:Int).toNat=n by omega,show n-(n-1)=1 by omega]at this;exact this
 ·simp only[clr,Nat.one_ne_zero,if_false,dJ,if_true];rw[if_pos ⟨trivial,trivial,by rw[aeG];omega,Q,o,by rw[v];omega⟩]
 ·-- what is there then
  apply List.ext_getElem?
  intro p;have A:((all.drop off).take (n*m)).length=n*m:=by rw[List.length_take,List.length_drop];omega
  rcases Nat.lt_or_ge p (j*m)with X|X
  ·rw[List.getElem?_append_left (by rw[List.length_take];omega),List.getElem?_take,if_pos X,List.getElem?_take,if_pos V,List.getElem?_take,if_pos V,List.getElem?_drop,List.getElem?_drop];rw[nC V,if_neg V,nC V,if_neg V]
  ·rw[List.getElem?_append_right (by rw[List.length_take];omega),List.length_take,A,Nat.min_eq_left V,List.getElem?_drop];rcases Nat.lt_or_ge p ((n-1)*m)with h2|h2
   ·rw[List.getElem?_take,if_pos V,List.getElem?_drop,List.getElem?_take,if_pos h2,List.getElem?_drop,nC V,if_neg V,nC V,if_pos V];simp only[new];rw[List.getElem?_take,if_pos V,List.getElem?_drop]
    congr 1;omega
   ·rw[List.getElem?_eq_none (by rw[A];omega),List.getElem?_eq_none (by rw[List.length_take,List.length_drop];omega)]
 ·intro r' M;have:r'≠r:=λe=>M (by rw[e];rfl);rw[dJ,if_neg this,dJ,if_neg this]
def Wx {e m by_:Nat}{z:Q AV}{n:Int}{H:ah}(b:z.length=m)(hc:z.all AV.aU=Z0)(h0:0<=n)(d:n<=1000000)(hb:by_<=1000):mks e m by_ z (I n) (I n) H=ZC (.sl H.next 0 0 m n.toNat n.toNat Z0,H.new (.blk 0 e (dM z n.toNat))):=by
 have g:(by_:Int)*n<=140737488355328:=by
  have:(by_:Int)*n<=1000*1000000:=Int.mul_le_mul V d h0 V;omega
 simp only[mks];rw[y ⟨b,hc,h0,Int.le_refl _,V,g⟩]
def kG {v:AV}:∀n,dM [v] n=List.replicate n v
 |0=>rfl
 |n+1=>by rw[dM,kG n];rfl
def aH.from_ {x:AV}{m n:Nat}{cells:Q AV}(h:aH H x m n cells){k:IntKind}{lo:Int}(h0:0<=lo)(o:lo<=n):∃y,slS m x (ZC (.s (.int k lo))) Z1 Z1=ZC y/\aH H y m (n-lo.toNat) (cells.drop (lo.toNat*m)):=by
 have⟨i,h⟩:=h;have p:lo.toNat*m<=n*m:=Nat.mul_le_mul_right _ V;have d:(n-lo.toNat)*m=n*m-lo.toNat*m:=Nat.sub_mul n lo.toNat m;cases x with
 |sl r g off e len q ex=>
  obtain⟨rfl,rfl,⟨u,hc⟩,w,all,z,j,A⟩:=h;refine⟨_,E9 h0 o hc,by rw[List.length_drop,i,d],W,W,⟨u,V⟩,w,all,z,by rw[d];omega,?_⟩;rw[A,List.drop_take,List.drop_drop,d]
 |vs k' e cs=>
  obtain⟨rfl,rfl,rfl⟩:=h;refine⟨.vs (k'-lo.toNat) e ((cs.drop (lo.toNat*e)).take ((k'-lo.toNat)*e)),?_,by rw[List.length_drop,i,d],W,W,?_⟩
  ·simp only[slS,jc,h0,zad];rw[YY ⟨zac,V,V⟩]
  ·rw[List.take_of_length_le (by rw[List.length_drop,i,d];exact Nat.le_refl _)]
 |s v=>
  cases v with
  |slice a b c=>
   cases a with
   |none=>
    obtain⟨rfl,rfl,rfl⟩:=h;have j:lo=0:=V
    subst j;refine⟨zN,by simp[slS,jc],?_,W,W,W⟩
    simpa using i
   |some a=>exact h.elim
  |_=>exact h.elim
 |_=>exact h.elim
def ant {r g off m len cap ty n:Nat}{ex:Bool}{cells new:Q AV}{y:AV}(hx:H.get r=.blk g ty cells)(hb:H.base<=r)(hl:off+len*m<=cells.length)(hy:aH H y m n new)(hc:new.all AV.aU=Z0):
  ∃H',cpy m (.sl r g off m len cap ex) y H=ZC (I ((min n len:Nat):Int),H')/\H'.get r=.blk g ty (aI cells off (new.take (min n len*m)))/\(∀r',r'≠r->H'.get r'=H.get r')/\H'.next=H.next/\H'.base=H.base:=by
 have⟨c1,c2⟩:=hy.wQ;have c3:=hy.1;have s1:kL (AV.sl r g off m len cap ex)=ZC len:=rfl;simp only[cpy,s1,c1,c2];rw[YY ⟨c3,hc⟩];by_cases hk:min n len=0
 ·refine⟨H,by rw[YY hk,hk];rfl,?_,λ_ _=>rfl,W,W⟩;rw[hx,hk,Nat.zero_mul,List.take_zero];simp only[aI,List.nil_append,List.length_nil,Nat.add_zero,List.take_append_drop]
 ·rw[F hk];simp only[hx];rw[YY ⟨zac,zac,hb,hl⟩];exact⟨_,W,by rw[dJ,YY W],λr' hr=>by rw[dJ,F hr],W,W⟩
end
def jw {α:Type}:Q (Int × α)->Int->M α
 |[],_=>Z1
 |(k,v)::l,n=>if k=n then ZC v else jw l n
def lK {α:Type}:Q (Int × α)->Int->α->Q (Int × α)
 |[],n,x=>[(n,x)]
 |(k,v)::l,n,x=>if k=n then(n,x)::l else(k,v)::lK l n x
def Aq {α:Type}:Q (Int × α)->Int->Q (Int × α)
 |[],_=>[]
 |(k,v)::l,n=>if k=n then l else(k,v)::Aq l n
section
variable {α:Type}(f:α->AV)
def Qy(l:Q (Int × α)):Q (Int × AV):=l.map λe=>(e.1,f e.2)
def vk:∀(l:Q (Int × α)) (n:Int),qA (Qy f l) n=(jw l n).map f
 |[],_=>rfl
 |(k,v)::l,n=>by
  simp only[Qy,List.map_cons,qA,jw];by_cases h:k=n
  ·simp[h]
  ·simp only[h,zaf];exact vk l n
def CZ:∀(l:Q (Int × α)) (n:Int) (x:α),MJ (Qy f l) n (f x)=Qy f (lK l n x)
 |[],_,_=>rfl
 |(k,v)::l,n,x=>by
  simp only[Qy,List.map_cons,MJ,lK];by_cases h:k=n
  ·simp[h]
  ·simp only[h,zaf,List.map_cons,List.cons.injEq,zaD];exact CZ l n x
def Wy:∀(l:Q (Int × α)) (n:Int),Aa (Qy f l) n=Qy f (Aq l n)
 |[],_=>rfl
 |(k,v)::l,n=>by
  simp only[Qy,List.map_cons,Aa,Aq];by_cases h:k=n
  ·simp[h]
  ·simp only[h,zaf,List.map_cons,List.cons.injEq,zaD];exact Wy l n
end
abbrev ku(n most:Int):Bool:=decide (1<=n) && decide (n<=most)
def Cfg.ok(c:Cfg):Bool:=
 ku c.aF 6 && ku c.aT 8 && ku c.aP 4 && ku c.sets 4 && ku c.ways 3 && ku c.out 8 && ku c.inn 8 && u ((c.init.length:Int)<=c.aT*c.aP)
def wV(ak by_:Int):Int:=if ak<0 then -1 else ak % by_
def Cfg.bf(c:Cfg)(ak:Int):Int:=wV ak c.aF
def Cfg.fG(c:Cfg):Int:=c.aT*c.aP
def Cfg.bZ(c:Cfg)(a:Int):Int:=if a<0∨c.fG<=a then -1 else a / c.aP
def Cfg.dH(c:Cfg)(a:Int):Int:=if a<0∨c.fG<=a then 0 else a % c.aP
def Cfg.first(c:Cfg)(ak:Int):Q Int:=
 if ak<0∨c.aT<=ak then []else(List.range c.aP.toNat).map λi=>c.init.getD ((ak*c.aP).toNat+i) 0
def Cfg.right(c:Cfg)(o:Opn):Bool:=u (1<=o.aW) && u (o.aW<=4) && u (c.bZ o.addr≠-1) && (u (o.value=0) || u (o.aW=2) || u (o.aW=3))
def Cfg.nR(c:Cfg)(ps:Q (Q Opn)):Bool:=(ps.all λl=>u (l.length<=24) && l.all c.right) && u ((ps.length:Int)=c.aF)
def wB(k:Int):Bool:=u (1<=k) && u (k<=6)
def D8(k:Int):Int:=if k=1 then 7 else if k=2∨k=4∨k=5 then 8 else if k=3∨k=6 then 9 else 0
def Pkt.ok(p:Pkt):Bool:=
 u (0<=p.src) && u (p.src<6) && u (0<=p.dst) && u (p.dst<6) && u (0<=p.id) && u (p.id<4096) && u (1<=p.aW) && u (p.aW<10) && u (0<=p.ak) && u (p.ak<8) &&
 u (-1<=p.ptr) && u (p.ptr<6) && u (0<=p.state) && u (p.state<3) && u (p.data.length<=4)
structure Cache where
 l:List Ent
 sets:Int
 ways:Int
 dN:Int
def Cache.at_(c:Cache)(ak:Int):M Nat:=c.l.findIdx? λe=>u (e.ak=ak)
def Cache.vw(c:Cache)(ak:Int):Q Ent:=c.l.filter λe=>u (0<=ak) && u (e.ak.tmod c.sets=ak.tmod c.sets)
def Cache.find(c:Cache)(ak:Int):M Ent:=c.l.find? λe=>u (e.ak=ak)
def Cache.full(c:Cache)(ak:Int):Bool:=(c.find ak).isNone && u (c.ways<=(c.vw ak).length)
def Cache.put(c:Cache)(e:Ent):Cache × Int:=
 if e.ak<0 then(c,1)else
 match c.at_ e.ak with
 |some i=>({ c with l:=c.l.set i { e with used:=(c.l.getD i .zero).used } },0)
 |none=>if c.full e.ak then(c,5)else({ c with l:=c.l++[{ e with used:=c.dN+1 }],dN:=c.dN+1 },0)
def Cache.drop(c:Cache)(ak:Int):Cache:=
 match c.at_ ak with
 |some i=>{ c with l:=c.l.eraseIdx i }
 |none=>c
def Cache.touch(c:Cache)(ak:Int):Cache:=
 match c.at_ ak with
 |some i=>{ c with l:=c.l.set i { c.l.getD i .zero with used:=c.dN+1 },dN:=c.dN+1 }
 |none=>c
def zG:Q Ent->M Ent
 |[]=>Z1
 |e::l=>ZC (l.foldl (λm x=>if x.used<m.used then x else m) e)
def Cache.qI(c:Cache)(ak:Int):M Int:=(zG (c.vw ak)).map (·.ak)
structure Turns where
 iI:List (Int × Int)
 wait:List (Int × List (Int × Int))
def Turns.owner(t:Turns)(ak:Int):Int:=(jw t.iI ak).getD (-1)
def Turns.owned(t:Turns)(ak:Int):Bool:=(jw t.iI ak).isSome
def Turns.ws(t:Turns)(ak:Int):Q (Int × Int):=(jw t.wait ak).getD []
def Turns.ask(t:Turns)(ak who id:Int):Turns × Bool:=
 if who<0 then(t,ZV)else
 if t.owned ak || !(t.ws ak).isEmpty then({ t with wait:=lK t.wait ak (t.ws ak++[(who,id)]) },ZV)
 else({ t with iI:=lK t.iI ak who },Z0)
def Turns.release(t:Turns)(ak who:Int):Turns × Int:=
 if jw t.iI ak=ZC who then({ t with iI:=Aq t.iI ak },0)else(t,6)
def Turns.next(t:Turns)(ak:Int):Turns × M (Int × Int):=
 if t.owned ak then(t,Z1)else
 match t.ws ak with
 |[]=>(t,Z1)
 |w::ws=>({ iI:=lK t.iI ak w.1,wait:=lK t.wait ak ws },ZC w)
def Turns.ready(t:Turns)(b:Q Int):Q Int:=b.filter λak=>!t.owned ak && !(t.ws ak).isEmpty
abbrev Rows:=List (Int × Row)
def jr(c:Cfg)(dS:Rows)(ak state head:Int)(data:Q Int):Rows × Int:=
 match jw dS ak with
 |none=>(dS,3)
 |some r=>
  if state<0∨2<state∨head < -1∨c.aF<=head then(dS,1)
  else if(u (head=-1) !=u (state=0)) || (u (data≠[]) && u ((data.length:Int)≠c.aP))then(dS,1)
  else(lK dS ak ⟨state,head,if data=[]then r.data else data⟩,0)
structure Home where
 dS:Rows
 bn:Turns
def iR(dS:Rows)(ak:Int):Row:=(jw dS ak).getD .zero
def granted(dS:Rows)(bC ak who id:Int):Pkt:=⟨7,bC,who,id,ak,(iR dS ak).head,(iR dS ak).state,ZV,(iR dS ak).data⟩
def Home.unlock(c:Cfg)(h:Home)(p:Pkt):Home × Int:=
 if h.bn.owner p.ak≠p.src then(h,6)else
 let r:=jr c h.dS p.ak p.state p.ptr (if p.flag then p.data else [])
 if r.2=0 then(⟨r.1,(h.bn.release p.ak p.src).1⟩,(h.bn.release p.ak p.src).2)else(h,r.2)
def Home.handle(c:Cfg)(bC:Int)(h:Home)(p:Pkt):Home × Pkt × Bool × Int:=
 if !(p.ok && YM (p.dst=bC) && YM (p.src<c.aF)) || (YM (p.aW≠1) && YM (p.aW≠2))then(h,.zero,ZV,1)
 else if c.bf p.ak≠bC∨c.aT<=p.ak then(h,.zero,ZV,3)
 else if p.aW=1 then
  let a:=h.bn.ask p.ak p.src p.id
  if a.2=Z0 then({ h with bn:=a.1 },granted h.dS bC p.ak p.src p.id,Z0,0)else({ h with bn:=a.1 },.zero,ZV,0)
 else
  let u:=h.unlock c p
  if u.2=0 then(u.1,⟨8,bC,p.src,p.id,p.ak,0,0,ZV,[]⟩,Z0,0)else(u.1,.zero,ZV,u.2)
def fQ(c:Cache)(p:Pkt):Cache × Pkt × Int:=
 if !p.ok || u (p.aW<3) || u (6<p.aW)then(c,.zero,1)else
 match c.find p.ak with
 |none=>(c,.zero,2+1)
 |some e=>
  let out:Pkt:=⟨D8 p.aW,p.dst,p.src,p.id,p.ak,0,0,ZV,[]⟩
  if p.aW=3 then let r:=c.put { e with bJ:=ZV,back:=p.ptr };(r.1,{ out with data:=e.data,flag:=e.bJ },r.2)
  else if p.aW=4 then let r:=c.put { e with fwd:=p.ptr };(r.1,out,r.2)
  else if p.aW=5 then let r:=c.put { e with back:=p.ptr };(r.1,out,r.2)
  else(c.drop p.ak,{ out with data:=e.data,flag:=e.bJ,ptr:=e.fwd },0)
def bW.begin(aW ak id:Int):bW:=⟨aW,ak,id,1,0,-1,[],-1,-1⟩
def Ar(step:Int):Int:=if step=1 then 1 else if step=2 then 3 else if step=3 then 6 else if step=4 then 4 else if step=5 then 5 else if step=6 then 2 else 0
def bW.ask(d:bW)(bC home:Int):Pkt:=
 if d.step=1 then⟨1,bC,home,d.id,d.ak,0,0,ZV,[]⟩
 else if d.step=2 then⟨3,bC,d.head,d.id,d.ak,bC,0,ZV,[]⟩
 else if d.step=3 then⟨6,bC,d.next,d.id,d.ak,0,0,ZV,[]⟩
 else if d.step=4 then⟨4,bC,d.head,d.id,d.ak,d.next,0,ZV,[]⟩
 else if d.step=5 then⟨5,bC,d.next,d.id,d.ak,d.head,0,ZV,[]⟩
 else if d.step=6 then⟨2,bC,home,d.id,d.ak,d.head,d.state,u (d.data≠[]),d.data⟩
 else .zero
def bW.fits(d:bW)(p:Pkt):Bool:=
 u (D8 (Ar d.step)≠0) && u (p.aW=D8 (Ar d.step)) && u (p.id=d.id) && u (p.ak=d.ak)
abbrev Nxt:=Cache × bW × Bool
def yJ(c:Cache):Nxt:=(c,.zero,ZV)
def dW(d:bW)(bC:Int)(c:Cache)(p:Pkt):Nxt:=
 if d.aW≠1∨d.fits p=ZV then yJ c
 else if d.step=1 then
  if p.state≠0 then(c,{ d with state:=p.state,head:=p.ptr,told:=p.ptr,data:=p.data,step:=2 },Z0)
  else((c.put ⟨-1,-1,d.ak,0,ZV,p.data⟩).1,{ d with told:=p.ptr,step:=6,state:=1,head:=bC,data:=[] },Z0)
 else if d.step=2 then
  ((c.put ⟨d.head,-1,d.ak,0,ZV,p.data⟩).1,{ d with step:=6,state:=1,head:=bC,data:=if p.flag then p.data else [] },Z0)
 else if d.step=6 then(c,{ d with step:=0 },Z0)
 else yJ c
def dw(d:bW)(bC:Int)(c:Cache):Cache × bW:=
 let d:bW:=match c.find d.ak with
  |some own=>if d.next=bC then { d with next:=own.fwd } else d
  |none=>d
 if d.next≠-1 then(c,{ d with step:=3 })
 else((c.put ⟨-1,-1,d.ak,0,Z0,d.data⟩).1,{ d with step:=6,state:=2,head:=bC,data:=[] })
def dY(d:bW)(bC:Int)(c:Cache)(p:Pkt):Nxt:=
 if d.aW≠2∨d.fits p=ZV then yJ c
 else if d.step=1 then
  let r:=dw { d with state:=p.state,head:=p.ptr,told:=p.ptr,data:=(match c.find d.ak with|some own=>own.data|none=>p.data),next:=p.ptr } bC c
  (r.1,r.2,Z0)
 else if d.step=3 then
  let r:=dw { d with data:=(match c.find d.ak with|some _=>d.data|none=>p.data),next:=p.ptr } bC c
  (r.1,r.2,Z0)
 else if d.step=6 then(c,{ d with step:=0 },Z0)
 else yJ c
def gX(d:bW)(c:Cache)(head:Int):Nxt:=(c.drop d.ak,{ d with step:=6,state:=1,head:=head,data:=[] },Z0)
def eP(d:bW)(c:Cache)(p:Pkt):Nxt:=
 if d.aW≠3∨d.fits p=ZV then yJ c
 else if d.step=1 then
  let d:bW:={ d with state:=p.state,head:=p.ptr,told:=p.ptr,data:=[],step:=6 }
  match c.find d.ak with
  |none=>(c,d,Z0)
  |some e=>
   if e.back=-1/\e.fwd=-1 then(c.drop d.ak,{ d with state:=0,head:=-1,data:=if e.bJ then e.data else [] },Z0)
   else if e.back=-1 then(c,{ d with head:=-1,next:=e.fwd,step:=5 },Z0)
   else(c,{ d with head:=e.back,next:=e.fwd,step:=4 },Z0)
 else if d.step=4 then
  if d.next=-1 then gX d c d.told else(c,{ d with step:=5 },Z0)
 else if d.step=5 then
  if d.head=-1 then gX d c d.next else gX d c d.told
 else if d.step=6 then(c,{ d with step:=0 },Z0)
 else yJ c
structure Proc where
 ops:List Opn
 bI:List Int
 fD:Bool
def Proc.cur(p:Proc):M Opn:=p.ops[p.bI.length]?
def Proc.left(p:Proc):Int:=(p.ops.length:Int)-p.bI.length
structure Port where
 rq:List Pkt
 rin:List Pkt
 an:List Pkt
 ain:List Pkt
def Port.sort(p:Port)(req:Bool):Q Pkt:=if req then p.rq else p.an
def Port.uG(p:Port)(req:Bool):Q Pkt:=if req then p.rin else p.ain
def Port.lS(p:Port)(req:Bool)(l:Q Pkt):Port:=if req then { p with rq:=l } else { p with an:=l }
def Port.lG(p:Port)(req:Bool)(l:Q Pkt):Port:=if req then { p with rin:=l } else { p with ain:=l }
def Port.zero:Port:=⟨[],[],[],[]⟩
structure Fab where
 out:Int
 inn:Int
 l:List Port
def Fab.is(f:Fab)(bC:Int):Bool:=u (0<=bC) && u (bC<f.l.length)
def Fab.port(f:Fab)(bC:Int):Port:=f.l.getD bC.toNat .zero
def Fab.room(f:Fab)(req:Bool):Int:=if req then f.inn else 1
def Fab.put(f:Fab)(bC:Int)(p:Port):Fab:={ f with l:=f.l.set bC.toNat p }
def Fab.send(f:Fab)(p:Pkt):Fab × Int:=
 if !p.ok || !f.is p.src || !f.is p.dst then(f,1)else
 if(f.out:Int)<=((f.port p.src).sort (wB p.aW)).length then(f,5)
 else(f.put p.src ((f.port p.src).lS (wB p.aW) ((f.port p.src).sort (wB p.aW)++[p])),0)
def Fab.jy(f:Fab):Q (Q Pkt):=f.l.flatMap λp=>[p.rq,p.an]
def Fab.all(f:Fab):Q Pkt:=f.l.flatMap λp=>p.rq++p.an
def Fab.under(f:Fab):Nat:=f.all.length
def Au:Q Port->Nat->Nat->M (Nat × Bool × Nat)
 |[],_,_=>Z1
 |p::l,i,k=>if k<p.rq.length then ZC (i,Z0,k)else if k<p.rq.length+p.an.length then ZC (i,ZV,k-p.rq.length)else Au l (i+1) (k-(p.rq.length+p.an.length))
def Fab.take(f:Fab)(bC:Int)(req:Bool):Fab × M Pkt:=
 if f.is bC then
  match(f.port bC).uG req with
  |[]=>(f,Z1)
  |p::l=>(f.put bC ((f.port bC).lG req l),ZC p)
 else(f,Z1)
def Fab.roomOf(f:Fab)(bC:Int)(req:Bool):Int:=if f.is bC then f.out-((f.port bC).sort req).length else 0
open Go.ChangeShapes Go.WideShapes Go.ChangeAt Go.RowKit
abbrev ρ0:Ren:=λ_=>none
abbrev G0:Nat->Nat:=λ_=>0
def aaL {w:Xs}(d:ad6 ρ0 w):Rel ρ0 ah.empty w:=⟨λr _=>⟨W,W⟩,λr b e h=>(by cases h),λr r' b e g h=>(by cases h),d⟩
def aaM {P:XX}{L:Pol}(i:Yw P L)(hm:P.follows .mixedOrders=Z0){k:FuncId}{xs:Q AV}{b:Bool}{H':ah}(h:callω P L k xs ah.empty=ZC (.s (.bool b),H')){W:Xs}{args:Array XS}(j:ad6 ρ0 W)(ha:RVs ρ0 G0 W xs args.toList):
  Calls P k args W λe m=>e=.returned (.bool b)/\Below W.heap.size W m:=by
 refine((callω_ok i hm).1 k xs _ _ H' h ρ0 W args (aaL j) ha).mono λe w' n=>?_;obtain⟨cv,ρ',rfl,_,g,d⟩:=n;simp only[RV]at g;subst g;exact⟨Z3,d.os,d.tape,d.output,d.size,λk hk=>d.frame k hk λr o h=>(by cases h)⟩
section
variable {H:Type}{enc:TypeId × Value->H}{P:Program}
def Aw(m:laidOutB P=Z0){W n:Xs}(hb:Below W.heap.size W n):∀{g:Q XN} {vs:Q XS} {i:Q (DataW H)} {ps:Q MemPlace},g.all (λt=>P.readableRec t && YM (t<P.types.size))=Z0->
  DataW.TrodAll enc P W 0 (λ_=>Z0) Z0 g vs i ps->(∀x∈ps,x.block<W.heap.size)->DataW.TrodAll enc P n 0 (λb=>YM (b<W.heap.size)) Z0 g vs i ps
 |[],vs,i,ps,_,h,_=>by
  obtain⟨rfl,rfl,rfl⟩:=trodAll_nil h;exact trodAll_mk0
 |t::g,vs,i,ps,j,h,e=>by
  simp only[List.all_cons,Bool.and_eq_true,zab]at j;obtain⟨v,o,d,u,p,q,rfl,rfl,rfl,w,y⟩:=trodAll_cons h;exact⟨p,q,Below.trod m j.1.1 j.1.2 w hb λx k=>e x (by simp[k]),Aw m hb (by simpa using j.2) y λx k=>e x (by simp[k]),Z3⟩
def aaN {f:Func}{s:ChangeSpec}{W j:Xs}{args:Array XS}{d n:Q (DataW H)}{b:Q MemPlace}{k:XN}(o:laidOutB P=Z0)
  (u:f.params.toList.all (λt=>P.readableRec t && YM (t<P.types.size))=Z0) (v:f.resultTypes=#[k]) (hb:P.underlying k=ZC .bool)
  (g:DataW.Whole enc P f.params.toList s.vars ZV W args.toList d n b) (hv:s.vars=[])
  (w:(s.fn H d).results=[.lit (.bool Z0)]) (y:(s.fn H d).args=d) (z:(s.fn H d).vars=[]) (B:Below W.heap.size W j):
  s.post enc P f ZV Z0 ZV ZV W args (.bool Z0) j:=by
 have e:∀x∈b,x.block<W.heap.size:=λx A=>g.lt x A;have i:=g;obtain⟨p,q,C,m,rfl,_,_⟩:=g;rw[hv]at m;obtain⟨rfl,rfl⟩:=trodVars_none m;rw[List.append_nil]at e;refine⟨d,[],p++[],[],p,[],i,?_,?_,?_,B.frame _,λh=>by cases h⟩
 ·rw[List.append_nil,w,v];exact trodAll_mk1 (shut_bool hb Z0)
 ·rw[List.append_nil,y];exact Aw o B u C e
 ·rw[List.append_nil,z,hv];exact Z3
def D9 {W:Xs}{k:IntKind}{n:Int}:RV ρ0 G0 W (.s (.int k n)) (.int k n):=by simp[RV]
def Az {W:Xs}{x:AV}{v:XS}{xs:Q AV}{vs:Q XS}(h:RV ρ0 G0 W x v)(b:RVs ρ0 G0 W xs vs):RVs ρ0 G0 W (x::xs) (v::vs):=by
 simp only[RVs];exact⟨v,vs,Z3,h,b⟩
def auP {W:Xs}:RVs ρ0 G0 W [] []:=by simp only[RVs]
def ints(ks:Q IntKind)(zs:Q Int):Q AV:=List.zipWith (λk z=>.s (.int k z)) ks zs
def Uo(ks:Q IntKind)(zs:Q Int):Q Value:=List.zipWith (λk z=>.int k z) ks zs
def aaO(P:XX)(e:XN)(ks:Q IntKind):Prop:=
 ∀{H:Type} {enc:XN × XS->H} {W:Xs} {base:Nat} {g:Nat->Bool} {b:Bool} {n:Nat} {cs:Q XS} {y:DataW H × Q MemPlace},DataW.trod enc P W base g b n e cs=ZC y->
  ∃d:Q Int,d.length=ks.length/\cs=Uo ks d/\∀(i:Nat) (k:IntKind) (z:Int),ks[i]?=ZC k->d[i]?=ZC z->(Lit.int k z).wf=Z0
def aeT {e:XN}{k:IntKind}(j:P.underlying e=ZC (.int k)):aaO P e [k]:=by
 intro H enc W base m d n cs y h;obtain⟨z,rfl,rfl,hw⟩:=DataW.trod_int j h;refine⟨[z],Z3,Z3,λi k' o b g=>?_⟩;cases i with
 |zero=>simp at b g;subst b;subst g;exact hw
 |succ i=>simp at b
def zH {ks:Q IntKind}{zs:Q Int}(h:zs.length=ks.length):(ints ks zs).length=ks.length:=by
 simp[ints,h]
def WA {W:Xs}:∀(ks:Q IntKind) (zs:Q Int),RVs ρ0 G0 W (ints ks zs) (Uo ks zs)
 |[],zs=>by simp[ints,Uo,RVs]
 |k::ks,[]=>by simp[ints,Uo,RVs]
 |k::ks,z::zs=>by
  simp only[ints,Uo,List.zipWith_cons_cons,RVs];exact⟨_,_,Z3,D9,WA ks zs⟩
def asB:XS->Int
 |.int _ n=>n
 |_=>0
def Ur {e:XN}{g:Array Field}{ks:Q IntKind}(A:P.underlying e=ZC (.struct g))(hc:P.cellsOf e=ks.length)(G:g.size=ks.length)
  (C:∀(i:Nat) (f:Field) (k:IntKind),g[i]?=ZC f->ks[i]?=ZC k->P.underlying f.type=ZC (.int k)/\f.offset=i/\P.cellsOf f.type=1):aaO P e ks:=by
 intro H enc W base K w n cs y h;obtain⟨xs,m,rfl,rfl,D,L,E⟩:=DataW.trod_struct A h;have b:∀(i:Nat) (k:IntKind),ks[i]?=ZC k->∃z,cs[i]?=ZC (.int k z)/\(Lit.int k z).wf=true:=by
  intro i k hk;have hi:i<ks.length:=(List.getElem?_eq_some_iff.1 hk).1;have j:g[i]?=ZC (g[i]' V):=Array.getElem?_eq_getElem _;have⟨p,q,F⟩:=C i _ k j hk;have o:=E i _ j;have u:xs[i]?=ZC (xs[i]' V):=List.getElem?_eq_getElem _;rw[u,q,F]at o;have⟨z,d,_,hw⟩:=DataW.trod_int p o;refine⟨z,?_,hw⟩;have:((cs.drop i).take 1)[0]?=ZC (.int k z):=by rw[d];rfl
  rw[List.getElem?_take,YY V,List.getElem?_drop,Nat.add_zero]at this;exact this
 refine⟨cs.map asB,by rw[List.length_map,D,hc],?_,λi k z hk d=>?_⟩
 ·apply List.ext_getElem?
  intro i;rcases Nat.lt_or_ge i ks.length with hi|hi
  ·have⟨z,d,_⟩:=b i _ (List.getElem?_eq_getElem hi);simp[Uo,List.getElem?_zipWith,d,List.getElem?_eq_getElem hi,asB]
  ·have p:cs[i]?=none:=List.getElem?_eq_none V;have q:ks[i]?=none:=List.getElem?_eq_none hi;simp[Uo,List.getElem?_zipWith,p,q]
 ·have⟨M,v,hw⟩:=b i k hk;rw[List.getElem?_map,v]at d;simp[asB]at d;rw[<-d];exact hw
structure aaP(ks:List IntKind)(av:AV)(l:List (List Int)):Prop where
 is:aH ah.empty av ks.length l.length (l.flatMap (ints ks))
 len:∀zs∈l,zs.length=ks.length
 wf:∀zs∈l,∀(i:Nat) (k:IntKind) (z:Int),ks[i]?=some k->zs[i]?=some z->(Lit.int k z).wf=true
def zJ {ks:Q IntKind}:∀{l:Q (Q Int)},(∀zs∈l,zs.length=ks.length)->(l.flatMap (ints ks)).length=l.length*ks.length
 |[],_=>by simp
 |zs::l,h=>by
  rw[List.flatMap_cons,List.length_append,zH (h zs O),zJ λz b=>h z (by simp[b]),List.length_cons,Nat.succ_mul];omega
def Qz {t e:TypeId}{ks:List IntKind}(ht:P.underlying t=some (.slice e))(hc:P.cellsOf e=ks.length)(hF:aaO P e ks){W:World}{r:Reach}{b0 base:Nat}{sp:Nat->Bool}{C:Bool}{v:Value}{D:Nat}{y:DataW H × List MemPlace}
  (q:Cell.okWide P W r b0 t v) (h:DataW.trod enc P W base sp C D t [v]=some y):∃(av:AV) (l:List (List Int)),RV ρ0 G0 W av v/\aaP ks av l/\av.aU=true:=by
 rcases DataW.trod_slice ht h with⟨L,_⟩|⟨a,len,E,M,rest,n,_,hv,_,hb,hl,hm,ab,Q,_,_⟩
 ·have L:v=.slice none 0 0:=by simpa using L
  subst L;exact⟨.s (.slice none 0 0),[],by simp[RV],⟨⟨O,rfl,rfl,rfl⟩,O,O⟩,rfl⟩
 ·have hv:v=.slice (some a) len E:=by simpa using hv
  subst hv;simp only[Cell.okWide,ht,Cell.ok]at q;obtain⟨_,_,_,d,row,cells,R,_⟩:=q;obtain⟨b,o,ad⟩:=a;simp only at d;subst d;have F:∀i,∃g:List Int,i<len->g.length=ks.length/\(∀(j:Nat) (k:IntKind) (z:Int),ks[j]?=some k->g[j]?=some z->(Lit.int k z).wf=true)/\RVc ρ0 G0 W (ints ks g) b (o+i*ks.length):=by
   intro i;by_cases hi:i<len
   ·have:=Q i hi;rw[List.getElem?_eq_getElem V]at this;obtain⟨cs,T,X⟩:=Option.bind_eq_some_iff.1 this;obtain⟨g,z1,z2,z3⟩:=hF X;refine⟨g,λ_=>⟨z1,z3,qo λj x hx=>?_⟩⟩;obtain⟨_,c1,c2⟩:=World.cells?_some T;have hj:j<ks.length:=by
     have:=(List.getElem?_eq_some_iff.1 hx).1
     rwa [zH z1]at this
    have G:=c2 j (by rw[hc];exact hj);obtain⟨u,hu,aa⟩:=jP (WA (W:=W) ks g) hx;refine⟨u,?_,aa⟩;rw[z2,hu]at G;rw[<-G,hc]
    congr 1
    unfold Addr.add;by_cases h1:i*ks.length=0
    ·rw[if_pos h1,h1];by_cases w:j=0
     ·rw[if_pos w,w];rfl
     ·rw[if_neg w];rfl
    ·rw[if_neg h1];by_cases w:j=0
     ·rw[if_pos w,w];rfl
     ·rw[if_neg w]
   ·exact⟨[],λh=>absurd h hi⟩
  obtain⟨f,K⟩:=Classical.axiomOfChoice F;have A:∀g∈(List.range len).map f,g.length=ks.length:=by
   intro g hz;obtain⟨i,hi,rfl⟩:=List.mem_map.1 hz;exact(K i (List.mem_range.1 hi)).1
  have p:∀m s,s+m<=len->RVc ρ0 G0 W (((List.range' s m).map f).flatMap (ints ks)) b (o+s*ks.length):=by
   intro m
   induction m with
   |zero=>intro s _;simp[RVc]
   |succ m ih=>
    intro s hs;rw[List.range'_succ,List.map_cons,List.flatMap_cons];refine Ye (K s V).2.2 ?_;rw[zH (K s V).1];have:=ih (s+1) V
    rwa [Nat.succ_mul,<-Nat.add_assoc]at this
  refine⟨.vs len ks.length (((List.range len).map f).flatMap (ints ks)),(List.range len).map f,?_,⟨?_,A,λg hz=>?_⟩,rfl⟩
  ·simp only[RV];refine⟨b,o,E,rfl,hl,?_,Gz R,λr sh h=>(by cases h),?_⟩
   ·rw[zJ A];simp
   ·have:=p len 0 V;rw[List.range_eq_range']
    simpa using this
  ·have:=aH.vs (H:=ah.empty) (m:=ks.length) (n:=len) (cs:=((List.range len).map f).flatMap (ints ks)) (by rw[zJ A];simp)
   simpa using this
  ·obtain⟨i,hi,rfl⟩:=List.mem_map.1 hz;exact(K i (List.mem_range.1 hi)).2.1
def Us {t:XN}{m:Array Field}{b:Z2 XN}(T:P.underlying t=ZC (.struct m))(M:P.cellTypes P.depth t=ZC b)(q:m.toList.map (λ(f:Field)=>(f.type,f.offset))=b.zipIdx)
  (hc:∀u∈b,P.cellsOf u=1) (w:P.cellsOf t=b.length) {W:Xs} {r:Reach} {X base:Nat} {Q:Nat->Bool} {e:Bool} {v:XS} {d:DataW H} {ps:Z2 MemPlace}
  (g:Value.okWide P W r X t v) (h:DataW.Trod enc P W base Q e t v d ps):
  ∃cs:Array XS,v=.agg cs/\cs.size=b.length/\∀(i:Nat) (u:XN),b[i]?=ZC u->∃(c:XS) (n:Nat) (y:DataW H × Z2 MemPlace),cs[i]?=ZC c/\Cell.okWide P W r X u c/\DataW.trod enc P W base Q e n u [c]=ZC y:=by
 unfold Value.okWide at g;rw[T]at g;obtain⟨cs,rfl,hsz,ab,z,_,A⟩:=g;rw[M]at z;cases z;have⟨aa,hf⟩:=h;have⟨xs,n,_,_,hl,hx,hr⟩:=DataW.trod_struct T hf;have ad:m.size=b.length:=by
  have:=zaj List.length q
  simpa using this
 have C:∀(i:Nat) (u:XN),b[i]?=ZC u->∃f:Field,m[i]?=ZC f/\f.type=u/\f.offset=i:=by
  intro i u k;have hi:i<b.length:=(List.getElem?_eq_some_iff.1 k).1;have D:m[i]?=ZC (m[i]' V):=Array.getElem?_eq_getElem _;have o:(m.toList.map (λ(f:Field)=>(f.type,f.offset)))[i]?=ZC ((m[i]' V).type,(m[i]' V).offset):=by
   rw[List.getElem?_map];simp[D]
  rw[q,List.getElem?_zipIdx,k]at o;simp at o;exact⟨_,D,o.1.symm,o.2.symm⟩
 have E:∀(i:Nat) (u:XN),b[i]?=ZC u->∃c y,cs[i]?=ZC c/\DataW.trod enc P W base Q e n u [c]=ZC y:=by
  intro i u k;have⟨f,o,R,L⟩:=C i u k;have hi:i<b.length:=(List.getElem?_eq_some_iff.1 k).1;have:=hr i f o;rw[R,L,hc u (List.mem_of_getElem? k),List.getElem?_eq_getElem (show i<xs.length by omega)]at this;have F:i<cs.size:=by rw[hsz,w];exact hi
  cases j:cs[i]? with
  |none=>rw[Array.getElem?_eq_getElem F]at j;cases j
  |some c=>
   have G:i<cs.size:=by
    rcases Nat.lt_or_ge i cs.size with K|K
    ·exact K
    ·rw[Array.getElem?_eq_none K]at j;cases j
   have K:(((Value.agg cs).cells.toList.drop i).take 1)=[c]:=by
    have p:cs.toList[i]?=ZC c:=by simpa using j
    show(cs.toList.drop i).take 1=[c]
    rw[List.drop_eq_getElem_cons (by simpa using G)];rw[List.getElem?_eq_getElem (by simpa using G)]at p;simp at p;simp[p]
   rw[K]at this;exact⟨c,_,Z3,this⟩
 refine⟨cs,Z3,?_,λi u k=>?_⟩
 ·rw[hsz,w]
 ·have⟨c,y,o,R⟩:=E i u k;have⟨u',L,h4⟩:=A i c o;have hi:i<b.length:=(List.getElem?_eq_some_iff.1 k).1;rw[Nat.mod_eq_of_lt hi,k]at L;cases L;exact⟨c,n,y,o,h4,R⟩
structure Ir(k:IntKind)(av:AV)(zs:List Int):Prop where
 is:aH ah.empty av 1 zs.length (zs.map λz=>.s (.int k z))
 wf:∀z∈zs,(Lit.int k z).wf=true
 cell:av.aU=true
def QA {k:IntKind}:∀(l:Q (Q Int)),(∀zs∈l,zs.length=1)->l.flatMap (ints [k])=(l.map (λzs=>zs.headD 0)).map λz=>.s (.int k z)
 |[],_=>rfl
 |zs::l,h=>by
  have b:=h zs O;rw[List.flatMap_cons,QA l λz d=>h z (by simp[d])];cases zs with
  |nil=>simp at b
  |cons z zs=>
   cases zs with
   |nil=>rfl
   |cons _ _=>simp at b
def aaP.ints {k:IntKind}{av:AV}{l:Q (Q Int)}(h:aaP [k] av l)(hc:av.aU=Z0):Ir k av (l.map λzs=>zs.headD 0):=by
 refine⟨?_,λz d=>?_,hc⟩
 ·have:=h.is;rw[QA l h.len]at this
  simpa using this
 ·obtain⟨zs,b,rfl⟩:=List.mem_map.1 d;have e:=h.len zs b;cases zs with
  |nil=>simp at e
  |cons z zs=>exact h.wf _ b 0 k z W W
structure kT where
 aF:Int
 aT:Int
 aP:Int
 sets:Int
 ways:Int
 out:Int
 inn:Int
 init:AV
 who:AV
 kinds:AV
 fG:AV
 bI:AV
def kT.cells(s:kT):Q AV:=
 [.s (.int .i64 s.aF),.s (.int .i64 s.aT),.s (.int .i64 s.aP),.s (.int .i64 s.sets),.s (.int .i64 s.ways),.s (.int .i64 s.out),.s (.int .i64 s.inn),s.init,s.who,s.kinds,s.fG,s.bI]
abbrev qJ(z:Int):Prop:=-9223372036854775808<=z/\z<=9223372036854775807
def amd {z:Int}(h:(Lit.int .i64 z).wf=Z0):qJ z:=by
 simp[Lit.wf,IntKind.min,IntKind.max,IntKind.signed,IntKind.bits]at h;exact⟨V,V⟩
structure kT.Ok(s:kT)(zi zw zk za zv:List Int):Prop where
 aF:qJ s.aF
 aT:qJ s.aT
 aP:qJ s.aP
 sets:qJ s.sets
 ways:qJ s.ways
 out:qJ s.out
 inn:qJ s.inn
 init:Ir .i64 s.init zi
 who:Ir .i64 s.who zw
 kinds:Ir .i64 s.kinds zk
 fG:Ir .i64 s.fG za
 bI:Ir .i64 s.bI zv
def YB {t b sl e:XN}{fs:Array Field}(ht:P.underlying t=ZC (.struct fs))(p:P.cellTypes P.depth t=ZC [b,b,b,b,b,b,b,sl,sl,sl,sl,sl])
  (q:fs.toList.map (λ(f:Field)=>(f.type,f.offset))=[b,b,b,b,b,b,b,sl,sl,sl,sl,sl].zipIdx) (w:P.cellsOf t=12) (A:P.underlying b=ZC (.int .i64)) (af:P.cellsOf b=1)
  (C:P.underlying sl=ZC (.slice e)) (j:P.cellsOf sl=1) (D:P.underlying e=ZC (.int .i64)) (E:P.cellsOf e=1)
  {W:Xs} {r:Reach} {b0 base:Nat} {sp:Nat->Bool} {k:Bool} {v:XS} {d:DataW H} {ps:Z2 MemPlace} (m:Value.okWide P W r b0 t v) (h:DataW.Trod enc P W base sp k t v d ps):
  ∃(s:kT) (zi zw zk za zv:Z2 Int),RV ρ0 G0 W (.agg s.cells) v/\s.Ok zi zw zk za zv:=by
 obtain⟨cs,rfl,hsz,g⟩:=Us ht p q (λu hu=>by
  simp only[List.mem_cons,List.not_mem_nil,zan]at hu;rcases hu with rfl|rfl|rfl|rfl|rfl|rfl|rfl|rfl|rfl|rfl|rfl|rfl <;> assumption) w m h
 have num:∀i:Nat,[b,b,b,b,b,b,b,sl,sl,sl,sl,sl][i]?=ZC b->∃z,cs[i]?=ZC (.int .i64 z)/\qJ z:=by
  intro i hi;have⟨c,n,y,o,_,F⟩:=g i b hi;have⟨z,hz,_,hw⟩:=DataW.trod_int A F;simp at hz;subst hz;exact⟨z,o,amd hw⟩
 have row:∀i:Nat,[b,b,b,b,b,b,b,sl,sl,sl,sl,sl][i]?=ZC sl->∃c av zs,cs[i]?=ZC c/\RV ρ0 G0 W av c/\Ir .i64 av zs:=by
  intro i hi;have⟨c,n,y,o,h2,F⟩:=g i sl hi;have⟨av,l,r1,r2,r3⟩:=Qz C (ks:=[.i64]) E (aeT D) h2 F;exact⟨c,av,_,o,r1,r2.ints r3⟩
 have⟨z0,a0,w0⟩:=num 0 Z3;have⟨z1,a1,w1⟩:=num 1 Z3;have⟨z2,a2,w2⟩:=num 2 Z3;have⟨z3,a3,w3⟩:=num 3 Z3;have⟨z4,a4,w4⟩:=num 4 Z3;have⟨z5,a5,w5⟩:=num 5 Z3;have⟨z6,a6,w6⟩:=num 6 Z3;have⟨c7,v7,l7,a7,r7,o7⟩:=row 7 Z3;have⟨c8,v8,l8,a8,r8,o8⟩:=row 8 Z3;have⟨c9,v9,l9,a9,r9,o9⟩:=row 9 Z3;have⟨G,K,L,M,Q,R⟩:=row 10 Z3;have⟨T,X,aa,ab,ad,ae⟩:=row 11 Z3;have j:cs.toList=[.int .i64 z0,.int .i64 z1,.int .i64 z2,.int .i64 z3,.int .i64 z4,.int .i64 z5,.int .i64 z6,c7,c8,c9,G,T]:=by
  apply List.ext_getElem?
  intro i;rcases Nat.lt_or_ge i 12 with hi|hi
  ·have:i=0∨i=1∨i=2∨i=3∨i=4∨i=5∨i=6∨i=7∨i=8∨i=9∨i=10∨i=11:=V
   rcases this with rfl|rfl|rfl|rfl|rfl|rfl|rfl|rfl|rfl|rfl|rfl|rfl <;> simp[a0,a1,a2,a3,a4,a5,a6,a7,a8,a9,M,ab]
  ·have o:cs.toList.length=12:=by simpa using hsz
   rw[List.getElem?_eq_none V,List.getElem?_eq_none (by simpa using hi)]
 refine⟨⟨z0,z1,z2,z3,z4,z5,z6,v7,v8,v9,K,X⟩,l7,l8,l9,L,aa,?_,⟨w0,w1,w2,w3,w4,w5,w6,o7,o8,o9,R,ae⟩⟩;simp only[RV,kT.cells];refine⟨cs,Z3,?_⟩;rw[j];exact Az D9 (Az D9 (Az D9 (Az D9 (Az D9 (Az D9 (Az D9 (Az r7 (Az r8 (Az r9 (Az Q (Az ad auP)))))))))))
end
open Go.RowKit
variable {P:Program}{ρ:Ren}{H:ah}{w w':World}
def KT {f:FuncId}{p:Q AV->ah->M (AV × ah)}
  (h:∀args H v H',p args H=ZC (v,H')->∀(ρ:Ren) (w:Xs) (b:Array XS),Rel ρ H w->RVs ρ H.gen w args b.toList->
   Calls P f b w λe w'=>∃cv ρ',e=.returned cv/\Rel ρ' H' w'/\RV ρ' H'.gen w' v cv/\Ext ρ H w ρ' H' w'):qX P (λg args H=>if g=f then p args H else Z1):=by
 intro g args H v H' d ρ w b R ha;simp only at d;split at d
 ·rename_i e;subst e;exact h args H v H' d ρ w b R ha
 ·cases d
def wW(R:Rel ρ H w)(B:Below w.heap.size w w'):Rel ρ H w'/\Ext ρ H w ρ H w':=by
 have E:Ext ρ H w ρ H w':=⟨Nat.le_refl _,λ_=>Nat.le_refl _,λ_ _ h _=>h,λ_ _ h=>h,λ_ _ d h=>.inr ⟨d,h⟩,B.size,λb hb _=>B.block b hb,λb hb=>by rw[fE,fE,B.block b hb],B.os,B.tape,B.output⟩
 exact⟨⟨R.out,λr b d h=>yP.mono E.toMono (B.block b (R.block h)) (R.obj r b d h),R.inj,R.gl.ext E⟩,E⟩
def QB(R:Rel ρ H w){b:Nat}(hb:w.heap.size<=b):Imm ρ b:=λr d h=>by
 have:=R.block h;omega
def Ut {G:Nat->Nat}{x:AV}{b:Array XS}(h:RVs ρ G w [x] b.toList):∃c,b=#[c]/\RV ρ G w x c:=by
 obtain⟨d,l,e,g,i⟩:=(by simpa only[RVs]using h)
 subst i;exact⟨d,Array.toList_inj.1 (by simpa using e),g⟩
def aeU:AV:=.s (.slice Z1 0 0)
def QC(ks:Q Int):AV:=if ks=[]then aeU else .vs ks.length 1 ((ks.mergeSort λx y=>u (x<=y)).map λn=>.s (.int .i64 n))
def Iu:Q AV->M (Q Int)
 |[]=>ZC []
 |.s (.int .i64 n)::l=>(Iu l).map (n:: ·)
 |_=>Z1
def Iw:∀l:Q Int,Iu (l.map λn=>.s (.int .i64 n))=ZC l
 |[]=>rfl
 |n::l=>by simp only[List.map_cons,Iu,Iw l,Option.map_some]
def QD:∀{cells:Q AV} {zs:Q Int},Iu cells=ZC zs->cells=zs.map λn=>.s (.int .i64 n)
 |[],_,h=>by cases h;rfl
 |x::l,zs,h=>by
  unfold Iu at h;split at h
  ·rename_i e;cases e
  ·rename_i n g e;cases e;obtain⟨b,d,rfl⟩:=Option.map_eq_some_iff.1 h;rw[QD d];rfl
  ·cases h
def sW(j h:Q Nat)(args:Q AV)(H:ah):M (AV × ah):=
 match args with
 |[.fn (.func f) [] [.ref r g 0]]=>
  match H.get r with
  |.blk g' b [.mp m]=>match H.get m with
   |.map .i64 d=>if g'=g/\b<gW/\f≠0/\f∈j/\(d.map (·.1)).Nodup/\(d.all λe=>(Lit.int .i64 e.1).wf)=Z0/\d.length<=1000000 then ZC (QC (d.map (·.1)),H)else Z1
   |_=>Z1
  |.blk g' b [.vs n 1 cells]=>match Iu cells with
   |some i=>if g'=g/\b<gW/\f≠0/\f∈h/\n=i.length/\n<=1000 then ZC (QC i,H)else Z1
   |none=>Z1
  |.blk g' b [.s (.slice none 0 0)]=>if g'=g/\b<gW/\f≠0/\f∈h then ZC (aeU,H)else Z1
  |_=>Z1
 |_=>Z1
structure Node where
 aJ:Cache
 bU:Proc
 home:Home
 aO:bW
 num:Int
structure dh where
 c:Cfg
 aF:List Node
 fab:Fab
 trace:List Evn
def Cfg.jK(c:Cfg)(me:Int):Nat->Rows
 |0=>[]
 |n+1=>if c.bf n=me then lK (c.jK me n) n ⟨0,-1,c.first n⟩else c.jK me n
def Home.new(c:Cfg)(me:Int):Home:=⟨c.jK me c.aT.toNat,⟨[],[]⟩⟩
def Node.new(c:Cfg)(me:Int)(l:Q Opn):Node:=⟨⟨[],c.sets,c.ways,0⟩,⟨l,[],ZV⟩,.new c me,.zero,0⟩
def Fab.new(c:Cfg):Fab:=⟨c.out,c.inn,List.replicate c.aF.toNat .zero⟩
def dh.new(c:Cfg)(ps:Q (Q Opn)):dh:=⟨c,ps.mapIdx λi l=>.new c i l,.new c,[]⟩
structure ahD where
 owner:List (Int × Int)
 wait:List (Int × Int × Int)
structure Iy where
 dS:List Row
 bn:ahD
structure Iz where
 aJ:Cache
 homes:Iy
 ops:List Opn
 fD:Bool
 bI:List Int
 has:Bool
 aO:bW
 num:Int
structure NJ where
 c:Cfg
 fab:List Port
 aF:List Iz
 ev:List Evn
def Iy.new(c:Cfg):Iy:=⟨(List.range c.aT.toNat).map λ(i:Nat)=>(⟨0,-1,c.first (i:Int)⟩:Row),⟨[],[]⟩⟩
def Iz.new(c:Cfg)(l:Q Opn):Iz:=⟨⟨[],c.sets,c.ways,0⟩,.new c,l,ZV,[],ZV,.zero,0⟩
def NJ.new(c:Cfg)(ps:Q (Q Opn)):NJ:=⟨c,List.replicate c.aF.toNat .zero,ps.map (.new c),[]⟩
inductive QE {α:Type} (R:α->List AV->Prop):List α->List AV->Prop
 |nil:QE R [] []
 |cons {a:α} {l:List α} {cs cells:List AV}:R a cs->QE R l cells->QE R (a::l) (cs++cells)
section
variable {α:Type}{R:α->List AV->Prop}{l:List α}{cells:List AV}
def QE.mono {b:α->Q AV->Prop}(d:∀a cs,a∈l->R a cs->b a cs)(h:QE R l cells):QE b l cells:=by
 induction h with
 |nil=>exact .nil
 |cons e _ g=>exact .cons (d _ _ O e) (g λa cs ha=>d a cs (by simp[ha]))
def QE.plain {enc:α->Q AV}:∀l:Q α,QE (λa cs=>cs=enc a) l (l.flatMap enc)
 |[]=>.nil
 |a::l=>.cons W (QE.plain l)
def QE.of {enc:α->Q AV}(b:∀a,a∈l->R a (enc a)):QE R l (l.flatMap enc):=
 (QE.plain (enc:=enc) l).mono λa cs ha (h:cs=enc a)=>by rw[h];exact b a ha
end
def Pkt.avx(p:Pkt)(x:AV):Q AV:=[I p.aW,I p.src,I p.dst,I p.id,I p.ak,I p.ptr,I p.state,B p.flag,x]
def Ent.avx(e:Ent)(x:AV):Q AV:=[I e.fwd,I e.back,I e.ak,I e.used,B e.bJ,x]
def Row.avx(r:Row)(x:AV):Q AV:=[I r.state,I r.head,x]
def bW.avx(d:bW)(x:AV):Q AV:=[I d.aW,I d.ak,I d.id,I d.step,I d.state,I d.head,x,I d.next,I d.told]
def NM(g:bG)(x:AV)(l:Q Int):Prop:=x=dat l∨∃q ex,l≠[]/\x=.sl q 0 0 1 l.length l.length ex/\g q=ZC (l.map λn=>.av (I n))
def aaQ(cs:Q Cell):Prop:=∃c∈cs,∀n,c≠.av (I n)
section
variable {b:Nat}{H:ah}{g g':bG}{x:AV}{l:List Int}
def NM.dat:NM g (dat l) l:=.inl W
def NM.sub(h:NM g x l)(b:∀q cs,g q=ZC cs->¬aaQ cs->g' q=ZC cs):NM g' x l:=by
 rcases h with rfl|⟨q,ex,d,rfl,h⟩
 ·exact .inl W
 ·refine .inr ⟨q,ex,d,W,b _ _ h λ⟨c,hc,e⟩=>?_⟩;obtain⟨n,_,rfl⟩:=List.mem_map.1 hc;exact e n W
end
def avf(g:bG)(p:Pkt)(cs:Q AV):Prop:=∃x,NM g x p.data/\cs=p.avx x
def avg(g:bG)(e:Ent)(cs:Q AV):Prop:=∃x,NM g x e.data/\cs=e.avx x
def asC(g:bG)(r:Row)(cs:Q AV):Prop:=∃x,NM g x r.data/\cs=r.avx x
def asD(g:bG)(d:bW)(cs:Q AV):Prop:=∃x,NM g x d.data/\cs=d.avx x
def akc {g:bG}(p:Row):asC g p p.av:=⟨_,.dat,W⟩
def C9(c:Cache)(cells:Q AV):Q Cell:=[.av (I c.sets),.av (I c.ways),.av (I c.dN),.seq 6 cells]
def pF(c:Cfg)(me:Int)(dS:Q AV)(t:ahD):Q Cell:=c.av.map .av++[.av (I me),.seq 3 dS,.seq 2 (t.owner.flatMap λe=>[I e.1,I e.2]),.seq 3 (t.wait.flatMap λe=>[I e.1,I e.2.1,I e.2.2])]
def Ea(a:Nat->Nat)(c:Cfg)(me:Int)(n:Iz)(d:Q AV):Q Cell:=
 c.av.map .av++[.av (I me),.av (.ref (a 1) 0 0),.av (.ref (a 2) 0 0),.seq 3 (n.ops.flatMap Opn.av),.av (B n.fD),.seq 1 (n.bI.map I),.av (B n.has)]++d.map .av++[.av (I n.num)]
def YC(c:Cfg)(ls:Q (Q AV)):Q Cell:=c.av.map .av++[.anh 4 9 ls]
def qK(f:Nat)(N:Nat->Nat->Nat)(c:Cfg)(n:Nat)(ev:Q Evn):Q Cell:=c.av.map .av++[.av (.ref f 0 0),.seq 1 ((List.range n).map λi=>.ref (N i 0) 0 0),.seq 4 (ev.flatMap Evn.av)]
structure oG(g:bG)(a:Nat->Nat)(c:Cfg)(me:Int)(n:Iz):Prop where
 bC:∃d,asD g n.aO d/\g (a 0)=some (Ea a c me n d)
 aJ:∃cells,QE (avg g) n.aJ.l cells/\g (a 1)=some (C9 n.aJ cells)
 homes:∃dS,QE (asC g) n.homes.dS dS/\g (a 2)=some (pF c me dS n.homes.bn)
def asE(N:Nat->Nat->Nat)(n:Nat):Prop:=∀i j s t,i<n->j<n->s<3->t<3->N i s=N j t->i=j/\s=t
def ahE(p:Port):Q (Q Pkt):=[p.rq,p.an,p.rin,p.ain]
structure aaR(g:bG)(q f:Nat)(N:Nat->Nat->Nat)(m:NJ):Prop where
 jL:g q=some (qK f N m.c m.aF.length m.ev)
 fab:∃ls:List (List AV),g f=some (YC m.c ls)/\ls.length=4*m.fab.length/\∀(i:Nat) l cells,(m.fab.flatMap ahE)[i]?=some l->ls[i]?=some cells->QE (avf g) l cells
 bC:∀(i:Nat) n,m.aF[i]?=some n->oG g (N i) m.c i n
 inj:asE N m.aF.length
def Eb(x:Int):Q Int->Q Int
 |[]=>[x]
 |y::rp=>if x<y then y::Eb x rp else x::y::rp
def srt:Q Int->Q Int->Q Int
 |b,[]=>b.reverse
 |b,x::l=>srt (Eb x b) l
def Ent.word(e:Ent)(w:Int):Int:=if 0<=w/\w<e.data.length then e.data.getD w.toNat 0 else 0
def Ent.write(e:Ent)(w v:Int):Ent:=if e.bJ=Z0/\0<=w/\w<e.data.length then { e with data:=e.data.set w.toNat v } else e
def Home.ready(h:Home):Q Int:=h.bn.ready (srt [] (h.bn.wait.map (·.1)))
def Home.grant(bC:Int)(h:Home):Home × Pkt × Bool:=
 match h.ready with
 |[]=>(h,.zero,ZV)
 |ak::_=>match h.bn.next ak with
  |(t,some w)=>({ h with bn:=t },granted h.dS bC ak w.1 w.2,Z0)
  |(_,none)=>(h,.zero,ZV)
def Proc.idx(p:Proc):Int:=match p.cur with
 |some _=>p.bI.length
 |none=>0
def Proc.op(p:Proc):Opn:=p.cur.getD .zero
def Proc.Dc(p:Proc)(v:Int):Proc:=if p.fD then⟨p.ops,p.bI++[v],ZV⟩else p
def Proc.AA(p:Proc):Proc:=if p.fD=Z0∨p.cur=Z1 then p else { p with fD:=Z0 }
abbrev NT:=Node × List Evn
def Node.done(me:Int)(n:Node)(t:Q Evn)(v:Int):NT:=({ n with bU:=n.bU.Dc v },t++[⟨me,n.bU.idx,Z0,v⟩])
def fA(e:Ent)(o:Opn)(w:Int):Ent:=if o.aW=2 then e.write w o.value else if o.aW=3 then e.write w (w64 (e.word w+o.value))else e
def Node.effect(c:Cfg)(me:Int)(n:Node)(t:Q Evn):NT:=
 let o:=n.bU.op;let e:=(n.aJ.find (c.bZ o.addr)).getD .zero;let n':={ n with aJ:=(n.aJ.put (fA e o (c.dH o.addr))).1 }
 n'.done me t (if o.aW=2 then 0 else e.word (c.dH o.addr))
def Node.ame(c:Cfg)(me:Int)(n:Node)(f:Fab):Fab:=(f.send (n.aO.ask me (c.bf n.aO.ak))).1
def Node.after(me:Int)(n:Node)(p:Pkt):Nxt:=
 if n.aO.aW=1 then dW n.aO me n.aJ p else if n.aO.aW=2 then dY n.aO me n.aJ p else if n.aO.aW=3 then eP n.aO n.aJ p else yJ n.aJ
abbrev NFT:=Node × Fab × List Evn
def Node.answered(c:Cfg)(me:Int)(n:Node)(f:Fab)(t:Q Evn)(p:Pkt):NFT:=
 match n.after me p with
 |(ca,d,ok)=>
  if ok=ZV then({ n with aJ:=ca },f,t)else
  let n:={ n with aJ:=ca,aO:=d }
  if d.step=0 then(if d.aW=3/\n.bU.op.aW=4 then((n.done me t 0).1,f,(n.done me t 0).2)else(n,f,t))
  else
   let b:=if d.step=6/\d.aW≠3 then n.effect c me t else(n,t)
   (b.1,b.1.ame c me f,b.2)
def Node.begin_(c:Cfg)(me:Int)(n:Node)(f:Fab)(aW ak:Int):Node × Fab:=
 let n:={ n with aO:=.begin aW ak n.num,num:=(n.num+1).tmod 4096 }
 (n,n.ame c me f)
def Node.asked(c:Cfg)(me:Int)(n:Node)(f:Fab)(p:Pkt):Node × Fab:=
 if p.aW=1∨p.aW=2 then
  match n.home.handle c me p with
  |(h,out,ok,e)=>({ n with home:=h },if ok=Z0/\e=0 then(f.send out).1 else f)
 else
  match fQ n.aJ p with
  |(ca,out,e)=>({ n with aJ:=ca },if e=0 then(f.send out).1 else f)
def Node.work(c:Cfg)(me:Int)(n:Node)(f:Fab)(t:Q Evn)(o:Opn):NFT:=
 let t:=if n.bU.fD then t else t++[⟨me,n.bU.bI.length,ZV,0⟩]
 let n:={ n with bU:={ n.bU with fD:=Z0 } }
 let ak:=c.bZ o.addr;let e:=n.aJ.find ak
 if o.aW=4/\e=Z1 then((n.done me t 0).1,f,(n.done me t 0).2)
 else if o.aW=4 then((n.begin_ c me f 3 ak).1,(n.begin_ c me f 3 ak).2,t)
 else if e.isSome=Z0/\(o.aW=1∨(e.getD .zero).bJ=Z0)then
  let n:={ n with aJ:=n.aJ.touch ak }
  ((n.effect c me t).1,f,(n.effect c me t).2)
 else if n.aJ.full ak=Z0 then((n.begin_ c me f 3 ((n.aJ.qI ak).getD 0)).1,(n.begin_ c me f 3 ((n.aJ.qI ak).getD 0)).2,t)
 else if o.aW=1 then((n.begin_ c me f 1 ak).1,(n.begin_ c me f 1 ak).2,t)
 else((n.begin_ c me f 2 ak).1,(n.begin_ c me f 2 ak).2,t)
def Node.step(c:Cfg)(me:Int)(n:Node)(f:Fab)(t:Q Evn):NFT × Int:=
 match f.take me ZV with
 |(b,some p)=>(n.answered c me b t p,1)
 |(_,none)=>
  if n.home.ready≠[]/\f.roomOf me ZV≠0 then
   (({ n with home:=(n.home.grant me).1 },(f.send (n.home.grant me).2.1).1,t),2)
  else
   match(if f.roomOf me ZV=0 then(f,Z1)else f.take me Z0)with
   |(b,some p)=>(((n.asked c me b p).1,(n.asked c me b p).2,t),3)
   |(_,none)=>
    match n.bU.cur with
    |some o=>if n.aO.step=0 then(n.work c me f t o,4)else((n,f,t),0)
    |none=>((n,f,t),0)
def dh.bC(m:dh)(i:Int):M Node:=if 0<=i then m.aF[i.toNat]? else Z1
def dh.step(m:dh)(i:Int):dh × Int:=
 match m.bC i with
 |none=>(m,0)
 |some n=>match n.step m.c i m.fab m.trace with
  |((n',f,t),k)=>({ m with aF:=m.aF.set i.toNat n',fab:=f,trace:=t },k)
def bn(bytes:Nat)(bit mask:Int):Bool:=(List.range 16).any λi=>u ((mask.toNat >>> (15-i)) % 2=1) && u (0<=bit+i) && u (bit+i<8*bytes)
def Pkt.bytes(p:Pkt):Nat:=12+8*p.data.length
def Port.drop(p:Port)(req:Bool)(k:Nat):Port:=p.lS req ((p.sort req).eraseIdx k)
def Fab.remove(f:Fab)(at_:Nat):Fab:=match Au f.l 0 at_ with
 |some (i,req,k)=>f.put i ((f.port i).drop req k)
 |none=>f
def Fab.deliver(f:Fab)(at_ bit mask:Int):Fab × Int:=
 if at_<0 then(f,3)else
 match f.all[at_.toNat]? with
 |none=>(f,3)
 |some p=>
  if bn p.bytes bit mask=Z0 then(f,2)else
  if f.room (wB p.aW)<=((f.port p.dst).uG (wB p.aW)).length then(f,5)else
  ((f.put p.dst ((f.port p.dst).lG (wB p.aW) ((f.port p.dst).uG (wB p.aW)++[p]))).remove at_.toNat,0)
def dh.deliver(m:dh)(at_ bit mask:Int):dh × Int:=({ m with fab:=(m.fab.deliver at_ bit mask).1 },(m.fab.deliver at_ bit mask).2)
def dh.do_(m:dh)(p:Pck):dh × Bool:=
 if p.deliver then((m.deliver p.at_ p.bit p.mask).1,u ((m.deliver p.at_ p.bit p.mask).2=0))
 else((m.step p.at_).1,u ((m.step p.at_).2≠0))
def wX(c:Cfg)(me ak:Int):Bool:=u (0<=ak) && u (ak<c.aT) && u (ak % c.aF=me)
def Lines(l:Q Ent):Prop:=l.Pairwise λa b=>a.ak≠b.ak
def Lines.inj:∀{l:Q Ent},Lines l->∀{a b:Ent},a∈l->b∈l->a.ak=b.ak->a=b
 |[],_,a,_,ha,_,_=>by cases ha
 |x::l,h,a,b,ha,hb,e=>by
  have i:=List.pairwise_cons.1 h;rcases List.mem_cons.1 ha with g|g
  ·rcases List.mem_cons.1 hb with d|d
   ·rw[g,d]
   ·rw[g]at e;exact absurd e (i.1 b d)
  ·rcases List.mem_cons.1 hb with d|d
   ·rw[d]at e;exact absurd e.symm (i.1 a g)
   ·exact Lines.inj i.2 g d e
def ji {l:Q Ent}(h:Lines l){ak:Int}{e:Ent}:(l.find? λx=>u (x.ak=ak))=ZC e↔e∈l/\e.ak=ak:=by
 constructor
 ·intro b;exact⟨List.mem_of_find?_eq_some b,by simpa using List.find?_some b⟩
 ·rintro⟨d,g⟩;cases b:l.find? λx=>u (x.ak=ak)with
  |none=>
   have:=List.find?_eq_none.1 b e d;simp[g]at this
  |some x=>
   have i:=List.mem_of_find?_eq_some b;have j:x.ak=ak:=by simpa using List.find?_some b
   rw[h.inj i d (by rw[j,g])]
def AB {l:Q Ent}{ak:Int}:(l.find? λx=>u (x.ak=ak))=Z1↔∀e∈l,e.ak≠ak:=by
 rw[List.find?_eq_none];simp
def IB {c:Cache}{ak:Int}:c.at_ ak=Z1↔c.find ak=none:=by
 unfold Cache.at_ Cache.find;rw[List.findIdx?_eq_none_iff,List.find?_eq_none];simp
def NP {c:Cache}{ak:Int}{i:Nat}(h:c.at_ ak=ZC i):∃e,c.l[i]?=ZC e/\c.find ak=ZC e/\e.ak=ak:=by
 unfold Cache.at_ at h;have hi:=List.findIdx?_eq_some_iff_getElem.1 h;have⟨b,d,g⟩:=hi;refine⟨c.l[i],List.getElem?_eq_getElem b,?_,by simpa using d⟩;unfold Cache.find;rw[List.find?_eq_some_iff_getElem];exact⟨d,i,b,W,λj k=>by simpa using g j k⟩
def KU {c:Cache}{ak:Int}{e:Ent}(h:c.find ak=ZC e):∃i,c.at_ ak=ZC i/\c.l[i]?=ZC e:=by
 cases ha:c.at_ ak with
 |none=>rw[IB.1 ha]at h;cases h
 |some i=>
  have⟨g,d,b,_⟩:=NP ha;rw[h]at b;cases b;exact⟨i,W,d⟩
def Uu:∀{l:List Ent},Lines l->∀{i:Nat} {e v:Ent},l[i]?=some e->l.set i v=l.map λx=>if x.ak=e.ak then v else x
 |[],_,i,e,v,h=>by simp at h
 |x::l,d,i,e,v,h=>by
  have b:=List.pairwise_cons.1 d;cases i with
  |zero=>
   simp only[List.getElem?_cons_zero,Option.some.injEq]at h;subst h;simp only[List.set_cons_zero,List.map_cons,if_true]
   congr 1
   have:∀y∈l,(if y.ak=x.ak then v else y)=y:=λy g=>if_neg (Ne.symm (b.1 y g));rw[List.map_congr_left this];simp
  |succ i=>
   simp only[List.getElem?_cons_succ]at h;have j:x.ak≠e.ak:=b.1 e (List.mem_of_getElem? h);simp only[List.set_cons_succ,List.map_cons,if_neg j];rw[Uu b.2 h]
def Ec:∀{l:Q Ent},Lines l->∀{i:Nat} {e:Ent},l[i]?=ZC e->l.eraseIdx i=l.filter λx=>u (x.ak≠e.ak)
 |[],_,i,e,h=>by simp at h
 |x::l,d,i,e,h=>by
  have b:=List.pairwise_cons.1 d;cases i with
  |zero=>
   simp only[List.getElem?_cons_zero,Option.some.injEq]at h;subst h;simp only[List.eraseIdx_cons_zero,List.filter_cons,ne_eq,not_true,decide_false,Bool.false_eq_true,zaf];rw[List.filter_eq_self.2];intro y g;have:=b.1 y g;simp only[zab];exact λe=>this e.symm
  |succ i=>
   simp only[List.getElem?_cons_succ]at h;have j:x.ak≠e.ak:=b.1 e (List.mem_of_getElem? h);simp only[List.eraseIdx_cons_succ,List.filter_cons,j,ne_eq,not_false_eq_true,zax,zad];rw[Ec b.2 h]
def nD {c:Cache}(g:Lines c.l){e x:Ent}(h0:0<=e.ak)(h:c.find e.ak=ZC x):c.put e=({ c with l:=c.l.map λy=>if y.ak=e.ak then { e with used:=x.used } else y },0):=by
 have⟨i,d,b⟩:=KU h;have j:x.ak=e.ak:=by
  have⟨y,k1,_,k⟩:=NP d;rw[b]at k1;cases k1;exact k
 unfold Cache.put;rw[F V,d];simp only;rw[List.getD_eq_getElem?_getD,b,Option.getD_some,Uu g b,j]
def Uw {c:Cache}(b:Lines c.l)(ak:Int):c.drop ak={ c with l:=c.l.filter λx=>u (x.ak≠ak) }:=by
 unfold Cache.drop;cases ha:c.at_ ak with
 |none=>
  have:=AB.1 (show(c.l.find? λx=>u (x.ak=ak))=Z1 from IB.1 ha);simp only;rw[List.filter_eq_self.2 λx d=>by simpa using this x d]
 |some i=>
  have⟨e,g,_,h⟩:=NP ha;simp only;rw[Ec b g,h]
def Fa {c:Cache}(g:Lines c.l){ak:Int}{e:Ent}(h:c.find ak=ZC e):c.touch ak={ c with l:=c.l.map λx=>if x.ak=ak then { e with used:=c.dN+1 } else x,dN:=c.dN+1 }:=by
 have⟨i,d,b⟩:=KU h;have⟨y,k1,_,j⟩:=NP d;rw[b]at k1;cases k1;unfold Cache.touch;rw[d];simp only;rw[List.getD_eq_getElem?_getD,b,Option.getD_some,Uu g b,j]
def IC:∀(l:Q Ent) (m:Ent),(l.foldl (λm x=>if x.used<m.used then x else m) m)∈m::l/\∀x∈m::l,(l.foldl (λm x=>if x.used<m.used then x else m) m).used<=x.used
 |[],m=>by simp
 |x::l,m=>by
  rw[List.foldl_cons];have⟨i,e⟩:=IC l (if x.used<m.used then x else m);refine⟨?_,λy b=>?_⟩
  ·rcases List.mem_cons.1 i with h|h
   ·rw[h];split <;> simp
   ·simp[h]
  ·have d:(if x.used<m.used then x else m).used<=x.used/\(if x.used<m.used then x else m).used<=m.used:=by
    split
    ·omega
    ·omega
   have g:=e _ (List.mem_cons_self ..);rcases List.mem_cons.1 b with b|b
   ·rw[b];exact Int.le_trans g d.2
   ·rcases List.mem_cons.1 b with b|b
    ·rw[b];exact Int.le_trans g d.1
    ·exact e y (by simp[b])
def Ed {l:Q Ent}{e:Ent}(h:zG l=ZC e):e∈l/\∀x∈l,e.used<=x.used:=by
 cases l with
 |nil=>cases h
 |cons m l=>
  simp only[zG,Option.some.injEq]at h;subst h;exact IC l m
def YD(l:Q Ent):Prop:=l.Pairwise λa b=>a.used≠b.used
def zK(x:Int):∀l,(Eb x l).Perm (x::l)
 |[]=>List.Perm.refl _
 |y::l=>by
  simp only[Eb];split
  ·exact((zK x l).cons y).trans (List.Perm.swap x y l)
  ·exact List.Perm.refl _
def AL(x:Int):∀l,l.Pairwise (· ≥ ·)->(Eb x l).Pairwise (· ≥ ·)
 |[],_=>by simp[Eb]
 |y::l,h=>by
  simp only[Eb];rw[List.pairwise_cons]at h;split
  ·rename_i d;refine List.pairwise_cons.2 ⟨λz b=>?_,AL x l h.2⟩;rcases List.mem_cons.1 ((zK x l).mem_iff.1 b)with rfl|b
   ·omega
   ·exact h.1 z b
  ·rename_i d;refine List.pairwise_cons.2 ⟨λz b=>?_,List.pairwise_cons.2 h⟩;rcases List.mem_cons.1 b with rfl|b
   ·omega
   ·have:=h.1 z b;omega
def xY:∀(l b:Q Int),b.Pairwise (· ≥ ·)->(srt b l).Perm (b++l)/\(srt b l).Pairwise (· <= ·)
 |[],b,h=>by
  simp only[srt,List.append_nil];exact⟨List.reverse_perm b,List.pairwise_reverse.2 (h.imp λh=>h)⟩
 |x::l,b,h=>by
  have:=xY l (Eb x b) (AL x b h);simp only[srt];refine⟨this.1.trans ?_,this.2⟩;refine((zK x b).append_right l).trans ?_;rw[List.cons_append];exact(List.perm_middle (a:=x) (l₁:=b) (l₂:=l)).symm
def ahF {l d:Q Int}(h:l.Perm d)(i:d.Pairwise (· <= ·)):srt [] l=d:=by
 have⟨e,g⟩:=xY l [] List.Pairwise.nil;exact(e.trans h).eq_of_pairwise (λa b _ _ e g=>Int.le_antisymm e g) g i
def jF {α:Type}:∀(l:Q (Int × α)) (n m:Int) (x:α),jw (lK l n x) m=if n=m then ZC x else jw l m
 |[],n,m,x=>by simp[lK,jw]
 |(k,v)::l,n,m,x=>by
  simp only[lK];by_cases h:k=n
  ·subst h;simp only[zad,jw];by_cases b:k=m <;> simp[b]
  ·simp only[h,zaf,jw];rw[jF l n m x];by_cases b:k=m
   ·subst b;simp only[zad];rw[F (λe=>h e.symm)]
   ·simp[b]
def KW {α:Type}:∀(l:Q (Int × α)) (n:Int),(Aq l n).map (·.1)=(l.map (·.1)).erase n
 |[],n=>rfl
 |(k,v)::l,n=>by
  simp only[Aq,List.map_cons,List.erase_cons];by_cases h:k=n
  ·simp[h]
  ·simp[h,KW l n]
def QF {α:Type}:∀(l:Q (Int × α)) (n:Int) (x:α),(lK l n x).map (·.1)=if n∈l.map (·.1)then l.map (·.1)else l.map (·.1)++[n]
 |[],n,x=>by simp[lK]
 |(k,v)::l,n,x=>by
  simp only[lK,List.map_cons,List.mem_cons];by_cases h:k=n
  ·simp[h]
  ·have b:¬n=k:=λe=>h e.symm;simp only[h,zaf,List.map_cons,b,false_or,QF l n x];split <;> simp
def xZ {α:Type}{l:Q (Int × α)}(h:(l.map (·.1)).Nodup)(n:Int)(x:α):((lK l n x).map (·.1)).Nodup:=by
 rw[QF];split
 ·exact h
 ·rename_i d;rw[List.nodup_append];refine⟨h,O,λa ha b hb=>?_⟩;simp only[List.mem_singleton]at hb;subst hb;intro e;subst e;exact d ha
def KX {α:Type}:∀{l:Q (Int × α)},(l.map (·.1)).Nodup->∀(n m:Int),jw (Aq l n) m=if n=m then Z1 else jw l m
 |[],_,n,m=>by simp[Aq,jw]
 |(k,v)::l,h,n,m=>by
  rw[List.map_cons,List.nodup_cons]at h;simp only[Aq];by_cases hk:k=n
  ·subst hk;simp only[zad,jw];by_cases b:k=m
   ·subst b;simp only[zad];exact KY.2 h.1
   ·simp[b]
  ·simp only[hk,zaf,jw];rw[KX h.2 n m];by_cases b:k=m
   ·subst b;simp only[zad];rw[F λe=>hk e.symm]
   ·simp[b]
where
 KY {α:Type}:∀{es:Q (Int × α)} {n:Int},jw es n=Z1↔n∉es.map (·.1)
 |[],n=>by simp[jw]
 |(k,v)::l,n=>by
  simp only[jw,List.map_cons,List.mem_cons,not_or];by_cases h:k=n
  ·simp[h]
  ·simp only[h,zaf];rw[KY (es:=l)];exact⟨λd=>⟨λe=>h e.symm,d⟩,λd=>d.2⟩
def rP {α:Type}:∀{l:Q (Int × α)} {n:Int} {x:α},jw l n=ZC x->(n,x)∈l
 |[],n,x,h=>by cases h
 |(k,v)::l,n,x,h=>by
  simp only[jw]at h;split at h
  ·rename_i e;cases h;subst e;simp
  ·simp[rP h]
def rQ {α:Type}:∀{l:Q (Int × α)} {n:Int} {x:α} {e:Int × α},e∈lK l n x->e=(n,x)∨e∈l
 |[],n,x,e,h=>by simp[lK]at h;exact .inl h
 |(k,v)::l,n,x,e,h=>by
  simp only[lK]at h;split at h
  ·rcases List.mem_cons.1 h with h|h
   ·exact .inl h
   ·exact .inr (by simp[h])
  ·rcases List.mem_cons.1 h with h|h
   ·exact .inr (by simp[h])
   ·rcases rQ h with h|h
    ·exact .inl h
    ·exact .inr (by simp[h])
def QG {α:Type}:∀{l:Q (Int × α)} {n:Int} {e:Int × α},e∈Aq l n->e∈l
 |[],n,e,h=>by cases h
 |(k,v)::l,n,e,h=>by
  simp only[Aq]at h;split at h
  ·simp[h]
  ·rcases List.mem_cons.1 h with h|h
   ·simp[h]
   ·simp[QG h]
structure Tq(t:Turns):Prop where
 ok:(t.iI.map (·.1)).Nodup
 oge:∀e∈t.iI,0<=e.2
 wk:(t.wait.map (·.1)).Nodup
 wge:∀e∈t.wait,∀w∈e.2,0<=w.1
def Tq.owned {t:Turns}(h:Tq t)(ak:Int):t.owned ak=Z0↔t.owner ak≠-1:=by
 unfold Turns.owned Turns.owner;cases ha:jw t.iI ak with
 |none=>simp
 |some v=>
  have:=h.oge _ (rP ha);simp only[Option.isSome_some,Option.getD_some,true_iff];simp only at this;omega
structure akd(c:Cfg)(me:Int)(h:Home):Prop where
 bn:Tq h.bn
 here:∀e∈h.bn.wait,wX c me e.1=true
def aeV {t:Turns}{ak who id:Int}{e:Int × Q (Int × Int)}(h:e∈(t.ask ak who id).1.wait):e.1=ak∨e∈t.wait:=by
 unfold Turns.ask at h;split at h
 ·exact .inr h
 ·split at h
  ·rcases rQ h with rfl|h
   ·exact .inl W
   ·exact .inr h
  ·exact .inr h
def QH {t:Turns}{ak who:Int}:(t.release ak who).1.wait=t.wait:=by
 unfold Turns.release;split <;> rfl
def aaS {t:Turns}{ak:Int}{e:Int × Q (Int × Int)}(h:e∈(t.next ak).1.wait):e∈t.wait∨(e.1=ak/\t.ws ak≠[]):=by
 unfold Turns.next at h
 split at h
 ·exact .inl h
 ·split at h
  ·exact .inl h
  ·rename_i w ws hw;rcases rQ h with rfl|h
   ·exact .inr ⟨W,by rw[hw];simp⟩
   ·exact .inl h
def QI {c:Cfg}(hc:c.ok=Z0){me ak:Int}(h0:0<=ak):(c.bf ak≠me∨c.aT<=ak)↔wX c me ak=false:=by
 have b:c.bf ak=ak % c.aF:=by unfold Cfg.bf wV;rw[F V]
 unfold wX;rw[b];constructor
 ·rintro(h|h)
  ·simp[h]
  ·have:¬ak<c.aT:=V
   simp[this]
 ·intro h;simp only[Bool.and_eq_false_iff,zas]at h;rcases h with(h|h)|h
  ·omega
  ·right;omega
  ·exact .inl h
def AO {h:Home}{ak:Int}{l:Q Int}(d:h.ready=ak::l):h.bn.owned ak=ZV/\h.bn.ws ak≠[]/\ak∈h.bn.wait.map (·.1):=by
 have:ak∈h.ready:=by rw[d];simp
 unfold Home.ready Turns.ready at this;rw[List.mem_filter]at this;have⟨g,b⟩:=this;simp only[Bool.and_eq_true,Bool.not_eq_true']at b;refine⟨b.1,λe=>by rw[e]at b;exact absurd b.2 O,?_⟩;have:=(xY (h.bn.wait.map (·.1)) [] List.Pairwise.nil).1;rw[List.nil_append]at this;exact this.mem_iff.1 g
def Ee(d:bW)(bC:Int)(c:Cache)(p:Pkt):Nxt:=
 if d.aW=1 then dW d bC c p else if d.aW=2 then dY d bC c p else if d.aW=3 then eP d c p else yJ c
def I64(z:Int):Prop:=-9223372036854775808<=z/\z<=9223372036854775807
def anu(z:Int):I64 (w64 z):=by
 show -9223372036854775808<=IntKind.wrap .i64 z/\IntKind.wrap .i64 z<=9223372036854775807;simp only[IntKind.wrap,IntKind.bits,IntKind.signed];simp;split <;> constructor <;> omega
def pG(c:Cfg)(d:Q Int):Prop:=(d.length:Int)=c.aP/\∀v∈d,I64 v
structure yK(c:Cfg)(p:Pkt):Prop where
 ok:p.ok=true
 dat:p.aW=7∨p.aW=9->pG c p.data
 num:∀v∈p.data,I64 v
structure KZ(c:Cfg)(p:Port):Prop where
 rq:(p.rq.length:Int)<=c.out
 an:(p.an.length:Int)<=c.out
 rin:(p.rin.length:Int)<=c.inn
 ain:(p.ain.length:Int)<=1
 pkt:∀q,q∈p.rq∨q∈p.an∨q∈p.rin∨q∈p.ain->yK c q
structure wY(c:Cfg)(f:Fab):Prop where
 out:f.out=c.out
 inn:f.inn=c.inn
 len:(f.l.length:Int)=c.aF
 port:∀p∈f.l,KZ c p
def lu {c:Cfg}(h:c.ok=Z0):(1<=c.aF/\c.aF<=6)/\(1<=c.aT/\c.aT<=8)/\(1<=c.aP/\c.aP<=4)/\(1<=c.sets/\c.sets<=4)/\(1<=c.ways/\c.ways<=3)/\(1<=c.out/\c.out<=8)/\(1<=c.inn/\c.inn<=8):=by
 unfold Cfg.ok at h;simp only[Bool.and_eq_true,zab]at h;omega
def wY.get {c:Cfg}{f:Fab}(F:wY c f){i:Int}(h:f.is i=Z0):KZ c (f.port i):=by
 unfold Fab.is at h;simp only[Bool.and_eq_true,zab]at h;have hi:i.toNat<f.l.length:=V
 unfold Fab.port;rw[List.getD_eq_getElem?_getD,List.getElem?_eq_getElem hi,Option.getD_some];exact F.port _ (List.getElem_mem hi)
def wY.put {c:Cfg}{f:Fab}(F:wY c f)(i:Int){p:Port}(h:KZ c p):wY c (f.put i p):=by
 refine⟨F.out,F.inn,by simp only[Fab.put,List.length_set];exact F.len,λq b=>?_⟩;simp only[Fab.put]at b;rcases List.mem_or_eq_of_mem_set b with b|b
 ·exact F.port q b
 ·rw[b];exact h
def wY.send {c:Cfg}{f:Fab}(F:wY c f){p:Pkt}(e:p.ok=Z0->yK c p):wY c (f.send p).1:=by
 unfold Fab.send;split
 ·exact F
 ·rename_i h;simp only[Bool.or_eq_true,Bool.not_eq_true',not_or,Bool.not_eq_false]at h;have⟨⟨g,i⟩,j⟩:=h;have P:=F.get i;have Q:=e g;split
  ·exact F
  ·rename_i d;refine F.put _ ?_;rw[F.out]at d;cases hk:wB p.aW with
   |true=>
    rw[hk]at d;simp only[Port.sort,zad]at d;refine⟨?_,P.an,P.rin,P.ain,λq b=>?_⟩
    ·simp only[Port.lS,Port.sort,zad,List.length_append,List.length_cons,List.length_nil];omega
    ·simp only[Port.lS,Port.sort,zad,List.mem_append,List.mem_singleton]at b;rcases b with(b|b)|b
     ·exact P.pkt q (.inl b)
     ·rw[b];exact Q
     ·exact P.pkt q (.inr b)
   |false=>
    rw[hk]at d;simp only[Port.sort,Bool.false_eq_true,zaf]at d;refine⟨P.rq,?_,P.rin,P.ain,λq b=>?_⟩
    ·simp only[Port.lS,Port.sort,Bool.false_eq_true,zaf,List.length_append,List.length_cons,List.length_nil];omega
    ·simp only[Port.lS,Port.sort,Bool.false_eq_true,zaf,List.mem_append,List.mem_singleton]at b;rcases b with b|(b|b)|b
     ·exact P.pkt q (.inl b)
     ·exact P.pkt q (.inr (.inl b))
     ·rw[b];exact Q
     ·exact P.pkt q (.inr (.inr b))
def wY.take {c:Cfg}{f:Fab}(F:wY c f)(i:Int)(req:Bool):wY c (f.take i req).1/\∀p,(f.take i req).2=ZC p->yK c p:=by
 unfold Fab.take;split
 ·rename_i h;have P:=F.get h;cases d:(f.port i).uG req with
  |nil=>exact⟨F,λp e=>by cases e⟩
  |cons p l=>
   simp only;cases req with
   |true=>
    simp only[Port.uG,zad]at d;have g:=P.rin;rw[d]at g;simp only[List.length_cons]at g;refine⟨F.put _ ⟨P.rq,P.an,?_,P.ain,λq b=>?_⟩,λj e=>?_⟩
    ·simp only[Port.lG,zad];omega
    ·simp only[Port.lG,zad]at b;rcases b with b|b|b|b
     ·exact P.pkt q (.inl b)
     ·exact P.pkt q (.inr (.inl b))
     ·exact P.pkt q (.inr (.inr (.inl (by rw[d];simp[b]))))
     ·exact P.pkt q (.inr (.inr (.inr b)))
    ·cases e;exact P.pkt _ (.inr (.inr (.inl (by rw[d];simp))))
   |false=>
    simp only[Port.uG,Bool.false_eq_true,zaf]at d;have g:=P.ain;rw[d]at g;simp only[List.length_cons]at g;refine⟨F.put _ ⟨P.rq,P.an,P.rin,?_,λq b=>?_⟩,λj e=>?_⟩
    ·simp only[Port.lG,Bool.false_eq_true,zaf];omega
    ·simp only[Port.lG,Bool.false_eq_true,zaf]at b;rcases b with b|b|b|b
     ·exact P.pkt q (.inl b)
     ·exact P.pkt q (.inr (.inl b))
     ·exact P.pkt q (.inr (.inr (.inl b)))
     ·exact P.pkt q (.inr (.inr (.inr (by rw[d];simp[b]))))
    ·cases e;exact P.pkt _ (.inr (.inr (.inr (by rw[d];simp))))
 ·exact⟨F,λp e=>by cases e⟩
def AP {α:Type}{l:Q α}{i:Nat}{a:α}(h:a∈l.eraseIdx i):a∈l:=(List.eraseIdx_sublist l i).subset h
def KZ.drop {c:Cfg}{p:Port}(P:KZ c p)(req:Bool)(k:Nat):KZ c (p.drop req k):=by
 have d:∀(l:Q Pkt),((l.eraseIdx k).length:Int)<=l.length:=λl=>by
  have:=(List.eraseIdx_sublist l k).length_le;omega
 cases req with
 |true=>
  refine⟨?_,P.an,P.rin,P.ain,λq b=>?_⟩
  ·have:=d p.rq;have:=P.rq;simp only[Port.drop,Port.lS,Port.sort,zad];omega
  ·simp only[Port.drop,Port.lS,Port.sort,zad]at b;rcases b with b|b
   ·exact P.pkt q (.inl (AP b))
   ·exact P.pkt q (.inr b)
 |false=>
  refine⟨P.rq,?_,P.rin,P.ain,λq b=>?_⟩
  ·have:=d p.an;have:=P.an;simp only[Port.drop,Port.lS,Port.sort,Bool.false_eq_true,zaf];omega
  ·simp only[Port.drop,Port.lS,Port.sort,Bool.false_eq_true,zaf]at b;rcases b with b|b|b
   ·exact P.pkt q (.inl b)
   ·exact P.pkt q (.inr (.inl (AP b)))
   ·exact P.pkt q (.inr (.inr b))
def QJ:∀(l:Q Port) (i k:Nat) {j:Nat} {req:Bool} {k':Nat},Au l i k=ZC (j,req,k')->i<=j/\j<i+l.length
 |[],i,k,j,req,k',h=>by cases h
 |p::l,i,k,j,req,k',h=>by
  simp only[Au]at h;split at h
  ·cases h;simp
  ·split at h
   ·cases h;simp
   ·have:=QJ l (i+1) _ h;simp only[List.length_cons];omega
def wY.remove {c:Cfg}{f:Fab}(F:wY c f)(k:Nat):wY c (f.remove k):=by
 unfold Fab.remove;split
 ·rename_i i req k' h;have hi:=QJ _ _ _ h;refine F.put _ ((F.get ?_).drop _ _);unfold Fab.is;simp only[Bool.and_eq_true,zab];omega
 ·exact F
def wY.pkt {c:Cfg}{f:Fab}(F:wY c f){p:Pkt}(h:p∈f.all):yK c p:=by
 unfold Fab.all at h;have⟨q,d,b⟩:=List.mem_flatMap.1 h;rcases List.mem_append.1 b with b|b
 ·exact(F.port q d).pkt p (.inl b)
 ·exact(F.port q d).pkt p (.inr (.inl b))
def wY.deliver {c:Cfg}{f:Fab}(F:wY c f)(at_ bit mask:Int):wY c (f.deliver at_ bit mask).1:=by
 unfold Fab.deliver;split
 ·exact F
 split
 ·exact F
 ·rename_i p g;have Q:=F.pkt (List.mem_of_getElem? g);split
  ·exact F
  split
  ·exact F
  ·rename_i d;refine wY.remove ?_ _;by_cases h:f.is p.dst=Z0
   ·have P:=F.get h;refine F.put _ ?_;cases hk:wB p.aW with
    |true=>
     rw[hk]at d;simp only[Fab.room,Port.uG,zad,F.inn]at d;refine⟨P.rq,P.an,?_,P.ain,λq b=>?_⟩
     ·simp only[Port.lG,Port.uG,zad,List.length_append,List.length_cons,List.length_nil];omega
     ·simp only[Port.lG,Port.uG,zad,List.mem_append,List.mem_singleton]at b;rcases b with b|b|(b|b)|b
      ·exact P.pkt q (.inl b)
      ·exact P.pkt q (.inr (.inl b))
      ·exact P.pkt q (.inr (.inr (.inl b)))
      ·rw[b];exact Q
      ·exact P.pkt q (.inr (.inr (.inr b)))
    |false=>
     rw[hk]at d;simp only[Fab.room,Port.uG,Bool.false_eq_true,zaf]at d;refine⟨P.rq,P.an,P.rin,?_,λq b=>?_⟩
     ·simp only[Port.lG,Port.uG,Bool.false_eq_true,zaf,List.length_append,List.length_cons,List.length_nil];omega
     ·simp only[Port.lG,Port.uG,Bool.false_eq_true,zaf,List.mem_append,List.mem_singleton]at b;rcases b with b|b|b|(b|b)
      ·exact P.pkt q (.inl b)
      ·exact P.pkt q (.inr (.inl b))
      ·exact P.pkt q (.inr (.inr (.inl b)))
      ·exact P.pkt q (.inr (.inr (.inr b)))
      ·rw[b];exact Q
   ·-- no such bC:nothing is put
    have i:f.l.length<=p.dst.toNat:=by
     have e:=Q.ok;simp only[Pkt.ok,Bool.and_eq_true,zab]at e;simp only[Fab.is,Bool.and_eq_true,zab]at h;omega
    unfold Fab.put;rw[List.set_eq_of_length_le i];exact⟨F.out,F.inn,F.len,F.port⟩
structure asF(c:Cfg)(k:Int)(e:Ent):Prop where
 lo:0<=e.ak
 hi:e.ak<c.aT
 used:e.used<=k
 u0:0<=e.used
 dat:pG c e.data
structure Fb(c:Cfg)(ca:Cache):Prop where
 sets:ca.sets=c.sets
 ways:ca.ways=c.ways
 aT:Lines ca.l
 aeW:YD ca.l
 ent:∀e∈ca.l,asF c ca.dN e
 room:∀ak,((ca.vw ak).length:Int)<=ca.ways
 ake:0<=ca.dN
structure anv(c:Cfg)(n:Node):Prop where
 fD:n.bU.fD=true
 op:∃o,n.bU.cur=some o/\c.bZ o.addr=n.aO.ak/\(n.aO.aW=1->o.aW=1)/\(n.aO.aW=2->o.aW=2∨o.aW=3)
 full:n.aJ.full n.aO.ak=false
structure ahG(c:Cfg)(n:Node):Prop where
 lo:0<=n.aO.ak
 hi:n.aO.ak<c.aT
 aW:1<=n.aO.aW/\n.aO.aW<=3
 dat:n.aO.data=[]∨pG c n.aO.data
 akf:n.aO.aW=2->n.aO.step=3->pG c n.aO.data
 roll:n.aO.aW=3->n.bU.fD=true
 work:n.aO.aW≠3->n.aO.step≠6->anv c n
 rest:n.aO.aW≠3->n.aO.step=6->n.bU.fD=false
structure ahH(c:Cfg)(p:Proc):Prop where
 most:p.ops.length<=24
 right:∀o∈p.ops,c.right o=true/\I64 o.value
 vals:p.bI.length<=p.ops.length
 fD:p.fD=true->p.bI.length<p.ops.length
structure YE(c:Cfg)(me:Int)(n:Node):Prop where
 bU:ahH c n.bU
 aJ:Fb c n.aJ
 dS:∀e∈n.home.dS,pG c e.2.data
 home:akd c me n.home
 aO:n.aO.step≠0->ahG c n
 clk:n.aJ.dN<=n.bU.bI.length
def aaT {l:Q Ent}{f:Ent->Ent}(h:YD l)(d:∀x∈l,(f x).used=x.used):YD (l.map f):=by
 unfold YD;rw[List.pairwise_map];exact h.imp_of_mem λha hb b=>by rw[d _ ha,d _ hb];exact b
def AQ {l:Q Ent}{f:Ent->Ent}(h:Lines l)(d:∀x∈l,(f x).ak=x.ak):Lines (l.map f):=by
 unfold Lines;rw[List.pairwise_map];exact h.imp_of_mem λha hb b=>by rw[d _ ha,d _ hb];exact b
def AU(ca:Cache)(ak:Int){q:Ent->Bool}:(({ ca with l:=ca.l.filter q }:Cache).vw ak).length<=(ca.vw ak).length:=by
 unfold Cache.vw;rw[List.filter_filter];have:(ca.l.filter λe=>(u (0<=ak) && u (e.ak.tmod ca.sets=ak.tmod ca.sets)) && q e)=((ca.l.filter λe=>u (0<=ak) && u (e.ak.tmod ca.sets=ak.tmod ca.sets))).filter q:=by
  rw[List.filter_filter]
  apply List.filter_congr
  intro x _;rw[Bool.and_comm]
 rw[this];exact List.length_filter_le _ _
def IE(ca:Cache)(ak k:Int){f:Ent->Ent}(b:∀x∈ca.l,(f x).ak=x.ak):(({ ca with l:=ca.l.map f,dN:=k }:Cache).vw ak).length=(ca.vw ak).length:=by
 unfold Cache.vw;rw[List.filter_map,List.length_map]
 congr 1
 apply List.filter_congr
 intro y d;simp only[Function.comp,b y d]
def Fb.put {c:Cfg}{ca:Cache}(I:Fb c ca){e:Ent}(h0:0<=e.ak)(k:e.ak<c.aT)(hd:pG c e.data):Fb c (ca.put e).1:=by
 cases i:ca.find e.ak with
 |some x=>
  have⟨m,n⟩:=(ji I.aT).1 i;rw[nD I.aT h0 i];refine⟨I.sets,I.ways,AQ I.aT λy _=>?_,aaT I.aeW λy g=>?_,λy g=>?_,λak=>?_,I.ake⟩
  ·split
   ·rename_i h;exact h.symm
   ·rfl
  ·split
   ·rename_i h;rw[I.aT.inj g m (by rw[h,n])]
   ·rfl
  ·obtain⟨z,q,rfl⟩:=List.mem_map.1 g;split
   ·exact⟨h0,k,(I.ent x m).used,(I.ent x m).u0,hd⟩
   ·exact I.ent z q
  ·have:=IE ca ak ca.dN (f:=λy=>if y.ak=e.ak then { e with used:=x.used } else y) (λy _=>by
    split
    ·rename_i h;exact h.symm
    ·rfl)
   have o:=I.room ak;rw[<-this]at o;exact o
 |none=>
  unfold Cache.put;rw[F V,IB.2 i];simp only;split
  ·exact I
  ·rename_i d;have u:=AB.1 (show(ca.l.find? λx=>YM (x.ak=e.ak))=Z1 from i);refine⟨I.sets,I.ways,?_,?_,λy g=>?_,λak=>?_,by have:=I.ake;simp only;omega⟩
   ·unfold Lines;rw[List.pairwise_append];exact⟨I.aT,O,λa ha b hb=>by rw[List.mem_singleton.1 hb];exact u a ha⟩
   ·unfold YD;rw[List.pairwise_append];refine⟨I.aeW,O,λa ha b hb=>?_⟩;rw[List.mem_singleton.1 hb];have:=(I.ent a ha).used;simp only;omega
   ·rcases List.mem_append.1 g with g|g
    ·have:=I.ent y g;exact⟨this.lo,this.hi,by have:=this.used;simp only;omega,this.u0,this.dat⟩
    ·rw[List.mem_singleton.1 g];exact⟨h0,k,by simp only;omega,by have:=I.ake;simp only;omega,hd⟩
   ·simp only[Cache.full,i,Option.isNone_none,Bool.true_and,zab]at d;have p:=I.room ak;unfold Cache.vw at d p ⊢;simp only[List.filter_append,List.length_append];by_cases j:(YM (0<=ak) && YM (e.ak.tmod ca.sets=ak.tmod ca.sets))=Z0
    ·simp only[Bool.and_eq_true,zab]at j;have:(ca.l.filter λx=>YM (0<=ak) && YM (x.ak.tmod ca.sets=ak.tmod ca.sets))=ca.l.filter λx=>YM (0<=e.ak) && YM (x.ak.tmod ca.sets=e.ak.tmod ca.sets):=by
      apply List.filter_congr
      intro x _;rw[j.2];simp[j.1,h0]
     rw[this];have k:(([({ e with used:=ca.dN+1 }:Ent)].filter λx=>YM (0<=ak) && YM (x.ak.tmod ca.sets=ak.tmod ca.sets)).length)<=1:=List.length_filter_le _ _;omega
    ·have:([({ e with used:=ca.dN+1 }:Ent)].filter λx=>YM (0<=ak) && YM (x.ak.tmod ca.sets=ak.tmod ca.sets))=[]:=by
      simp only[List.filter_cons,List.filter_nil];rw[F j]
     rw[this];simp only[List.length_nil,Nat.add_zero];exact p
def Fb.drop {c:Cfg}{ca:Cache}(I:Fb c ca)(b:Int):Fb c (ca.drop b):=by
 rw[Uw I.aT];refine⟨I.sets,I.ways,I.aT.filter _,I.aeW.filter _,λe d=>I.ent e (List.mem_filter.1 d).1,λak=>?_,I.ake⟩;have:=I.room ak;have g:(({ ca with l:=ca.l.filter λx=>u (x.ak≠b) }:Cache).vw ak).length<=(ca.vw ak).length:=AU _ _;simp only at g ⊢;omega
def Fb.touch {c:Cfg}{ca:Cache}(I:Fb c ca){ak:Int}{e:Ent}(h:ca.find ak=ZC e):Fb c (ca.touch ak):=by
 have⟨k,j⟩:=(ji I.aT).1 h;rw[Fa I.aT h];refine⟨I.sets,I.ways,AQ I.aT λy _=>?_,?_,λy m=>?_,λd=>?_,by have:=I.ake;simp only;omega⟩
 ·split
  ·rename_i h;rw[h];exact j
  ·rfl
 ·unfold YD;rw[List.pairwise_map];refine(I.aT.and I.aeW).imp_of_mem λ{a b} ha hb g=>?_;have p:=(I.ent a ha).used;have q:=(I.ent b hb).used;split <;> split
  ·rename_i n i;exact absurd (by rw[n,i]) g.1
  ·simp only;omega
  ·simp only;omega
  ·exact g.2
 ·obtain⟨z,o,rfl⟩:=List.mem_map.1 m;split
  ·have:=I.ent e k;exact⟨this.lo,this.hi,by simp only;omega,by have:=I.ake;simp only;omega,this.dat⟩
  ·have:=I.ent z o;exact⟨this.lo,this.hi,by have:=this.used;simp only;omega,this.u0,this.dat⟩
 ·have:=IE ca d (ca.dN+1) (f:=λx=>if x.ak=ak then { e with used:=ca.dN+1 } else x) (λy _=>by
   split
   ·rename_i h;rw[h];exact j
   ·rfl)
  have i:=I.room d;rw[<-this]at i;exact i
def aeX {ca:Cache}(d:Lines ca.l){e x:Ent}(h0:0<=e.ak)(g:ca.find e.ak=some x)(ak:Int):(ca.put e).1.full ak=ca.full ak:=by
 obtain⟨n,k⟩:=(ji d).1 g;rw[nD d h0 g];have hm:∀y∈ca.l,(if y.ak=e.ak then { e with used:=x.used } else y).ak=y.ak:=λy _=>by
  split
  ·rename_i h;exact h.symm
  ·rfl
 have i:({ ca with l:=ca.l.map λy=>if y.ak=e.ak then { e with used:=x.used } else y }:Cache).find ak=none↔ca.find ak=none:=by
  unfold Cache.find;rw[AB,AB];constructor
  ·intro h y b;have:=h _ (List.mem_map.2 ⟨y,b,rfl⟩)
   rwa [hm y b]at this
  ·intro h y b;obtain⟨z,j,rfl⟩:=List.mem_map.1 b;rw[hm z j];exact h z j
 have m:(({ ca with l:=ca.l.map λy=>if y.ak=e.ak then { e with used:=x.used } else y }:Cache).vw ak).length=(ca.vw ak).length:=by
  unfold Cache.vw;rw[List.filter_map,List.length_map]
  congr 1
  apply List.filter_congr
  intro y b;simp only[Function.comp,hm y b]
 unfold Cache.full;rw[m]
 congr 1
 cases ha:ca.find ak with
 |none=>rw[i.2 ha]
 |some u=>
  cases hb:({ ca with l:=ca.l.map λy=>if y.ak=e.ak then { e with used:=x.used } else y }:Cache).find ak with
  |none=>rw[i.1 hb]at ha;cases ha
  |some v=>rfl
def AX {α:Type}{p q:α->Bool}:∀{l:Q α},(∀x∈l,q x=Z0->p x=Z0)->∀{a:α},a∈l->p a=Z0->q a=ZV->(l.filter q).length<(l.filter p).length
 |[],_,a,h,_,_=>by cases h
 |x::l,b,a,h,k,m=>by
  have g:∀{l:Q α},(∀x∈l,q x=Z0->p x=Z0)->(l.filter q).length<=(l.filter p).length:=by
   intro l b
   induction l with
   |nil=>simp
   |cons y l i=>
    have:=i λz d=>b z (by simp[d]);simp only[List.filter_cons];cases j:q y
    ·simp only[Bool.false_eq_true,zaf];split
     ·simp only[List.length_cons];omega
     ·exact this
    ·rw[b y O j];simp only[zad,List.length_cons];omega
  simp only[List.filter_cons];rcases List.mem_cons.1 h with e|h
  ·subst e;rw[k,m];simp only[zad,Bool.false_eq_true,zaf,List.length_cons];have:=g λz d=>b z (List.mem_cons_of_mem _ d);omega
  ·have i:=AX (λz d=>b z (List.mem_cons_of_mem _ d)) h k m;cases j:q x
   ·simp only[Bool.false_eq_true,zaf];split
    ·simp only[List.length_cons];omega
    ·exact i
   ·rw[b x O j];simp only[zad,List.length_cons];omega
def aaU {c:Cfg}(hc:c.ok=Z0){ca:Cache}(I:Fb c ca){b ak:Int}(h:ca.full ak=ZV):(ca.drop b).full ak=false:=by
 rw[Uw I.aT];unfold Cache.full at h ⊢;have k:(({ ca with l:=ca.l.filter λx=>u (x.ak≠b) }:Cache).vw ak).length<=(ca.vw ak).length:=AU _ _;cases j:ca.find ak with
 |none=>
  rw[j]at h;simp only[Option.isNone_none,Bool.true_and,zas]at h;simp only[Bool.and_eq_false_iff,zas];right;omega
 |some e=>
  have⟨d,g⟩:=(ji I.aT).1 j;by_cases i:ak=b
  ·subst i;simp only[Bool.and_eq_false_iff,zas];right;have n:=I.room ak;have o:=(I.ent e d).lo;have m:(({ ca with l:=ca.l.filter λx=>u (x.ak≠ak) }:Cache).vw ak).length<(ca.vw ak).length:=by
    unfold Cache.vw;rw[List.filter_filter];refine AX (λx _ h=>?_) d ?_ ?_
    ·simp only[Bool.and_eq_true]at h ⊢;exact h.1
    ·rw[g];simp;omega
    ·simp[g]
   omega
  ·have:({ ca with l:=ca.l.filter λx=>u (x.ak≠b) }:Cache).find ak=ZC e:=by
    unfold Cache.find;rw[ji (I.aT.filter _)];refine⟨List.mem_filter.2 ⟨d,?_⟩,g⟩;simp only[zab];omega
   rw[this];rfl
abbrev By:=BitVec 8
abbrev S16:=BitVec 16
def shS(s:S16):S16:=(s <<< 1) ^^^ (if s.msb then 0x1021#16 else 0#16)
def shN:Nat->S16->S16
 |0,s=>s
 |n+1,s=>shN n (shS s)
def ZE(s:S16)(c:By):S16:=shN 8 (s ^^^ (c.setWidth 16 <<< 8))
def vC(s:S16)(l:Q By):S16:=l.foldl ZE s
def ZF(s:S16):By:=(s >>> 8).setWidth 8
def ZG(s:S16):By:=s.setWidth 8
def jS(l:Q By):Q By:=l++[ZF (vC 0xffff#16 l),ZG (vC 0xffff#16 l)]
def aeY:shS 0#16=0#16:=J
def aaV(s t:S16):shS (s ^^^ t)=shS s ^^^ shS t:=by
 unfold shS;rw[BitVec.msb_xor,BitVec.shiftLeft_xor_distrib];cases s.msb <;> cases t.msb <;> simp
 ·rw[zat]
 ·rw[zat,zat,BitVec.xor_comm (t <<< 1)]
 ·rw[zat,<-zat 4129#16,BitVec.xor_comm 4129#16,zat,zaA,zaI]
def aeZ {s:S16}(h:shS s=0#16):s=0#16:=by
 unfold shS at h;cases hm:s.msb with
 |true=>
  rw[hm]at h;have:=zaj (λv:S16=>v.getLsbD 0) h;simp at this
 |false=>
  rw[hm]at h;simp only[Bool.false_eq_true,zaf,zaI]at h
  apply zaw
  intro i hi;by_cases b:i=15
  ·subst b;have:s.getLsbD 15=s.msb:=by simp[BitVec.msb_eq_getLsbD_last]
   rw[this,hm];simp
  ·have:=zaj (λv:S16=>v.getLsbD (i+1)) h;simp only[zav,BitVec.getLsbD_zero]at this;have d:i+1<16:=V
   simp[d]at this
   simpa using this
def NQ:∀n,shN n 0#16=0#16
 |0=>rfl
 |n+1=>by rw[shN,aeY,NQ n]
def aaW:∀n (s t:S16),shN n (s ^^^ t)=shN n s ^^^ shN n t
 |0,_,_=>rfl
 |n+1,s,t=>by rw[shN,aaV,aaW n];rfl
def NS:∀n {s:S16},shN n s=0#16->s=0#16
 |0,_,h=>h
 |n+1,s,h=>aeZ (NS n h)
def amf(b:Bool):S16:=if b then 0x8000#16 else 0#16
def Ef(s:S16)(b:Bool):S16:=shS (s ^^^ amf b)
def Ux:Q Bool->S16
 |[]=>0#16
 |b::l=>amf b ^^^ (Ux l >>> 1)
def akg:∀i:Fin 16,(0x8000#16).getLsbD i.val=u (i.val=15):=J
def ae0(b:Bool){i:Nat}(h:i<16):(amf b).getLsbD i=(b && u (i=15)):=by
 unfold amf;cases b
 ·simp
 ·simp only[zad,Bool.true_and];exact akg ⟨i,h⟩
def AY:∀(l:Q Bool) (i:Nat),l.length<=16->i<16->(Ux l).getLsbD i=(l[15-i]?).getD ZV
 |[],i,_,_=>by simp[Ux]
 |b::l,i,h,hi=>by
  simp only[List.length_cons]at h;rw[Ux,BitVec.getLsbD_xor,zaF,ae0 b hi];by_cases d:i=15
  ·subst d;have:(Ux l).getLsbD (1+15)=false:=BitVec.getLsbD_of_ge _ _ V;rw[this];simp
  ·rw[AY l (1+i) V V];have e:15-i=(15-(1+i))+1:=V
   rw[e,List.getElem?_cons_succ];simp[d]
def x8:∀(l:List Bool) (s:S16),l.length<=16->l.foldl Ef s=shN l.length (s ^^^ Ux l)
 |[],s,_=>by simp[Ux,shN]
 |b::l,s,h=>by
  simp only[List.length_cons]at h;rw[List.foldl_cons,x8 l _ V];show shN l.length (Ef s b ^^^ Ux l)=shN l.length (shS (s ^^^ Ux (b::l)))
  congr 1
  rw[Ux,<-BitVec.xor_assoc,aaV];unfold Ef
  congr 1
  unfold shS;have hm:(Ux l >>> 1).msb=false:=by simp[BitVec.msb_ushiftRight]
  rw[hm];simp only[Bool.false_eq_true,if_false,BitVec.xor_zero];have d:(Ux l).getLsbD 0=false:=by
   rw[AY l 0 V V,List.getElem?_eq_none V];rfl
  apply BitVec.eq_of_getLsbD_eq
  intro i hi;rw[BitVec.getLsbD_shiftLeft,BitVec.getLsbD_ushiftRight];cases i with
  |zero=>rw[d];simp
  |succ i=>
   have e:1+(i+1-1)=i+1:=V
   have g:¬(i+1<1):=V
   rw[e];simp[hi,g]
def aaX {l:Q Bool}(h:l.length<=16)(h0:Ux l=0#16):∀b∈l,b=false:=by
 intro b hb;obtain⟨k,hk,rfl⟩:=List.mem_iff_getElem.1 hb;have:=AY l (15-k) h V;rw[h0,show 15-(15-k)=k by omega,List.getElem?_eq_getElem hk]at this
 simpa using this.symm
def wZ(c:By):Q Bool:=[c.getLsbD 7,c.getLsbD 6,c.getLsbD 5,c.getLsbD 4,c.getLsbD 3,c.getLsbD 2,c.getLsbD 1,c.getLsbD 0]
def yL(l:Q By):Q Bool:=l.flatMap wZ
def aaY(c:By):Ux (wZ c)=c.setWidth 16 <<< 8:=by
 apply zaw
 intro i hi;rw[AY _ _ (by simp[wZ]) hi,zav,BitVec.getLsbD_setWidth];rcases(show i=0∨i=1∨i=2∨i=3∨i=4∨i=5∨i=6∨i=7∨i=8∨i=9∨i=10∨i=11∨i=12∨i=13∨i=14∨i=15 by omega)with h|h|h|h|h|h|h|h|h|h|h|h|h|h|h|h <;> subst h <;> simp[wZ]
def aaZ(s:S16)(c:By):ZE s c=(wZ c).foldl Ef s:=by
 rw[x8 _ _ (by simp[wZ]),aaY];rfl
def Df:∀(l:Q By) (s:S16),vC s l=(yL l).foldl Ef s
 |[],s=>rfl
 |c::l,s=>by
  show vC (ZE s c) l=_;rw[Df l,aaZ];show _=(wZ c++yL l).foldl Ef s;rw[List.foldl_append]
def rU(l:Q By):(yL l).length=8*l.length:=by
 unfold yL
 induction l with
 |nil=>rfl
 |cons c l b=>rw[List.flatMap_cons,List.length_append,b];simp[wZ];omega
def QK(l:Q By):vC 0xffff#16 (jS l)=0#16:=by
 unfold jS;have⟨s,b⟩:∃s,s=vC 0xffff#16 l:=⟨_,W⟩
 rw[<-b];unfold vC at b ⊢;rw[List.foldl_append,<-b];show vC s [ZF s,ZG s]=0#16;rw[Df,x8 _ _ (by rw[rU];simp)];have:Ux (yL [ZF s,ZG s])=s:=by
  apply zaw
  intro i hi;rw[AY _ _ (by rw[rU];simp) hi];have e:yL [ZF s,ZG s]=[s.getLsbD 15,s.getLsbD 14,s.getLsbD 13,s.getLsbD 12,s.getLsbD 11,s.getLsbD 10,s.getLsbD 9,s.getLsbD 8,s.getLsbD 7,s.getLsbD 6,s.getLsbD 5,s.getLsbD 4,s.getLsbD 3,s.getLsbD 2,s.getLsbD 1,s.getLsbD 0]:=by
   simp[yL,wZ,ZF,ZG,List.flatMap_cons]
  rw[e];rcases(show i=0∨i=1∨i=2∨i=3∨i=4∨i=5∨i=6∨i=7∨i=8∨i=9∨i=10∨i=11∨i=12∨i=13∨i=14∨i=15 by omega)with h|h|h|h|h|h|h|h|h|h|h|h|h|h|h|h <;> subst h <;> rfl
 rw[this,zaA,NQ]
def YF(l m:Q By):Q By:=List.zipWith (· ^^^ ·) l m
def ae1(s t:S16)(c d:By):ZE (s ^^^ t) (c ^^^ d)=ZE s c ^^^ ZE t d:=by
 unfold ZE;rw[<-aaW]
 congr 1
 rw[BitVec.setWidth_xor,BitVec.shiftLeft_xor_distrib,BitVec.xor_assoc,BitVec.xor_assoc]
 congr 1
 rw[<-BitVec.xor_assoc,<-BitVec.xor_assoc,BitVec.xor_comm t]
def QL:∀(l m:Q By) (s t:S16),l.length=m.length->vC (s ^^^ t) (YF l m)=vC s l ^^^ vC t m
 |[],[],s,t,_=>rfl
 |c::l,d::m,s,t,h=>by
  show vC (ZE (s ^^^ t) (c ^^^ d)) (YF l m)=vC (ZE s c) l ^^^ vC (ZE t d) m;rw[ae1,QL l m _ _ (by simpa using h)]
 |[],_::_,_,_,h=>by simp at h
 |_::_,[],_,_,h=>by simp at h
def Dh:∀(l:Q Bool) (s:S16),(∀b∈l,b=ZV)->l.foldl Ef s=shN l.length s
 |[],s,_=>rfl
 |b::l,s,h=>by
  have hb:=h b O;subst hb;rw[List.foldl_cons,Dh l _ λb hb=>h b (by simp[hb])];show shN l.length (shS (s ^^^ amf ZV))=shN l.length (shS s);simp[amf]
def YG {B:Q Bool}{a:Int}(h:∀(k:Nat),B[k]?=ZC Z0->a<=k/\(k:Int)<a+16)(h0:B.foldl Ef 0#16=0#16):∀b∈B,b=false:=by
 have⟨p,n⟩:∃p,p=a.toNat:=⟨_,W⟩
 have g:B=B.take p++((B.drop p).take 16++(B.drop p).drop 16):=by rw[List.take_append_drop,List.take_append_drop]
 have i:∀b∈B.take p,b=false:=by
  intro b hb;obtain⟨k,hk,rfl⟩:=List.mem_iff_getElem.1 hb;cases d:(B.take p)[k]with
  |false=>rfl
  |true=>
   have e:k<p:=by rw[List.length_take]at hk;omega
   have:B[k]?=ZC true:=by
    rw[<-d,<-List.getElem?_eq_getElem hk,List.getElem?_take,y e]
   have:=h k this;omega
 have j:∀b∈(B.drop p).drop 16,b=false:=by
  intro b hb;obtain⟨k,hk,rfl⟩:=List.mem_iff_getElem.1 hb;cases d:((B.drop p).drop 16)[k]with
  |false=>rfl
  |true=>
   have:B[p+(16+k)]?=ZC true:=by
    rw[<-d,<-List.getElem?_eq_getElem hk,List.getElem?_drop,List.getElem?_drop]
   have:=h _ this;omega
 rw[g,List.foldl_append,List.foldl_append,Dh _ _ i,NQ,Dh _ _ j,x8 _ _ (by rw[List.length_take];omega),BitVec.zero_xor]at h0;have m:=aaX (by rw[List.length_take];omega) (NS _ (NS _ h0));intro b hb;rw[g]at hb;rcases List.mem_append.1 hb with hb|hb
 ·exact i b hb
 ·rcases List.mem_append.1 hb with hb|hb
  ·exact m b hb
  ·exact j b hb
def ae2 {c d:By}(h:∀b∈wZ (c ^^^ d),b=ZV):c=d:=by
 apply zaw
 intro i hi;have key:(c ^^^ d).getLsbD i=false:=by
  apply h
  rcases(show i=0∨i=1∨i=2∨i=3∨i=4∨i=5∨i=6∨i=7 by omega)with h|h|h|h|h|h|h|h <;> subst h <;> simp[wZ]
 rw[BitVec.getLsbD_xor]at key;cases e:c.getLsbD i <;> cases g:d.getLsbD i <;> simp[e,g]at key ⊢
def IG:∀{l m:Q By},l.length=m.length->(∀b∈yL (YF l m),b=ZV)->l=m
 |[],[],_,_=>rfl
 |c::l,d::m,h,hb=>by
  have e:yL (YF (c::l) (d::m))=wZ (c ^^^ d)++yL (YF l m):=rfl;rw[e]at hb;rw[ae2 λb h=>hb b (List.mem_append_left _ h),IG (by simpa using h) λb h=>hb b (List.mem_append_right _ h)]
 |[],_::_,h,_=>by simp at h
 |_::_,[],h,_=>by simp at h
def Uy {x y:Q By}{a:Int}(b:(jS x).length=(jS y).length)(h:∀(k:Nat),(yL (YF (jS x) (jS y)))[k]?=ZC Z0->a<=k/\(k:Int)<a+16):jS x=jS y:=by
 refine IG b (YG h ?_);rw[<-Df];have:=QL (jS x) (jS y) 0xffff#16 0xffff#16 b;rw[zaA,QK,QK,zaA]at this;exact this
def ahI(bit mask:Int)(k:Nat):Bool:=u (0<=(k:Int)-bit) && u ((k:Int)-bit<16) && mask.toNat.testBit (15-((k:Int)-bit).toNat)
def vF(bit mask:Int)(at_:Nat):By:=
 if 8*(at_:Int)-bit<=-8∨16<=8*(at_:Int)-bit then 0#8 else(((BitVec.ofNat 32 mask.toNat) <<< 8 <<< (8*(at_:Int)-bit+8).toNat) >>> 24).setWidth 8
def qL(bit mask:Int)(l:Q By):Q By:=l.mapIdx λi c=>c ^^^ vF bit mask i
def Uz {m k:Nat}(hm:m<=65535)(hk:16<=k):m.testBit k=false:=by
 apply Nat.testBit_lt_two_pow
 calc m<2 ^ 16:=V
  _<=2 ^ k:=Nat.pow_le_pow_right J hk
def aa0 {bit mask:Int}(h0:0<=mask)(v:mask<=65535)(at_ j:Nat)(g:j<8):(vF bit mask at_).getLsbD j=ahI bit mask (8*at_+(7-j)):=by
 unfold vF ahI;have⟨y,i⟩:∃y:Int,y=8*(at_:Int)-bit:=⟨_,W⟩
 have hk:((8*at_+(7-j):Nat):Int)-bit=y+(7-(j:Int)):=V
 rw[<-i,hk];by_cases h:y<=-8∨16<=y
 ·rw[YY h];simp only[BitVec.getLsbD_zero];rcases h with h|h
  ·have:¬(0<=y+(7-(j:Int))):=V
   simp[this]
  ·have:¬(y+(7-(j:Int))<16):=V
   simp[this]
 ·rw[F h];simp only[not_or]at h;have⟨n,k⟩:∃n:Nat,n=(y+8).toNat:=⟨_,W⟩
  rw[<-k,BitVec.getLsbD_setWidth,zaF,zav,zav,BitVec.getLsbD_ofNat];have m:24+j<32:=V
  have o:¬(24+j<n):=V
  have p:24+j-n<32:=V
  by_cases b:24+j-n<8
  ·have:¬(y+(7-(j:Int))<16):=V
   simp[b,this]
  ·have q:24+j-n-8<32:=V
   have u:y+(7-(j:Int))<16:=V
   by_cases d:0<=y+(7-(j:Int))
   ·have e:24+j-n-8=15-(y+(7-(j:Int))).toNat:=V
    simp only[g,m,o,p,q,b,d,u,zax,decide_false,Bool.not_false,Bool.true_and,Bool.and_self];rw[e]
   ·have:mask.toNat.testBit (24+j-n-8)=false:=Uz V V;simp[this,d]
def jl(bit mask:Int)(l:Q By):(qL bit mask l).length=l.length:=by simp[qL]
def aa1(c:By)(j:Nat)(b:j<8):(wZ c)[j]?=ZC (c.getLsbD (7-j)):=by
 rcases(show j=0∨j=1∨j=2∨j=3∨j=4∨j=5∨j=6∨j=7 by omega)with h|h|h|h|h|h|h|h <;> subst h <;> rfl
def II:∀(l:Q By) (k:Nat),(yL l)[k]?=(l[k / 8]?).map λc=>c.getLsbD (7-k % 8)
 |[],k=>by simp[yL]
 |c::l,k=>by
  have b:yL (c::l)=wZ c++yL l:=rfl;rw[b];by_cases h:k<8
  ·rw[List.getElem?_append_left (by simp[wZ];exact h),aa1 c k h,show k / 8=0 by omega,show k % 8=k by omega];rfl
  ·rw[List.getElem?_append_right (by simp[wZ];omega)];have:(wZ c).length=8:=rfl;rw[this,II l (k-8),show k / 8=(k-8) / 8+1 by omega,show k % 8=(k-8) % 8 by omega];rfl
def Di {bit mask:Int}(h0:0<=mask)(b:mask<=65535)(l:List By)(k:Nat)(hk:k<8*l.length):(yL (YF l (qL bit mask l)))[k]?=some (ahI bit mask k):=by
 rw[II];have hi:k / 8<l.length:=V
 have:(YF l (qL bit mask l))[k / 8]?=some (vF bit mask (k / 8)):=by
  unfold YF qL;rw[List.getElem?_zipWith,List.getElem?_mapIdx,List.getElem?_eq_getElem hi];simp only[Option.map_some]
  congr 1
  rw[<-BitVec.xor_assoc,BitVec.xor_self,BitVec.zero_xor]
 rw[this,Option.map_some,aa0 h0 b _ _ V]
 congr 2
 omega
def QM {n:Nat}{bit mask:Int}:bn n bit mask=Z0↔∃k:Nat,k<8*n/\ahI bit mask k=true:=by
 unfold bn;rw[List.any_eq_true];constructor
 ·rintro⟨i,hi,h⟩;rw[List.mem_range]at hi;simp only[Bool.and_eq_true,zab]at h;have⟨⟨a,b⟩,c⟩:=h;refine⟨(bit+i).toNat,V,?_⟩;unfold ahI;have e:(((bit+i).toNat:Nat):Int)-bit=i:=V
  rw[e];simp only[Bool.and_eq_true,zab];refine⟨⟨V,V⟩,?_⟩;rw[Int.toNat_natCast,Nat.testBit_eq_decide_div_mod_eq];rw[Nat.shiftRight_eq_div_pow]at a
  simpa using a
 ·rintro⟨k,hk,h⟩;unfold ahI at h;simp only[Bool.and_eq_true,zab]at h;have⟨⟨a,b⟩,c⟩:=h;refine⟨((k:Int)-bit).toNat,List.mem_range.2 V,?_⟩;simp only[Bool.and_eq_true,zab];refine⟨⟨?_,V⟩,V⟩;rw[Nat.testBit_eq_decide_div_mod_eq]at c;rw[Nat.shiftRight_eq_div_pow]
  simpa using c
def YH {bit mask:Int}(h0:0<=mask)(e:mask<=65535){l:Q By}(h:bn l.length bit mask=ZV):qL bit mask l=l:=by
 have g:l.length=(qL bit mask l).length:=(jl _ _ _).symm;refine(IG g λb hb=>?_).symm;obtain⟨k,hk,rfl⟩:=List.mem_iff_getElem.1 hb;have d:k<8*l.length:=by
  rw[rU]at hk;unfold YF at hk;rw[List.length_zipWith]at hk;omega
 have:=Di (bit:=bit) h0 e l k d;rw[List.getElem?_eq_getElem hk,Option.some.injEq]at this;rw[this];cases i:ahI bit mask k with
 |false=>rfl
 |true=>
  have:=QM.2 ⟨k,d,i⟩;rw[h]at this;cases this
def UA {bit mask:Int}(h0:0<=mask)(g:mask<=65535){x y:Q By}(h:bn (jS x).length bit mask=Z0):qL bit mask (jS x)≠jS y:=by
 intro e;have j:(jS x).length=(jS y).length:=by rw[<-e,jl]
 have m:=Uy (a:=bit) j λk hk=>by
  rw[<-e]at hk;have d:k<8*(jS x).length:=by
   have b:=(List.getElem?_eq_some_iff.1 hk).1;rw[rU]at b;unfold YF at b;rw[List.length_zipWith]at b;omega
  rw[Di h0 g _ k d]at hk;simp only[Option.some.injEq]at hk;unfold ahI at hk;simp only[Bool.and_eq_true,zab]at hk;omega
 have⟨k,hk,n⟩:=QM.1 h;have:=Di (bit:=bit) h0 g (jS x) k hk;rw[e,<-m,n,II]at this;have o:∀l:Q By,YF l l=l.map λ_=>0#8:=by
  intro l
  induction l with
  |nil=>rfl
  |cons c l p=>
   show(c ^^^ c)::YF l l=_;rw[p,zaA];rfl
 rw[o,List.getElem?_map]at this;cases i:(jS x)[k / 8]? with
 |none=>rw[i]at this;cases this
 |some c=>rw[i]at this;simp at this
def by8(n:Int):By:=BitVec.ofInt 8 n
def qY(n:Int):Q By:=[by8 (n.fdiv (2 ^ 56)),by8 (n.fdiv (2 ^ 48)),by8 (n.fdiv (2 ^ 40)),by8 (n.fdiv (2 ^ 32)),by8 (n.fdiv (2 ^ 24)),by8 (n.fdiv (2 ^ 16)),by8 (n.fdiv (2 ^ 8)),by8 (n.fdiv (2 ^ 0))]
def fH(p:Pkt):Q By:=[by8 p.aW,by8 p.src,by8 p.dst,by8 (p.id.fdiv 256),by8 p.id,by8 p.ak,by8 (p.ptr+1),by8 p.state,by8 (if p.flag then 1 else 0),by8 p.data.length]++p.data.flatMap qY
def sZ(p:Pkt):Q By:=jS (fH p)
def jM(n:Int):(qY n).length=8:=rfl
def rV(p:Pkt):(sZ p).length=p.bytes:=by
 unfold sZ jS fH Pkt.bytes;rw[List.length_append,List.length_append,dF NU];simp;omega
where
 NU:∀n,(qY n).length=8:=λ_=>rfl
 dF {α β:Type} {f:α->Q β} {m:Nat} (h:∀a,(f a).length=m):∀{l:Q α},(l.flatMap f).length=l.length*m:=by
  intro l
  induction l with
  |nil=>simp
  |cons a l b=>rw[List.flatMap_cons,List.length_append,h,b,List.length_cons,Nat.succ_mul];omega
section
variable {P:Program}{t:TypeId}{k k':IntKind}{a b n:Int}
def aa2(h:0<=n):qj P .shl t (.s (.int k a)) (.s (.int k' n))=ZC (.s (.int k (k.wrap (a*2 ^ (min n.toNat k.bits))))):=by
 have:¬n<0:=V
 simp[qj,AV.val?,eqGuard,binOp,Op.shift,dP,this]
def UC(h:0<=n):qj P .shr t (.s (.int k a)) (.s (.int k' n))=ZC (.s (.int k (a.fdiv (2 ^ (min n.toNat k.bits))))):=by
 have:¬n<0:=V
 simp[qj,AV.val?,eqGuard,binOp,Op.shift,dP,this]
def akh:qj P .xor t (.s (.int k a)) (.s (.int k b))=ZC (.s (.int k (k.wrap (BitVec.ofInt k.bits a ^^^ BitVec.ofInt k.bits b).toNat))):=by
 simp[qj,AV.val?,eqGuard,binOp,Op.intBits,dP]
def ahJ:qj P .or t (.s (.int k a)) (.s (.int k b))=ZC (.s (.int k (k.wrap (BitVec.ofInt k.bits a ||| BitVec.ofInt k.bits b).toNat))):=by
 simp[qj,AV.val?,eqGuard,binOp,Op.intBits,dP]
end
def U(k:IntKind)(v:BitVec k.bits):AV:=.s (.int k (v.toNat:Int))
abbrev Y(c:By):AV:=U .u8 c
abbrev U16(s:S16):AV:=U .u16 s
abbrev U32(s:BitVec 32):AV:=U .u32 s
abbrev U64(s:BitVec 64):AV:=U .u64 s
def ahK {k:IntKind}(hk:k.signed=ZV)(z:Int):k.wrap z=z % (2 ^ k.bits:Int):=by simp[IntKind.wrap,hk]
def AZ {k:IntKind}(hk:k.signed=ZV)(m:Nat):k.wrap (m:Int)=((BitVec.ofNat k.bits m).toNat:Int):=by
 rw[ahK hk,zay]
 norm_cast
def qM {w:Nat}(v:BitVec w):BitVec.ofInt w (v.toNat:Int)=v:=by
 rw[BitVec.ofInt_natCast,BitVec.ofNat_toNat,BitVec.setWidth_eq]
def WB {k:IntKind}(hk:k.signed=ZV)(v:BitVec k.bits):k.wrap (v.toNat:Int)=(v.toNat:Int):=by
 rw[AZ hk,BitVec.ofNat_toNat,BitVec.setWidth_eq]
section
variable {P:Program}{t:TypeId}{k k':IntKind}
def aki(hk:k.signed=ZV)(x y:BitVec k.bits):qj P .xor t (U k x) (U k y)=ZC (U k (x ^^^ y)):=by
 unfold U;rw[akh,qM,qM,WB hk]
def avh(hk:k.signed=ZV)(x y:BitVec k.bits):qj P .or t (U k x) (U k y)=ZC (U k (x ||| y)):=by
 unfold U;rw[ahJ,qM,qM,WB hk]
def aa3(hk:k.signed=ZV)(x:BitVec k.bits)(n:Int)(h0:0<=n)(h:n<=k.bits):qj P .shl t (U k x) (.s (.int k' n))=ZC (U k (x <<< n.toNat)):=by
 unfold U;rw[aa2 h0,show min n.toNat k.bits=n.toNat by omega];have:((x.toNat:Int)*2 ^ n.toNat)=((x.toNat*2 ^ n.toNat:Nat):Int):=by norm_cast
 rw[this,AZ hk,zay,BitVec.toNat_shiftLeft,Nat.shiftLeft_eq]
def akj(x:BitVec k.bits)(n:Int)(h0:0<=n)(h:n<=k.bits):qj P .shr t (U k x) (.s (.int k' n))=ZC (U k (x >>> n.toNat)):=by
 unfold U;rw[UC h0,show min n.toNat k.bits=n.toNat by omega,BitVec.toNat_ushiftRight,Nat.shiftRight_eq_div_pow];have:(2:Int) ^ n.toNat=((2 ^ n.toNat:Nat):Int):=by norm_cast
 rw[this,Int.fdiv_eq_ediv_of_nonneg _ (Int.natCast_nonneg _)]
 norm_cast
def asG(hk:k.signed=ZV)(x y:BitVec k.bits):qj P .mul t (U k x) (U k y)=ZC (U k (x*y)):=by
 unfold U;rw[iP];have:((x.toNat:Int)*y.toNat)=((x.toNat*y.toNat:Nat):Int):=by norm_cast
 rw[this,AZ hk,zay,BitVec.toNat_mul]
def anw(hk:k'.signed=ZV)(x:BitVec k.bits):(AV.s (.int k' (k'.wrap (x.toNat:Int))))=U k' (x.setWidth k'.bits):=by
 unfold U;rw[AZ hk,BitVec.ofNat_toNat]
end
def ae3(l:Q By):(l.map Y).all AV.aU=true:=by
 rw[List.all_eq_true];intro x b;obtain⟨c,_,rfl⟩:=List.mem_map.1 b;rfl
def yOf:AV->M By
 |.s (.int .u8 n)=>if 0<=n/\n<256 then ZC (BitVec.ofInt 8 n)else Z1
 |_=>Z1
def IJ(x:AV)(H:ah):M (Q By):=
 match x with
 |.sl r g off b n _ _=>match H.get r with
  |.blk g' _ cells=>if b=1/\g'=g/\off+n<=cells.length/\0<n/\n<=800 then((cells.drop off).take n).mapM yOf else Z1
  |_=>Z1
 |_=>Z1
structure Pkt.fit(p:Pkt):Prop where
 ok:p.ok=true
 num:∀v∈p.data,I64 v
open Classical in
def Dj(args:Q AV)(H:ah):M (AV × ah):=
 match args with
 |[x]=>match IJ x H with
  |some l=>if h:∃p:Pkt,p.fit/\sZ p=l then ZC (.tup [.agg (Classical.choose h).av,I 0],H)
   else if(∀y,l≠jS y)then ZC (.tup [.agg Pkt.zero.av,I 2],H)else Z1
  |none=>Z1
 |_=>Z1
def akk:Q Nat:=[
 36,
 116,
 132,
 70,
 235,
 159,
 102,
 59,
 60,
 106,
 108,
 109,
 148,
 57,
 42,
 204,
 30,
 51,
 17,
 21,
 68,
 27,
 119,
 33,
 34,
 120,
 76,
 121,
 77,
 173,
 24,
 259,
 266,
 83,
 189,
 82,
 201,
 41,
 151,
 152,
 31,
 124,
 80,
 26,
 55,
 69,
 28,
 236,
 196,
 192,
 200,
 216,
 174,
 92,
 229,
 90,
 193,
 140,
 126,
 203,
 85,
 225,
 226,
 43,
 25,
 9,
 16,
 37,
 38,
 39,
 10,
 11,
 12,
 13,
 47,
 89,
 53,
 100,
 58,
 19,
 18,
 54,
 56,
 103,
 154,
 40,
 81,
 44,
 88,
 99,
 153,
 14,
 0]
def yU:Q Nat:=[
 239,
 0]
def rW:Q Nat:=[
 87,
 0]
def asH:Pol:=⟨λ_=>ZV,λ_=>Z1⟩
def cl0:aA:=callω Tryz.prog asH
def akl:Q (Nat × (Q AV->ah->M (AV × ah))):=[
 (45,sW yU rW),
 (190,cl0 190),
 (129,Dj),
 (128,cl0 128),
 (130,cl0 130),
 (0,λ_ _=>Z1)]
def pol:Pol:=⟨λf=>akk.contains f,λf=>akl.lookup f⟩
def cl:aA:=callω Tryz.prog pol
def WC(f:FuncId)(p:Q AV->ah->M (AV × ah)):Prop:=
 qX Tryz.prog (λg b H=>if g=f then p b H else Z1)/\∀b H v H',p b H=ZC (v,H')->Keeps H H'
def akm(f:FuncId):WC f (cl0 f):=by
 have hc:=callω_ok (P:=Tryz.prog) (L:=asH) (λf p h=>by cases h) Z;refine⟨λg b H v H' h=>?_,λb H v H' h=>hc.2 f b H v H' h⟩;simp only at h;split at h
 ·rename_i e;subst e;exact hc.1 _ b H v H' h
 ·cases h
def iT {f:FuncId}{args:Q AV}{H:ah}{r:AV × ah}(h:zY Tryz.prog cl0 f args H=ZC r):cl0 f args H=ZC r:=agR W W h
def bg {f:FuncId}{args:Q AV}{H:ah}{r:AV × ah}(b:pol.ad8 f=Z1)(d:pol.pure f=ZV)(h:zY Tryz.prog cl f args H=ZC r):cl f args H=ZC r:=agR b d h
def gY {f:FuncId}{args:Q AV}{H H1:ah}{v v':AV}(b:pol.ad8 f=Z1)(d:pol.pure f=Z0)(h:zY Tryz.prog cl f args H.guard=ZC (v,H1))(e:bV H1 H.next 9 v=ZC v'):cl f args H=ZC (v',H):=ajY b d h e
def kN {f:FuncId}{args:Z2 AV}{H:ah}{v:AV}{Q:ah->Prop}{sh:M (AV × ah)}(b:pol.ad8 f=Z1)(d:pol.pure f=ZV)(rn:∀{r},sh=ZC r->zY Tryz.prog cl f args H=ZC r)(h:∃H',sh=ZC (v,H')/\Q H'):∃H',cl f args H=ZC (v,H')/\Q H':=by
 have⟨H',e,q⟩:=h;exact⟨H',bg b d (rn e),q⟩
def bD {f:FuncId}{args:Q AV}{H:ah}{v:AV}{sh:M (AV × ah)}(d:pol.ad8 f=Z1)(e:pol.pure f=Z0)(rn:∀{r},sh=ZC r->zY Tryz.prog cl f args H.guard=ZC r)(h:sh.map Prod.fst=ZC v)(g:Frz 9 v):cl f args H=ZC (v,H):=by
 cases b:sh with
 |none=>rw[b]at h;cases h
 |some r=>
  rw[b]at h;simp only[Option.map_some,Option.some.injEq]at h;subst h;exact gY d e (rn b) (g _ _)
open Go.RowKit
structure Cho where
 do_:Int
 at_:Int
 bit:Int
 mask:Int
def Cho.av(c:Cho):Q AV:=[I c.do_,I c.at_,I c.bit,.s (.int .u16 c.mask)]
def akn(c:Cho):c.av.all AV.aU=true:=by simp[Cho.av,iL]
structure Cho.In(c:Cho):Prop where
 do_:qJ c.do_
 at_:qJ c.at_
 bit:qJ c.bit
 mask0:0<=c.mask
 mask:c.mask<=65535
structure ahL(av:AV)(cs:List Cho):Prop where
 is:aH ah.empty av 4 cs.length (cs.flatMap Cho.av)
 wf:∀c∈cs,c.In
 cell:av.aU=true
def ako(zs:Q Int):Cho:=⟨zs.getD 0 0,zs.getD 1 0,zs.getD 2 0,zs.getD 3 0⟩
abbrev anx:List IntKind:=[.i64,.i64,.i64,.u16]
def ae4 {zs:Q Int}(h:zs.length=4):ints anx zs=(ako zs).av:=by
 match zs,h with
 |[a,b,c,d],_=>rfl
def anz {z:Int}(h:(Lit.int .u16 z).wf=Z0):0<=z/\z<=65535:=by
 simp[Lit.wf,IntKind.min,IntKind.max,IntKind.signed,IntKind.bits]at h;exact⟨V,V⟩
section
variable {P:Program}{H:Type}{enc:TypeId × Value->H}
def QN {t e:XN}(n:P.underlying t=ZC (.slice e))(o:P.cellsOf e=4)(w:aaO P e anx){W:Xs}{r:Reach}{y base:Nat}{A:Nat->Bool}{j:Bool}{v:XS}{d:DataW H}{ps:Q MemPlace}
  (g:Value.okWide P W r y t v) (h:DataW.Trod enc P W base A j t v d ps):∃(x:AV) (cs:Q Cho),RV ρ0 G0 W x v/\ahL x cs:=by
 unfold Value.okWide at g;rw[n]at g;have⟨p,q⟩:=h;have hv:v.cells.toList=[v]:=by
  cases v <;> first|rfl|(simp[Cell.okWide,n,Cell.ok]at g)
 rw[hv]at q;have⟨av,l,C,m,D⟩:=Qz n (ks:=anx) o w g q;have key:∀l:Q (Q Int),(∀i∈l,i.length=4)->l.flatMap (ints anx)=(l.map ako).flatMap Cho.av:=by
  intro l
  induction l with
  |nil=>intro _;rfl
  |cons i l E=>
   intro h;rw[List.flatMap_cons,List.map_cons,List.flatMap_cons,E λz F=>h z (by simp[F]),ae4 (h i O)]
 refine⟨av,l.map ako,C,⟨?_,λc hc=>?_,D⟩⟩
 ·have:=m.is;rw[key l m.len]at this
  simpa using this
 ·obtain⟨i,k,rfl⟩:=List.mem_map.1 hc;have G:=m.len i k;have hw:=m.wf i k
  match i,G with
  |[a,b,c,d],_=>
   have u:=anz (hw 3 .u16 d Z3 Z3);exact⟨amd (hw 0 .i64 a Z3 Z3),amd (hw 1 .i64 b Z3 Z3),amd (hw 2 .i64 c Z3 Z3),u.1,u.2⟩
end
end
end Go.Proofs.YtgplhpgkompkmaaGreat
