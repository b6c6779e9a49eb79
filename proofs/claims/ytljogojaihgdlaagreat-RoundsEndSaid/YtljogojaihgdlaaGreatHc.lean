/-
  Own work: an interpreter over named blocks, its soundness, and what the functions of this seat compute (part 3 of 12).
  Conditions: those of the statement alone.
-/
import Derived.Test.YtljogojaihgdlaaGreatProg
import Derived.KernelRfl
import Derived.ProofKit
import Derived.Below
import Derived.Test.YtljogojaihgdlaaGreatHb
set_option linter.all false
set_option linter.unusedSectionVars false
set_option linter.unusedVariables false
set_option linter.unusedSimpArgs false
namespace Go.Proofs.YtljogojaihgdlaaGreat
def J{p:Prop}(h:p:=by kernel_rfl):p:=h
def ZD{p:Prop}(h:p:=by kernel_rfl):p:=h
def Z{p:Prop}(h:p:=by decide):p:=h
def ZS{p:Prop}(h:p:=by decide):p:=h
noncomputable section
abbrev bi(op:BinOp)(t:TypeId)(x y:AV):Option AV:=qH Tryz.prog op t x y
abbrev un(op:UnOp)(x:AV):Option AV:=unA Tryz.prog op x
abbrev cv(s d:TypeId)(x:AV):AM AV:=kM Tryz.prog s d x
def stk:AM AV:=λ_=>none
abbrev bd(t:TypeId)(ps:List (Nat × AV)):Option AV:=gy Tryz.prog t ps
abbrev bs(t:TypeId)(n:Nat)(ps:List (Nat × AV)):AM AV:=dK Tryz.prog t n ps
def Rn0(f:FuncId)(s:aF->ah->OA):Prop:=∀C H {r:AV × ah},s C H=some r->Ah Tryz.prog C f [] H=some r
def Rn1(f:FuncId)(s:aF->AV->ah->OA):Prop:=∀C a0 H {r:AV × ah},s C a0 H=some r->Ah Tryz.prog C f [a0] H=some r
def Rn2(f:FuncId)(s:aF->AV->AV->ah->OA):Prop:=∀C a0 a1 H {r:AV × ah},s C a0 a1 H=some r->Ah Tryz.prog C f [a0,a1] H=some r
def Rn3(f:FuncId)(s:aF->AV->AV->AV->ah->OA):Prop:=∀C a0 a1 a2 H {r:AV × ah},s C a0 a1 a2 H=some r->Ah Tryz.prog C f [a0,a1,a2] H=some r
def Rn4(f:FuncId)(s:aF->AV->AV->AV->AV->ah->OA):Prop:=∀C a0 a1 a2 a3 H {r:AV × ah},s C a0 a1 a2 a3 H=some r->Ah Tryz.prog C f [a0,a1,a2,a3] H=some r
def Rn5(f:FuncId)(s:aF->AV->AV->AV->AV->AV->ah->OA):Prop:=∀C a0 a1 a2 a3 a4 H {r:AV × ah},s C a0 a1 a2 a3 a4 H=some r->Ah Tryz.prog C f [a0,a1,a2,a3,a4] H=some r
def QB {n:Nat}{ps:List (Nat × AV)}{H:ah}(h:n*1<=16777216):dK Tryz.prog 22 n ps H=bsl 3 1 [zI] n ps H:=sJ J J J rfl h
def ak7 {n:Nat}{ps:List (Nat × AV)}{H:ah}(h:n*3<=16777216):dK Tryz.prog 28 n ps H=bsl 53 3 [zI,zI,zI] n ps H:=sJ J J J rfl h
def aqz {n:Nat}{ps:List (Nat × AV)}{H:ah}(h:n*1<=16777216):dK Tryz.prog 29 n ps H=bsl 28 1 [zN] n ps H:=sJ J J J rfl h
def aqA {n:Nat}{ps:List (Nat × AV)}{H:ah}(h:n*1<=16777216):dK Tryz.prog 73 n ps H=bsl 35 1 [zP] n ps H:=sJ J J J rfl h
def ak8 {n:Nat}{ps:List (Nat × AV)}{H:ah}(h:n*4<=16777216):dK Tryz.prog 86 n ps H=bsl 85 4 [zI,zI,zB,zI] n ps H:=sJ J J J rfl h
def aqB {n:Nat}{ps:List (Nat × AV)}{H:ah}(h:n*4<=16777216):dK Tryz.prog 91 n ps H=bsl 101 4 [zP,zP,zP,zP] n ps H:=sJ J J J rfl h
def ak9 {n:Nat}{ps:List (Nat × AV)}{H:ah}(h:n*2<=16777216):dK Tryz.prog 124 n ps H=bsl 99 2 [zP,zP] n ps H:=sJ J J J rfl h
def afV {n:Nat}{ps:List (Nat × AV)}{H:ah}(h:n*9<=16777216):dK Tryz.prog 136 n ps H=bsl 112 9 [zI,zI,zI,zI,zI,zI,zI,zB,zN] n ps H:=sJ J J J rfl h
def afW {n:Nat}{ps:List (Nat × AV)}{H:ah}(h:n*6<=16777216):dK Tryz.prog 141 n ps H=bsl 166 6 [zI,zI,zI,zI,zB,zN] n ps H:=sJ J J J rfl h
def VL {n:Nat}{ps:List (Nat × AV)}{H:ah}(h:n*1<=16777216):dK Tryz.prog 172 n ps H=bsl 5 1 [.s (.int .u8 0)] n ps H:=sJ J J J rfl h
def ala {n:Nat}{ps:List (Nat × AV)}{H:ah}(h:n*1<=16777216):dK Tryz.prog 183 n ps H=bsl 186 1 [zP] n ps H:=sJ J J J rfl h
def afX {n:Nat}{ps:List (Nat × AV)}{H:ah}(h:n*2<=16777216):dK Tryz.prog 256 n ps H=bsl 258 2 [zI,zI] n ps H:=sJ J J J rfl h
def alb {n:Nat}{ps:List (Nat × AV)}{H:ah}(h:n*3<=16777216):dK Tryz.prog 272 n ps H=bsl 279 3 [zI,zI,zN] n ps H:=sJ J J J rfl h
def ald {n:Nat}{ps:List (Nat × AV)}{H:ah}(h:n*1<=16777216):dK Tryz.prog 286 n ps H=bsl 172 1 [zN] n ps H:=sJ J J J rfl h
def aiA:Nat->Option (Nat × Nat)
 |0=>some (0,1)
 |1=>some (1,1)
 |2=>some (2,1)
 |3=>some (3,1)
 |4=>some (4,1)
 |5=>some (5,1)
 |6=>some (6,1)
 |7=>some (7,1)
 |_=>none
def ale {ps:List (Nat × AV)}:gy Tryz.prog 26 ps=jf aiA [zI,zI,zI,zI,zI,zI,zI,zN] ps:=iY J Tryz.underlying26 J (by funext i;rcases i with _|_|_|_|_|_|_|_|i <;> kernel_rfl)
def alf:Nat->Option (Nat × Nat)
 |0=>some (0,1)
 |_=>none
def aqC {ps:List (Nat × AV)}:gy Tryz.prog 42 ps=jf alf [zP] ps:=iY J Tryz.underlying42 J (by funext i;rcases i with _|i <;> kernel_rfl)
def alg:Nat->Option (Nat × Nat)
 |0=>some (0,1)
 |1=>some (1,1)
 |2=>some (2,1)
 |3=>some (3,1)
 |4=>some (4,1)
 |5=>some (5,1)
 |6=>some (6,1)
 |7=>some (7,1)
 |8=>some (8,1)
 |_=>none
def XP {ps:List (Nat × AV)}:gy Tryz.prog 44 ps=jf alg [zI,zI,zI,zI,zI,zI,zN,zI,zI] ps:=iY J Tryz.underlying44 J (by funext i;rcases i with _|_|_|_|_|_|_|_|_|i <;> kernel_rfl)
def alh:Nat->Option (Nat × Nat)
 |0=>some (0,1)
 |1=>some (1,1)
 |2=>some (2,8)
 |3=>some (10,1)
 |4=>some (11,1)
 |5=>some (12,9)
 |6=>some (21,1)
 |_=>none
def aqD {ps:List (Nat × AV)}:gy Tryz.prog 46 ps=jf alh [zP,zP,zI,zI,zI,zI,zI,zI,zI,zN,zI,zP,zI,zI,zI,zI,zI,zI,zN,zI,zI,zI] ps:=iY J Tryz.underlying46 J (by funext i;rcases i with _|_|_|_|_|_|_|i <;> kernel_rfl)
def adR:Nat->Option (Nat × Nat)
 |0=>some (0,1)
 |1=>some (1,1)
 |2=>some (2,1)
 |_=>none
def adS {ps:List (Nat × AV)}:gy Tryz.prog 53 ps=jf adR [zI,zI,zI] ps:=iY J Tryz.underlying53 J (by funext i;rcases i with _|_|_|i <;> kernel_rfl)
def Uc:Nat->Option (Nat × Nat)
 |0=>some (0,1)
 |1=>some (1,1)
 |2=>some (2,1)
 |3=>some (3,1)
 |_=>none
def XQ {ps:List (Nat × AV)}:gy Tryz.prog 68 ps=jf Uc [zB,zI,zI,.s (.int .u16 0)] ps:=iY J Tryz.underlying68 J (by funext i;rcases i with _|_|_|_|i <;> kernel_rfl)
def ali:Nat->Option (Nat × Nat)
 |0=>some (0,1)
 |1=>some (1,1)
 |2=>some (2,8)
 |3=>some (10,1)
 |_=>none
def aqE {ps:List (Nat × AV)}:gy Tryz.prog 75 ps=jf ali [zP,zP,zI,zI,zI,zI,zI,zI,zI,zN,zN] ps:=iY J Tryz.underlying75 J (by funext i;rcases i with _|_|_|_|i <;> kernel_rfl)
def aiB:Nat->Option (Nat × Nat)
 |0=>some (0,1)
 |1=>some (1,1)
 |2=>some (2,1)
 |3=>some (3,1)
 |_=>none
def alj {ps:List (Nat × AV)}:gy Tryz.prog 85 ps=jf aiB [zI,zI,zB,zI] ps:=iY J Tryz.underlying85 J (by funext i;rcases i with _|_|_|_|i <;> kernel_rfl)
def aqF:Nat->Option (Nat × Nat)
 |0=>some (0,1)
 |_=>none
def aqG {ps:List (Nat × AV)}:gy Tryz.prog 93 ps=jf aqF [zN] ps:=iY J Tryz.underlying93 J (by funext i;rcases i with _|i <;> kernel_rfl)
def alk:Nat->Option (Nat × Nat)
 |0=>some (0,1)
 |1=>some (1,1)
 |_=>none
def alm {ps:List (Nat × AV)}:gy Tryz.prog 99 ps=jf alk [zP,zP] ps:=iY J Tryz.underlying99 J (by funext i;rcases i with _|_|i <;> kernel_rfl)
def afY:Nat->Option (Nat × Nat)
 |0=>some (0,2)
 |1=>some (2,2)
 |_=>none
def aln {ps:List (Nat × AV)}:gy Tryz.prog 101 ps=jf afY [zP,zP,zP,zP] ps:=iY J Tryz.underlying101 J (by funext i;rcases i with _|_|i <;> kernel_rfl)
def afZ:Nat->Option (Nat × Nat)
 |0=>some (0,1)
 |_=>none
def alo {ps:List (Nat × AV)}:gy Tryz.prog 103 ps=jf afZ [zN] ps:=iY J Tryz.underlying103 J (by funext i;rcases i with _|i <;> kernel_rfl)
def af0:Nat->Option (Nat × Nat)
 |0=>some (0,1)
 |1=>some (1,1)
 |2=>some (2,1)
 |_=>none
def alp {ps:List (Nat × AV)}:gy Tryz.prog 108 ps=jf af0 [zN,zN,zB] ps:=iY J Tryz.underlying108 J (by funext i;rcases i with _|_|_|i <;> kernel_rfl)
def HY:Nat->Option (Nat × Nat)
 |0=>some (0,1)
 |1=>some (1,1)
 |2=>some (2,1)
 |3=>some (3,1)
 |4=>some (4,1)
 |5=>some (5,1)
 |6=>some (6,1)
 |7=>some (7,1)
 |8=>some (8,1)
 |_=>none
def rD {ps:List (Nat × AV)}:gy Tryz.prog 112 ps=jf HY [zI,zI,zI,zI,zI,zI,zI,zB,zN] ps:=iY J Tryz.underlying112 J (by funext i;rcases i with _|_|_|_|_|_|_|_|_|i <;> kernel_rfl)
def af2:Nat->Option (Nat × Nat)
 |0=>some (0,1)
 |1=>some (1,1)
 |_=>none
def alq {ps:List (Nat × AV)}:gy Tryz.prog 138 ps=jf af2 [zN,zI] ps:=iY J Tryz.underlying138 J (by funext i;rcases i with _|_|i <;> kernel_rfl)
def af4:Nat->Option (Nat × Nat)
 |0=>some (0,1)
 |1=>some (1,1)
 |_=>none
def alr {ps:List (Nat × AV)}:gy Tryz.prog 140 ps=jf af4 [zN,zI] ps:=iY J Tryz.underlying140 J (by funext i;rcases i with _|_|i <;> kernel_rfl)
def af5:Nat->Option (Nat × Nat)
 |0=>some (0,1)
 |1=>some (1,1)
 |2=>some (2,1)
 |3=>some (3,1)
 |_=>none
def als {ps:List (Nat × AV)}:gy Tryz.prog 143 ps=jf af5 [zN,zI,zI,zI] ps:=iY J Tryz.underlying143 J (by funext i;rcases i with _|_|_|_|i <;> kernel_rfl)
def af6:Nat->Option (Nat × Nat)
 |0=>some (0,1)
 |1=>some (1,1)
 |2=>some (2,8)
 |3=>some (10,1)
 |_=>none
def alu {ps:List (Nat × AV)}:gy Tryz.prog 150 ps=jf af6 [zP,zP,zI,zI,zI,zI,zI,zI,zI,zN,zI] ps:=iY J Tryz.underlying150 J (by funext i;rcases i with _|_|_|_|i <;> kernel_rfl)
def af7:Nat->Option (Nat × Nat)
 |0=>some (0,1)
 |1=>some (1,1)
 |_=>none
def alv {ps:List (Nat × AV)}:gy Tryz.prog 164 ps=jf af7 [zI,zI] ps:=iY J Tryz.underlying164 J (by funext i;rcases i with _|_|i <;> kernel_rfl)
def af8:Nat->Option (Nat × Nat)
 |0=>some (0,2)
 |1=>some (2,1)
 |2=>some (3,1)
 |3=>some (4,1)
 |4=>some (5,1)
 |_=>none
def af9 {ps:List (Nat × AV)}:gy Tryz.prog 166 ps=jf af8 [zI,zI,zI,zI,zB,zN] ps:=iY J Tryz.underlying166 J (by funext i;rcases i with _|_|_|_|_|i <;> kernel_rfl)
def aga:Nat->Option (Nat × Nat)
 |0=>some (0,8)
 |1=>some (8,1)
 |2=>some (9,1)
 |3=>some (10,1)
 |_=>none
def alx {ps:List (Nat × AV)}:gy Tryz.prog 185 ps=jf aga [zI,zI,zI,zI,zI,zI,zI,zN,zP,zN,zN] ps:=iY J Tryz.underlying185 J (by funext i;rcases i with _|_|_|_|i <;> kernel_rfl)
def agb:Nat->Option (Nat × Nat)
 |0=>some (0,8)
 |1=>some (8,1)
 |_=>none
def aly {ps:List (Nat × AV)}:gy Tryz.prog 196 ps=jf agb [zI,zI,zI,zI,zI,zI,zI,zN,zM] ps:=iY J Tryz.underlying196 J (by funext i;rcases i with _|_|i <;> kernel_rfl)
def agc:Nat->Option (Nat × Nat)
 |0=>some (0,1)
 |1=>some (1,1)
 |2=>some (2,1)
 |_=>none
def alz {ps:List (Nat × AV)}:gy Tryz.prog 199 ps=jf agc [zI,zI,zN] ps:=iY J Tryz.underlying199 J (by funext i;rcases i with _|_|_|i <;> kernel_rfl)
def agd:Nat->Option (Nat × Nat)
 |0=>some (0,1)
 |1=>some (1,1)
 |_=>none
def alA {ps:List (Nat × AV)}:gy Tryz.prog 203 ps=jf agd [zM,zM] ps:=iY J Tryz.underlying203 J (by funext i;rcases i with _|_|i <;> kernel_rfl)
def agf:Nat->Option (Nat × Nat)
 |0=>some (0,8)
 |1=>some (8,1)
 |_=>none
def alB {ps:List (Nat × AV)}:gy Tryz.prog 237 ps=jf agf [zI,zI,zI,zI,zI,zI,zI,zN,zN] ps:=iY J Tryz.underlying237 J (by funext i;rcases i with _|_|i <;> kernel_rfl)
def agh:Nat->Option (Nat × Nat)
 |0=>some (0,8)
 |1=>some (8,1)
 |2=>some (9,1)
 |3=>some (10,1)
 |4=>some (11,1)
 |5=>some (12,1)
 |6=>some (13,1)
 |7=>some (14,1)
 |8=>some (15,9)
 |9=>some (24,1)
 |_=>none
def alC {ps:List (Nat × AV)}:gy Tryz.prog 244 ps=jf agh [zI,zI,zI,zI,zI,zI,zI,zN,zI,zP,zP,zN,zB,zN,zB,zI,zI,zI,zI,zI,zI,zN,zI,zI,zI] ps:=iY J Tryz.underlying244 J (by funext i;rcases i with _|_|_|_|_|_|_|_|_|_|i <;> kernel_rfl)
def agi:Nat->Option (Nat × Nat)
 |0=>some (0,1)
 |1=>some (1,1)
 |_=>none
def alD {ps:List (Nat × AV)}:gy Tryz.prog 258 ps=jf agi [zI,zI] ps:=iY J Tryz.underlying258 J (by funext i;rcases i with _|_|i <;> kernel_rfl)
def agj:Nat->Option (Nat × Nat)
 |0=>some (0,1)
 |1=>some (1,1)
 |2=>some (2,1)
 |3=>some (3,1)
 |_=>none
def alE {ps:List (Nat × AV)}:gy Tryz.prog 271 ps=jf agj [zI,zI,zI,zN] ps:=iY J Tryz.underlying271 J (by funext i;rcases i with _|_|_|_|i <;> kernel_rfl)
def agk:Nat->Option (Nat × Nat)
 |0=>some (0,8)
 |1=>some (8,1)
 |2=>some (9,1)
 |3=>some (10,2)
 |_=>none
def alF {ps:List (Nat × AV)}:gy Tryz.prog 278 ps=jf agk [zI,zI,zI,zI,zI,zI,zI,zN,zI,zN,zN,zN] ps:=iY J Tryz.underlying278 J (by funext i;rcases i with _|_|_|_|i <;> kernel_rfl)
def agl:Nat->Option (Nat × Nat)
 |0=>some (0,1)
 |1=>some (1,1)
 |2=>some (2,1)
 |_=>none
def alG {ps:List (Nat × AV)}:gy Tryz.prog 279 ps=jf agl [zI,zI,zN] ps:=iY J Tryz.underlying279 J (by funext i;rcases i with _|_|_|i <;> kernel_rfl)
def agm {k:IntKind}{n:Int}{H:ah}:kM Tryz.prog 3 5 (.s (.int k n)) H=some (.s (.int .u8 (IntKind.wrap .u8 n)),H):=Ef J Tryz.underlying3 Tryz.underlying5
def alH {k:IntKind}{n:Int}{H:ah}:kM Tryz.prog 5 3 (.s (.int k n)) H=some (.s (.int .i64 (IntKind.wrap .i64 n)),H):=Ef J Tryz.underlying5 Tryz.underlying3
def aiC {k:IntKind}{n:Int}{H:ah}:kM Tryz.prog 5 50 (.s (.int k n)) H=some (.s (.int .u16 (IntKind.wrap .u16 n)),H):=Ef J Tryz.underlying5 Tryz.underlying50
def adT {k:IntKind}{n:Int}{H:ah}:kM Tryz.prog 5 268 (.s (.int k n)) H=some (.s (.int .u64 (IntKind.wrap .u64 n)),H):=Ef J Tryz.underlying5 Tryz.underlying268
def ZT {k:IntKind}{n:Int}{H:ah}:kM Tryz.prog 50 5 (.s (.int k n)) H=some (.s (.int .u8 (IntKind.wrap .u8 n)),H):=Ef J Tryz.underlying50 Tryz.underlying5
def ZU {k:IntKind}{n:Int}{H:ah}:kM Tryz.prog 50 234 (.s (.int k n)) H=some (.s (.int .u32 (IntKind.wrap .u32 n)),H):=Ef J Tryz.underlying50 Tryz.underlying234
def adU {k:IntKind}{n:Int}{H:ah}:kM Tryz.prog 234 5 (.s (.int k n)) H=some (.s (.int .u8 (IntKind.wrap .u8 n)),H):=Ef J Tryz.underlying234 Tryz.underlying5
def adV {k:IntKind}{n:Int}{H:ah}:kM Tryz.prog 268 3 (.s (.int k n)) H=some (.s (.int .i64 (IntKind.wrap .i64 n)),H):=Ef J Tryz.underlying268 Tryz.underlying3
inductive Cell where
 |av (x:AV)
 |seq (m:Nat) (cells:List AV)
 |map (k:IntKind) (es:List (Int × AV))
 |maps (k:IntKind) (m:Nat) (es:List (Int × List AV))
 |alI (w m:Nat) (ls:List (List AV))
abbrev Tag:=Nat × Nat × Nat × Int
section
variable (b:Nat)(H:ah)(τ:Nat->Option Tag)
def OS(T:Tag)(x:AV)(m:Nat)(cells:List AV):Prop:=
 (x=zN/\cells=[])∨∃r g off n d ex e all,x=.sl r g off m n d ex/\τ r=some T/\b<=r/\r<H.next/\n<=d/\H.get r=.blk g e all/\off+d*m<=all.length/\all.all AV.aP=true/\cells=(all.drop off).take (n*m)
def OM(T:Tag)(x:AV)(k:IntKind)(es:List (Int × AV)):Prop:=∃r,x=.mp r/\τ r=some T/\b<=r/\r<H.next/\H.get r=.map k es
def CR(q i:Nat):Cell->AV->Prop
 |.av x,y=>y=x
 |.seq m cells,y=>OS b H τ (q,i+1,0,0) y m cells
 |.map k e,y=>OM b H τ (q,i+1,0,0) y k e
 |.maps k m e,y=>∃d:List (Int × AV),OM b H τ (q,i+1,0,0) y k d/\d.map (·.1)=e.map (·.1)/\∀(j:Nat) n cells x,e[j]?=some (n,cells)->d[j]?=some (n,x)->OS b H τ (q,i+1,1,n) x m cells
 |.alI w m ls,y=>∃xs:List AV,OS b H τ (q,i+1,0,0) y w xs/\xs.length=ls.length/\∀(j:Nat) cells x,ls[j]?=some cells->xs[j]?=some x->OS b H τ (q,i+1,1,(j:Int)) x m cells
structure akB(q:Nat)(cs:List Cell):Prop where
 tag:τ q=some (q,0,0,0)
 lo:b<=q
 hi:q<H.next
 tyl:∀gg ty xs,H.get q=.blk gg ty xs->ty<iC
 blk:∃ty xs,H.get q=.blk 0 ty xs/\xs.length=cs.length/\xs.all AV.aP=true/\∀(i:Nat) c x,cs[i]?=some c->xs[i]?=some x->CR b H τ q i c x
end
abbrev bD:=Nat->Option (List Cell)
def Good(b:Nat)(H:ah)(g:bD):Prop:=b<=H.next/\∃τ,∀q cs,g q=some cs->akB b H τ q cs
def upd(g:bD)(q:Nat)(cs:List Cell):bD:=λx=>if x=q then some cs else g x
section
variable {b:Nat}{H H':ah}{g:bD}{q:Nat}{cs:List Cell}
def aQ:upd g q cs q=some cs:=by simp [upd]
def bn {x:Nat}(h:x≠q):upd g q cs x=g x:=by simp [upd,h]
def qw {b:List Cell}:upd (upd g q cs) q b=upd g q b:=by funext x;simp only [upd];split <;> rfl
def fP(h:g q=some cs):upd g q cs=g:=by
 funext x
 simp only [upd];split
 ·rename_i e;rw [e,h]
 ·rfl
def OS.keep {τ τ':Nat->Option Tag}{T:Tag}{x:AV}{m:Nat}{cells:List AV}(h:OS b H τ T x m cells)(z:H.next<=H'.next)(e:∀r,r<H.next->τ r=some T->τ' r=some T/\H'.get r=H.get r):OS b H' τ' T x m cells:=by
 rcases h with h|⟨r,g,off,n,d,ex,i,all,rfl,j,k,o,p,q,u,v,w⟩
 ·exact .inl h
 ·obtain⟨k1,y⟩:=e r o j;exact .inr ⟨r,g,off,n,d,ex,i,all,rfl,k1,k,V,p,by rw [y];exact q,u,v,w⟩
def OM.keep {τ τ':Nat->Option Tag}{T:Tag}{x:AV}{k:IntKind}{es:List (Int × AV)}(h:OM b H τ T x k es)(o:H.next<=H'.next)(d:∀r,r<H.next->τ r=some T->τ' r=some T/\H'.get r=H.get r):OM b H' τ' T x k es:=by
 obtain⟨r,rfl,e,g,i,j⟩:=h;obtain⟨k1,m⟩:=d r i e;exact⟨r,rfl,k1,g,V,by rw [m];exact j⟩
def CR.keep {τ τ':Nat->Option Tag}{i:Nat}:∀{c:Cell} {x:AV},CR b H τ q i c x->H.next<=H'.next->(∀r s t,r<H.next->τ r=some (q,i+1,s,t)->τ' r=some (q,i+1,s,t)/\H'.get r=H.get r)->CR b H' τ' q i c x
 |.av _,_,h,_,_=>h
 |.seq _ _,_,h,g,k=>OS.keep h g λr d e=>k r 0 0 d e
 |.map _ _,_,h,g,k=>OM.keep h g λr d e=>k r 0 0 d e
 |.maps _ _ _,_,⟨m,d,e,o⟩,g,k=>⟨m,d.keep g λr d e=>k r 0 0 d e,e,λj n cells x p u=>(o j n cells x p u).keep g λr d e=>k r 1 n d e⟩
 |.alI _ _ _,_,⟨xs,d,e,o⟩,g,k=>⟨xs,d.keep g λr d e=>k r 0 0 d e,e,λj cells x p u=>(o j cells x p u).keep g λr d e=>k r 1 j d e⟩
def wM {ty:Nat}{xs:List AV}(h:H.get q=.blk 0 ty xs)(d:ty<iC):∀gg ty' b,H.get q=.blk gg ty' b->ty'<iC:=λ_ _ _ e=>by
 rw [h] at e;cases e;exact d
def akB.keep {τ τ':Nat->Option Tag}(h:akB b H τ q cs)(j:H.next<=H'.next)(e:∀r i s t,r<H.next->τ r=some (q,i,s,t)->τ' r=some (q,i,s,t)/\H'.get r=H.get r):akB b H' τ' q cs:=by
 obtain⟨k1,g⟩:=e q 0 0 0 h.hi h.tag;obtain⟨k,xs,d,m,o,p⟩:=h.blk;exact⟨k1,h.lo,by have:=h.hi;omega,wM (by rw [g];exact d) (h.tyl _ _ _ d),k,xs,by rw [g];exact d,m,o,λi c x hc u=>(p i c x hc u).keep j λr s t v w=>e r (i+1) s t v w⟩
def Good.lt(G:Good b H g)(h:g q=some cs):q<H.next:=(G.2.choose_spec q cs h).hi
def Good.le(G:Good b H g)(h:g q=some cs):b<=q:=(G.2.choose_spec q cs h).lo
def Good.isNone(G:Good b H g)(h:H.next<=q):g q=none:=by
 cases d:g q with
 |none=>rfl
 |some cs=>have:=G.lt d;omega
def Good.ne(G:Good b H g)(h:g q=some cs):q≠H.next:=by have:=G.lt h;omega
def Good.ext(G:Good b H g)(d:H.next<=H'.next)(e:∀r,r<H.next->H'.get r=H.get r):Good b H' g:=by
 obtain⟨o,τ,h⟩:=G;exact⟨V,τ,λq cs j=>(h q cs j).keep d λr i s t k m=>⟨m,e r k⟩⟩
def Good.new(G:Good b H g)(o:gu):Good b (H.new o) g:=G.ext (za8 _) λr d=>by rw [jA,if_neg V]
def Good.guard(G:Good b H g):Good b H.guard g:=G.ext (zac _) λ_ _=>rfl
def Good.sub(G:Good b H g){g':bD}(h:∀q cs,g' q=some cs->g q=some cs):Good b H g':=by
 obtain⟨d,τ,e⟩:=G;exact⟨d,τ,λq cs i=>e q cs (h q cs i)⟩
def Good.empty(H:ah):Good H.next H λ_=>none:=⟨zac _,λ_=>none,λ_ _ h=>by cases h⟩
def Good.empty' {b:Nat}(h:b<=H.next):Good b H λ_=>none:=⟨h,λ_=>none,λ_ _ h=>by cases h⟩
def Good.weak(G:Good b H g){e:Nat}(h:e<=b):Good e H g:=by
 obtain⟨h0,τ,L⟩:=G;have os:∀{T x m cells},OS b H τ T x m cells->OS e H τ T x m cells:=by
  intro T x m cells o;rcases o with o|⟨r,g,off,n,p,ex,u,all,v,w,M,y⟩
  ·exact .inl o
  ·exact .inr ⟨r,g,off,n,p,ex,u,all,v,w,V,y⟩
 have K:∀{T x k z},OM b H τ T x k z->OM e H τ T x k z:=by
  intro T x k z ⟨r,v,w,M,y⟩;exact⟨r,v,w,V,y⟩
 refine⟨V,τ,λq cs Q=>?_⟩;have R:=L q cs Q;obtain⟨u,xs,k1,W,X,k4⟩:=R.blk;refine⟨R.tag,by have:=R.lo;omega,R.hi,R.tyl,u,xs,k1,W,X,λi c x hc d=>?_⟩;have:=k4 i c x hc d;cases c with
 |av _=>exact this
 |seq _ _=>exact os this
 |map _ _=>exact K this
 |maps _ _ _=>
  obtain⟨A,C,D,E⟩:=this;exact⟨A,K C,D,λj n cells x F d=>os (E j n cells x F d)⟩
 |alI _ _ _=>
  obtain⟨ys,C,D,E⟩:=this;exact⟨ys,os C,D,λj cells x F d=>os (E j cells x F d)⟩
structure Step(b:Nat)(H H':ah):Prop where
 base:H'.base=H.base
 next:H.next<=H'.next
 low:∀r,r<b->H'.get r=H.get r
def Step.refl(b:Nat)(H:ah):Step b H H:=⟨rfl,zac _,λ_ _=>rfl⟩
def Step.trans {b:Nat}{H H' H'':ah}(s:Step b H H')(t:Step b H' H''):Step b H H'':=⟨t.base.trans s.base,zaz s.next t.next,λr d=>by rw [t.low r d,s.low r d]⟩
def Step.new {b:Nat}{H:ah}(o:gu)(h:b<=H.next):Step b H (H.new o):=⟨rfl,za8 _,λr d=>by rw [jA,if_neg V]⟩
def Step.put {b:Nat}{H:ah}{r:Nat}(o:gu)(h:b<=r):Step b H (H.put r o):=⟨rfl,zac _,λx d=>by rw [dV,if_neg V]⟩
def Good.newObj(G:Good b H g){ty:TypeId}{xs:List AV}(hc:xs.all AV.aP=true)(k:ty<iC:=by decide):Good b (H.new (.blk 0 ty xs)) (upd g H.next (xs.map .av)):=by
 obtain⟨m,τ,h⟩:=G;refine⟨by rw [Fa];omega,λr=>if r=H.next then some (r,0,0,0) else τ r,λq cs j=>?_⟩;by_cases e:q=H.next
 ·subst e;rw [aQ] at j;cases j;refine⟨O,m,by rw [Fa];omega,wM (xs:=xs) (by simp [jA]) k,ty,xs,by simp [jA],O,hc,λi c x d o=>?_⟩;rw [zaH,o] at d;simp only [zak,zaa] at d;subst d;exact rfl
 ·rw [bn e] at j;have R:=h q cs j;exact R.keep (H':=H.new (.blk 0 ty xs)) (za8 _) λr i s t p k=>⟨by rw [if_neg V];exact k,by rw [jA,if_neg V]⟩
def fJ {r off g:Nat}{ty:TypeId}{xs:List AV}(h:H.get r=.blk g ty xs):ld (.ref r g off) H=(xs[off]?).map λv=>(v,H):=by
 simp only [ld,kS,bT,zak,ldO,h,if_true]
def iH {r off g n:Nat}{ty:TypeId}{xs:List AV}(h:H.get r=.blk g ty xs)(b:off+n<=xs.length):lda n (.ref r g off) H=some (.agg ((xs.drop off).take n),H):=by
 simp only [lda,kS,bT,zak,ap0,h,if_true,b]
def alJ {cells:List AV}:ld (.ip cells) H=(cells[0]?).map λv=>(v,H):=by simp only [ld,kS,ldO]
def alK {cells:List AV}{n:Nat}(h:n<=cells.length):lda n (.ip cells) H=some (.agg (cells.take n),H):=by
 simp only [lda,kS,ap0,za6,h,if_true,zaS,zak]
def Good.load(G:Good b H g)(h:g q=some cs){i:Nat}{x:AV}(hi:cs[i]?=some (.av x)):ld (.ref q 0 i) H=some (x,H):=by
 obtain⟨_,τ,hR⟩:=G;obtain⟨ty,xs,h1,h2,h3,h4⟩:=(hR q cs h).blk;rw [fJ h1];have hlt:i<xs.length:=by rw [h2];exact(zae.1 hi).1
 have hx:xs[i]?=some (xs[i]'hlt):=zab hlt;have:=h4 i _ _ hi hx;simp only [CR] at this;rw [hx,this];rfl
def Good.loads(G:Good b H g)(h:g q=some cs){i n:Nat}{xs:List AV}(hi:(cs.drop i).take n=xs.map .av)(hn:xs.length=n)(hp:0<n):lda n (.ref q 0 i) H=some (.agg xs,H):=by
 obtain⟨_,τ,hR⟩:=G;obtain⟨ty,ys,h1,h2,h3,h4⟩:=(hR q cs h).blk;have hl:=congrArg List.length hi;simp only [zau,zaR,zaE] at hl
 ·rw [iH h1 V]
  congr 2
  congr 1
  apply zbb
  intro j;rcases zaQ j n with hj|hj
  ·have hx:xs[j]?=some (xs[j]' V):=zab _;have hc:cs[i+j]?=some (.av (xs[j]' V)):=by
    have:=congrArg (λl=>l[j]?) hi;simp only [zaB,hj,if_true,zaF,zaH,hx,zak] at this;exact this
   have hlt:i+j<ys.length:=V
   have hy:ys[i+j]?=some (ys[i+j]'hlt):=zab hlt;have:=h4 _ _ _ hc hy;simp only [CR] at this;rw [zaB,if_pos hj,zaF,hy,this,hx]
  ·rw [zaB,if_neg V,zaG V]
end
def aN(H:ah)(x:AV)(m n:Nat)(cells:List AV):Prop:=
 cells.length=n*m/\
 match x with
 |.sl r g off d len e _=>d=m/\len=n/\(r<H.next/\len<=e)/\∃h all,H.get r=.blk g h all/\off+n*m<=all.length/\cells=(all.drop off).take (n*m)
 |.vs k d cs=>d=m/\k=n/\cs=cells
 |.s (.slice none a b)=>a=0/\b=0/\n=0
 |_=>False
def eH(x:AV)(i:Nat):AV:=
 match x with
 |.sl r g off b _ _ _=>.ref r g (off+i*b)
 |.vs _ b cs=>.ip (cs.drop (i*b))
 |_=>bg
section
variable {P:Program}{H:ah}{x:AV}{m n:Nat}{cells:List AV}
def aN.aP(h:aN H x m n cells):x.aP=true:=by
 obtain⟨_,h⟩:=h;cases x with
 |s v=>cases v <;> first|rfl|exact h.elim
 |_=>first|rfl|exact h.elim
def aN.len(h:aN H x m n cells){t e:TypeId}(d:Am P t=some e):akJ P t x H=some (.s (.int .i64 n),H):=by
 obtain⟨_,h⟩:=h;unfold Am at d;split at d <;> first|(cases d;done)|skip
 rename_i p i;unfold akJ kS apU;cases x with
 |sl r g off j len o ex=>simp only [i];rw [h.2.1];rfl
 |vs k j cs=>simp only [i];rw [h.2.1];rfl
 |s v=>
  cases v with
  |slice a b c=>
   cases a with
   |none=>simp only [i];rw [h.2.2,h.1];rfl
   |some a=>exact h.elim
  |_=>exact h.elim
 |_=>exact h.elim
def aN.zf(h:aN H x m n cells):kL x=some n/\dH H x=some cells:=by
 obtain⟨p,h⟩:=h;cases x with
 |sl r g off d len e ex=>
  obtain⟨rfl,rfl,_,q,all,i,j,o⟩:=h;refine⟨rfl,?_⟩;simp only [dH,i];rw [if_pos ⟨trivial,j⟩,o]
 |vs k d cs=>obtain⟨rfl,rfl,rfl⟩:=h;exact⟨rfl,rfl⟩
 |s v=>
  cases v with
  |slice a b c=>
   cases a with
   |none=>
    obtain⟨rfl,rfl,rfl⟩:=h;refine⟨rfl,?_⟩;have:cells=[]:=zat V;rw [this];rfl
   |some a=>exact h.elim
  |_=>exact h.elim
 |_=>exact h.elim
def aN.index(h:aN H x m n cells){t e:TypeId}(d:Am P t=some e)(hm:szT P e=some m){k:IntKind}{i:Int}(h0:0<=i)(u:i<n):
  um P t x (.s (.int k i)) H=some (eH x i.toNat,H):=by
 obtain⟨_,h⟩:=h;unfold Am at d;split at d <;> first|(cases d;done)|skip
 rename_i w o;simp only [zaa] at d;subst d;unfold um kS CB;cases x with
 |sl r g off j len p ex=>
  obtain⟨rfl,rfl,_,y,all,q,z,A⟩:=h;simp only [o,bT,zak,q,akI,gu.gen,hm,true_and];rw [if_pos ⟨h0,V⟩];rfl
 |vs k' j cs=>
  obtain⟨rfl,rfl,rfl⟩:=h;simp only [o,hm,true_and];rw [if_pos ⟨h0,V⟩];rfl
 |s v=>
  cases v with
  |slice a b c=>
   cases a with
   |none=>obtain⟨rfl,rfl,rfl⟩:=h;omega
   |some a=>exact h.elim
  |_=>exact h.elim
 |_=>exact h.elim
def iK:AV->Option Nat
 |.sl r _ _ _ _ _ _=>some r
 |_=>none
def aN.iZ {H':ah}(h:aN H x m n cells)(e:H.next<=H'.next)(i:∀r,iK x=some r->r<H.next->H'.get r=H.get r):aN H' x m n cells:=by
 obtain⟨j,h⟩:=h;refine⟨j,?_⟩;cases x with
 |sl r g off k len o ex=>
  obtain⟨p,q,d,u,all,w,y,z⟩:=h;exact⟨p,q,⟨zay d.1 e,d.2⟩,u,all,by rw [i r rfl d.1];exact w,y,z⟩
 |s v=>
  cases v with
  |slice a b c=>cases a <;> exact h
  |_=>exact h
 |_=>exact h
def aN.new(h:aN H x m n cells)(o:gu):aN (H.new o) x m n cells:=
 h.iZ (za8 _) λr _ b=>by rw [jA,if_neg V]
def aN.put(h:aN H x m n cells){r:Nat}(b:iK x≠some r)(o:gu):aN (H.put r o) x m n cells:=
 h.iZ (zac _) λr' d _=>by rw [dV,if_neg (λe=>b (by rw [d,e]))]
def aN.guard(h:aN H x m n cells):aN H.guard x m n cells:=h
def aN.nil {m:Nat}:aN H (.s (.slice none 0 0)) m 0 []:=⟨O,rfl,rfl,rfl⟩
def aN.vs {m n:Nat}{cs:List AV}(h:cs.length=n*m):aN H (.vs n m cs) m n cs:=⟨h,rfl,rfl,rfl⟩
end
def Ud {α:Type}{enc:α->List AV}{m:Nat}(b:∀a,(enc a).length=m)(l:List α):(l.flatMap enc).length=l.length*m:=by
 induction l with
 |nil=>simp
 |cons a l d=>simp only [zaC,zaq,b,d,zal,zbM];omega
def vO {α:Type}{enc:α->List AV}{m:Nat}(d:∀a,(enc a).length=m):∀(l:List α) (i:Nat) (a:α),l[i]?=some a->((l.flatMap enc).drop (i*m)).take m=enc a
 |[],i,a,h=>by simp at h
 |b::l,0,a,h=>by
  simp only [zaT,zaa] at h;subst h;rw [zbD,zaS,zaC,zbW (by rw [d];omega),zaw (by rw [d];omega)]
 |b::l,i+1,a,h=>by
  simp only [zbf] at h;have e:(enc b).drop ((i+1)*m)=[]:=zaV (by rw [d,zbM];omega);have g:(i+1)*m-(enc b).length=i*m:=by rw [d,zbM];omega
  rw [zaC,zdq,e,g,zaM];exact vO d l i a h
section
variable {b:Nat}{H H':ah}{g:bD}{q:Nat}{cs:List Cell}
def yu {τ τ':Nat->Option Tag}{cs':List Cell}(h0:b<=H.next)(h:∀q cs,g q=some cs->akB b H τ q cs)(p:H.next<=H'.next)
  (hk:∀r,r<H.next->(∀i s t,τ r≠some (q,i,s,t))->τ' r=τ r/\H'.get r=H.get r) (u:akB b H' τ' q cs'):Good b H' (upd g q cs'):=by
 refine⟨V,τ',λk j d=>?_⟩;by_cases e:k=q
 ·subst e;rw [aQ] at d;cases d;exact u
 ·rw [bn e] at d;refine(h k j d).keep p λr i s t v m=>?_;obtain⟨k1,w⟩:=hk r v λy z t' o=>by rw [m] at o;cases o;exact e rfl
  exact⟨by rw [k1];exact m,w⟩
def nX {α:Type}{l:List α}{i j:Nat}{a x:α}(h:(l.set i a)[j]?=some x):(j=i/\x=a)∨(j≠i/\l[j]?=some x):=by
 by_cases e:i=j
 ·subst e;have b:i<l.length:=by
   have:=(zae.1 h).1
   simpa using this
  rw [zbd b] at h;cases h;exact .inl ⟨rfl,rfl⟩
 ·rw [zbl e] at h;exact .inr ⟨λd=>e d.symm,h⟩
def ZV {l:List AV}(h:l.all AV.aP=true){v:AV}(hv:v.aP=true)(i:Nat):(l.set i v).all AV.aP=true:=by
 rw [zaZ] at h ⊢;intro x b;rcases zbV b with b|rfl
 ·exact h x b
 ·exact hv
def QC {l:List AV}{i:Nat}{v:AV}(hi:i<l.length):aO l i [v]=l.set i v:=by
 rw [zdm];simp only [aO,hi,if_true,zal,zao];rfl
def One(v:AV):Prop:=v.cells=[v]/\v.aP=true
def dO {k:IntKind}{n:Int}:One (.s (.int k n)):=⟨rfl,rfl⟩
def Fb {x:Bool}:One (.s (.bool x)):=⟨rfl,rfl⟩
def uD {r g off b len cap:Nat}{ex:Bool}:One (.sl r g off b len cap ex):=⟨rfl,rfl⟩
def agn {n b:Nat}{cells:List AV}:One (.vs n b cells):=⟨rfl,rfl⟩
def qx:One zN:=⟨rfl,rfl⟩
def VN {r gg off:Nat}{v:AV}{ty:TypeId}{xs:List AV}(hv:One v)(h:H.get r=.blk gg ty xs)(hb:H.base<=r)(b:off<xs.length):st 1 (.ref r gg off) v H=some (bg,H.put r (.blk gg ty (xs.set off v))):=by
 show(match H.get r with
  |.blk g' ty cells=>if g'=gg/\H.base<=r/\some 1=some v.cells.length/\v.cells.all AV.aP=true/\off+v.cells.length<=cells.length then some (bg,H.put r (.blk gg ty (aO cells off v.cells))) else none
  |.map ..=>none)=_
 rw [h];simp only;rw [if_pos ⟨trivial,hb,by rw [hv.1];rfl,by rw [hv.1];simp [hv.2],by rw [hv.1];exact b⟩,hv.1,QC b]
def VO {r gg off n:Nat}{vs:List AV}{ty:TypeId}{xs:List AV}(hv:vs.all AV.aP=true)(b:vs.length=n)(h:H.get r=.blk gg ty xs)(hb:H.base<=r)(d:off+n<=xs.length):st n (.ref r gg off) (.agg vs) H=some (bg,H.put r (.blk gg ty (aO xs off vs))):=by
 show(match H.get r with
  |.blk g' ty cells=>if g'=gg/\H.base<=r/\some n=some (AV.agg vs).cells.length/\(AV.agg vs).cells.all AV.aP=true/\off+(AV.agg vs).cells.length<=cells.length then some (bg,H.put r (.blk gg ty (aO cells off (AV.agg vs).cells))) else none
  |.map ..=>none)=_
 rw [h];simp only [fA];rw [if_pos ⟨trivial,hb,by rw [b],hv,V⟩]
def Good.store(G:Good b H g)(hb:H.base<=b)(h:g q=some cs){i:Nat}(hi:i<cs.length){v:AV}(hv:One v):
  ∃H',st 1 (.ref q 0 i) v H=some (bg,H')/\Good b H' (upd g q (cs.set i (.av v)))/\Step b H H'/\H'.next=H.next:=by
 obtain⟨u,τ,o⟩:=G;have R:=o q cs h;obtain⟨w,xs,p,y,z,A⟩:=R.blk;have lo:=R.lo;refine⟨_,VN hv p V V,?_,Step.put _ lo,rfl⟩;refine yu (τ':=τ) u o (zac _) (λr C d=>⟨rfl,?_⟩) ⟨R.tag,R.lo,R.hi,wM (xs:=xs.set i v) (by rw [dV,if_pos rfl]) (R.tyl _ _ _ p),w,xs.set i v,by rw [dV,if_pos rfl],by simp [y],ZV z hv.2 i,λj c x hc k=>?_⟩
 ·rw [dV,if_neg];intro e;subst e;exact d 0 0 0 R.tag
 ·rcases nX hc with⟨rfl,rfl⟩|⟨m,hc⟩
  ·rcases nX k with⟨_,rfl⟩|⟨m,_⟩
   ·exact rfl
   ·exact absurd rfl m
  ·rcases nX k with⟨rfl,_⟩|⟨_,k⟩
   ·exact absurd rfl m
   ·refine(A j c x hc k).keep (zac _) λr s t C d=>⟨d,?_⟩
    rw [dV,if_neg];intro e;subst e;rw [R.tag] at d;cases d
def qJ(cs:List Cell)(i:Nat)(vs:List AV):List Cell:=cs.take i++(vs.map .av++cs.drop (i+vs.length))
def nZ {l:List AV}{i:Nat}{vs:List AV}(h:i+vs.length<=l.length)(j:Nat):(aO l i vs)[j]?=if i<=j/\j<i+vs.length then vs[j-i]? else l[j]?:=by
 unfold aO;rcases zaQ j i with b|b
 ·rw [zaJ (by rw [zau];omega),zaB,if_pos b,if_neg V]
 ·have d:(l.take i).length=i:=by rw [zau];omega
  rw [za3 V,d];rcases zaQ j (i+vs.length) with hk|hk
  ·rw [if_pos ⟨b,hk⟩,zaJ V]
  ·rw [if_neg V,za3 V,zaF]
   congr 1;omega
def XR {i:Nat}{vs:List AV}(h:i+vs.length<=cs.length)(j:Nat):(qJ cs i vs)[j]?=if i<=j/\j<i+vs.length then(vs[j-i]?).map .av else cs[j]?:=by
 unfold qJ;rcases zaQ j i with b|b
 ·rw [zaJ (by rw [zau];omega),zaB,if_pos b,if_neg V]
 ·have d:(cs.take i).length=i:=by rw [zau];omega
  rw [za3 V,d];rcases zaQ j (i+vs.length) with hk|hk
  ·rw [if_pos ⟨b,hk⟩,zaJ (by rw [zaE];omega),zaH]
  ·rw [if_neg V,za3 (by rw [zaE];omega),zaE,zaF]
   congr 1;omega
def oV {l:List AV}{i:Nat}{vs:List AV}(h:i+vs.length<=l.length):(aO l i vs).length=l.length:=by
 simp only [aO,zaq,zau,zaR];omega
def Nr {i:Nat}{vs:List AV}(h:i+vs.length<=cs.length):(qJ cs i vs).length=cs.length:=by
 simp only [qJ,zaq,zau,zaR,zaE];omega
def xF {l vs:List AV}(h:l.all AV.aP=true)(hv:vs.all AV.aP=true)(i:Nat):(aO l i vs).all AV.aP=true:=by
 rw [zaZ] at h hv ⊢;intro x b;simp only [aO,zaO] at b;rcases b with b|b|b
 ·exact h x (zcB b)
 ·exact hv x b
 ·exact h x (List.mem_of_mem_drop b)
def Good.stores(G:Good b H g)(hb:H.base<=b)(h:g q=some cs){i n:Nat}{vs:List AV}(hi:i+n<=cs.length)(u:vs.length=n)(hv:vs.all AV.aP=true):
  ∃H',st n (.ref q 0 i) (.agg vs) H=some (bg,H')/\Good b H' (upd g q (qJ cs i vs))/\Step b H H'/\H'.next=H.next:=by
 obtain⟨v,τ,o⟩:=G;have R:=o q cs h;obtain⟨w,xs,p,y,z,A⟩:=R.blk;have lo:=R.lo;refine⟨_,VO hv u p V V,?_,Step.put _ lo,rfl⟩;refine yu (τ':=τ) v o (zac _) (λr C d=>⟨rfl,?_⟩) ⟨R.tag,R.lo,R.hi,wM (xs:=aO xs i vs) (by rw [dV,if_pos rfl]) (R.tyl _ _ _ p),w,aO xs i vs,by rw [dV,if_pos rfl],by rw [oV V,Nr V,y],xF z hv i,λj c x hc k=>?_⟩
 ·rw [dV,if_neg];intro e;subst e;exact d 0 0 0 R.tag
 ·rw [XR V] at hc;rw [nZ V] at k;split at hc
  ·rename_i m;rw [if_pos m] at k;rw [k] at hc;simp only [zak,zaa] at hc;subst hc;exact rfl
  ·rename_i m;rw [if_neg m] at k;refine(A j c x hc k).keep (zac _) λr s t C d=>⟨d,?_⟩
   rw [dV,if_neg];intro e;subst e;rw [R.tag] at d;cases d
structure Cur(b:Nat)(H:ah)(q i:Nat)(x:AV)(m:Nat)(l:List AV):Prop where
 at_:∃ty xs,H.get q=.blk 0 ty xs/\xs[i]?=some x
 own:(x=zN/\l=[])∨∃r g off n cap ex ty all,x=.sl r g off m n cap ex/\r≠q/\b<=r/\r<H.next/\n<=cap/\H.get r=.blk g ty all/\off+cap*m<=all.length/\all.all AV.aP=true/\l=(all.drop off).take (n*m)
 lt:q<H.next
def Good.seq(G:Good b H g)(h:g q=some cs){i m:Nat}{l:List AV}(hi:cs[i]?=some (.seq m l)):∃x,ld (.ref q 0 i) H=some (x,H)/\Cur b H q i x m l:=by
 obtain⟨_,τ,hR⟩:=G;have R:=hR q cs h;obtain⟨ty,xs,h1,h2,h3,h4⟩:=R.blk;have hlt:i<xs.length:=by rw [h2];exact(zae.1 hi).1
 have hx:xs[i]?=some (xs[i]'hlt):=zab hlt;refine⟨xs[i]'hlt,by rw [fJ h1,hx];rfl,⟨ty,xs,h1,hx⟩,?_,R.hi⟩;have:=h4 i _ _ hi hx;simp only [CR] at this;rcases this with h5|⟨r,gg,off,n,cap,ex,ty,all,h5,h6,h7⟩
 ·exact .inl h5
 ·refine .inr ⟨r,gg,off,n,cap,ex,ty,all,h5,?_,h7⟩;intro e;subst e;rw [R.tag] at h6;cases h6
def Cur.load {i m:Nat}{x:AV}{l:List AV}(c:Cur b H q i x m l):ld (.ref q 0 i) H=some (x,H):=by
 obtain⟨g,xs,d,e⟩:=c.at_;rw [fJ d,e];rfl
def Cur.ext {i m:Nat}{x:AV}{l:List AV}(c:Cur b H q i x m l)(z:H.next<=H'.next)(j:∀r,r<H.next->H'.get r=H.get r):Cur b H' q i x m l:=by
 obtain⟨d,xs,k,o⟩:=c.at_;refine⟨⟨d,xs,by rw [j q c.lt];exact k,o⟩,?_,by have:=c.lt;omega⟩;rcases c.own with h|⟨r,g,off,n,e,ex,d,all,p,k1,u,v,k4,w,y⟩
 ·exact .inl h
 ·exact .inr ⟨r,g,off,n,e,ex,d,all,p,k1,u,V,k4,by rw [j r v];exact w,y⟩
def Cur.new {i m:Nat}{x:AV}{l:List AV}(c:Cur b H q i x m l)(o:gu):Cur b (H.new o) q i x m l:=c.ext (za8 _) λr d=>by rw [jA,if_neg V]
def Cur.one {i m:Nat}{x:AV}{l:List AV}(c:Cur b H q i x m l):One x:=by
 rcases c.own with⟨rfl,_⟩|⟨r,g,off,n,d,ex,e,all,rfl,_⟩
 ·exact qx
 ·exact uD
def Cur.is {i m n:Nat}{x:AV}{l:List AV}(c:Cur b H q i x m l)(hm:0<m)(d:l.length=n*m):aN H x m n l:=by
 refine⟨d,?_⟩;rcases c.own with⟨rfl,rfl⟩|⟨r,g,off,n',e,ex,j,all,rfl,k1,p,k,k4,o,u,v,rfl⟩
 ·refine⟨rfl,rfl,?_⟩;simp only [zao] at d;rcases zdb.1 d.symm with h|h <;> omega
 ·have w:n'*m<=e*m:=zaD _ k4;rw [zau,zaR,zbo V] at d;have:n'=n:=zbR hm d;subst this;exact⟨rfl,rfl,⟨k,k4⟩,j,all,o,V,rfl⟩
def Cur.low {i m r:Nat}{x:AV}{l:List AV}(c:Cur b H q i x m l)(h:r<b):iK x≠some r:=by
 rcases c.own with⟨rfl,_⟩|⟨r',g,off,n,d,ex,j,all,rfl,k1,k,_⟩
 ·intro e;cases e
 ·intro e;simp only [iK,zaa] at e;omega
def Fit(H H1:ah)(d x:AV)(m:Nat)(l:List AV):Prop:=
 (x=zN/\l=[])∨∃r g off n b ex e all,x=.sl r g off m n b ex/\(iK d=some r∨H.next<=r)/\r<H1.next/\n<=b/\H1.get r=.blk g e all/\off+b*m<=all.length/\all.all AV.aP=true/\l=(all.drop off).take (n*m)
def Good.seat(G:Good b H g)(h:g q=some cs){i m:Nat}{l0:List AV}(hi:cs[i]?=some (.seq m l0)){x0:AV}(c:Cur b H q i x0 m l0){H1:ah}(hn:H.next<=H1.next)(hb:H1.base<=b)
  (hk:∀r,r<H.next->iK x0≠some r->H1.get r=H.get r) {x:AV} {m':Nat} {l:List AV} (hx:Fit H H1 x0 x m' l):
  ∃H',st 1 (.ref q 0 i) x H1=some (bg,H')/\Good b H' (upd g q (cs.set i (.seq m' l)))/\Step b H1 H'/\H'.next=H1.next:=by
 obtain⟨h0,τ,hR⟩:=G;have R:=hR q cs h;obtain⟨ty,xs,h1,h2,h3,h4⟩:=R.blk;have lo:=R.lo;have hi':=R.hi;have il:i<cs.length:=(zae.1 hi).1;have hx0:xs[i]?=some x0:=by
  obtain⟨ty',xs',e1,e2⟩:=c.at_;rw [h1] at e1;cases e1;exact e2
 have htag:∀r,iK x0=some r->τ r=some (q,i+1,0,0)/\b<=r:=by
  intro r hr;have:=h4 i _ _ hi hx0;simp only [CR] at this;rcases this with⟨rfl,_⟩|⟨r',gg,off,n,cap,ex,ty',all,rfl,k1,k2,_⟩
  ·cases hr
  ·simp only [iK,zaa] at hr;subst hr;exact⟨k1,k2⟩
 have hqx:iK x0≠some q:=λe=>by have:=(htag q e).1;rw [R.tag] at this;cases this
 have hq1:H1.get q=.blk 0 ty xs:=by rw [hk q hi' hqx];exact h1
 have hone:One x:=by
  rcases hx with⟨rfl,_⟩|⟨r,gg,off,n,cap,ex,ty',all,rfl,_⟩
  ·exact qx
  ·exact uD
 refine⟨_,VN hone hq1 (by omega) (by omega),?_,Step.put _ lo,rfl⟩;refine yu (τ':=λr=>if H.next<=r then some (q,i+1,0,0) else τ r) h0 hR (show H.next<=H1.next from hn) (λr hr ht=>⟨by rw [if_neg (by omega)],?_⟩)
  ⟨by rw [if_neg (by omega)];exact R.tag,R.lo,show q<H1.next by omega,wM (xs:=xs.set i x) (by rw [dV,if_pos rfl]) (R.tyl _ _ _ h1),ty,xs.set i x,by rw [dV,if_pos rfl],by simp [h2],ZV h3 hone.2 i,λj cc y hc hy=>?_⟩
 ·rw [dV,if_neg (by intro e;subst e;exact ht 0 0 0 R.tag)];exact hk r hr λe=>ht (i+1) 0 0 (htag r e).1
 ·rcases nX hc with⟨rfl,rfl⟩|⟨hj,hc⟩
  ·rcases nX hy with⟨_,rfl⟩|⟨hj,_⟩
   ·rcases hx with hx|⟨r,gg,off,n,cap,ex,ty',all,rfl,k1,k2,k3,k4,k5⟩
    ·exact .inl hx
    ·have hrq:r≠q:=by
      rcases k1 with k1|k1
      ·intro e;subst e;exact hqx k1
      ·omega
     refine .inr ⟨r,gg,off,n,cap,ex,ty',all,rfl,?_,?_,k2,k3,by rw [dV,if_neg hrq];exact k4,k5⟩
     ·show(if H.next<=r then some (q,j+1,0,0) else τ r)=some (q,j+1,0,0);split
      ·rfl
      ·rcases k1 with k1|k1
       ·exact(htag r k1).1
       ·omega
     ·rcases k1 with k1|k1
      ·exact(htag r k1).2
      ·omega
   ·exact absurd rfl hj
  ·rcases nX hy with⟨rfl,_⟩|⟨_,hy⟩
   ·exact absurd rfl hj
   ·refine(h4 j cc y hc hy).keep (show H.next<=H1.next from hn) λr s t hr ht=>⟨by rw [if_neg (by omega)];exact ht,?_⟩
    rw [dV,if_neg (by intro e;subst e;rw [R.tag] at ht;cases ht)];refine hk r hr λe=>?_;have:=(htag r e).1;rw [this] at ht;simp only [zaa,zad,zce] at ht;exact hj ht.2.1.symm
end
section
variable {b:Nat}{H H':ah}{g:bD}{q:Nat}{cs:List Cell}
def aN.lnS {x:AV}{m n:Nat}{cells:List AV}(h:aN H x m n cells):lnS x H=some (I n,H):=by
 obtain⟨_,h⟩:=h;unfold Go.Proofs.YtljogojaihgdlaaGreat.lnS kS aqx;cases x with
 |sl r g off d len e ex=>simp only;rw [h.2.1];rfl
 |vs k d cs=>simp only;rw [h.2.1];rfl
 |s v=>
  cases v with
  |slice a b c=>
   cases a with
   |none=>simp only;rw [h.2.2,h.1];rfl
   |some a=>exact h.elim
  |_=>exact h.elim
 |_=>exact h.elim
def aN.ix {x:AV}{m n:Nat}{cells:List AV}(h:aN H x m n cells){k:IntKind}{i:Int}(h0:0<=i)(o:i<n):ix m x (.s (.int k i)) H=some (eH x i.toNat,H):=by
 obtain⟨_,h⟩:=h;unfold Go.Proofs.YtljogojaihgdlaaGreat.ix kS ixO;cases x with
 |sl r g off d len e ex=>
  obtain⟨rfl,rfl,_,p,all,j,q,u⟩:=h;simp only [bT,zak,j,akI,gu.gen,true_and];rw [if_pos ⟨h0,V⟩];rfl
 |vs k' d cs=>
  obtain⟨rfl,rfl,rfl⟩:=h;simp only [true_and];rw [if_pos ⟨h0,V⟩];rfl
 |s v=>
  cases v with
  |slice a b c=>
   cases a with
   |none=>obtain⟨rfl,rfl,rfl⟩:=h;omega
   |some a=>exact h.elim
  |_=>exact h.elim
 |_=>exact h.elim
def aN.ld {x:AV}{n:Nat}{cells:List AV}(h:aN H x 1 n cells){i:Nat}(hi:i<n):ld (eH x i) H=(cells[i]?).map λv=>(v,H):=by
 obtain⟨_,h⟩:=h;cases x with
 |sl r g off d len e ex=>
  obtain⟨rfl,rfl,_,m,all,j,o,k⟩:=h;simp only [eH];rw [fJ j,k,zaB,if_pos V,zaF,zbO]
 |vs k' d cs=>
  obtain⟨rfl,rfl,rfl⟩:=h;simp only [eH];rw [alJ,zaF,zbO,zbr]
 |s v=>
  cases v with
  |slice a b c=>
   cases a with
   |none=>obtain⟨rfl,rfl,rfl⟩:=h;omega
   |some a=>exact h.elim
  |_=>exact h.elim
 |_=>exact h.elim
def aN.alL {x:AV}{m n:Nat}{cells:List AV}(h:aN H x m n cells){i o:Nat}(hi:i<n)(u:o<m):(au (eH x i) o).bind (λp=>Go.Proofs.YtljogojaihgdlaaGreat.ld p H)=(cells[i*m+o]?).map λv=>(v,H):=by
 obtain⟨w,h⟩:=h;have e:i*m+m<=n*m:=by
  have:(i+1)*m<=n*m:=zaD _ hi
  rwa [zbM] at this
 cases x with
 |sl r g off d len j ex=>
  obtain⟨rfl,rfl,_,y,all,k,z,q⟩:=h;simp only [eH,sH,za7];rw [fJ k,q,zaB,if_pos V,zaF,zb6]
 |vs k' d cs=>
  obtain⟨rfl,rfl,rfl⟩:=h;simp only [eH,zK,za7];rw [alJ,zbL,zaF,zbr]
 |s v=>
  cases v with
  |slice a b c=>
   cases a with
   |none=>obtain⟨rfl,rfl,rfl⟩:=h;omega
   |some a=>exact h.elim
  |_=>exact h.elim
 |_=>exact h.elim
def aN.lda {x:AV}{m n:Nat}{cells:List AV}(h:aN H x m n cells){i:Nat}(hi:i<n):lda m (eH x i) H=some (.agg ((cells.drop (i*m)).take m),H):=by
 obtain⟨p,h⟩:=h;have e:i*m+m<=n*m:=by
  have:(i+1)*m<=n*m:=zaD _ hi
  rwa [zbM] at this
 cases x with
 |sl r g off d len j ex=>
  obtain⟨rfl,rfl,_,q,all,k,u,o⟩:=h;simp only [eH];rw [iH k V,o,zcp,zbZ,zbL,zbo V]
 |vs k' d cs=>
  obtain⟨rfl,rfl,rfl⟩:=h;simp only [eH];rw [alK (by rw [zaR];omega)]
 |s v=>
  cases v with
  |slice a b c=>
   cases a with
   |none=>obtain⟨rfl,rfl,rfl⟩:=h;omega
   |some a=>exact h.elim
  |_=>exact h.elim
 |_=>exact h.elim
def Ib {all new:List AV}{off n:Nat}(h:off+n+new.length<=all.length):((aO all (off+n) new).drop off).take (n+new.length)=(all.drop off).take n++new:=by
 have e:(aO all (off+n) new).length=all.length:=oV V
 apply zbb
 intro j;rcases zaQ j n with b|b
 ·rw [zaB,if_pos V,zaF,nZ V,if_neg V,zaJ (by rw [zau,zaR];omega),zaB,if_pos b,zaF]
 ·rcases zaQ j (n+new.length) with d|d
  ·rw [zaB,if_pos d,zaF,nZ V,if_pos V,za3 (by rw [zau,zaR];omega),zau,zaR]
   congr 1;omega
  ·rw [zaB,if_neg V,za3 (by rw [zau,zaR];omega),zau,zaR,zaG V]
def all_append {l b:List AV}(h:l.all AV.aP=true)(d:b.all AV.aP=true):(l++b).all AV.aP=true:=by rw [zbj,h,d];rfl
def Fe {l:List AV}(h:l.all AV.aP=true)(n:Nat):(l.take n).all AV.aP=true:=by
 rw [zaZ] at h ⊢;exact λx b=>h x (zcB b)
def AP {l:List AV}(h:l.all AV.aP=true)(n:Nat):(l.drop n).all AV.aP=true:=by
 rw [zaZ] at h ⊢;exact λx b=>h x (List.mem_of_mem_drop b)
def Own(b:Nat)(H:ah)(x:AV)(m:Nat)(l:List AV):Prop:=
 (x=zN/\l=[])∨∃r g off n d ex e all,x=.sl r g off m n d ex/\b<=r/\r<H.next/\n<=d/\H.get r=.blk g e all/\off+d*m<=all.length/\all.all AV.aP=true/\l=(all.drop off).take (n*m)
def Own.app {m n k:Nat}{x y:AV}{l new:List AV}(c:Own b H x m l)(hb:H.base<=b)(hm:0<m)(hl:l.length=n*m)(hy:aN H y m k new)(hc:new.all AV.aP=true){e:TypeId}{by_:Nat}(h1:n+k<=most)(h2:(n+k)*by_<=most):
  ∃x' H1,app e m by_ x y H=some (x',H1)/\Fit H H1 x x' m (l++new)/\H.next<=H1.next/\H1.base=H.base/\∀r,r<H.next->iK x≠some r->H1.get r=H.get r:=by
 obtain⟨c1,c2⟩:=hy.zf;have c3:=hy.1;have key:Go.Proofs.YtljogojaihgdlaaGreat.app e m by_ x y H=dZ e m by_ x k new H:=by simp only [Go.Proofs.YtljogojaihgdlaaGreat.app,c1,c2]
 rw [key];unfold dZ;rw [if_pos ⟨c3,hc⟩];rcases c with⟨rfl,rfl⟩|⟨r,gg,off,n',cap,ex,ty,all,rfl,k2,k3,k4,k5,k6,k7,rfl⟩
 ·simp only [zao] at hl;have hn:n=0:=by rcases zdb.1 hl.symm with h|h <;> omega
  subst hn;rw [za6] at h1 h2;by_cases hk:k=0
  ·subst hk;rw [zbD] at c3;have:new=[]:=zat c3;subst this;exact⟨zN,H,by simp only [if_true],.inl ⟨rfl,rfl⟩,zac _,rfl,λ_ _ _=>rfl⟩
  ·refine⟨.sl H.next 0 0 m k k false,H.new (.blk 0 (e+iC) new),by simp only [hk,h1,h2,and_self,if_true,if_false],.inr ⟨H.next,0,0,k,k,false,e+iC,new,rfl,.inr (zac _),by rw [Fa];omega,zac _,by simp [jA],by omega,hc,?_⟩,za8 _,rfl,λr hr _=>by rw [jA,if_neg (by omega)]⟩;rw [zaM,zaS,zaw (by omega)]
 ·have hcm:n'*m<=cap*m:=zaD _ k4;rw [zau,zaR,zbo (by omega)] at hl;have hn:n'=n:=zbR hm hl;subst hn;simp only [k5];rw [if_pos ⟨trivial,trivial,by omega⟩];by_cases hk:k=0
  ·subst hk;rw [zbD] at c3;have:new=[]:=zat c3;subst this;exact⟨_,H,by rw [if_pos rfl],.inr ⟨r,gg,off,n',cap,ex,ty,all,rfl,.inl rfl,k3,k4,k5,k6,k7,by rw [zbm]⟩,zac _,rfl,λ_ _ _=>rfl⟩
  ·rw [if_neg hk];by_cases hf:n'+k<=cap
   ·have hfm:(n'+k)*m<=cap*m:=zaD _ hf;rw [if_pos hf,if_pos ⟨by omega,by omega⟩];refine⟨_,_,rfl,.inr ⟨r,gg,off,n'+k,cap,ex,ty,aO all (off+n'*m) new,rfl,.inl rfl,k3,hf,by rw [dV,if_pos rfl],?_,xF k7 hc _,?_⟩,zac _,rfl,λr' hr hne=>?_⟩
    ·rw [zbv] at hfm;rw [oV (by omega)];exact k6
    ·rw [zbv] at hfm ⊢;rw [<-c3,Ib (by omega)]
    ·rw [dV,if_neg];intro e';subst e';exact hne rfl
   ·rw [if_neg hf,if_pos ⟨h1,h2⟩];have e1:((all.drop off).take (n'*m)).length=n'*m:=by rw [zau,zaR];omega
    have e2:((all.drop off).take (n'*m)++new).length=(n'+k)*m:=by rw [zaq,e1,c3,zbv]
    cases ex with
    |true=>
     simp only [if_true];refine⟨_,_,rfl,.inr ⟨H.next,0,0,n'+k,n'+k,false,e+iC,(all.drop off).take (n'*m)++new,rfl,.inr (zac _),by rw [Fa];omega,zac _,by simp only [jA,if_true],by rw [e2,za6];exact zac _,all_append (Fe (AP k7 _) _) hc,?_⟩,za8 _,rfl,λr' hr _=>by rw [jA,if_neg (by omega)]⟩;rw [zaS,zaw (Nat.le_of_eq e2)]
    |false=>
     simp only [zai,if_false];rw [if_pos (by omega)];refine⟨_,_,rfl,.inr ⟨r,gg+1,0,n'+k,n'+k,false,grT e ty off,(all.drop off).take (n'*m)++new,rfl,.inl rfl,k3,zac _,by simp only [dV,if_true],by rw [e2,za6];exact zac _,all_append (Fe (AP k7 _) _) hc,?_⟩,zac _,rfl,λr' hr hne=>?_⟩
     ·rw [zaS,zaw (Nat.le_of_eq e2)]
     ·rw [dV,if_neg];intro e';subst e';exact hne rfl
def Cur.aqH {i m:Nat}{x:AV}{l:List AV}(c:Cur b H q i x m l):Own b H x m l:=by
 rcases c.own with h|⟨r,gg,off,n',d,ex,e,all,g,k1,j⟩
 ·exact .inl h
 ·exact .inr ⟨r,gg,off,n',d,ex,e,all,g,j⟩
def Cur.app {i m n k:Nat}{x y:AV}{l new:List AV}(c:Cur b H q i x m l)(hb:H.base<=b)(hm:0<m)(g:l.length=n*m)(h:aN H y m k new)(hc:new.all AV.aP=true){e:TypeId}{by_:Nat}(j:n+k<=most)(o:(n+k)*by_<=most):
  ∃d H1,app e m by_ x y H=some (d,H1)/\Fit H H1 x d m (l++new)/\H.next<=H1.next/\H1.base=H.base/\∀r,r<H.next->iK x≠some r->H1.get r=H.get r:=
 c.aqH.app hb hm g h hc j o
def Own.step {m n k:Nat}{x y:AV}{l new:List AV}(c:Own b H x m l)(q:b<=H.next)(hb:H.base<=b)(hm:0<m)(u:l.length=n*m)(v:aN H y m k new)(hc:new.all AV.aP=true){e:TypeId}{by_:Nat}(w:n+k<=most)(z:(n+k)*by_<=most):
  ∃h H1,Go.Proofs.YtljogojaihgdlaaGreat.app e m by_ x y H=some (h,H1)/\Own b H1 h m (l++new)/\Step b H H1:=by
 obtain⟨h,H1,A,f,n1,C,k1⟩:=c.app hb hm u v hc (e:=e) (by_:=by_) w z;have j:∀r,iK x=some r->b<=r:=λr i=>by
  rcases c with⟨rfl,_⟩|⟨r',g,off,n',d,ex,o,all,rfl,E,_⟩
  ·cases i
  ·simp only [iK,zaa] at i;omega
 refine⟨h,H1,A,?_,C,n1,λr i=>k1 r V λe=>by have:=j r e;omega⟩;rcases f with f|⟨r,g,off,n',d,ex,o,all,rfl,p,D⟩
 ·exact .inl f
 ·exact .inr ⟨r,g,off,n',d,ex,o,all,rfl,p.elim (j r) λp=>V,D⟩
def Own.is {m n:Nat}{x:AV}{l:List AV}(c:Own b H x m l)(hm:0<m)(d:l.length=n*m):aN H x m n l:=by
 refine⟨d,?_⟩;rcases c with⟨rfl,rfl⟩|⟨r,g,off,n',e,ex,i,all,rfl,q,j,k4,k,u,v,rfl⟩
 ·refine⟨rfl,rfl,?_⟩;simp only [zao] at d;rcases zdb.1 d.symm with h|h <;> omega
 ·have o:n'*m<=e*m:=zaD _ k4;rw [zau,zaR,zbo V] at d;have p:n'=n:=zbR hm d;subst p;exact⟨rfl,rfl,⟨j,k4⟩,i,all,k,V,rfl⟩
def Own.ext {m:Nat}{x:AV}{l:List AV}(c:Own b H x m l)(u:H.next<=H'.next)(e:∀r,r<H.next->H'.get r=H.get r):Own b H' x m l:=by
 rcases c with h|⟨r,g,off,n,d,ex,i,all,j,k,o,k4,p,q⟩
 ·exact .inl h
 ·exact .inr ⟨r,g,off,n,d,ex,i,all,j,k,V,k4,by rw [e r o];exact p,q⟩
def Own.new {m:Nat}{x:AV}{l:List AV}(c:Own b H x m l)(o:gu):Own b (H.new o) x m l:=c.ext (za8 _) λr d=>by rw [jA,if_neg V]
def Good.append(G:Good b H g)(hb:H.base<=b)(h:g q=some cs){i m n k:Nat}{l new:List AV}(hi:cs[i]?=some (.seq m l))(hm:0<m)(o:l.length=n*m){x y:AV}(c:Cur b H q i x m l)(p:aN H y m k new)(hc:new.all AV.aP=true){e:TypeId}{by_:Nat}(u:n+k<=most)(v:(n+k)*by_<=most):
  ∃j H1 d,app e m by_ x y H=some (j,H1)/\st 1 (.ref q 0 i) j H1=some (bg,d)/\Good b d (upd g q (cs.set i (.seq m (l++new))))/\Step b H d:=by
 obtain⟨j,H1,w,f,n1,z,k1⟩:=c.app hb hm o p hc (e:=e) (by_:=by_) u v;obtain⟨d,A,C,D,K⟩:=G.seat h hi c n1 V k1 f;have E:=G.1;exact⟨j,H1,d,w,A,C,Step.trans ⟨z,n1,λr F=>k1 r V (c.low F)⟩ D⟩
def Good.elem(G:Good b H g)(hb:H.base<=b)(h:g q=some cs){i m n:Nat}{l:List AV}(hi:cs[i]?=some (.seq m l))(hm:0<m)(K:l.length=n*m){x:AV}(c:Cur b H q i x m l){j:Nat}(hj:j<n):
  ∃r gg off,eH x j=.ref r gg off/\∀(w o:Nat) (v:AV),v.cells.length=w->v.cells.all AV.aP=true->o+w<=m->
   ∃H',st w (.ref r gg (off+o)) v H=some (bg,H')/\Good b H' (upd g q (cs.set i (.seq m (aO l (j*m+o) v.cells))))/\Step b H H'/\H'.next=H.next:=by
 have ab:j*m+m<=n*m:=by
  have:(j+1)*m<=n*m:=zaD _ hj
  rwa [zbM] at this
 rcases c.own with⟨rfl,rfl⟩|⟨r,gg,off,n',u,ex,E,all,rfl,k1,W,k3,k4,k5,k6,k7,rfl⟩
 ·simp only [zao] at K;omega
 ·have ad:n'*m<=u*m:=zaD _ k4;rw [zau,zaR,zbo V] at K;have hn:n'=n:=zbR hm K;subst hn;refine⟨r,gg,off+j*m,rfl,λw o v hw hv ho=>?_⟩;obtain⟨h0,τ,X⟩:=G;have R:=X q cs h;obtain⟨L,xs,F,h2,h3,h4⟩:=R.blk;have C:xs[i]?=some (.sl r gg off m n' u ex):=by
   obtain⟨ae,af,e1,e2⟩:=c.at_;rw [F] at e1;cases e1;exact e2
  have d:τ r=some (q,i+1,0,0):=by
   have:=h4 i _ _ hi C;simp only [CR] at this;rcases this with⟨h,_⟩|⟨_,_,_,_,_,_,_,_,h,k,_⟩
   ·cases h
   ·cases h;exact k
  refine⟨H.put r (.blk gg E (aO all (off+j*m+o) v.cells)),?_,?_,Step.put _ W,rfl⟩
  ·show(match H.get r with
    |.blk g' E cells=>if g'=gg/\H.base<=r/\some w=some v.cells.length/\v.cells.all AV.aP=true/\off+j*m+o+v.cells.length<=cells.length then some (bg,H.put r (.blk gg E (aO cells (off+j*m+o) v.cells))) else none
    |.map ..=>none)=_
   rw [k5];simp only;rw [if_pos ⟨trivial,V,by rw [hw],hv,V⟩]
  ·refine yu (τ':=τ) h0 X (zac _) (λr' hr A=>⟨rfl,?_⟩) ⟨R.tag,R.lo,R.hi,wM (xs:=xs) (by rw [dV,if_neg (λe=>k1 e.symm)];exact F) (R.tyl _ _ _ F),L,xs,by rw [dV,if_neg (λe=>k1 e.symm)];exact F,by simp [h2],h3,λj' cc y z M=>?_⟩
   ·rw [dV,if_neg];intro e;subst e;exact A _ _ _ d
   ·rcases nX z with⟨rfl,rfl⟩|⟨Q,z⟩
    ·rw [C] at M;cases M;refine .inr ⟨r,gg,off,n',u,ex,E,_,rfl,d,W,k3,k4,by rw [dV,if_pos rfl],by rw [oV V];exact k6,xF k7 hv _,?_⟩
     apply zbb
     intro p;have aa:((all.drop off).take (n'*m)).length=n'*m:=by rw [zau,zaR];omega
     rw [nZ V];rcases zaQ p (n'*m) with T|T
     ·rw [zaB,if_pos T,zaF,zaB,if_pos T,zaF,nZ V];by_cases D:j*m+o<=p/\p<j*m+o+v.cells.length
      ·rw [if_pos D,if_pos V];congr 1;omega
      ·rw [if_neg D,if_neg V]
     ·rw [zaB,if_neg V,zaB,if_neg V,if_neg V]
    ·refine(h4 j' cc y z M).keep (zac _) λr' s t hr A=>⟨A,?_⟩
     rw [dV,if_neg];intro e;subst e;rw [d] at A;simp only [zaa,zad,zce] at A;exact Q A.2.1.symm
def Good.map(G:Good b H g)(h:g q=some cs){i:Nat}{k:IntKind}{es:List (Int × AV)}(hi:cs[i]?=some (.map k es)):
  ∃r,ld (.ref q 0 i) H=some (.mp r,H)/\(∀z n ok,lk k z (.mp r) (.s (.int k n)) ok H=some ((match qY es n with
   |some v=>if ok then .tup [v,.s (.bool true)] else v
   |none=>if ok then .tup [.s z,.s (.bool false)] else .s z),H))/\lnM (.mp r) H=some (I es.length,H)/\(H.base<=b->
   (∀n v,∃H',mup k (.mp r) (.s (.int k n)) v H=some (bg,H')/\Good b H' (upd g q (cs.set i (.map k (L6 es n v))))/\Step b H H'/\H'.next=H.next)/\
   (∀n,∃H',del k (.mp r) (.s (.int k n)) H=some (.tup [],H')/\Good b H' (upd g q (cs.set i (.map k (Aq es n))))/\Step b H H'/\H'.next=H.next)):=by
 obtain⟨h0,τ,hR⟩:=G;have R:=hR q cs h;obtain⟨ty,xs,h1,h2,h3,h4⟩:=R.blk;have hlt:i<xs.length:=by rw [h2];exact(zae.1 hi).1
 have hx:xs[i]?=some (xs[i]'hlt):=zab hlt;have:=h4 i _ _ hi hx;simp only [CR] at this;obtain⟨r,e,t1,t2,t3,t4⟩:=this;rw [e] at hx;have hrq:q≠r:=by intro e;subst e;rw [R.tag] at t1;cases t1
 have put:∀es',Good b (H.put r (.map k es')) (upd g q (cs.set i (.map k es'))):=by
  intro es';refine yu (τ':=τ) h0 hR (zac _) (λr' hr ht=>⟨rfl,?_⟩) ⟨R.tag,R.lo,R.hi,wM (xs:=xs) (by rw [dV,if_neg hrq];exact h1) (R.tyl _ _ _ h1),ty,xs,by rw [dV,if_neg hrq];exact h1,by simp [h2],h3,λj c y hc hy=>?_⟩
  ·rw [dV,if_neg];intro e;subst e;exact ht _ _ _ t1
  ·rcases nX hc with⟨rfl,rfl⟩|⟨hj,hc⟩
   ·rw [hx] at hy;cases hy;exact⟨r,rfl,t1,t2,t3,by rw [dV,if_pos rfl]⟩
   ·refine(h4 j c y hc hy).keep (zac _) λr' s t hr ht=>⟨ht,?_⟩
    rw [dV,if_neg];intro e;subst e;rw [t1] at ht;simp only [zaa,zad,zce] at ht;exact hj ht.2.1.symm
 refine⟨r,by rw [fJ h1,hx];rfl,λz n ok=>?_,?_,λhb=>⟨λn v=>⟨H.put r (.map k (L6 es n v)),?_,put _,Step.put _ t2,rfl⟩,λn=>⟨H.put r (.map k (Aq es n)),?_,put _,Step.put _ t2,rfl⟩⟩⟩
 ·simp only [lk,kS,bT,zak,lkO,t4,and_self,if_true];cases qY es n <;> rfl
 ·simp only [lnM,kS,bT,zak,aqy,t4]
 ·simp only [mup,t4];rw [if_pos ⟨trivial,trivial,V⟩]
 ·simp only [del,t4];rw [if_pos ⟨trivial,trivial,V⟩]
end
abbrev w64(n:Int):Int:=IntKind.wrap .i64 n
structure Cfg where
 aB:Int
 aY:Int
 bI:Int
 sets:Int
 ways:Int
 out:Int
 inn:Int
 init:List Int
structure Pkt where
 aS:Int
 src:Int
 dst:Int
 id:Int
 aj:Int
 ptr:Int
 aV:Int
 flag:Bool
 data:List Int
 deriving DecidableEq
structure Opn where
 aS:Int
 addr:Int
 value:Int
 deriving DecidableEq
structure Evn where
 bF:Int
 index:Int
 done:Bool
 value:Int
 deriving DecidableEq
structure Ent where
 fwd:Int
 back:Int
 aj:Int
 used:Int
 dn:Bool
 data:List Int
 deriving DecidableEq
structure Row where
 aV:Int
 head:Int
 data:List Int
 deriving DecidableEq
structure bM where
 aS:Int
 aj:Int
 id:Int
 step:Int
 aV:Int
 head:Int
 data:List Int
 next:Int
 told:Int
 deriving DecidableEq
structure Pck where
 deliver:Bool
 at_:Int
 bit:Int
 mask:Int
def vsl {α:Type}(m:Nat)(enc:α->List AV)(l:List α):AV:=if l=[] then zN else .vs l.length m (l.flatMap enc)
def ap2(n:Int):List AV:=[I n]
def dat(l:List Int):AV:=vsl 1 ap2 l
def Cfg.av(c:Cfg):List AV:=[I c.aB,I c.aY,I c.bI,I c.sets,I c.ways,I c.out,I c.inn,dat c.init]
def Pkt.av(p:Pkt):List AV:=[I p.aS,I p.src,I p.dst,I p.id,I p.aj,I p.ptr,I p.aV,B p.flag,dat p.data]
def Opn.av(o:Opn):List AV:=[I o.aS,I o.addr,I o.value]
def Evn.av(e:Evn):List AV:=[I e.bF,I e.index,B e.done,I e.value]
def Ent.av(e:Ent):List AV:=[I e.fwd,I e.back,I e.aj,I e.used,B e.dn,dat e.data]
def Row.av(r:Row):List AV:=[I r.aV,I r.head,dat r.data]
def bM.av(d:bM):List AV:=[I d.aS,I d.aj,I d.id,I d.step,I d.aV,I d.head,dat d.data,I d.next,I d.told]
def Pck.av(p:Pck):List AV:=[B p.deliver,I p.at_,I p.bit,.s (.int .u16 p.mask)]
def Pkt.zero:Pkt:=⟨0,0,0,0,0,0,0,false,[]⟩
def Opn.zero:Opn:=⟨0,0,0⟩
def Ent.zero:Ent:=⟨0,0,0,0,false,[]⟩
def Row.zero:Row:=⟨0,0,[]⟩
def bM.zero:bM:=⟨0,0,0,0,0,0,[],0,0⟩
def dM {α:Type}{enc:α->List AV}{m:Nat}(b:∀a,(enc a).length=m)(l:List α):(l.flatMap enc).length=l.length*m:=Ud b l
def Ic {α:Type}{enc:α->List AV}{m:Nat}(b:∀a,(enc a).length=m)(H:ah)(l:List α):aN H (vsl m enc l) m l.length (l.flatMap enc):=by
 unfold vsl;split
 ·rename_i h;subst h;exact aN.nil
 ·exact aN.vs (dM b l)
def gI {α:Type}{enc:α->List AV}{m:Nat}:vsl m enc ([]:List α)=zN:=by simp [vsl]
def Fg {α:Type}{enc:α->List AV}{m:Nat}{l:List α}(h:l≠[]):vsl m enc l=.vs l.length m (l.flatMap enc):=by simp [vsl,h]
def Ue {α:Type}{enc:α->List AV}{m:Nat}{l:List α}:One (vsl m enc l):=by
 unfold vsl;split
 ·exact qx
 ·exact agn
def tV {l:List Int}:One (dat l):=Ue
def adW(n:Int):(ap2 n).length=1:=rfl
def QD(l:List Int):l.flatMap ap2=l.map I:=by
 induction l with
 |nil=>rfl
 |cons a l b=>rw [zaC,b];rfl
def kY(H:ah)(l:List Int):aN H (dat l) 1 l.length (l.map I):=by
 have:=Ic adW H l;rw [QD] at this;exact this
def bZ(p:Pkt):p.av.length=9:=rfl
def eP(p:Opn):p.av.length=3:=rfl
def CX(p:Evn):p.av.length=4:=rfl
def dW(p:Ent):p.av.length=6:=rfl
def CY(p:Row):p.av.length=3:=rfl
def KI(p:Cfg):p.av.length=8:=rfl
def Ie(p:bM):p.av.length=9:=rfl
def KJ(p:Pck):p.av.length=4:=rfl
def agp(p:Cfg):p.av.take 8=p.av:=rfl
def QE(p:Pkt):p.av.take 9=p.av:=rfl
def agq(p:Opn):p.av.take 3=p.av:=rfl
def ags(p:Evn):p.av.take 4=p.av:=rfl
def agt(p:Ent):p.av.take 6=p.av:=rfl
def agu(p:Row):p.av.take 3=p.av:=rfl
def ZW(p:bM):p.av.take 9=p.av:=rfl
def agv(p:Pck):p.av.take 4=p.av:=rfl
def Ig {l:List Int}:(dat l).cells=[dat l]:=tV.1
def oW {l:List Int}:(dat l).aP=true:=tV.2
def Ih {α:Type}{enc:α->List AV}{m:Nat}{l:List α}:(vsl m enc l).cells=[vsl m enc l]:=Ue.1
def KL {α:Type}{enc:α->List AV}{m:Nat}{l:List α}:(vsl m enc l).aP=true:=Ue.2
def fD(c:Cfg):c.av.all AV.aP=true:=by simp [Cfg.av,iP,oW]
def aU(p:Pkt):p.av.all AV.aP=true:=by simp [Pkt.av,iP,kW,oW]
def oZ(p:Opn):p.av.all AV.aP=true:=by simp [Opn.av,iP]
def Ii(p:Evn):p.av.all AV.aP=true:=by simp [Evn.av,iP,kW]
def lN(p:Ent):p.av.all AV.aP=true:=by simp [Ent.av,iP,kW,oW]
def Ns(p:Row):p.av.all AV.aP=true:=by simp [Row.av,iP,oW]
def bG(p:bM):p.av.all AV.aP=true:=by simp [bM.av,iP,oW]
def zQ(p:Pck):p.av.all AV.aP=true:=by simp [Pck.av,iP,kW]
def Nu {α:Type}{enc:α->List AV}(h:∀a,(enc a).all AV.aP=true)(l:List α):(l.flatMap enc).all AV.aP=true:=by
 rw [zaZ];intro x b;obtain⟨a,_,ha⟩:=za0.1 b;exact zaZ.1 (h a) x ha
def jh {H:ah}{n d:Nat}:∀(l:List AV),(∀x∈l,bV H n d x=some x)->l.mapM (bV H n d)=some l
 |[],_=>rfl
 |x::l,h=>by
  rw [zbw,jh l λy b=>h y (by simp [b]),h x O];rfl
def jo {H:ah}{n d:Nat}{v:Value}:bV H n (d+1) (.s v)=some (.s v):=by rw [bV]
def ZX {H:ah}{n d k m:Nat}{l:List AV}(h:∀x∈l,bV H n d x=some x):bV H n (d+1) (.vs k m l)=some (.vs k m l):=by
 rw [bV];simp only [jh l h,zak]
def KN {H:ah}{n d:Nat}{l:List AV}(h:∀x∈l,bV H n d x=some x):bV H n (d+1) (.agg l)=some (.agg l):=by
 rw [bV];simp only [jh l h,zak]
def KP {H:ah}{n d:Nat}{l:List AV}(h:∀x∈l,bV H n d x=some x):bV H n (d+1) (.tup l)=some (.tup l):=by
 rw [bV];simp only [jh l h,zak]
def oh {H:ah}{n d r g off b len cap:Nat}{ex:Bool}{l:List AV}(e:n<=r){cells:List AV}(hc:dH H (.sl r g off b len cap ex)=some cells)(h:cells.mapM (bV H n d)=some l):bV H n (d+1) (.sl r g off b len cap ex)=some (.vs len b l):=by
 rw [bV];simp only [if_neg (zdQ.2 e),hc,h,zak]
def Frz(d:Nat)(x:AV):Prop:=∀H n,bV H n d x=some x
def iD {v:Value}{d:Nat}:Frz (d+1) (.s v):=λ_ _=>jo
def alM {d k m:Nat}{l:List AV}(h:∀x∈l,Frz d x):Frz (d+1) (.vs k m l):=λH n=>ZX λx b=>h x b H n
def ny {d:Nat}{l:List AV}(h:∀x∈l,Frz d x):Frz (d+1) (.agg l):=λH n=>KN λx b=>h x b H n
def vP {d:Nat}{l:List AV}(h:∀x∈l,Frz d x):Frz (d+1) (.tup l):=λH n=>KP λx b=>h x b H n
def aiD {α:Type}{enc:α->List AV}{m d:Nat}{l:List α}(h:∀a,∀x∈enc a,Frz (d+1) x):Frz (d+2) (vsl m enc l):=by
 unfold vsl;split
 ·exact iD
 ·refine alM λx b=>?_;obtain⟨a,_,ha⟩:=za0.1 b;exact h a x ha
def vS {l:List Int}{d:Nat}:Frz (d+2) (dat l):=aiD λa x b=>by
 simp only [ap2,zaU] at b;subst b;exact iD
section
variable {β:Type}{x:Option (AV × ah)}{H:ah}{k:AV->ah->Option β}
def alN:gdA (some (.s (.bool true))) true x H k=bnd x k:=rfl
def alO:gdA (some (.s (.bool true))) false x H k=k bg H:=rfl
def alP:gdA (some (.s (.bool false))) true x H k=k bg H:=rfl
def alQ:gdA (some (.s (.bool false))) false x H k=bnd x k:=rfl
def ate {a b:AV}:cO (.s (.bool true)) a b=some a:=rfl
def atf {a b:AV}:cO (.s (.bool false)) a b=some b:=rfl
end
def ZY {r g o:Nat}:aA (.ref r g o)=some (.ref r g o):=rfl
def agw {l:List AV}:aA (.ip l)=some (.ip l):=rfl
def agx {f:FuncId}{a c:List AV}:aA (.fn (.func f) a c)=some (.fn (.func f) a c):=rfl
def agy {l:List AV}{i:Nat}:aJ (.tup l) i=l[i]?:=rfl
def agz {l:List AV}{o:Nat}:fl (.agg l) o=l[o]?:=rfl
def agB {r g off:Nat}{H:ah}:ld (.ref r g off) H=match H.get r with
  |.blk g' _ cells=>if g'=g then(cells[off]?).map λv=>(v,H) else none
  |.map ..=>none:=by
 simp only [ld,kS,bT,zak,ldO];cases H.get r with
 |map k b=>rfl
 |blk g' d cells=>simp only;split <;> rfl
def Uf {r g off n:Nat}{H:ah}:lda n (.ref r g off) H=match H.get r with
  |.blk g' _ cells=>if g'=g then(if off+n<=cells.length then some (.agg ((cells.drop off).take n),H) else none) else none
  |.map ..=>none:=by
 simp only [lda,kS,bT,zak,ap0];cases H.get r with
 |map k b=>rfl
 |blk g' d cells=>
  simp only;split
  ·split <;> rfl
  ·rfl
def aG {t:TypeId}{l:List AV}{H:ah}(h:l.all AV.aP=true)(b:t<1000000000):gV t (.agg l) H=some (.ref H.next 0 0,H.new (.blk 0 t l)):=VB h b
def agC {t:TypeId}{z:List AV}{H:ah}:alc t z H=some (.ref H.next 0 0,H.new (.blk 0 t z)):=rfl
def agD {k:IntKind}{H:ah}:mkm k H=some (.mp H.next,H.new (.map k [])):=rfl
def leS {a b:Nat}(h:a<=b):a<=b+1:=V
def ltS {a b:Nat}(h:a<b):a<b+1:=V
def eX {H:ah}{o:gu}:(H.new o).next=H.next+1:=Eq.trans rfl rfl
def atg {H:ah}{r:Nat}{o:gu}:(H.put r o).next=H.next:=Eq.trans rfl rfl
def jB {H:ah}{o:gu}:(H.new o).base=H.base:=Eq.trans rfl rfl
def ath {H:ah}{r:Nat}{o:gu}:(H.put r o).base=H.base:=Eq.trans rfl rfl
def Ai {H:ah}:H.guard.next=H.next:=Eq.trans rfl rfl
def ap3 {H:ah}:H.guard.base=H.next:=Eq.trans rfl rfl
def ap4 {H:ah}:H.guard.get=H.get:=Eq.trans rfl rfl
def rE {H:ah}{o:gu}:(H.new o).get H.next=o:=by rw [jA,if_pos rfl]
def aZ {H:ah}{o:gu}{r:Nat}(h:r=H.next):(H.new o).get r=o:=by rw [jA,if_pos h]
def bJ {H:ah}{o:gu}{r:Nat}(h:r<H.next):(H.new o).get r=H.get r:=by rw [jA,if_neg (by omega)]
def Ij {H:ah}{o:gu}{r:Nat}:(H.put r o).get r=o:=by rw [dV,if_pos rfl]
def Nv {n r off:Nat}{v:AV}{H:ah}:st n (.ref r 0 off) v H=match H.get r with
  |.blk g' ty cells=>if g'=0/\H.base<=r/\n=v.cells.length/\v.cells.all AV.aP=true/\off+v.cells.length<=cells.length then some (bg,H.put r (.blk 0 ty (aO cells off v.cells))) else none
  |.map ..=>none:=by
 unfold st;simp only [zaa];cases H.get r <;> rfl
def agE {H:ah}{r off:Nat}{ty:TypeId}{cells:List AV}(h:r=H.next):ld (.ref r 0 off) (H.new (.blk 0 ty cells))=(cells[off]?).map λv=>(v,H.new (.blk 0 ty cells)):=fJ (aZ h)
def Z4 {H:ah}{r off n:Nat}{ty:TypeId}{cells:List AV}(h:r=H.next):lda n (.ref r 0 off) (H.new (.blk 0 ty cells))=if off+n<=cells.length then some (.agg ((cells.drop off).take n),H.new (.blk 0 ty cells)) else none:=by
 split
 ·rename_i b;exact iH (aZ h) b
 ·rename_i b;rw [Uf,aZ h];simp only [if_true,b,if_false]
def Eh {H:ah}{r off:Nat}{o:gu}(h:r<H.next):ld (.ref r 0 off) (H.new o)=(ld (.ref r 0 off) H).map λp=>(p.1,H.new o):=by
 rw [agB,agB,bJ h];cases H.get r with
 |map k b=>rfl
 |blk g d cells=>simp only;split <;> first|rfl|(cases cells[off]? <;> rfl)
def Z5 {H:ah}{r off n:Nat}{o:gu}(h:r<H.next):lda n (.ref r 0 off) (H.new o)=(lda n (.ref r 0 off) H).map λp=>(p.1,H.new o):=by
 rw [Uf,Uf,bJ h];cases H.get r with
 |map k b=>rfl
 |blk g d cells=>simp only;split <;> first|rfl|(split <;> rfl)
def Ik {H:ah}{a b:gu}:(H.new a).put H.next b=H.new b:=by
 unfold ah.put ah.new;simp only
 congr 1
 funext x
 split <;> rfl
def alR {H:ah}{r:Nat}{a b:gu}(h:r<H.next):(H.new a).put r b=(H.put r b).new a:=by
 unfold ah.put ah.new;simp only
 congr 1
 funext x
 split <;> split <;> first|rfl|(exfalso;omega)
def QF {n:Nat}{H:ah}{r off:Nat}{v:AV}{ty:TypeId}{cells:List AV}(h:r=H.next):st n (.ref r 0 off) v (H.new (.blk 0 ty cells))=if H.base<=r/\n=v.cells.length/\v.cells.all AV.aP=true/\off+v.cells.length<=cells.length then some (bg,H.new (.blk 0 ty (aO cells off v.cells))) else none:=by
 subst h;rw [Nv,aZ rfl];simp only [true_and,jB,Ik]
def QG {n:Nat}{H:ah}{r off:Nat}{v:AV}{o:gu}(h:r<H.next):st n (.ref r 0 off) v (H.new o)=(st n (.ref r 0 off) v H).map λp=>(p.1,p.2.new o):=by
 rw [Nv,Nv,bJ h];cases H.get r with
 |map k b=>rfl
 |blk g d cells=>
  simp only [jB];split
  ·simp only [zak,alR h]
  ·rfl
def agF {r off n:Nat}{v:AV}{ty:TypeId}{xs:List AV}{H:ah}(h:H.get r=.blk 0 ty xs)(hb:H.base<=r)(hv:v.cells.all AV.aP=true)(b:v.cells.length=n)(d:off+n<=xs.length):st n (.ref r 0 off) v H=some (bg,H.put r (.blk 0 ty (aO xs off v.cells))):=by
 show(match H.get r with
  |.blk g' ty cells=>if g'=0/\H.base<=r/\some n=some v.cells.length/\v.cells.all AV.aP=true/\off+v.cells.length<=cells.length then some (bg,H.put r (.blk 0 ty (aO cells off v.cells))) else none
  |.map ..=>none)=_
 rw [h];simp only;rw [if_pos ⟨trivial,hb,by rw [b],hv,V⟩]
def eu {b:Nat->Option (Nat × Nat)}{z:List AV}:fK b z []=some z:=rfl
def Il {b:Nat->Option (Nat × Nat)}{z:List AV}{i off:Nat}{v:AV}{ps:List (Nat × AV)}(d:b i=some (off,1))(hv:v.cells=[v])(e:off<z.length):fK b z ((i,v)::ps)=fK b (z.set off v) ps:=by
 rw [fK];simp only [d,hv,zal,zao];rw [if_pos ⟨trivial,V⟩,QC e]
def Io {e m:Nat}{z:List AV}{H:ah}:bsl e m z 0 [] H=some (.sl H.next 0 0 m 0 0 true,H.new (.blk 0 e [])):=rfl
def kZ {e m:Nat}{z:List AV}{v:AV}{H:ah}(b:z.length=m)(hv:v.cells.length=m)(hc:v.cells.all AV.aP=true):bsl e m z 1 [(0,v)] H=some (.sl H.next 0 0 m 1 1 true,H.new (.blk 0 e v.cells)):=by
 have d:(dN z 1).length=m:=by simp [dN,b]
 unfold bsl;rw [fK];simp only [zbD,hv,d,za6,zac,and_self,if_true,fK];have:aO (dN z 1) 0 v.cells=v.cells:=by
  simp only [aO,zdG,zaM,za6];rw [zaV V,zbm]
 rw [this,if_pos hc]
def kN {e m n:Nat}{l:List AV}{H:ah}{ex:Bool}(h:l.length=n*m):aN (H.new (.blk 0 e l)) (.sl H.next 0 0 m n n ex) m n l:=
 ⟨h,rfl,rfl,⟨by rw [eX];omega,zac _⟩,e,l,by simp [jA],V,by rw [zaS,zaw V]⟩
def xG {e m by_ r n ty:Nat}{y:AV}{cells:List AV}{H:ah}(d:H.get r=.blk 0 ty [])(b:aN H y m n cells)(hc:cells.all AV.aP=true)(g:n≠0)(k:n<=most)(h:n*by_<=most):
  app e m by_ (.sl r 0 0 m 0 0 true) y H=some (.sl H.next 0 0 m n n false,H.new (.blk 0 (e+iC) cells)):=by
 obtain⟨i,j⟩:=b.zf;simp only [app,i,j];unfold dZ;rw [if_pos ⟨b.1,hc⟩];simp only [d];rw [if_pos ⟨trivial,trivial,O⟩,if_neg g,if_neg V,if_pos ⟨V,by rw [za6];exact h⟩];simp
def Nw {e m by_ n:Nat}{y:AV}{cells:List AV}{H:ah}(b:aN H y m n cells)(hc:cells.all AV.aP=true)(d:n≠0)(g:n<=most)(h:n*by_<=most):
  app e m by_ zN y H=some (.sl H.next 0 0 m n n false,H.new (.blk 0 (e+iC) cells)):=by
 obtain⟨i,j⟩:=b.zf;simp only [app,i,j];unfold dZ;rw [if_pos ⟨b.1,hc⟩];simp only;rw [if_neg d,if_pos ⟨g,h⟩]
def yw {P:Program}{t e:TypeId}{n m:Nat}{l:List AV}(h:P.underlying t=some (.slice e)):qH P .eql t (.vs n m l) (.s (.slice none 0 0))=some (B false):=by
 simp [qH,AV.val?,PU,h]
def KQ {P:Program}{t e:TypeId}{r g o m n c:Nat}{ex:Bool}(h:P.underlying t=some (.slice e)):qH P .eql t (.sl r g o m n c ex) (.s (.slice none 0 0))=some (B false):=by
 simp [qH,AV.val?,PU,h]
def uF {P:Program}{C:aF}{f:FuncId}{a c args:List AV}{H:ah}(h:nO P f=true):tJ P C (.fn (.func f) a c) args H=C f (a++args++c) H:=adK h
def wrap_i64 {a:Int}(b:-9223372036854775808<=a)(d:a<=9223372036854775807):IntKind.wrap .i64 a=a:=akY b d
def xq_:(type_of% @afU)/\(type_of% @ak6)/\(type_of% @Vx)/\(type_of% @ZR)/\(type_of% @KG)/\(type_of% @Hw)/\(type_of% @Qp)/\(type_of% @decide_true)/\
 (type_of% @decide_false)/\(type_of% @alN)/\(type_of% @alO)/\(type_of% @alP)/\(type_of% @alQ)/\(type_of% @VD)/\
 (type_of% @Qr)/\(type_of% @Vz)/\(type_of% @Option.map_some.{0,0})/\(type_of% @Option.bind_some.{0,0})/\(type_of% @sH)/\(type_of% @zK)/\
 (type_of% @ZY)/\(type_of% @agw)/\(type_of% @agx)/\(type_of% @agy)/\(type_of% @agz)/\(type_of% @List.getElem?_cons_zero.{0})/\
 (type_of% @List.getElem?_cons_succ.{0})/\(type_of% @Nat.zero_add)/\(type_of% @Nat.add_zero)/\(type_of% @ate)/\(type_of% @atf)/\(type_of% @ZB)/\
 (type_of% @ZC)/\(type_of% @TV)/\(type_of% @Nh)/\(type_of% @ZE)/\(type_of% @ZF)/\(type_of% @VA)/\
 (type_of% @beq_self_eq_true.{0})/\(type_of% @if_true.{1})/\(type_of% @Bool.false_eq_true)/\(type_of% @if_false.{1})/\(type_of% @List.nil_append.{0})/\(type_of% @List.cons_append.{0})/\
 (type_of% @List.append_nil.{0})/\(type_of% @agC)/\(type_of% @agD)/\(type_of% @eX)/\(type_of% @atg)/\(type_of% @jB)/\
 (type_of% @ath)/\(type_of% @Ai)/\(type_of% @ap3):=
 ⟨@afU,@ak6,@Vx,@ZR,@KG,@Hw,@Qp,@decide_true,@decide_false,@alN,@alO,@alP,@alQ,@VD,@Qr,@Vz,@Option.map_some.{0,0},@Option.bind_some.{0,0},@sH,@zK,@ZY,@agw,@agx,@agy,@agz,@List.getElem?_cons_zero.{0},@List.getElem?_cons_succ.{0},@Nat.zero_add,@Nat.add_zero,@ate,@atf,@ZB,@ZC,@TV,@Nh,@ZE,@ZF,@VA,@beq_self_eq_true.{0},@if_true.{1},@Bool.false_eq_true,@if_false.{1},@List.nil_append.{0},@List.cons_append.{0},@List.append_nil.{0},@agC,@agD,@eX,@atg,@jB,@ath,@Ai,@ap3⟩
def hq_:(type_of% @agE)/\(type_of% @Eh)/\(type_of% @Z4)/\(type_of% @Z5)/\(type_of% @QF)/\(type_of% @QG)/\
 (type_of% @Nat.lt_add_one)/\(type_of% @ne_eq.{1})/\(type_of% @nx1)/\(type_of% @nx2)/\(type_of% @nx3)/\(type_of% @ny1)/\
 (type_of% @ny2)/\(type_of% @ny3)/\(type_of% @not_false_eq_true)/\(type_of% @List.length_cons.{0})/\(type_of% @List.length_nil.{0})/\(type_of% @List.take_succ_cons.{0})/\
 (type_of% @List.take_zero.{0})/\(type_of% @List.drop_succ_cons.{0})/\(type_of% @List.drop_zero.{0})/\(type_of% @Ig)/\(type_of% @Qs)/\(type_of% @Ku)/\
 (type_of% @fA)/\(type_of% @List.all_cons.{0})/\(type_of% @List.all_nil.{0})/\(type_of% @iP)/\(type_of% @kW)/\(type_of% @oW)/\
 (type_of% @Kv)/\(type_of% @Kw)/\(type_of% @KL)/\(type_of% @Ih)/\(type_of% @KI)/\(type_of% @bZ)/\
 (type_of% @eP)/\(type_of% @CX)/\(type_of% @dW)/\(type_of% @CY)/\(type_of% @Ie)/\(type_of% @KJ)/\
 (type_of% @agp)/\(type_of% @QE)/\(type_of% @agq)/\(type_of% @ags)/\(type_of% @agt)/\(type_of% @agu)/\
 (type_of% @ZW)/\(type_of% @agv)/\(type_of% @fD)/\(type_of% @aU)/\(type_of% @oZ)/\(type_of% @Ii)/\
 (type_of% @lN)/\(type_of% @Ns)/\(type_of% @bG)/\(type_of% @zQ)/\(type_of% @List.drop_nil.{0})/\(type_of% @Bool.and_true)/\
 (type_of% @Bool.and_self)/\(type_of% @and_self)/\(type_of% @Nat.le_refl)/\(type_of% @true_and)/\(type_of% @and_true)/\(type_of% @Nat.le_add_right)/\
 (type_of% @leS)/\(type_of% @ltS):=
 ⟨@agE,@Eh,@Z4,@Z5,@QF,@QG,@Nat.lt_add_one,@ne_eq.{1},@nx1,@nx2,@nx3,@ny1,@ny2,@ny3,@not_false_eq_true,@List.length_cons.{0},@List.length_nil.{0},@List.take_succ_cons.{0},@List.take_zero.{0},@List.drop_succ_cons.{0},@List.drop_zero.{0},@Ig,@Qs,@Ku,@fA,@List.all_cons.{0},@List.all_nil.{0},@iP,@kW,@oW,@Kv,@Kw,@KL,@Ih,@KI,@bZ,@eP,@CX,@dW,@CY,@Ie,@KJ,@agp,@QE,@agq,@ags,@agt,@agu,@ZW,@agv,@fD,@aU,@oZ,@Ii,@lN,@Ns,@bG,@zQ,@List.drop_nil.{0},@Bool.and_true,@Bool.and_self,@and_self,@Nat.le_refl,@true_and,@and_true,@Nat.le_add_right,@leS,@ltS⟩
def sK(g g':bD):Prop:=∀q cs,g q=some cs->g' q=some cs
def sK.refl(g:bD):sK g g:=λ_ _ h=>h
def sK.more {g g':bD}(h:sK g g'){n:Nat}(d:g n=none)(c:List Cell):sK g (upd g' n c):=λq cs b=>by
 rw [bn (λe=>by rw [e,d] at b;cases b)];exact h q cs b
def sK.both {g g':bD}(h:sK g g')(n:Nat)(c:List Cell):sK (upd g n c) (upd g' n c):=λq cs b=>by
 by_cases e:q=n
 ·subst e;rw [aQ] at b ⊢;exact b
 ·rw [bn e] at b ⊢;exact h q cs b
def AQ {g:bD}{q n:Nat}{c:List Cell}(h:g n=none)(b:n≠q):upd g q c n=none:=by rw [bn b];exact h
section
variable {b:Nat}{H H':ah}{g:bD}{q:Nat}{cs:List Cell}
def Cur.length {i m n:Nat}{x:AV}{l:List AV}(c:Cur b H q i x m l)(hm:0<m)(d:l.length=n*m):(x=zN/\n=0)∨∃r g off cap ex ty all,x=.sl r g off m n cap ex/\r≠q/\b<=r/\r<H.next/\n<=cap/\H.get r=.blk g ty all/\off+cap*m<=all.length/\all.all AV.aP=true/\l=(all.drop off).take (n*m):=by
 rcases c.own with⟨rfl,rfl⟩|⟨r,g,off,n',cap,ex,ty,all,rfl,k1,e,j,k4,k,o,p,rfl⟩
 ·left;simp only [zao] at d;refine⟨rfl,?_⟩;rcases zdb.1 d.symm with h|h <;> omega
 ·right;have u:n'*m<=cap*m:=zaD _ k4;rw [zau,zaR,zbo V] at d;have:n'=n:=zbR hm d;subst this;exact⟨r,g,off,cap,ex,ty,all,rfl,k1,e,j,k4,k,o,p,rfl⟩
def alS {r gg off m len cap:Nat}{ex:Bool}{k1 k2:IntKind}{lo hi:Int}(h0:0<=lo)(d:lo<=hi)(e:hi<=cap):slS m (.sl r gg off m len cap ex) (some (.s (.int k1 lo))) (some (.s (.int k2 hi))) none=some (.sl r gg (off+lo.toNat*m) m (hi.toNat-lo.toNat) (cap-lo.toNat) ex):=by
 have b:0<=hi:=V
 simp only [slS,ji,h0,b,if_true,isNone,zaf,zdL];rw [if_pos ⟨trivial,V,V,V,O⟩]
def VP {r gg off m len cap:Nat}{ex:Bool}{k2:IntKind}{hi:Int}(h0:0<=hi)(b:hi<=cap):slS m (.sl r gg off m len cap ex) none (some (.s (.int k2 hi))) none=some (.sl r gg off m hi.toNat cap ex):=by
 simp only [slS,ji,h0,if_true,isNone,zaf,zdL];rw [if_pos ⟨trivial,V,V,V,O⟩];simp
def Fh {r gg off m len cap:Nat}{ex:Bool}{k1:IntKind}{lo:Int}(h0:0<=lo)(b:lo<=len)(d:len<=cap):slS m (.sl r gg off m len cap ex) (some (.s (.int k1 lo))) none none=some (.sl r gg (off+lo.toNat*m) m (len-lo.toNat) (cap-lo.toNat) ex):=by
 simp only [slS,ji,h0,if_true,isNone,zaf,zdL];rw [if_pos ⟨trivial,V,V,V,O⟩]
def aiE {r gg off m len cap:Nat}{ex:Bool}{k1 k2 d:IntKind}{lo hi b:Int}(h0:0<=lo)(h:lo<=hi)(i:hi<=b)(j:b<=cap):slS m (.sl r gg off m len cap ex) (some (.s (.int k1 lo))) (some (.s (.int k2 hi))) (some (.s (.int d b)))=some (.sl r gg (off+lo.toNat*m) m (hi.toNat-lo.toNat) (b.toNat-lo.toNat) true):=by
 have e:0<=hi:=V
 have g:0<=b:=V
 simp only [slS,ji,h0,e,g,if_true,isNone,zam,Bool.or_true];rw [if_pos ⟨trivial,V,V,V,O⟩]
def yx {z:List AV}(h:z.all AV.aP=true):∀n,(dN z n).all AV.aP=true
 |0=>rfl
 |n+1=>by rw [dN,zbj,h,yx h n];rfl
def VQ {i m n:Nat}{x:AV}{l z:List AV}(c:Cur b H q i x m l)(hb:H.base<=b)(hm:0<m)(hl:l.length=n*m)(hn:n<1000000000){j:Nat}(hj:j<n)(Q:z.length=m)(o:z.all AV.aP=true){e:TypeId}{by_:Nat}(aa:by_<1000):
  ∃y R T C H1 W u,slS m x (some (I j)) (some (I (j+1))) (some (I n))=some y/\slS m x none (some (I j)) none=some R/\slS m x (some (I (j+1))) none none=some T/\app e m by_ R T H=some (C,H1)/\
   lnS C H1=some (I ((n:Int)-1),H1)/\slS m C (some (I ((n:Int)-1))) (some (I n)) none=some W/\clr m z W H1=some (.tup [],u)/\
   Fit H u x C m (l.take (j*m)++l.drop ((j+1)*m))/\u.next=H.next/\u.base=H.base/\∀r,iK x≠some r->u.get r=H.get r:=by
 rcases c.length hm hl with⟨_,D⟩|⟨r,gg,off,cap,ex,k,all,rfl,k1,k2,k3,k4,E,k6,F,rfl⟩
 ·omega
 have ab:(j+1)*m<=n*m:=zaD _ hj;have ad:n*m<=cap*m:=zaD _ k4;have ae:(j+1)*m=j*m+m:=zbM j m;have af:(n-(j+1))*m=n*m-(j+1)*m:=Nat.sub_mul n (j+1) m;have ag:(n-1)*m=n*m-m:=by rw [Nat.sub_mul,zbh]
 let new:=(all.drop (off+(j+1)*m)).take ((n-(j+1))*m);have h:new.length=(n-(j+1))*m:=by simp only [new];rw [zau,zaR];omega
 let d:=aO all (off+j*m) new;have v:d.length=all.length:=oV V;let g:=aO d (off+(n-1)*m) (dN z 1);have ai:(dN z 1).length=m:=by simp [dN,Q]
 have al:g.length=all.length:=by rw [oV V];exact v
 have G:d.all AV.aP=true:=xF F (Fe (AP F _) _) _;have K:g.all AV.aP=true:=xF G (yx o 1) _;have w:app e m by_ (.sl r gg off m j cap ex) (.sl r gg (off+(j+1)*m) m (n-(j+1)) (cap-(j+1)) ex) H=some (.sl r gg off m (n-1) cap ex,H.put r (.blk gg k d)):=by
  have hs:dH H (.sl r gg (off+(j+1)*m) m (n-(j+1)) (cap-(j+1)) ex)=some new:=by
   simp only [dH,E];rw [if_pos ⟨trivial,V⟩]
  simp only [app,kL,hs];unfold dZ;rw [if_pos ⟨h,Fe (AP F _) _⟩];simp only [E];rw [if_pos ⟨trivial,trivial,V⟩];by_cases D:n-(j+1)=0
  ·rw [if_pos D];have L:new=[]:=zat (by rw [h,D,zbD]);have:d=all:=by
    simp only [d,L,aO,zaM,zao,zbr,zcu]
   rw [this,show j=n-1 by omega]
   congr 2
   ·unfold ah.put;have:(λx=>if x=r then gu.blk gg k all else H.get x)=H.get:=by
     funext x
     split
     ·rename_i e;rw [e,E]
     ·rfl
    rw [this]
  ·rw [if_neg D,if_pos V,if_pos ⟨V,by
    have:(j+(n-(j+1)))*m<=cap*m:=zaD _ V;omega⟩]
   rw [show j+(n-(j+1))=n-1 by omega]
 refine⟨_,.sl r gg off m j cap ex,.sl r gg (off+(j+1)*m) m (n-(j+1)) (cap-(j+1)) ex,.sl r gg off m (n-1) cap ex,H.put r (.blk gg k d),.sl r gg (off+(n-1)*m) m 1 (cap-(n-1)) ex,(H.put r (.blk gg k d)).put r (.blk gg k g),aiE V V V V,?_,?_,w,?_,?_,?_,.inr ⟨r,gg,off,n-1,cap,ex,k,g,rfl,.inl rfl,k3,V,by simp [dV],V,K,?_⟩,rfl,rfl,?_⟩
 ·exact VP V V
 ·have:=Fh (r:=r) (gg:=gg) (off:=off) (m:=m) (len:=n) (cap:=cap) (ex:=ex) (k1:=.i64) (lo:=(j:Int)+1) V V  k4;rw [show((j:Int)+1).toNat=j+1 by omega] at this;exact this
 ·simp only [lnS,kS,aqx,zak]
  congr 5
  omega
 ·have:=alS (r:=r) (gg:=gg) (off:=off) (m:=m) (len:=n-1) (cap:=cap) (ex:=ex) (k1:=.i64) (k2:=.i64) (lo:=(n:Int)-1) (hi:=n) V V V;rw [show((n:Int)-1).toNat=n-1 by omega,show(n:Int).toNat=n by omega,show n-(n-1)=1 by omega] at this;exact this
 ·simp only [clr,Nat.one_ne_zero,if_false,dV,if_true];rw [if_pos ⟨trivial,trivial,by rw [adL];omega,Q,o,by rw [v];omega⟩]
 ·-- what is there then
  apply zbb
  intro p;have A:((all.drop off).take (n*m)).length=n*m:=by rw [zau,zaR];omega
  rcases zaQ p (j*m) with X|X
  ·rw [zaJ (by rw [zau];omega),zaB,if_pos X,zaB,if_pos V,zaB,if_pos V,zaF,zaF];rw [nZ V,if_neg V,nZ V,if_neg V]
  ·rw [za3 (by rw [zau];omega),zau,A,zbo V,zaF];rcases zaQ p ((n-1)*m) with h2|h2
   ·rw [zaB,if_pos V,zaF,zaB,if_pos h2,zaF];rw [nZ V,if_neg V,nZ V,if_pos V];simp only [new];rw [zaB,if_pos V,zaF]
    congr 1;omega
   ·rw [zaG (by rw [A];omega),zaG (by rw [zau,zaR];omega)]
 ·intro r' M;have:r'≠r:=λe=>M (by rw [e];rfl);rw [dV,if_neg this,dV,if_neg this]
def Z7 {e m by_:Nat}{z:List AV}{n:Int}{H:ah}(b:z.length=m)(hc:z.all AV.aP=true)(h0:0<=n)(d:n<=1000000)(hb:by_<=1000):mks e m by_ z (I n) (I n) H=some (.sl H.next 0 0 m n.toNat n.toNat true,H.new (.blk 0 e (dN z n.toNat))):=by
 have g:(by_:Int)*n<=140737488355328:=by
  have:(by_:Int)*n<=1000*1000000:=zbN V d h0 V;omega
 simp only [mks];rw [if_pos ⟨b,hc,h0,za2 _,V,g⟩]
def lF {v:AV}:∀n,dN [v] n=List.replicate n v
 |0=>rfl
 |n+1=>by rw [dN,lF n];rfl
def aN.from_ {x:AV}{m n:Nat}{cells:List AV}(h:aN H x m n cells){k:IntKind}{lo:Int}(h0:0<=lo)(o:lo<=n):∃y,slS m x (some (.s (.int k lo))) none none=some y/\aN H y m (n-lo.toNat) (cells.drop (lo.toNat*m)):=by
 obtain⟨i,h⟩:=h;have p:lo.toNat*m<=n*m:=zaD _ V;have d:(n-lo.toNat)*m=n*m-lo.toNat*m:=Nat.sub_mul n lo.toNat m;cases x with
 |sl r g off e len q ex=>
  obtain⟨rfl,rfl,⟨u,hc⟩,w,all,z,j,A⟩:=h;refine⟨_,Fh h0 o hc,by rw [zaR,i,d],rfl,rfl,⟨u,V⟩,w,all,z,by rw [d];omega,?_⟩;rw [A,zcp,zbL,d]
 |vs k' e cs=>
  obtain⟨rfl,rfl,rfl⟩:=h;refine⟨.vs (k'-lo.toNat) e ((cs.drop (lo.toNat*e)).take ((k'-lo.toNat)*e)),?_,by rw [zaR,i,d],rfl,rfl,?_⟩
  ·simp only [slS,ji,h0,if_true];rw [if_pos ⟨trivial,V,V⟩]
  ·rw [zaw (by rw [zaR,i,d];exact zac _)]
 |s v=>
  cases v with
  |slice a b c=>
   cases a with
   |none=>
    obtain⟨rfl,rfl,rfl⟩:=h;have j:lo=0:=V
    subst j;refine⟨zN,by simp [slS,ji],?_,rfl,rfl,rfl⟩
    simpa using i
   |some a=>exact h.elim
  |_=>exact h.elim
 |_=>exact h.elim
def alU {r g off m len cap ty n:Nat}{ex:Bool}{cells new:List AV}{y:AV}(hx:H.get r=.blk g ty cells)(hb:H.base<=r)(hl:off+len*m<=cells.length)(hy:aN H y m n new)(hc:new.all AV.aP=true):
  ∃H',cpy m (.sl r g off m len cap ex) y H=some (I ((min n len:Nat):Int),H')/\H'.get r=.blk g ty (aO cells off (new.take (min n len*m)))/\(∀r',r'≠r->H'.get r'=H.get r')/\H'.next=H.next/\H'.base=H.base:=by
 obtain⟨c1,c2⟩:=hy.zf;have c3:=hy.1;have s1:kL (AV.sl r g off m len cap ex)=some len:=rfl;simp only [cpy,s1,c1,c2];rw [if_pos ⟨c3,hc⟩];by_cases hk:min n len=0
 ·refine⟨H,by rw [if_pos hk,hk];rfl,?_,λ_ _=>rfl,rfl,rfl⟩;rw [hx,hk,zbD,zdG];simp only [aO,zaM,zao,zbr,zcu]
 ·rw [if_neg hk];simp only [hx];rw [if_pos ⟨trivial,trivial,hb,hl⟩];exact⟨_,rfl,by rw [dV,if_pos rfl],λr' hr=>by rw [dV,if_neg hr],rfl,rfl⟩
end
def jC {α:Type}:List (Int × α)->Int->Option α
 |[],_=>none
 |(k,v)::l,n=>if k=n then some v else jC l n
def mM {α:Type}:List (Int × α)->Int->α->List (Int × α)
 |[],n,x=>[(n,x)]
 |(k,v)::l,n,x=>if k=n then(n,x)::l else(k,v)::mM l n x
def yU {α:Type}:List (Int × α)->Int->List (Int × α)
 |[],_=>[]
 |(k,v)::l,n=>if k=n then l else(k,v)::yU l n
section
variable {α:Type}(f:α->AV)
def Z8(l:List (Int × α)):List (Int × AV):=l.map λe=>(e.1,f e.2)
def yA:∀(l:List (Int × α)) (n:Int),qY (Z8 f l) n=(jC l n).map f
 |[],_=>rfl
 |(k,v)::l,n=>by
  simp only [Z8,zax,qY,jC];by_cases h:k=n
  ·simp [h]
  ·simp only [h,if_false];exact yA l n
def Ip:∀(l:List (Int × α)) (n:Int) (x:α),L6 (Z8 f l) n (f x)=Z8 f (mM l n x)
 |[],_,_=>rfl
 |(k,v)::l,n,x=>by
  simp only [Z8,zax,L6,mM];by_cases h:k=n
  ·simp [h]
  ·simp only [h,if_false,zax,zbU,true_and];exact Ip l n x
def VR:∀(l:List (Int × α)) (n:Int),Aq (Z8 f l) n=Z8 f (yU l n)
 |[],_=>rfl
 |(k,v)::l,n=>by
  simp only [Z8,zax,Aq,yU];by_cases h:k=n
  ·simp [h]
  ·simp only [h,if_false,zax,zbU,true_and];exact VR l n
end
abbrev ku(n most:Int):Bool:=decide (1<=n) && decide (n<=most)
def Cfg.ok(c:Cfg):Bool:=
 ku c.aB 6 && ku c.aY 8 && ku c.bI 4 && ku c.sets 4 && ku c.ways 3 && ku c.out 8 && ku c.inn 8 && decide ((c.init.length:Int)<=c.aY*c.bI)
def xH(aj by_:Int):Int:=if aj<0 then -1 else aj % by_
def Cfg.bf(c:Cfg)(aj:Int):Int:=xH aj c.aB
def Cfg.kU(c:Cfg):Int:=c.aY*c.bI
def Cfg.bU(c:Cfg)(a:Int):Int:=if a<0∨c.kU<=a then -1 else a / c.bI
def Cfg.dI(c:Cfg)(a:Int):Int:=if a<0∨c.kU<=a then 0 else a % c.bI
def Cfg.first(c:Cfg)(aj:Int):List Int:=
 if aj<0∨c.aY<=aj then [] else(List.range c.bI.toNat).map λi=>c.init.getD ((aj*c.bI).toNat+i) 0
def Cfg.right(c:Cfg)(o:Opn):Bool:=decide (1<=o.aS) && decide (o.aS<=4) && decide (c.bU o.addr≠-1) && (decide (o.value=0) || decide (o.aS=2) || decide (o.aS=3))
def Cfg.vT(c:Cfg)(ps:List (List Opn)):Bool:=(ps.all λl=>decide (l.length<=24) && l.all c.right) && decide ((ps.length:Int)=c.aB)
def qU(k:Int):Bool:=decide (1<=k) && decide (k<=6)
def CZ(k:Int):Int:=if k=1 then 7 else if k=2∨k=4∨k=5 then 8 else if k=3∨k=6 then 9 else 0
def Pkt.ok(p:Pkt):Bool:=
 decide (0<=p.src) && decide (p.src<6) && decide (0<=p.dst) && decide (p.dst<6) && decide (0<=p.id) && decide (p.id<4096) && decide (1<=p.aS) && decide (p.aS<10) && decide (0<=p.aj) && decide (p.aj<8) &&
 decide (-1<=p.ptr) && decide (p.ptr<6) && decide (0<=p.aV) && decide (p.aV<3) && decide (p.data.length<=4)
structure Cache where
 l:List Ent
 sets:Int
 ways:Int
 dh:Int
def Cache.at_(c:Cache)(aj:Int):Option Nat:=c.l.findIdx? λe=>decide (e.aj=aj)
def Cache.pq(c:Cache)(aj:Int):List Ent:=c.l.filter λe=>decide (0<=aj) && decide (e.aj.tmod c.sets=aj.tmod c.sets)
def Cache.find(c:Cache)(aj:Int):Option Ent:=c.l.find? λe=>decide (e.aj=aj)
def Cache.full(c:Cache)(aj:Int):Bool:=(c.find aj).isNone && decide (c.ways<=(c.pq aj).length)
def Cache.put(c:Cache)(e:Ent):Cache × Int:=
 if e.aj<0 then(c,1) else
 match c.at_ e.aj with
 |some i=>({ c with l:=c.l.set i { e with used:=(c.l.getD i .zero).used } },0)
 |none=>if c.full e.aj then(c,5) else({ c with l:=c.l++[{ e with used:=c.dh+1 }],dh:=c.dh+1 },0)
def Cache.drop(c:Cache)(aj:Int):Cache:=
 match c.at_ aj with
 |some i=>{ c with l:=c.l.eraseIdx i }
 |none=>c
def Cache.touch(c:Cache)(aj:Int):Cache:=
 match c.at_ aj with
 |some i=>{ c with l:=c.l.set i { c.l.getD i .zero with used:=c.dh+1 },dh:=c.dh+1 }
 |none=>c
def oq:List Ent->Option Ent
 |[]=>none
 |e::l=>some (l.foldl (λm x=>if x.used<m.used then x else m) e)
def Cache.oJ(c:Cache)(aj:Int):Option Int:=(oq (c.pq aj)).map (·.aj)
structure Turns where
 gG:List (Int × Int)
 wait:List (Int × List (Int × Int))
def Turns.owner(t:Turns)(aj:Int):Int:=(jC t.gG aj).getD (-1)
def Turns.owned(t:Turns)(aj:Int):Bool:=(jC t.gG aj).isSome
def Turns.ws(t:Turns)(aj:Int):List (Int × Int):=(jC t.wait aj).getD []
def Turns.ask(t:Turns)(aj who id:Int):Turns × Bool:=
 if who<0 then(t,false) else
 if t.owned aj || !(t.ws aj).isEmpty then({ t with wait:=mM t.wait aj (t.ws aj++[(who,id)]) },false)
 else({ t with gG:=mM t.gG aj who },true)
def Turns.release(t:Turns)(aj who:Int):Turns × Int:=
 if jC t.gG aj=some who then({ t with gG:=yU t.gG aj },0) else(t,6)
def Turns.next(t:Turns)(aj:Int):Turns × Option (Int × Int):=
 if t.owned aj then(t,none) else
 match t.ws aj with
 |[]=>(t,none)
 |w::ws=>({ gG:=mM t.gG aj w.1,wait:=mM t.wait aj ws },some w)
def Turns.ready(t:Turns)(b:List Int):List Int:=b.filter λaj=>!t.owned aj && !(t.ws aj).isEmpty
abbrev Rows:=List (Int × Row)
def iL(c:Cfg)(dJ:Rows)(aj aV head:Int)(data:List Int):Rows × Int:=
 match jC dJ aj with
 |none=>(dJ,3)
 |some r=>
  if aV<0∨2<aV∨head < -1∨c.aB<=head then(dJ,1)
  else if(decide (head=-1) !=decide (aV=0)) || (decide (data≠[]) && decide ((data.length:Int)≠c.bI)) then(dJ,1)
  else(mM dJ aj ⟨aV,head,if data=[] then r.data else data⟩,0)
structure Home where
 dJ:Rows
 aT:Turns
def jq(dJ:Rows)(aj:Int):Row:=(jC dJ aj).getD .zero
def granted(dJ:Rows)(bF aj who id:Int):Pkt:=⟨7,bF,who,id,aj,(jq dJ aj).head,(jq dJ aj).aV,false,(jq dJ aj).data⟩
def Home.unlock(c:Cfg)(h:Home)(p:Pkt):Home × Int:=
 if h.aT.owner p.aj≠p.src then(h,6) else
 let r:=iL c h.dJ p.aj p.aV p.ptr (if p.flag then p.data else [])
 if r.2=0 then(⟨r.1,(h.aT.release p.aj p.src).1⟩,(h.aT.release p.aj p.src).2) else(h,r.2)
def Home.handle(c:Cfg)(bF:Int)(h:Home)(p:Pkt):Home × Pkt × Bool × Int:=
 if !(p.ok && decide (p.dst=bF) && decide (p.src<c.aB)) || (decide (p.aS≠1) && decide (p.aS≠2)) then(h,.zero,false,1)
 else if c.bf p.aj≠bF∨c.aY<=p.aj then(h,.zero,false,3)
 else if p.aS=1 then
  let a:=h.aT.ask p.aj p.src p.id
  if a.2=true then({ h with aT:=a.1 },granted h.dJ bF p.aj p.src p.id,true,0) else({ h with aT:=a.1 },.zero,false,0)
 else
  let u:=h.unlock c p
  if u.2=0 then(u.1,⟨8,bF,p.src,p.id,p.aj,0,0,false,[]⟩,true,0) else(u.1,.zero,false,u.2)
def fQ(c:Cache)(p:Pkt):Cache × Pkt × Int:=
 if !p.ok || decide (p.aS<3) || decide (6<p.aS) then(c,.zero,1) else
 match c.find p.aj with
 |none=>(c,.zero,2+1)
 |some e=>
  let out:Pkt:=⟨CZ p.aS,p.dst,p.src,p.id,p.aj,0,0,false,[]⟩
  if p.aS=3 then let r:=c.put { e with dn:=false,back:=p.ptr };(r.1,{ out with data:=e.data,flag:=e.dn },r.2)
  else if p.aS=4 then let r:=c.put { e with fwd:=p.ptr };(r.1,out,r.2)
  else if p.aS=5 then let r:=c.put { e with back:=p.ptr };(r.1,out,r.2)
  else(c.drop p.aj,{ out with data:=e.data,flag:=e.dn,ptr:=e.fwd },0)
def bM.begin(aS aj id:Int):bM:=⟨aS,aj,id,1,0,-1,[],-1,-1⟩
def AU(step:Int):Int:=if step=1 then 1 else if step=2 then 3 else if step=3 then 6 else if step=4 then 4 else if step=5 then 5 else if step=6 then 2 else 0
def bM.ask(d:bM)(bF home:Int):Pkt:=
 if d.step=1 then⟨1,bF,home,d.id,d.aj,0,0,false,[]⟩
 else if d.step=2 then⟨3,bF,d.head,d.id,d.aj,bF,0,false,[]⟩
 else if d.step=3 then⟨6,bF,d.next,d.id,d.aj,0,0,false,[]⟩
 else if d.step=4 then⟨4,bF,d.head,d.id,d.aj,d.next,0,false,[]⟩
 else if d.step=5 then⟨5,bF,d.next,d.id,d.aj,d.head,0,false,[]⟩
 else if d.step=6 then⟨2,bF,home,d.id,d.aj,d.head,d.aV,decide (d.data≠[]),d.data⟩
 else .zero
def bM.fits(d:bM)(p:Pkt):Bool:=
 decide (CZ (AU d.step)≠0) && decide (p.aS=CZ (AU d.step)) && decide (p.id=d.id) && decide (p.aj=d.aj)
abbrev Nxt:=Cache × bM × Bool
def wQ(c:Cache):Nxt:=(c,.zero,false)
def dX(d:bM)(bF:Int)(c:Cache)(p:Pkt):Nxt:=
 if d.aS≠1∨d.fits p=false then wQ c
 else if d.step=1 then
  if p.aV≠0 then(c,{ d with aV:=p.aV,head:=p.ptr,told:=p.ptr,data:=p.data,step:=2 },true)
  else((c.put ⟨-1,-1,d.aj,0,false,p.data⟩).1,{ d with told:=p.ptr,step:=6,aV:=1,head:=bF,data:=[] },true)
 else if d.step=2 then
  ((c.put ⟨d.head,-1,d.aj,0,false,p.data⟩).1,{ d with step:=6,aV:=1,head:=bF,data:=if p.flag then p.data else [] },true)
 else if d.step=6 then(c,{ d with step:=0 },true)
 else wQ c
def dF(d:bM)(bF:Int)(c:Cache):Cache × bM:=
 let d:bM:=match c.find d.aj with
  |some own=>if d.next=bF then { d with next:=own.fwd } else d
  |none=>d
 if d.next≠-1 then(c,{ d with step:=3 })
 else((c.put ⟨-1,-1,d.aj,0,true,d.data⟩).1,{ d with step:=6,aV:=2,head:=bF,data:=[] })
def dY(d:bM)(bF:Int)(c:Cache)(p:Pkt):Nxt:=
 if d.aS≠2∨d.fits p=false then wQ c
 else if d.step=1 then
  let r:=dF { d with aV:=p.aV,head:=p.ptr,told:=p.ptr,data:=(match c.find d.aj with|some own=>own.data|none=>p.data),next:=p.ptr } bF c
  (r.1,r.2,true)
 else if d.step=3 then
  let r:=dF { d with data:=(match c.find d.aj with|some _=>d.data|none=>p.data),next:=p.ptr } bF c
  (r.1,r.2,true)
 else if d.step=6 then(c,{ d with step:=0 },true)
 else wQ c
def gW(d:bM)(c:Cache)(head:Int):Nxt:=(c.drop d.aj,{ d with step:=6,aV:=1,head:=head,data:=[] },true)
def eF(d:bM)(c:Cache)(p:Pkt):Nxt:=
 if d.aS≠3∨d.fits p=false then wQ c
 else if d.step=1 then
  let d:bM:={ d with aV:=p.aV,head:=p.ptr,told:=p.ptr,data:=[],step:=6 }
  match c.find d.aj with
  |none=>(c,d,true)
  |some e=>
   if e.back=-1/\e.fwd=-1 then(c.drop d.aj,{ d with aV:=0,head:=-1,data:=if e.dn then e.data else [] },true)
   else if e.back=-1 then(c,{ d with head:=-1,next:=e.fwd,step:=5 },true)
   else(c,{ d with head:=e.back,next:=e.fwd,step:=4 },true)
 else if d.step=4 then
  if d.next=-1 then gW d c d.told else(c,{ d with step:=5 },true)
 else if d.step=5 then
  if d.head=-1 then gW d c d.next else gW d c d.told
 else if d.step=6 then(c,{ d with step:=0 },true)
 else wQ c
structure Proc where
 ops:List Opn
 bH:List Int
 eG:Bool
def Proc.cur(p:Proc):Option Opn:=p.ops[p.bH.length]?
def Proc.left(p:Proc):Int:=(p.ops.length:Int)-p.bH.length
structure Port where
 rq:List Pkt
 rin:List Pkt
 an:List Pkt
 ain:List Pkt
def Port.sort(p:Port)(req:Bool):List Pkt:=if req then p.rq else p.an
def Port.qo(p:Port)(req:Bool):List Pkt:=if req then p.rin else p.ain
def Port.kP(p:Port)(req:Bool)(l:List Pkt):Port:=if req then { p with rq:=l } else { p with an:=l }
def Port.lG(p:Port)(req:Bool)(l:List Pkt):Port:=if req then { p with rin:=l } else { p with ain:=l }
def Port.zero:Port:=⟨[],[],[],[]⟩
structure Fab where
 out:Int
 inn:Int
 l:List Port
def Fab.is(f:Fab)(bF:Int):Bool:=decide (0<=bF) && decide (bF<f.l.length)
def Fab.port(f:Fab)(bF:Int):Port:=f.l.getD bF.toNat .zero
def Fab.room(f:Fab)(req:Bool):Int:=if req then f.inn else 1
def Fab.put(f:Fab)(bF:Int)(p:Port):Fab:={ f with l:=f.l.set bF.toNat p }
def Fab.send(f:Fab)(p:Pkt):Fab × Int:=
 if !p.ok || !f.is p.src || !f.is p.dst then(f,1) else
 if(f.out:Int)<=((f.port p.src).sort (qU p.aS)).length then(f,5)
 else(f.put p.src ((f.port p.src).kP (qU p.aS) ((f.port p.src).sort (qU p.aS)++[p])),0)
def Fab.jr(f:Fab):List (List Pkt):=f.l.flatMap λp=>[p.rq,p.an]
def Fab.all(f:Fab):List Pkt:=f.l.flatMap λp=>p.rq++p.an
def Fab.under(f:Fab):Nat:=f.all.length
def AX:List Port->Nat->Nat->Option (Nat × Bool × Nat)
 |[],_,_=>none
 |p::l,i,k=>if k<p.rq.length then some (i,true,k) else if k<p.rq.length+p.an.length then some (i,false,k-p.rq.length) else AX l (i+1) (k-(p.rq.length+p.an.length))
def Fab.take(f:Fab)(bF:Int)(req:Bool):Fab × Option Pkt:=
 if f.is bF then
  match(f.port bF).qo req with
  |[]=>(f,none)
  |p::l=>(f.put bF ((f.port bF).lG req l),some p)
 else(f,none)
def Fab.waiting(f:Fab)(bF:Int)(req:Bool):Nat:=if f.is bF then((f.port bF).qo req).length else 0
def Fab.roomOf(f:Fab)(bF:Int)(req:Bool):Int:=if f.is bF then f.out-((f.port bF).sort req).length else 0
open Go.ChangeShapes Go.WideShapes Go.ChangeAt Go.RowKit
abbrev ρ0:Ren:=λ_=>none
abbrev G0:Nat->Nat:=λ_=>0
def Z9 {w:World}(d:adb ρ0 w):Rel ρ0 ah.empty w:=⟨λr _=>⟨rfl,rfl⟩,λr b e h=>(by cases h),λr r' b e g h=>(by cases h),d⟩
def aac {P:Program}{L:Pol}(i:XK P L)(hm:P.follows .mixedOrders=true){k:FuncId}{xs:List AV}{b:Bool}{H':ah}(h:callω P L k xs ah.empty=some (.s (.bool b),H')){W:World}{args:Array Value}(j:adb ρ0 W)(ha:RVs ρ0 G0 W xs args.toList):
  Calls P k args W λe m=>e=.returned (.bool b)/\Below W.heap.size W m:=by
 refine((callω_ok i hm).1 k xs _ _ H' h ρ0 W args (Z9 j) ha).mono λe w' o=>?_;obtain⟨cv,ρ',rfl,_,g,d⟩:=o;simp only [RV] at g;subst g;exact⟨rfl,d.os,d.tape,d.output,d.size,λk hk=>d.frame k hk λr p h=>(by cases h)⟩
section
variable {H:Type}{enc:TypeId × Value->H}{P:Program}
def AY(m:laidOutB P=true){W o:World}(hb:Below W.heap.size W o):∀{g:List TypeId} {vs:List Value} {i:List (DataW H)} {ps:List MemPlace},g.all (λt=>P.readableRec t && decide (t<P.types.size))=true->
  DataW.TrodAll enc P W 0 (λ_=>true) true g vs i ps->(∀x∈ps,x.block<W.heap.size)->DataW.TrodAll enc P o 0 (λb=>decide (b<W.heap.size)) true g vs i ps
 |[],vs,i,ps,_,h,_=>by
  obtain⟨rfl,rfl,rfl⟩:=trodAll_nil h;exact trodAll_mk0
 |t::g,vs,i,ps,j,h,e=>by
  simp only [zcK,zah,decide_eq_true_eq] at j;obtain⟨v,u,d,w,p,q,rfl,rfl,rfl,y,z⟩:=trodAll_cons h;exact⟨p,q,Below.trod m j.1.1 j.1.2 y hb λx k=>e x (by simp [k]),AY m hb (by simpa using j.2) z λx k=>e x (by simp [k]),rfl⟩
def aad {f:Func}{s:ChangeSpec}{W j:World}{args:Array Value}{d o:List (DataW H)}{b:List MemPlace}{k:TypeId}(u:laidOutB P=true)
  (v:f.params.toList.all (λt=>P.readableRec t && decide (t<P.types.size))=true) (w:f.resultTypes=#[k]) (hb:P.underlying k=some .bool)
  (g:DataW.Whole enc P f.params.toList s.vars false W args.toList d o b) (hv:s.vars=[])
  (y:(s.fn H d).results=[.lit (.bool true)]) (z:(s.fn H d).args=d) (A:(s.fn H d).vars=[]) (B:Below W.heap.size W j):
  s.post enc P f false true false false W args (.bool true) j:=by
 have e:∀x∈b,x.block<W.heap.size:=λx C=>g.lt x C;have i:=g;obtain⟨p,q,D,m,rfl,_,_⟩:=g;rw [hv] at m;obtain⟨rfl,rfl⟩:=trodVars_none m;rw [zbm] at e;refine⟨d,[],p++[],[],p,[],i,?_,?_,?_,B.frame _,λh=>by cases h⟩
 ·rw [zbm,y,w];exact trodAll_mk1 (shut_bool hb true)
 ·rw [zbm,z];exact AY u B v D e
 ·rw [zbm,A,hv];exact rfl
def Ei {W:World}{k:IntKind}{n:Int}:RV ρ0 G0 W (.s (.int k n)) (.int k n):=by simp [RV]
def zS {W:World}{x:AV}{v:Value}{xs:List AV}{vs:List Value}(h:RV ρ0 G0 W x v)(b:RVs ρ0 G0 W xs vs):RVs ρ0 G0 W (x::xs) (v::vs):=by
 simp only [RVs];exact⟨v,vs,rfl,h,b⟩
def ati {W:World}:RVs ρ0 G0 W [] []:=by simp only [RVs]
def ints(ks:List IntKind)(zs:List Int):List AV:=List.zipWith (λk z=>.s (.int k z)) ks zs
def Ug(ks:List IntKind)(zs:List Int):List Value:=List.zipWith (λk z=>.int k z) ks zs
def aae(P:Program)(e:TypeId)(ks:List IntKind):Prop:=
 ∀{H:Type} {enc:TypeId × Value->H} {W:World} {base:Nat} {g:Nat->Bool} {b:Bool} {n:Nat} {cs:List Value} {y:DataW H × List MemPlace},DataW.trod enc P W base g b n e cs=some y->
  ∃d:List Int,d.length=ks.length/\cs=Ug ks d/\∀(i:Nat) (k:IntKind) (z:Int),ks[i]?=some k->d[i]?=some z->(Lit.int k z).wf=true
def VT {e:TypeId}{k:IntKind}(j:P.underlying e=some (.int k)):aae P e [k]:=by
 intro H enc W base m d n cs y h;obtain⟨z,rfl,rfl,hw⟩:=DataW.trod_int j h;refine⟨[z],rfl,rfl,λi k' o b g=>?_⟩;cases i with
 |zero=>simp at b g;subst b;subst g;exact hw
 |succ i=>simp at b
def zT {ks:List IntKind}{zs:List Int}(h:zs.length=ks.length):(ints ks zs).length=ks.length:=by
 simp [ints,h]
def VU {W:World}:∀(ks:List IntKind) (zs:List Int),RVs ρ0 G0 W (ints ks zs) (Ug ks zs)
 |[],zs=>by simp [ints,Ug,RVs]
 |k::ks,[]=>by simp [ints,Ug,RVs]
 |k::ks,z::zs=>by
  simp only [ints,Ug,List.zipWith_cons_cons,RVs];exact⟨_,_,rfl,Ei,VU ks zs⟩
def aqI:Value->Int
 |.int _ n=>n
 |_=>0
def Uh {e:TypeId}{fs:Array Field}{ks:List IntKind}(w:P.underlying e=some (.struct fs))(hc:P.cellsOf e=ks.length)(F:fs.size=ks.length)
  (A:∀(i:Nat) (f:Field) (k:IntKind),fs[i]?=some f->ks[i]?=some k->P.underlying f.type=some (.int k)/\f.offset=i/\P.cellsOf f.type=1):aae P e ks:=by
 intro H enc W base G v n cs y h;obtain⟨xs,m,rfl,rfl,C,K,D⟩:=DataW.trod_struct w h;have b:∀(i:Nat) (k:IntKind),ks[i]?=some k->∃z,cs[i]?=some (.int k z)/\(Lit.int k z).wf=true:=by
  intro i k hk;have hi:i<ks.length:=(zae.1 hk).1;have g:fs[i]?=some (fs[i]' V):=zbF _;obtain⟨o,p,E⟩:=A i _ k g hk;have j:=D i _ g;have q:xs[i]?=some (xs[i]' V):=zab _;rw [q,p,E] at j;obtain⟨z,d,_,hw⟩:=DataW.trod_int o j;refine⟨z,?_,hw⟩;have:((cs.drop i).take 1)[0]?=some (.int k z):=by rw [d];rfl
  rw [zaB,if_pos V,zaF,zbr] at this;exact this
 refine⟨cs.map aqI,by rw [zaE,C,hc],?_,λi k z hk d=>?_⟩
 ·apply zbb
  intro i;rcases zaQ i ks.length with hi|hi
  ·obtain⟨z,d,_⟩:=b i _ (zab hi);simp [Ug,zdw,d,zab hi,aqI]
  ·have o:cs[i]?=none:=zaG V;have p:ks[i]?=none:=zaG hi;simp [Ug,zdw,o,p]
 ·obtain⟨L,u,hw⟩:=b i k hk;rw [zaH,u] at d;simp [aqI] at d;rw [<-d];exact hw
structure aaf(ks:List IntKind)(av:AV)(l:List (List Int)):Prop where
 is:aN ah.empty av ks.length l.length (l.flatMap (ints ks))
 len:∀zs∈l,zs.length=ks.length
 wf:∀zs∈l,∀(i:Nat) (k:IntKind) (z:Int),ks[i]?=some k->zs[i]?=some z->(Lit.int k z).wf=true
def zU {ks:List IntKind}:∀{l:List (List Int)},(∀zs∈l,zs.length=ks.length)->(l.flatMap (ints ks)).length=l.length*ks.length
 |[],_=>by simp
 |zs::l,h=>by
  rw [zaC,zaq,zT (h zs O),zU λz b=>h z (by simp [b]),zal,zbM];omega
def Iq {t e:TypeId}{ks:List IntKind}(ht:P.underlying t=some (.slice e))(hc:P.cellsOf e=ks.length)(hF:aae P e ks){W:World}{r:Reach}{b0 base:Nat}{sp:Nat->Bool}{C:Bool}{v:Value}{D:Nat}{y:DataW H × List MemPlace}
  (q:Cell.okWide P W r b0 t v) (h:DataW.trod enc P W base sp C D t [v]=some y):∃(av:AV) (l:List (List Int)),RV ρ0 G0 W av v/\aaf ks av l/\av.aP=true:=by
 rcases DataW.trod_slice ht h with⟨L,_⟩|⟨a,len,E,M,rest,n,_,hv,_,hb,hl,hm,ab,Q,_,_⟩
 ·have L:v=.slice none 0 0:=by simpa using L
  subst L;exact⟨.s (.slice none 0 0),[],by simp [RV],⟨⟨O,rfl,rfl,rfl⟩,O,O⟩,rfl⟩
 ·have hv:v=.slice (some a) len E:=by simpa using hv
  subst hv;simp only [Cell.okWide,ht,Cell.ok] at q;obtain⟨_,_,_,d,row,cells,R,_⟩:=q;obtain⟨b,o,ad⟩:=a;simp only at d;subst d;have F:∀i,∃g:List Int,i<len->g.length=ks.length/\(∀(j:Nat) (k:IntKind) (z:Int),ks[j]?=some k->g[j]?=some z->(Lit.int k z).wf=true)/\RVc ρ0 G0 W (ints ks g) b (o+i*ks.length):=by
   intro i;by_cases hi:i<len
   ·have:=Q i hi;rw [zab V] at this;obtain⟨cs,T,X⟩:=Option.bind_eq_some_iff.1 this;obtain⟨g,z1,z2,z3⟩:=hF X;refine⟨g,λ_=>⟨z1,z3,qR λj x hx=>?_⟩⟩;obtain⟨_,c1,c2⟩:=World.cells?_some T;have hj:j<ks.length:=by
     have:=(zae.1 hx).1
     rwa [zT z1] at this
    have G:=c2 j (by rw [hc];exact hj);obtain⟨u,hu,aa⟩:=jR (VU (W:=W) ks g) hx;refine⟨u,?_,aa⟩;rw [z2,hu] at G;rw [<-G,hc]
    congr 1
    unfold Addr.add;by_cases h1:i*ks.length=0
    ·rw [if_pos h1,h1];by_cases w:j=0
     ·rw [if_pos w,w];rfl
     ·rw [if_neg w];rfl
    ·rw [if_neg h1];by_cases w:j=0
     ·rw [if_pos w,w];rfl
     ·rw [if_neg w]
   ·exact⟨[],λh=>absurd h hi⟩
  obtain⟨f,K⟩:=Classical.axiomOfChoice F;have A:∀g∈(List.range len).map f,g.length=ks.length:=by
   intro g hz;obtain⟨i,hi,rfl⟩:=zaI.1 hz;exact(K i (zaW.1 hi)).1
  have p:∀m s,s+m<=len->RVc ρ0 G0 W (((List.range' s m).map f).flatMap (ints ks)) b (o+s*ks.length):=by
   intro m
   induction m with
   |zero=>intro s _;simp [RVc]
   |succ m ih=>
    intro s hs;rw [zc5,zax,zaC];refine Xt (K s V).2.2 ?_;rw [zT (K s V).1];have:=ih (s+1) V
    rwa [zbM,<-zb6] at this
  refine⟨.vs len ks.length (((List.range len).map f).flatMap (ints ks)),(List.range len).map f,?_,⟨?_,A,λg hz=>?_⟩,rfl⟩
  ·simp only [RV];refine⟨b,o,E,rfl,hl,?_,Gw R,λr sh h=>(by cases h),?_⟩
   ·rw [zU A];simp
   ·have:=p len 0 V;rw [zcD]
    simpa using this
  ·have:=aN.vs (H:=ah.empty) (m:=ks.length) (n:=len) (cs:=((List.range len).map f).flatMap (ints ks)) (by rw [zU A];simp)
   simpa using this
  ·obtain⟨i,hi,rfl⟩:=zaI.1 hz;exact(K i (zaW.1 hi)).2.1
def Ui {t:TypeId}{fs:Array Field}{b:List TypeId}(R:P.underlying t=some (.struct fs))(L:P.cellTypes P.depth t=some b)(p:fs.toList.map (λ(f:Field)=>(f.type,f.offset))=b.zipIdx)
  (hc:∀u∈b,P.cellsOf u=1) (q:P.cellsOf t=b.length) {W:World} {r:Reach} {T base:Nat} {M:Nat->Bool} {e:Bool} {v:Value} {d:DataW H} {ps:List MemPlace}
  (g:Value.okWide P W r T t v) (h:DataW.Trod enc P W base M e t v d ps):
  ∃cs:Array Value,v=.agg cs/\cs.size=b.length/\∀(i:Nat) (u:TypeId),b[i]?=some u->∃(c:Value) (n:Nat) (y:DataW H × List MemPlace),cs[i]?=some c/\Cell.okWide P W r T u c/\DataW.trod enc P W base M e n u [c]=some y:=by
 unfold Value.okWide at g;rw [R] at g;obtain⟨cs,rfl,hsz,aa,w,_,z⟩:=g;rw [L] at w;cases w;obtain⟨X,hf⟩:=h;obtain⟨xs,n,_,_,hl,hx,hr⟩:=DataW.trod_struct R hf;have ab:fs.size=b.length:=by
  have:=congrArg List.length p
  simpa using this
 have A:∀(i:Nat) (u:TypeId),b[i]?=some u->∃f:Field,fs[i]?=some f/\f.type=u/\f.offset=i:=by
  intro i u k;have hi:i<b.length:=(zae.1 k).1;have C:fs[i]?=some (fs[i]' V):=zbF _;have m:(fs.toList.map (λ(f:Field)=>(f.type,f.offset)))[i]?=some ((fs[i]' V).type,(fs[i]' V).offset):=by
   rw [zaH];simp [C]
  rw [p,List.getElem?_zipIdx,k] at m;simp at m;exact⟨_,C,m.1.symm,m.2.symm⟩
 have D:∀(i:Nat) (u:TypeId),b[i]?=some u->∃c y,cs[i]?=some c/\DataW.trod enc P W base M e n u [c]=some y:=by
  intro i u k;obtain⟨f,m,Q,K⟩:=A i u k;have hi:i<b.length:=(zae.1 k).1;have:=hr i f m;rw [Q,K,hc u (zan k),zab (show i<xs.length by omega)] at this;have E:i<cs.size:=by rw [hsz,q];exact hi
  cases j:cs[i]? with
  |none=>rw [zbF E] at j;cases j
  |some c=>
   have F:i<cs.size:=by
    rcases zaQ i cs.size with G|G
    ·exact G
    ·rw [zcV G] at j;cases j
   have G:(((Value.agg cs).cells.toList.drop i).take 1)=[c]:=by
    have o:cs.toList[i]?=some c:=by simpa using j
    show(cs.toList.drop i).take 1=[c]
    rw [zbu (by simpa using F)];rw [zab (by simpa using F)] at o;simp at o;simp [o]
   rw [G] at this;exact⟨c,_,rfl,this⟩
 refine⟨cs,rfl,?_,λi u k=>?_⟩
 ·rw [hsz,q]
 ·obtain⟨c,y,m,Q⟩:=D i u k;obtain⟨u',K,h4⟩:=z i c m;have hi:i<b.length:=(zae.1 k).1;rw [zco hi,k] at K;cases K;exact⟨c,n,y,m,h4,Q⟩
structure AZ(k:IntKind)(av:AV)(zs:List Int):Prop where
 is:aN ah.empty av 1 zs.length (zs.map λz=>.s (.int k z))
 wf:∀z∈zs,(Lit.int k z).wf=true
 cell:av.aP=true
def QH {k:IntKind}:∀(l:List (List Int)),(∀zs∈l,zs.length=1)->l.flatMap (ints [k])=(l.map (λzs=>zs.headD 0)).map λz=>.s (.int k z)
 |[],_=>rfl
 |zs::l,h=>by
  have b:=h zs O;rw [zaC,QH l λz d=>h z (by simp [d])];cases zs with
  |nil=>simp at b
  |cons z zs=>
   cases zs with
   |nil=>rfl
   |cons _ _=>simp at b
def aaf.ints {k:IntKind}{av:AV}{l:List (List Int)}(h:aaf [k] av l)(hc:av.aP=true):AZ k av (l.map λzs=>zs.headD 0):=by
 refine⟨?_,λz d=>?_,hc⟩
 ·have:=h.is;rw [QH l h.len] at this
  simpa using this
 ·obtain⟨zs,b,rfl⟩:=zaI.1 d;have e:=h.len zs b;cases zs with
  |nil=>simp at e
  |cons z zs=>exact h.wf _ b 0 k z rfl rfl
structure lg where
 aB:Int
 aY:Int
 bI:Int
 sets:Int
 ways:Int
 out:Int
 inn:Int
 init:AV
 who:AV
 kinds:AV
 kU:AV
 bH:AV
def lg.cells(s:lg):List AV:=
 [.s (.int .i64 s.aB),.s (.int .i64 s.aY),.s (.int .i64 s.bI),.s (.int .i64 s.sets),.s (.int .i64 s.ways),.s (.int .i64 s.out),.s (.int .i64 s.inn),s.init,s.who,s.kinds,s.kU,s.bH]
abbrev nN(z:Int):Prop:=-9223372036854775808<=z/\z<=9223372036854775807
def aiF {z:Int}(h:(Lit.int .i64 z).wf=true):nN z:=by
 simp [Lit.wf,IntKind.min,IntKind.max,IntKind.signed,IntKind.bits] at h;exact⟨V,V⟩
structure lg.Ok(s:lg)(zi zw zk za zv:List Int):Prop where
 aB:nN s.aB
 aY:nN s.aY
 bI:nN s.bI
 sets:nN s.sets
 ways:nN s.ways
 out:nN s.out
 inn:nN s.inn
 init:AZ .i64 s.init zi
 who:AZ .i64 s.who zw
 kinds:AZ .i64 s.kinds zk
 kU:AZ .i64 s.kU za
 bH:AZ .i64 s.bH zv
def XT {t b sl e:TypeId}{fs:Array Field}(ht:P.underlying t=some (.struct fs))(p:P.cellTypes P.depth t=some [b,b,b,b,b,b,b,sl,sl,sl,sl,sl])
  (q:fs.toList.map (λ(f:Field)=>(f.type,f.offset))=[b,b,b,b,b,b,b,sl,sl,sl,sl,sl].zipIdx) (w:P.cellsOf t=12) (A:P.underlying b=some (.int .i64)) (af:P.cellsOf b=1)
  (C:P.underlying sl=some (.slice e)) (j:P.cellsOf sl=1) (D:P.underlying e=some (.int .i64)) (E:P.cellsOf e=1)
  {W:World} {r:Reach} {b0 base:Nat} {sp:Nat->Bool} {k:Bool} {v:Value} {d:DataW H} {ps:List MemPlace} (m:Value.okWide P W r b0 t v) (h:DataW.Trod enc P W base sp k t v d ps):
  ∃(s:lg) (zi zw zk za zv:List Int),RV ρ0 G0 W (.agg s.cells) v/\s.Ok zi zw zk za zv:=by
 obtain⟨cs,rfl,hsz,g⟩:=Ui ht p q (λu hu=>by
  simp only [zaj,zaA,or_false] at hu;rcases hu with rfl|rfl|rfl|rfl|rfl|rfl|rfl|rfl|rfl|rfl|rfl|rfl <;> assumption) w m h
 have num:∀i:Nat,[b,b,b,b,b,b,b,sl,sl,sl,sl,sl][i]?=some b->∃z,cs[i]?=some (.int .i64 z)/\nN z:=by
  intro i hi;obtain⟨c,n,y,o,_,F⟩:=g i b hi;obtain⟨z,hz,_,hw⟩:=DataW.trod_int A F;simp at hz;subst hz;exact⟨z,o,aiF hw⟩
 have row:∀i:Nat,[b,b,b,b,b,b,b,sl,sl,sl,sl,sl][i]?=some sl->∃c av zs,cs[i]?=some c/\RV ρ0 G0 W av c/\AZ .i64 av zs:=by
  intro i hi;obtain⟨c,n,y,o,h2,F⟩:=g i sl hi;obtain⟨av,l,r1,r2,r3⟩:=Iq C (ks:=[.i64]) E (VT D) h2 F;exact⟨c,av,_,o,r1,r2.ints r3⟩
 obtain⟨z0,a0,w0⟩:=num 0 rfl;obtain⟨z1,a1,w1⟩:=num 1 rfl;obtain⟨z2,a2,w2⟩:=num 2 rfl;obtain⟨z3,a3,w3⟩:=num 3 rfl;obtain⟨z4,a4,w4⟩:=num 4 rfl;obtain⟨z5,a5,w5⟩:=num 5 rfl;obtain⟨z6,a6,w6⟩:=num 6 rfl;obtain⟨c7,v7,l7,a7,r7,o7⟩:=row 7 rfl;obtain⟨c8,v8,l8,a8,r8,o8⟩:=row 8 rfl;obtain⟨c9,v9,l9,a9,r9,o9⟩:=row 9 rfl;obtain⟨G,K,L,M,Q,R⟩:=row 10 rfl;obtain⟨T,X,aa,ab,ad,ae⟩:=row 11 rfl;have j:cs.toList=[.int .i64 z0,.int .i64 z1,.int .i64 z2,.int .i64 z3,.int .i64 z4,.int .i64 z5,.int .i64 z6,c7,c8,c9,G,T]:=by
  apply zbb
  intro i;rcases zaQ i 12 with hi|hi
  ·have:i=0∨i=1∨i=2∨i=3∨i=4∨i=5∨i=6∨i=7∨i=8∨i=9∨i=10∨i=11:=V
   rcases this with rfl|rfl|rfl|rfl|rfl|rfl|rfl|rfl|rfl|rfl|rfl|rfl <;> simp [a0,a1,a2,a3,a4,a5,a6,a7,a8,a9,M,ab]
  ·have o:cs.toList.length=12:=by simpa using hsz
   rw [zaG V,zaG (by simpa using hi)]
 refine⟨⟨z0,z1,z2,z3,z4,z5,z6,v7,v8,v9,K,X⟩,l7,l8,l9,L,aa,?_,⟨w0,w1,w2,w3,w4,w5,w6,o7,o8,o9,R,ae⟩⟩;simp only [RV,lg.cells];refine⟨cs,rfl,?_⟩;rw [j];exact zS Ei (zS Ei (zS Ei (zS Ei (zS Ei (zS Ei (zS Ei (zS r7 (zS r8 (zS r9 (zS Q (zS ad ati)))))))))))
def XU {t e:TypeId}(i:P.underlying t=some (.slice e))(j:P.underlying e=some (.int .i64))(k:P.cellsOf e=1){W:World}{r:Reach}{p base:Nat}{q:Nat->Bool}{g:Bool}{v:Value}{d:DataW H}{ps:List MemPlace}
  (b:Value.okWide P W r p t v) (h:DataW.Trod enc P W base q g t v d ps):∃(x:AV) (zs:List Int),RV ρ0 G0 W x v/\AZ .i64 x zs:=by
 unfold Value.okWide at b;rw [i] at b;obtain⟨m,o⟩:=h;have hv:v.cells.toList=[v]:=by
  cases v <;> first|rfl|(simp [Cell.okWide,i,Cell.ok] at b)
 rw [hv] at o;obtain⟨av,l,u,w,y⟩:=Iq i (ks:=[.i64]) k (VT j) b o;exact⟨av,_,u,w.ints y⟩
end
open Go.RowKit
variable {P:Program}{ρ:Ren}{H:ah}{w w':World}
def KR {f:FuncId}{p:List AV->ah->Option (AV × ah)}
  (h:∀args H v H',p args H=some (v,H')->∀(ρ:Ren) (w:World) (b:Array Value),Rel ρ H w->RVs ρ H.gen w args b.toList->
   Calls P f b w λe w'=>∃cv ρ',e=.returned cv/\Rel ρ' H' w'/\RV ρ' H'.gen w' v cv/\Ext ρ H w ρ' H' w'):rW P (λg args H=>if g=f then p args H else none):=by
 intro g args H v H' d ρ w b R ha;simp only at d;split at d
 ·rename_i e;subst e;exact h args H v H' d ρ w b R ha
 ·cases d
def Ir(R:Rel ρ H w)(B:Below w.heap.size w w'):Rel ρ H w'/\Ext ρ H w ρ H w':=by
 have E:Ext ρ H w ρ H w':=⟨zac _,λ_=>zac _,λ_ _ h _=>h,λ_ _ h=>h,λ_ _ d h=>.inr ⟨d,h⟩,B.size,λb hb _=>B.block b hb,λb hb=>by rw [fG,fG,B.block b hb],B.os,B.tape,B.output⟩
 exact⟨⟨R.out,λr b d h=>zA.mono E.toMono (B.block b (R.block h)) (R.obj r b d h),R.inj,R.gl.ext E⟩,E⟩
def QI(R:Rel ρ H w){b:Nat}(hb:w.heap.size<=b):Imm ρ b:=λr d h=>by
 have:=R.block h;omega
def Uj {G:Nat->Nat}{x:AV}{b:Array Value}(h:RVs ρ G w [x] b.toList):∃c,b=#[c]/\RV ρ G w x c:=by
 obtain⟨d,l,e,g,i⟩:=(by simpa only [RVs] using h)
 subst i;exact⟨d,zcn.1 (by simpa using e),g⟩
def alV:AV:=.s (.slice none 0 0)
def aag(ks:List Int):AV:=if ks=[] then alV else .vs ks.length 1 ((ks.mergeSort λx y=>decide (x<=y)).map λn=>.s (.int .i64 n))
def C9(h i:List Nat)(args:List AV)(H:ah):Option (AV × ah):=
 match args with
 |[.fn (.func f) [] [.ref r g 0]]=>
  match H.get r with
  |.blk g' d [.mp m]=>match H.get m with
   |.map .i64 b=>if g'=g/\d<iC/\f≠0/\f∈h/\(b.map (·.1)).Nodup/\(b.all λe=>(Lit.int .i64 e.1).wf)=true/\b.length<=1000000 then some (aag (b.map (·.1)),H) else none
   |_=>none
  |.blk g' d [.s (.slice none 0 0)]=>if g'=g/\d<iC/\f≠0/\f∈i then some (alV,H) else none
  |_=>none
 |_=>none
structure Node where
 aH:Cache
 bQ:Proc
 home:Home
 aI:bM
 num:Int
structure bW where
 c:Cfg
 aB:List Node
 fab:Fab
 trace:List Evn
def Cfg.jP(c:Cfg)(me:Int):Nat->Rows
 |0=>[]
 |n+1=>if c.bf n=me then mM (c.jP me n) n ⟨0,-1,c.first n⟩ else c.jP me n
def Home.new(c:Cfg)(me:Int):Home:=⟨c.jP me c.aY.toNat,⟨[],[]⟩⟩
def Node.new(c:Cfg)(me:Int)(l:List Opn):Node:=⟨⟨[],c.sets,c.ways,0⟩,⟨l,[],false⟩,.new c me,.zero,0⟩
def Fab.new(c:Cfg):Fab:=⟨c.out,c.inn,List.replicate c.aB.toNat .zero⟩
def bW.new(c:Cfg)(ps:List (List Opn)):bW:=⟨c,ps.mapIdx λi l=>.new c i l,.new c,[]⟩
structure iE where
 owner:List (Int × Int)
 wait:List (Int × Int × Int)
structure gZ where
 dJ:List Row
 aT:iE
structure jE where
 aH:Cache
 homes:gZ
 ops:List Opn
 eG:Bool
 bH:List Int
 has:Bool
 aI:bM
 num:Int
structure jO where
 c:Cfg
 fab:List Port
 aB:List jE
 ev:List Evn
def gZ.new(c:Cfg):gZ:=⟨(List.range c.aY.toNat).map λ(i:Nat)=>(⟨0,-1,c.first (i:Int)⟩:Row),⟨[],[]⟩⟩
def jE.new(c:Cfg)(l:List Opn):jE:=⟨⟨[],c.sets,c.ways,0⟩,.new c,l,false,[],false,.zero,0⟩
def jO.new(c:Cfg)(ps:List (List Opn)):jO:=⟨c,List.replicate c.aB.toNat .zero,ps.map (.new c),[]⟩
inductive zV {α:Type} (R:α->List AV->Prop):List α->List AV->Prop
 |nil:zV R [] []
 |cons {a:α} {l:List α} {cs cells:List AV}:R a cs->zV R l cells->zV R (a::l) (cs++cells)
section
variable {α:Type}{R:α->List AV->Prop}{l:List α}{cells:List AV}
def zV.length {m:Nat}(hm:∀a cs,R a cs->cs.length=m)(h:zV R l cells):cells.length=l.length*m:=by
 induction h with
 |nil=>simp
 |cons b _ d=>rw [zaq,hm _ _ b,d,zal,zbM,Nat.add_comm]
def zV.all(hm:∀a cs,R a cs->cs.all AV.aP=true)(h:zV R l cells):cells.all AV.aP=true:=by
 induction h with
 |nil=>rfl
 |cons b _ d=>rw [zbj,hm _ _ b,d];rfl
def zV.append {b:List α}{cells':List AV}(h:zV R l cells)(d:zV R b cells'):zV R (l++b) (cells++cells'):=by
 induction h with
 |nil=>exact d
 |cons e _ g=>rw [zbq,zbc];exact .cons e g
def zV.one {a:α}{cs:List AV}(h:R a cs):zV R [a] cs:=by
 have:=zV.cons h (zV.nil (R:=R))
 rwa [zbm] at this
def zV.mono {b:α->List AV->Prop}(d:∀a cs,a∈l->R a cs->b a cs)(h:zV R l cells):zV b l cells:=by
 induction h with
 |nil=>exact .nil
 |cons e _ g=>exact .cons (d _ _ O e) (g λa cs ha=>d a cs (by simp [ha]))
def zV.get {m:Nat}(hm:∀a cs,R a cs->cs.length=m)(h:zV R l cells):∀{i:Nat} {a:α},l[i]?=some a->R a ((cells.drop (i*m)).take m):=by
 induction h with
 |nil=>intro i a hi;simp at hi
 |cons b _ d=>
  intro i a hi;have e:=hm _ _ b;cases i with
  |zero=>
   simp only [zaT,zaa] at hi;subst hi;rw [zbD,zaS,zbW V,zaw V];exact b
  |succ i=>
   rw [zbM,zdq,zaV V,zaM,e,Nat.add_sub_cancel];exact d (by simpa using hi)
def zV.plain {enc:α->List AV}:∀l:List α,zV (λa cs=>cs=enc a) l (l.flatMap enc)
 |[]=>.nil
 |a::l=>.cons rfl (zV.plain l)
def zV.of {enc:α->List AV}(b:∀a,a∈l->R a (enc a)):zV R l (l.flatMap enc):=
 (zV.plain (enc:=enc) l).mono λa cs ha (h:cs=enc a)=>by rw [h];exact b a ha
end
def Pkt.avx(p:Pkt)(x:AV):List AV:=[I p.aS,I p.src,I p.dst,I p.id,I p.aj,I p.ptr,I p.aV,B p.flag,x]
def Ent.avx(e:Ent)(x:AV):List AV:=[I e.fwd,I e.back,I e.aj,I e.used,B e.dn,x]
def Row.avx(r:Row)(x:AV):List AV:=[I r.aV,I r.head,x]
def bM.avx(d:bM)(x:AV):List AV:=[I d.aS,I d.aj,I d.id,I d.step,I d.aV,I d.head,x,I d.next,I d.told]
def uG(g:bD)(x:AV)(l:List Int):Prop:=x=dat l∨∃q ex,l≠[]/\x=.sl q 0 0 1 l.length l.length ex/\g q=some (l.map λn=>.av (I n))
def XV(cs:List Cell):Prop:=∃c∈cs,∀n,c≠.av (I n)
section
variable {b:Nat}{H:ah}{g g':bD}{x:AV}{l:List Int}
def uG.dat:uG g (dat l) l:=.inl rfl
def uG.one(h:uG g x l):One x:=by
 rcases h with rfl|⟨q,ex,_,rfl,_⟩
 ·exact tV
 ·exact uD
def uG.sub(h:uG g x l)(b:∀q cs,g q=some cs->¬XV cs->g' q=some cs):uG g' x l:=by
 rcases h with rfl|⟨q,ex,d,rfl,h⟩
 ·exact .inl rfl
 ·refine .inr ⟨q,ex,d,rfl,b _ _ h λ⟨c,hc,e⟩=>?_⟩;obtain⟨n,_,rfl⟩:=zaI.1 hc;exact e n rfl
def uG.upd {q:Nat}{cs cs':List Cell}(h:uG g x l)(d:g q=some cs)(i:XV cs):uG (upd g q cs') x l:=
 h.sub λk m b j=>by
  rw [bn];exact b;intro e;subst e;rw [d] at b;cases b;exact j i
def uG.nil(h:uG g x l)(h0:l=[]):x=zN:=by
 rcases h with rfl|⟨q,ex,b,_⟩
 ·rw [h0,Proofs.YtljogojaihgdlaaGreat.dat,gI]
 ·exact absurd h0 b
def uG.is(G:Good b H g)(h:uG g x l):aN H x 1 l.length (l.map I):=by
 rcases h with rfl|⟨q,ex,_,rfl,h⟩
 ·exact kY H l
 ·obtain⟨_,τ,j⟩:=G;have R:=j q _ h;obtain⟨k,xs,m,d,p,o⟩:=R.blk;have:xs=l.map I:=by
   apply zbb
   intro i;rcases zaQ i l.length with hi|hi
   ·have e:xs[i]?=some (xs[i]'(by simp at d;omega)):=zab _;have:=o i (.av (I l[i])) _ (by simp [hi]) e;simp only [CR] at this;rw [e,this];simp [hi]
   ·rw [zaG (by simp at d;omega),zaG (by simp;omega)]
  subst this;exact⟨O,rfl,rfl,⟨R.hi,zac _⟩,k,_,m,O,by simp [zaw]⟩
end
def atN(g:bD)(p:Pkt)(cs:List AV):Prop:=∃x,uG g x p.data/\cs=p.avx x
def atO(g:bD)(e:Ent)(cs:List AV):Prop:=∃x,uG g x e.data/\cs=e.avx x
def aqJ(g:bD)(r:Row)(cs:List AV):Prop:=∃x,uG g x r.data/\cs=r.avx x
def aqK(g:bD)(d:bM)(cs:List AV):Prop:=∃x,uG g x d.data/\cs=d.avx x
def aiG {g:bD}(p:Row):aqJ g p p.av:=⟨_,.dat,rfl⟩
def Dc(c:Cache)(cells:List AV):List Cell:=[.av (I c.sets),.av (I c.ways),.av (I c.dh),.seq 6 cells]
def qA(c:Cfg)(me:Int)(dJ:List AV)(t:iE):List Cell:=c.av.map .av++[.av (I me),.seq 3 dJ,.seq 2 (t.owner.flatMap λe=>[I e.1,I e.2]),.seq 3 (t.wait.flatMap λe=>[I e.1,I e.2.1,I e.2.2])]
def Ej(a:Nat->Nat)(c:Cfg)(me:Int)(n:jE)(d:List AV):List Cell:=
 c.av.map .av++[.av (I me),.av (.ref (a 1) 0 0),.av (.ref (a 2) 0 0),.seq 3 (n.ops.flatMap Opn.av),.av (B n.eG),.seq 1 (n.bH.map I),.av (B n.has)]++d.map .av++[.av (I n.num)]
def XW(c:Cfg)(ls:List (List AV)):List Cell:=c.av.map .av++[.alI 4 9 ls]
def rG(f:Nat)(N:Nat->Nat->Nat)(c:Cfg)(n:Nat)(ev:List Evn):List Cell:=c.av.map .av++[.av (.ref f 0 0),.seq 1 ((List.range n).map λi=>.ref (N i 0) 0 0),.seq 4 (ev.flatMap Evn.av)]
structure pz(g:bD)(a:Nat->Nat)(c:Cfg)(me:Int)(n:jE):Prop where
 bF:∃d,aqK g n.aI d/\g (a 0)=some (Ej a c me n d)
 aH:∃cells,zV (atO g) n.aH.l cells/\g (a 1)=some (Dc n.aH cells)
 homes:∃dJ,zV (aqJ g) n.homes.dJ dJ/\g (a 2)=some (qA c me dJ n.homes.aT)
def aqL(N:Nat->Nat->Nat)(n:Nat):Prop:=∀i j s t,i<n->j<n->s<3->t<3->N i s=N j t->i=j/\s=t
def agG(p:Port):List (List Pkt):=[p.rq,p.an,p.rin,p.ain]
structure Iu(g:bD)(q f:Nat)(N:Nat->Nat->Nat)(m:jO):Prop where
 iI:g q=some (rG f N m.c m.aB.length m.ev)
 fab:∃ls:List (List AV),g f=some (XW m.c ls)/\ls.length=4*m.fab.length/\∀(i:Nat) l cells,(m.fab.flatMap agG)[i]?=some l->ls[i]?=some cells->zV (atN g) l cells
 bF:∀(i:Nat) n,m.aB[i]?=some n->pz g (N i) m.c i n
 inj:aqL N m.aB.length
def Em(x:Int):List Int->List Int
 |[]=>[x]
 |y::rp=>if x<y then y::Em x rp else x::y::rp
def srt:List Int->List Int->List Int
 |b,[]=>b.reverse
 |b,x::l=>srt (Em x b) l
def Ent.word(e:Ent)(w:Int):Int:=if 0<=w/\w<e.data.length then e.data.getD w.toNat 0 else 0
def Ent.write(e:Ent)(w v:Int):Ent:=if e.dn=true/\0<=w/\w<e.data.length then { e with data:=e.data.set w.toNat v } else e
def Home.ready(h:Home):List Int:=h.aT.ready (srt [] (h.aT.wait.map (·.1)))
def Home.grant(bF:Int)(h:Home):Home × Pkt × Bool:=
 match h.ready with
 |[]=>(h,.zero,false)
 |aj::_=>match h.aT.next aj with
  |(t,some w)=>({ h with aT:=t },granted h.dJ bF aj w.1 w.2,true)
  |(_,none)=>(h,.zero,false)
def Proc.idx(p:Proc):Int:=match p.cur with
 |some _=>p.bH.length
 |none=>0
def Proc.op(p:Proc):Opn:=p.cur.getD .zero
def Proc.Df(p:Proc)(v:Int):Proc:=if p.eG then⟨p.ops,p.bH++[v],false⟩ else p
def Proc.A8(p:Proc):Proc:=if p.eG=true∨p.cur=none then p else { p with eG:=true }
abbrev NT:=Node × List Evn
def Node.done(me:Int)(n:Node)(t:List Evn)(v:Int):NT:=({ n with bQ:=n.bQ.Df v },t++[⟨me,n.bQ.idx,true,v⟩])
def eU(e:Ent)(o:Opn)(w:Int):Ent:=if o.aS=2 then e.write w o.value else if o.aS=3 then e.write w (w64 (e.word w+o.value)) else e
def Node.effect(c:Cfg)(me:Int)(n:Node)(t:List Evn):NT:=
 let o:=n.bQ.op;let e:=(n.aH.find (c.bU o.addr)).getD .zero;let n':={ n with aH:=(n.aH.put (eU e o (c.dI o.addr))).1 }
 n'.done me t (if o.aS=2 then 0 else e.word (c.dI o.addr))
def Node.adX(c:Cfg)(me:Int)(n:Node)(f:Fab):Fab:=(f.send (n.aI.ask me (c.bf n.aI.aj))).1
def Node.after(me:Int)(n:Node)(p:Pkt):Nxt:=
 if n.aI.aS=1 then dX n.aI me n.aH p else if n.aI.aS=2 then dY n.aI me n.aH p else if n.aI.aS=3 then eF n.aI n.aH p else wQ n.aH
abbrev NFT:=Node × Fab × List Evn
def Node.answered(c:Cfg)(me:Int)(n:Node)(f:Fab)(t:List Evn)(p:Pkt):NFT:=
 match n.after me p with
 |(ca,d,ok)=>
  if ok=false then({ n with aH:=ca },f,t) else
  let n:={ n with aH:=ca,aI:=d }
  if d.step=0 then(if d.aS=3/\n.bQ.op.aS=4 then((n.done me t 0).1,f,(n.done me t 0).2) else(n,f,t))
  else
   let b:=if d.step=6/\d.aS≠3 then n.effect c me t else(n,t)
   (b.1,b.1.adX c me f,b.2)
def Node.begin_(c:Cfg)(me:Int)(n:Node)(f:Fab)(aS aj:Int):Node × Fab:=
 let n:={ n with aI:=.begin aS aj n.num,num:=(n.num+1).tmod 4096 }
 (n,n.adX c me f)
def Node.asked(c:Cfg)(me:Int)(n:Node)(f:Fab)(p:Pkt):Node × Fab:=
 if p.aS=1∨p.aS=2 then
  match n.home.handle c me p with
  |(h,out,ok,e)=>({ n with home:=h },if ok=true/\e=0 then(f.send out).1 else f)
 else
  match fQ n.aH p with
  |(ca,out,e)=>({ n with aH:=ca },if e=0 then(f.send out).1 else f)
def Node.work(c:Cfg)(me:Int)(n:Node)(f:Fab)(t:List Evn)(o:Opn):NFT:=
 let t:=if n.bQ.eG then t else t++[⟨me,n.bQ.bH.length,false,0⟩]
 let n:={ n with bQ:={ n.bQ with eG:=true } }
 let aj:=c.bU o.addr;let e:=n.aH.find aj
 if o.aS=4/\e=none then((n.done me t 0).1,f,(n.done me t 0).2)
 else if o.aS=4 then((n.begin_ c me f 3 aj).1,(n.begin_ c me f 3 aj).2,t)
 else if e.isSome=true/\(o.aS=1∨(e.getD .zero).dn=true) then
  let n:={ n with aH:=n.aH.touch aj }
  ((n.effect c me t).1,f,(n.effect c me t).2)
 else if n.aH.full aj=true then((n.begin_ c me f 3 ((n.aH.oJ aj).getD 0)).1,(n.begin_ c me f 3 ((n.aH.oJ aj).getD 0)).2,t)
 else if o.aS=1 then((n.begin_ c me f 1 aj).1,(n.begin_ c me f 1 aj).2,t)
 else((n.begin_ c me f 2 aj).1,(n.begin_ c me f 2 aj).2,t)
def Node.step(c:Cfg)(me:Int)(n:Node)(f:Fab)(t:List Evn):NFT × Int:=
 match f.take me false with
 |(b,some p)=>(n.answered c me b t p,1)
 |(_,none)=>
  if n.home.ready≠[]/\f.roomOf me false≠0 then
   (({ n with home:=(n.home.grant me).1 },(f.send (n.home.grant me).2.1).1,t),2)
  else
   match(if f.roomOf me false=0 then(f,none) else f.take me true) with
   |(b,some p)=>(((n.asked c me b p).1,(n.asked c me b p).2,t),3)
   |(_,none)=>
    match n.bQ.cur with
    |some o=>if n.aI.step=0 then(n.work c me f t o,4) else((n,f,t),0)
    |none=>((n,f,t),0)
def bW.bF(m:bW)(i:Int):Option Node:=if 0<=i then m.aB[i.toNat]? else none
def bW.step(m:bW)(i:Int):bW × Int:=
 match m.bF i with
 |none=>(m,0)
 |some n=>match n.step m.c i m.fab m.trace with
  |((n',f,t),k)=>({ m with aB:=m.aB.set i.toNat n',fab:=f,trace:=t },k)
def aT(bytes:Nat)(bit mask:Int):Bool:=(List.range 16).any λi=>decide ((mask.toNat >>> (15-i)) % 2=1) && decide (0<=bit+i) && decide (bit+i<8*bytes)
def Pkt.bytes(p:Pkt):Nat:=12+8*p.data.length
def Port.drop(p:Port)(req:Bool)(k:Nat):Port:=p.kP req ((p.sort req).eraseIdx k)
def Fab.remove(f:Fab)(at_:Nat):Fab:=match AX f.l 0 at_ with
 |some (i,req,k)=>f.put i ((f.port i).drop req k)
 |none=>f
def Fab.deliver(f:Fab)(at_ bit mask:Int):Fab × Int:=
 if at_<0 then(f,3) else
 match f.all[at_.toNat]? with
 |none=>(f,3)
 |some p=>
  if aT p.bytes bit mask=true then(f,2) else
  if f.room (qU p.aS)<=((f.port p.dst).qo (qU p.aS)).length then(f,5) else
  ((f.put p.dst ((f.port p.dst).lG (qU p.aS) ((f.port p.dst).qo (qU p.aS)++[p]))).remove at_.toNat,0)
def bW.deliver(m:bW)(at_ bit mask:Int):bW × Int:=({ m with fab:=(m.fab.deliver at_ bit mask).1 },(m.fab.deliver at_ bit mask).2)
def bW.do_(m:bW)(p:Pck):bW × Bool:=
 if p.deliver then((m.deliver p.at_ p.bit p.mask).1,decide ((m.deliver p.at_ p.bit p.mask).2=0))
 else((m.step p.at_).1,decide ((m.step p.at_).2≠0))
def zW(e:Ent):List Ent->List Ent
 |[]=>[e]
 |x::l=>if e.aj<x.aj then e::x::l else x::zW e l
def Cache.Y3(c:Cache)(e:Ent):Cache × Int:=
 if e.aj<0 then(c,1) else
 match c.at_ e.aj with
 |some i=>({ c with l:=c.l.set i { e with used:=(c.l.getD i .zero).used } },0)
 |none=>if c.ways<=(c.pq e.aj).length then(c,5) else({ c with l:=zW { e with used:=c.dh+1 } c.l,dh:=c.dh+1 },0)
def Cache.Ny(c:Cache)(aj:Int):Int:=((oq (c.pq aj)).map (·.aj)).getD (-1)
def iE.jg(t:iE)(aj:Int):Int:=((t.owner.find? λo=>decide (o.1=aj)).map (·.2)).getD (-1)
def iE.waits(t:iE)(aj:Int):List (Int × Int):=(t.wait.filter λw=>decide (w.1=aj)).map (·.2)
def iE.ask(t:iE)(aj who id:Int):iE × Bool:=
 if who<0 then(t,false) else
 if t.jg aj=-1/\t.waits aj=[] then({ t with owner:=t.owner++[(aj,who)] },true)
 else({ t with wait:=t.wait++[(aj,who,id)] },false)
def mO {α:Type}(p:α->Bool):List α->List α
 |[]=>[]
 |x::l=>if p x then l else x::mO p l
def iE.release(t:iE)(aj who:Int):iE × Bool:=
 if(t.owner.any λo=>decide (o.1=aj) && decide (o.2=who))=true then({ t with owner:=mO (λo=>decide (o.1=aj) && decide (o.2=who)) t.owner },true) else(t,false)
def iE.next(t:iE)(aj:Int):iE × Option (Int × Int):=
 if t.jg aj≠-1 then(t,none) else
 match t.wait.find? λw=>decide (w.1=aj) with
 |some w=>(⟨t.owner++[(aj,w.2.1)],mO (λw=>decide (w.1=aj)) t.wait⟩,some w.2)
 |none=>(t,none)
def mP(x:Int):List Int->List Int
 |[]=>[x]
 |y::l=>if y<x then y::mP x l else if y=x then y::l else x::y::l
def iE.ready(t:iE):List Int:=t.wait.foldl (λout w=>if t.jg w.1≠-1 then out else mP w.1 out) []
def lq(c:Cfg)(me aj:Int):Bool:=decide (0<=aj) && decide (aj<c.aY) && decide (aj % c.aB=me)
def gZ.row(h:gZ)(aj:Int):Row:=h.dJ.getD aj.toNat .zero
def gZ.pq(c:Cfg)(me:Int)(h:gZ)(aj aV head:Int)(data:List Int):gZ × Int:=
 if lq c me aj=false then(h,3) else
 if aV<0∨2<aV∨head < -1∨c.aB<=head∨¬(aV=0↔head=-1)∨(data≠[]/\(data.length:Int)≠c.bI) then(h,1) else
 ({ h with dJ:=h.dJ.set aj.toNat ⟨aV,head,if data=[] then(h.row aj).data else data⟩ },0)
def gZ.granted(me:Int)(h:gZ)(aj who id:Int):Pkt:=⟨7,me,who,id,aj,(h.row aj).head,(h.row aj).aV,false,(h.row aj).data⟩
def gZ.handle(c:Cfg)(me:Int)(h:gZ)(p:Pkt):gZ × Pkt × Bool × Int:=
 if p.ok=false∨p.dst≠me∨c.aB<=p.src∨(p.aS≠1/\p.aS≠2) then(h,.zero,false,1)
 else if lq c me p.aj=false then(h,.zero,false,3)
 else if p.aS=1 then
  let a:=h.aT.ask p.aj p.src p.id
  if a.2=true then({ h with aT:=a.1 },h.granted me p.aj p.src p.id,true,0) else({ h with aT:=a.1 },.zero,false,0)
 else if h.aT.jg p.aj≠p.src then(h,.zero,false,6)
 else
  let r:=h.pq c me p.aj p.aV p.ptr (if p.flag then p.data else [])
  if r.2=0 then({ r.1 with aT:=(r.1.aT.release p.aj p.src).1 },⟨8,me,p.src,p.id,p.aj,0,0,false,[]⟩,true,0) else(h,.zero,false,r.2)
def gZ.grant(me:Int)(h:gZ):gZ × Pkt × Bool:=
 match h.aT.ready with
 |[]=>(h,.zero,false)
 |aj::_=>match h.aT.next aj with
  |(t,w)=>({ h with aT:=t },h.granted me aj (w.getD (0,0)).1 (w.getD (0,0)).2,true)
def aiH(c:Cache)(p:Pkt):Cache × Pkt × Int:=
 if p.ok=false∨p.aS<3∨6<p.aS then(c,.zero,1) else
 match c.find p.aj with
 |none=>(c,.zero,3)
 |some e=>
  let out:Pkt:=⟨CZ p.aS,p.dst,p.src,p.id,p.aj,0,0,false,[]⟩
  if p.aS=3 then((c.Y3 { e with dn:=false,back:=p.ptr }).1,{ out with data:=e.data,flag:=e.dn },0)
  else if p.aS=4 then((c.Y3 { e with fwd:=p.ptr }).1,out,0)
  else if p.aS=5 then((c.Y3 { e with back:=p.ptr }).1,out,0)
  else(c.drop p.aj,{ out with data:=e.data,flag:=e.dn,ptr:=e.fwd },0)
def aqM(d:bM)(bF:Int)(c:Cache)(p:Pkt):Nxt:=
 if d.step=1/\d.aV=0 then((c.Y3 ⟨-1,-1,d.aj,0,false,d.data⟩).1,{ d with step:=6,aV:=1,head:=bF,data:=[] },true)
 else if d.step=1 then(c,{ d with step:=2 },true)
 else if d.step=2 then((c.Y3 ⟨d.head,-1,d.aj,0,false,p.data⟩).1,{ d with step:=6,aV:=1,head:=bF,data:=if p.flag then p.data else [] },true)
 else wQ c
def alW(d:bM)(bF:Int)(c:Cache):Nxt:=
 let d:bM:=match c.find d.aj with
  |some own=>if d.next=bF then { d with next:=own.fwd } else d
  |none=>d
 if d.next≠-1 then(c,{ d with step:=3 },true)
 else((c.Y3 ⟨-1,-1,d.aj,0,true,d.data⟩).1,{ d with step:=6,aV:=2,head:=bF,data:=[] },true)
def alX(d:bM)(bF:Int)(c:Cache)(p:Pkt):Nxt:=
 if d.step=1 then alW { d with data:=(match c.find d.aj with|some own=>own.data|none=>d.data),next:=d.head } bF c
 else if d.step=3 then alW { d with data:=(match c.find d.aj with|some _=>d.data|none=>p.data),next:=p.ptr } bF c
 else wQ c
def Nz(d:bM)(c:Cache)(head:Int):Nxt:=(c.drop d.aj,{ d with step:=6,aV:=1,head:=head,data:=[] },true)
def aqN(d:bM)(c:Cache):Nxt:=
 if d.step=1 then
  match c.find d.aj with
  |none=>(c,{ d with step:=6,data:=[] },true)
  |some e=>
   if e.back=-1/\e.fwd=-1 then(c.drop d.aj,{ d with step:=6,aV:=0,head:=-1,data:=if e.dn then e.data else [] },true)
   else if e.back=-1 then(c,{ d with data:=[],head:=-1,next:=e.fwd,step:=5 },true)
   else(c,{ d with data:=[],head:=e.back,next:=e.fwd,step:=4 },true)
 else if d.step=4 then
  if d.next≠-1 then(c,{ d with step:=5 },true) else Nz d c d.told
 else if d.step=5 then
  if d.head=-1 then Nz d c d.next else Nz d c d.told
 else wQ c
def aqO(d:bM)(bF:Int)(c:Cache)(p:Pkt):Nxt:=
 if d.fits p=false∨d.aS<1∨3<d.aS then wQ c else
 if d.step=6 then(c,{ d with step:=0 },true) else
 let d:=if d.step=1 then { d with aV:=p.aV,head:=p.ptr,told:=p.ptr,data:=p.data } else d
 if d.aS=1 then aqM d bF c p else if d.aS=2 then alX d bF c p else aqN d c
abbrev RNT:=jE × List Evn
def jE.done(me:Int)(n:jE)(t:List Evn)(v:Int):RNT:=({ n with bH:=n.bH++[v],eG:=false },t++[⟨me,n.bH.length,true,v⟩])
def aiI(e:Ent)(o:Opn)(w:Nat):Ent:=
 if o.aS=2 then { e with data:=e.data.set w o.value } else if o.aS=3 then { e with data:=e.data.set w (w64 (e.data.getD w 0+o.value)) } else e
def jE.effect(c:Cfg)(n:jE)(o:Opn):jE × Int:=
 let i:=(n.aH.at_ (o.addr.tdiv c.bI)).getD 0;let e:=n.aH.l.getD i .zero;let w:=(o.addr.tmod c.bI).toNat
 ({ n with aH:={ n.aH with l:=n.aH.l.set i (aiI e o w) } },if o.aS=2 then 0 else e.data.getD w 0)
def jE.adX(c:Cfg)(me:Int)(n:jE)(f:Fab):Fab:=(f.send (n.aI.ask me (n.aI.aj.tmod c.aB))).1
def jE.begin_(c:Cfg)(me:Int)(n:jE)(f:Fab)(aS aj:Int):jE × Fab:=
 let n:={ n with has:=true,aI:=.begin aS aj n.num,num:=(n.num+1).tmod 4096 }
 (n,n.adX c me f)
abbrev aqP:=jE × Fab × List Evn
def jE.answered(c:Cfg)(me:Int)(n:jE)(f:Fab)(t:List Evn)(p:Pkt):aqP:=
 if n.has=false then(n,f,t) else
 match aqO n.aI me n.aH p with
 |(ca,d,ok)=>
  if ok=false then({ n with aH:=ca },f,t) else
  let n:={ n with aH:=ca,aI:=d }
  if d.step=0 then
   let n:={ n with has:=false,aI:=.zero }
   match n.ops[n.bH.length]? with
   |some o=>if n.eG=true/\o.aS=4 then((n.done me t 0).1,f,(n.done me t 0).2) else(n,f,t)
   |none=>(n,f,t)
  else
   let b:=if d.step=6/\d.aS≠3 then let ev:=n.effect c (n.ops.getD n.bH.length .zero);ev.1.done me t ev.2 else(n,t)
   (b.1,b.1.adX c me f,b.2)
def jE.work(c:Cfg)(me:Int)(n:jE)(f:Fab)(t:List Evn)(o:Opn):aqP:=
 let t:=if n.eG then t else t++[⟨me,n.bH.length,false,0⟩]
 let n:={ n with eG:=true }
 let aj:=o.addr.tdiv c.bI;let e:=n.aH.find aj
 if o.aS=4/\e=none then((n.done me t 0).1,f,(n.done me t 0).2)
 else if o.aS=4 then((n.begin_ c me f 3 aj).1,(n.begin_ c me f 3 aj).2,t)
 else if e.isSome=true/\(o.aS=1∨(e.getD .zero).dn=true) then
  let n:={ n with aH:=n.aH.touch aj }
  let ev:=n.effect c o
  ((ev.1.done me t ev.2).1,f,(ev.1.done me t ev.2).2)
 else if e=none/\0<=aj/\n.aH.ways<=(n.aH.pq aj).length then((n.begin_ c me f 3 (n.aH.Ny aj)).1,(n.begin_ c me f 3 (n.aH.Ny aj)).2,t)
 else if o.aS=1 then((n.begin_ c me f 1 aj).1,(n.begin_ c me f 1 aj).2,t)
 else((n.begin_ c me f 2 aj).1,(n.begin_ c me f 2 aj).2,t)
def jE.asked(c:Cfg)(me:Int)(n:jE)(f:Fab)(p:Pkt):jE × Fab:=
 if p.aS=1∨p.aS=2 then
  match n.homes.handle c me p with
  |(h,out,ok,e)=>({ n with homes:=h },if ok=true/\e=0 then(f.send out).1 else f)
 else
  match aiH n.aH p with
  |(ca,out,e)=>({ n with aH:=ca },if e=0 then(f.send out).1 else f)
def jE.step(c:Cfg)(me:Int)(n:jE)(f:Fab)(t:List Evn):aqP × Int:=
 match f.take me false with
 |(b,some p)=>(n.answered c me b t p,1)
 |(_,none)=>
  if 0<f.roomOf me false/\n.homes.aT.ready≠[] then
   (({ n with homes:=(n.homes.grant me).1 },(f.send (n.homes.grant me).2.1).1,t),2)
  else if 0<f.roomOf me false/\0<f.waiting me true then
   match f.take me true with
   |(b,p)=>(((n.asked c me b (p.getD .zero)).1,(n.asked c me b (p.getD .zero)).2,t),3)
  else
   match n.ops[n.bH.length]? with
   |some o=>if n.has=false then(n.work c me f t o,4) else((n,f,t),0)
   |none=>((n,f,t),0)
def jO.aqQ(m:jO):Fab:=⟨m.c.out,m.c.inn,m.fab⟩
def jO.all(m:jO):List Pkt:=m.fab.flatMap λp=>p.rq++p.an
def jO.left(m:jO):Int:=(m.aB.map λn=>(n.ops.length:Int)-n.bH.length).sum
def jO.busy(m:jO)(i:Nat):Bool:=match m.aB[i]?,m.fab[i]? with
 |some n,some p=>n.eG || n.has || decide (0<p.rin.length) || decide (0<p.ain.length)
 |_,_=>false
def jO.quiet(m:jO):Bool:=decide (m.all.length=0) && (List.range m.aB.length).all λi=>!m.busy i
def jO.step(m:jO)(i:Int):jO × Int:=
 match(if 0<=i then m.aB[i.toNat]? else none) with
 |none=>(m,0)
 |some n=>match n.step m.c i m.aqQ m.ev with
  |((n',f,t),k)=>({ m with aB:=m.aB.set i.toNat n',fab:=f.l,ev:=t },k)
def jO.deliver(m:jO)(at_ bit mask:Int):jO × Int:=({ m with fab:=(m.aqQ.deliver at_ bit mask).1.l },(m.aqQ.deliver at_ bit mask).2)
def jO.do_(m:jO)(p:Pck):jO × Bool:=
 if p.deliver then((m.deliver p.at_ p.bit p.mask).1,decide ((m.deliver p.at_ p.bit p.mask).2=0))
 else((m.step p.at_).1,decide ((m.step p.at_).2≠0))
structure ap5(c:Cfg)(me:Int)(n:Node)(r:jE):Prop where
 ops:r.ops=n.bQ.ops
 bH:r.bH=n.bQ.bH
 eG:r.eG=n.bQ.eG
 has:r.has=!decide (n.aI.step=0)
 aI:r.aI=if n.aI.step=0 then .zero else n.aI
 num:r.num=n.num
 sets:r.aH.sets=n.aH.sets
 ways:r.aH.ways=n.aH.ways
 dh:r.aH.dh=n.aH.dh
 sorted:r.aH.l.Pairwise λa b=>a.aj<b.aj
 perm:n.aH.l.Perm r.aH.l
 dJ:∀aj,lq c me aj=true->∃row,jC n.home.dJ aj=some row/\r.homes.dJ[aj.toNat]?=some row
 none:∀aj,lq c me aj=false->jC n.home.dJ aj=none
 owner:∀aj,n.home.aT.owner aj=r.homes.aT.jg aj
 waits:∀aj,n.home.aT.ws aj=r.homes.aT.waits aj
structure Sim(m:bW)(r:jO):Prop where
 c:r.c=m.c
 len:r.aB.length=m.aB.length
 fab:r.fab=m.fab.l
 ev:r.ev=m.trace
 bF:∀(i:Nat) n rn,m.aB[i]?=some n->r.aB[i]?=some rn->ap5 m.c i n rn
structure Dh(c r:Cache):Prop where
 sets:r.sets=c.sets
 ways:r.ways=c.ways
 dh:r.dh=c.dh
 sorted:r.l.Pairwise λa b=>a.aj<b.aj
 perm:c.l.Perm r.l
def Lines(l:List Ent):Prop:=l.Pairwise λa b=>a.aj≠b.aj
def xI {l:List Ent}(h:l.Pairwise λa b=>a.aj<b.aj):Lines l:=h.imp λh=>by omega
def Lines.perm {l b:List Ent}(h:Lines l)(p:l.Perm b):Lines b:=(p.pairwise_iff (λh=>Ne.symm h)).1 h
def Dh.aY {c r:Cache}(S:Dh c r):Lines c.l:=(xI S.sorted).perm S.perm.symm
def Dh.VW {c r:Cache}(S:Dh c r):Lines r.l:=xI S.sorted
def Lines.inj:∀{l:List Ent},Lines l->∀{a b:Ent},a∈l->b∈l->a.aj=b.aj->a=b
 |[],_,a,_,ha,_,_=>by cases ha
 |x::l,h,a,b,ha,hb,e=>by
  have i:=zbg.1 h;rcases zaj.1 ha with g|g
  ·rcases zaj.1 hb with d|d
   ·rw [g,d]
   ·rw [g] at e;exact absurd e (i.1 b d)
  ·rcases zaj.1 hb with d|d
   ·rw [d] at e;exact absurd e.symm (i.1 a g)
   ·exact Lines.inj i.2 g d e
def iJ {l:List Ent}(h:Lines l){aj:Int}{e:Ent}:(l.find? λx=>decide (x.aj=aj))=some e↔e∈l/\e.aj=aj:=by
 constructor
 ·intro b;exact⟨zba b,by simpa using zb3 b⟩
 ·rintro⟨d,g⟩;cases b:l.find? λx=>decide (x.aj=aj) with
  |none=>
   have:=zbP.1 b e d;simp [g] at this
  |some x=>
   have i:=zba b;have j:x.aj=aj:=by simpa using zb3 b
   rw [h.inj i d (by rw [j,g])]
def uH {l:List Ent}{aj:Int}:(l.find? λx=>decide (x.aj=aj))=none↔∀e∈l,e.aj≠aj:=by
 rw [zbP];simp
def Dh.find {c r:Cache}(S:Dh c r)(aj:Int):r.find aj=c.find aj:=by
 unfold Cache.find;cases b:c.l.find? λx=>decide (x.aj=aj) with
 |none=>
  rw [uH] at b ⊢;exact λe d=>b e (S.perm.mem_iff.2 d)
 |some e=>
  rw [iJ S.aY] at b;rw [iJ S.VW];exact⟨S.perm.mem_iff.1 b.1,b.2⟩
def Dh.count {c r:Cache}(S:Dh c r)(aj:Int):(r.pq aj).length=(c.pq aj).length:=by
 unfold Cache.pq;rw [S.sets];exact(S.perm.filter _).length_eq.symm
def Dh.full {c r:Cache}(S:Dh c r)(aj:Int):r.full aj=c.full aj:=by
 unfold Cache.full;rw [S.find,S.count,S.ways]
def zX {c:Cache}{aj:Int}:c.at_ aj=none↔c.find aj=none:=by
 unfold Cache.at_ Cache.find;rw [List.findIdx?_eq_none_iff,zbP];simp
def Di {c:Cache}{aj:Int}{i:Nat}(h:c.at_ aj=some i):∃e,c.l[i]?=some e/\c.find aj=some e/\e.aj=aj:=by
 unfold Cache.at_ at h;have hi:=List.findIdx?_eq_some_iff_getElem.1 h;obtain⟨b,d,g⟩:=hi;refine⟨c.l[i],zab b,?_,by simpa using d⟩;unfold Cache.find;rw [List.find?_eq_some_iff_getElem];exact⟨d,i,b,rfl,λj k=>by simpa using g j k⟩
def yB {c:Cache}{aj:Int}{e:Ent}(h:c.find aj=some e):∃i,c.at_ aj=some i/\c.l[i]?=some e:=by
 cases ha:c.at_ aj with
 |none=>rw [zX.1 ha] at h;cases h
 |some i=>
  obtain⟨g,d,b,_⟩:=Di ha;rw [h] at b;cases b;exact⟨i,rfl,d⟩
def NC:∀{l:List Ent},Lines l->∀{i:Nat} {e v:Ent},l[i]?=some e->l.set i v=l.map λx=>if x.aj=e.aj then v else x
 |[],_,i,e,v,h=>by simp at h
 |x::l,d,i,e,v,h=>by
  have b:=zbg.1 d;cases i with
  |zero=>
   simp only [zaT,zaa] at h;subst h;simp only [zb9,zax,if_true]
   congr 1
   have:∀y∈l,(if y.aj=x.aj then v else y)=y:=λy g=>if_neg (Ne.symm (b.1 y g));rw [zbt this];simp
  |succ i=>
   simp only [zbf] at h;have j:x.aj≠e.aj:=b.1 e (zan h);simp only [zca,zax,if_neg j];rw [NC b.2 h]
def En:∀{l:List Ent},Lines l->∀{i:Nat} {e:Ent},l[i]?=some e->l.eraseIdx i=l.filter λx=>decide (x.aj≠e.aj)
 |[],_,i,e,h=>by simp at h
 |x::l,d,i,e,h=>by
  have b:=zbg.1 d;cases i with
  |zero=>
   simp only [zaT,zaa] at h;subst h;simp only [List.eraseIdx_cons_zero,zbX,ne_eq,not_true,decide_false,zai,if_false];rw [List.filter_eq_self.2];intro y g;have:=b.1 y g;simp only [decide_eq_true_eq];exact λe=>this e.symm
  |succ i=>
   simp only [zbf] at h;have j:x.aj≠e.aj:=b.1 e (zan h);simp only [zdh,zbX,j,ne_eq,not_false_eq_true,decide_true,if_true];rw [En b.2 h]
def xJ(e:Ent):∀l,(zW e l).Perm (e::l)
 |[]=>.refl _
 |x::l=>by
  rw [zW];split
  ·exact .refl _
  ·exact((xJ e l).cons x).trans (.swap e x l)
def zh(e:Ent):∀l:List Ent,(l.Pairwise λa b=>a.aj<b.aj)->(∀x∈l,x.aj≠e.aj)->(zW e l).Pairwise λa b=>a.aj<b.aj
 |[],_,_=>by simp [zW]
 |x::l,h,j=>by
  have i:=zbg.1 h;rw [zW];split
  ·rename_i g;refine zbg.2 ⟨λy d=>?_,h⟩;rcases zaj.1 d with rfl|d
   ·exact g
   ·have:=i.1 y d;omega
  ·rename_i g;refine zbg.2 ⟨λy d=>?_,zh e l i.2 λy d=>j y (by simp [d])⟩;rcases zaj.1 ((xJ e l).mem_iff.1 d) with rfl|d
   ·have:=j x O;omega
   ·exact i.1 y d
def adY {l:List Ent}{f:Ent->Ent}(e:∀x∈l,(f x).aj=x.aj)(h:l.Pairwise λa b=>a.aj<b.aj):(l.map f).Pairwise λa b=>a.aj<b.aj:=by
 rw [zcx];exact h.imp_of_mem λha hb d=>by rw [e _ ha,e _ hb];exact d
def Dh.mapped {c r:Cache}(S:Dh c r){f:Ent->Ent}(b:∀x∈c.l,(f x).aj=x.aj)(k:Int):Dh { c with l:=c.l.map f,dh:=k } { r with l:=r.l.map f,dh:=k }:=
 ⟨S.sets,S.ways,rfl,adY (λx d=>b x (S.perm.mem_iff.2 d)) S.sorted,S.perm.map f⟩
def lY {c:Cache}(g:Lines c.l){e x:Ent}(h0:0<=e.aj)(h:c.find e.aj=some x):c.put e=({ c with l:=c.l.map λy=>if y.aj=e.aj then { e with used:=x.used } else y },0):=by
 obtain⟨i,d,b⟩:=yB h;have j:x.aj=e.aj:=by
  obtain⟨y,k1,_,k⟩:=Di d;rw [b] at k1;cases k1;exact k
 unfold Cache.put;rw [if_neg V,d];simp only;rw [zas,b,zav,NC g b,j]
def XY {c:Cache}(g:Lines c.l){e x:Ent}(h0:0<=e.aj)(h:c.find e.aj=some x):c.Y3 e=({ c with l:=c.l.map λy=>if y.aj=e.aj then { e with used:=x.used } else y },0):=by
 obtain⟨i,d,b⟩:=yB h;have j:x.aj=e.aj:=by
  obtain⟨y,k1,_,k⟩:=Di d;rw [b] at k1;cases k1;exact k
 unfold Cache.Y3;rw [if_neg V,d];simp only;rw [zas,b,zav,NC g b,j]
def Dh.put {c r:Cache}(S:Dh c r)(e:Ent):Dh (c.put e).1 (r.Y3 e).1/\(r.Y3 e).2=(c.put e).2:=by
 by_cases d:e.aj<0
 ·unfold Cache.put Cache.Y3;rw [if_pos d,if_pos d];exact⟨S,rfl⟩
 cases b:c.find e.aj with
 |some x=>
  rw [lY S.aY V b,XY S.VW V (by rw [S.find,b])];refine⟨?_,rfl⟩;have:=S.mapped (f:=λy=>if y.aj=e.aj then { e with used:=x.used } else y) (λy _=>by
   try simp only
   split
   ·rename_i h;exact h.symm
   ·rfl) c.dh
  rw [<-S.dh] at this;have g:({ c with l:=c.l.map λy=>if y.aj=e.aj then { e with used:=x.used } else y }:Cache)={ c with l:=c.l.map λy=>if y.aj=e.aj then { e with used:=x.used } else y,dh:=r.dh }:=by rw [S.dh]
  rw [g];exact this
 |none=>
  have i:=zX.2 b;have j:r.at_ e.aj=none:=zX.2 (by rw [S.find,b]);unfold Cache.put Cache.Y3;rw [if_neg d,if_neg d,i,j];have hc:(r.ways<=((r.pq e.aj).length:Int))=(c.full e.aj=true):=by
   simp only [Cache.full,b,zcP,zaN,S.count,S.ways,decide_eq_true_eq]
  simp only [hc];split
  ·exact⟨S,rfl⟩
  ·refine⟨⟨S.sets,S.ways,by simp only [S.dh],?_,?_⟩,rfl⟩
   ·simp only [S.dh];refine zh _ _ S.sorted λx k=>?_;have:=uH.1 (show(c.l.find? λx=>decide (x.aj=e.aj))=none from b);exact this x (S.perm.mem_iff.2 k)
   ·simp only [S.dh];refine(zdx.trans ?_).trans (xJ _ _).symm;exact S.perm.cons _
def Iw {c:Cache}(b:Lines c.l)(aj:Int):c.drop aj={ c with l:=c.l.filter λx=>decide (x.aj≠aj) }:=by
 unfold Cache.drop;cases ha:c.at_ aj with
 |none=>
  have:=uH.1 (show(c.l.find? λx=>decide (x.aj=aj))=none from zX.1 ha);simp only;rw [List.filter_eq_self.2 λx d=>by simpa using this x d]
 |some i=>
  obtain⟨e,g,_,h⟩:=Di ha;simp only;rw [En b g,h]
def Dh.drop {c r:Cache}(S:Dh c r)(aj:Int):Dh (c.drop aj) (r.drop aj):=by
 rw [Iw S.aY,Iw S.VW];exact⟨S.sets,S.ways,S.dh,S.sorted.filter _,S.perm.filter _⟩
def yC {c:Cache}(g:Lines c.l){aj:Int}{e:Ent}(h:c.find aj=some e):c.touch aj={ c with l:=c.l.map λx=>if x.aj=aj then { e with used:=c.dh+1 } else x,dh:=c.dh+1 }:=by
 obtain⟨i,d,b⟩:=yB h;obtain⟨y,k1,_,j⟩:=Di d;rw [b] at k1;cases k1;unfold Cache.touch;rw [d];simp only;rw [zas,b,zav,NC g b,j]
def Dh.touch {c r:Cache}(S:Dh c r){aj:Int}{e:Ent}(h:c.find aj=some e):Dh (c.touch aj) (r.touch aj):=by
 have b:e.aj=aj:=by
  obtain⟨i,d,g⟩:=yB h;obtain⟨y,k1,_,j⟩:=Di d;rw [g] at k1;cases k1;exact j
 rw [yC S.aY h,yC S.VW (by rw [S.find,h]),S.dh];exact S.mapped (λx _=>by
  try simp only
  split
  ·rename_i k;rw [k];exact b
  ·rfl) _
def Iy:∀(l:List Ent) (m:Ent),(l.foldl (λm x=>if x.used<m.used then x else m) m)∈m::l/\∀x∈m::l,(l.foldl (λm x=>if x.used<m.used then x else m) m).used<=x.used
 |[],m=>by simp
 |x::l,m=>by
  rw [zbT];obtain⟨i,e⟩:=Iy l (if x.used<m.used then x else m);refine⟨?_,λy b=>?_⟩
  ·rcases zaj.1 i with h|h
   ·rw [h];split <;> simp
   ·simp [h]
  ·have d:(if x.used<m.used then x else m).used<=x.used/\(if x.used<m.used then x else m).used<=m.used:=by
    split
    ·omega
    ·omega
   have g:=e _ (List.mem_cons_self ..);rcases zaj.1 b with b|b
   ·rw [b];exact zdd g d.2
   ·rcases zaj.1 b with b|b
    ·rw [b];exact zdd g d.1
    ·exact e y (by simp [b])
def sO {l:List Ent}{e:Ent}(h:oq l=some e):e∈l/\∀x∈l,e.used<=x.used:=by
 cases l with
 |nil=>cases h
 |cons m l=>
  simp only [oq,zaa] at h;subst h;exact Iy l m
def Iz(l:List Ent):Prop:=l.Pairwise λa b=>a.used≠b.used
def Iz.inj:∀{l:List Ent},Iz l->∀{a b:Ent},a∈l->b∈l->a.used=b.used->a=b
 |[],_,a,_,ha,_,_=>by cases ha
 |x::l,h,a,b,ha,hb,e=>by
  have i:=zbg.1 h;rcases zaj.1 ha with g|g
  ·rcases zaj.1 hb with d|d
   ·rw [g,d]
   ·rw [g] at e;exact absurd e (i.1 b d)
  ·rcases zaj.1 hb with d|d
   ·rw [d] at e;exact absurd e.symm (i.1 a g)
   ·exact Iz.inj i.2 g d e
def QJ {l d:List Ent}(p:l.Perm d)(h:Iz l):oq d=oq l:=by
 cases i:oq l with
 |none=>
  cases l with
  |nil=>rw [List.nil_perm.1 p];rfl
  |cons m l=>cases i
 |some e=>
  obtain⟨g,k⟩:=sO i;cases b:oq d with
  |none=>
   cases d with
   |nil=>rw [List.perm_nil.1 p] at g;cases g
   |cons m l=>cases b
  |some o=>
   obtain⟨j,q⟩:=sO b;have u:=k o (p.mem_iff.2 j);have v:=q e (p.mem_iff.1 g);rw [h.inj g (p.mem_iff.2 j) V]
def Dh.oJ {c r:Cache}(S:Dh c r)(h:Iz c.l)(aj:Int):r.Ny aj=(c.oJ aj).getD (-1):=by
 unfold Cache.Ny Cache.oJ;have:oq (r.pq aj)=oq (c.pq aj):=by
  unfold Cache.pq;rw [S.sets];exact QJ (S.perm.filter _) (h.filter _)
 rw [this]
def zY(x:Int):∀l,(Em x l).Perm (x::l)
 |[]=>List.Perm.refl _
 |y::l=>by
  simp only [Em];split
  ·exact((zY x l).cons y).trans (List.Perm.swap x y l)
  ·exact List.Perm.refl _
def Ba(x:Int):∀l,l.Pairwise (· ≥ ·)->(Em x l).Pairwise (· ≥ ·)
 |[],_=>by simp [Em]
 |y::l,h=>by
  simp only [Em];rw [zbg] at h;split
  ·rename_i d;refine zbg.2 ⟨λz b=>?_,Ba x l h.2⟩;rcases zaj.1 ((zY x l).mem_iff.1 b) with rfl|b
   ·omega
   ·exact h.1 z b
  ·rename_i d;refine zbg.2 ⟨λz b=>?_,zbg.2 h⟩;rcases zaj.1 b with rfl|b
   ·omega
   ·have:=h.1 z b;omega
def vU:∀(l b:List Int),b.Pairwise (· ≥ ·)->(srt b l).Perm (b++l)/\(srt b l).Pairwise (· <= ·)
 |[],b,h=>by
  simp only [srt,zbm];exact⟨List.reverse_perm b,List.pairwise_reverse.2 (h.imp λh=>h)⟩
 |x::l,b,h=>by
  have:=vU l (Em x b) (Ba x b h);simp only [srt];refine⟨this.1.trans ?_,this.2⟩;refine((zY x b).append_right l).trans ?_;rw [zbq];exact(zdr (a:=x) (l₁:=b) (l₂:=l)).symm
def alY {l d:List Int}(h:l.Perm d)(hs:d.Pairwise (· <= ·)):srt [] l=d:=by
 obtain⟨e,g⟩:=vU l [] List.Pairwise.nil;exact(e.trans h).eq_of_pairwise (λa b _ _ e g=>Int.le_antisymm e g) g hs
def iF {α:Type}:∀(l:List (Int × α)) (n m:Int) (x:α),jC (mM l n x) m=if n=m then some x else jC l m
 |[],n,m,x=>by simp [mM,jC]
 |(k,v)::l,n,m,x=>by
  simp only [mM];by_cases h:k=n
  ·subst h;simp only [if_true,jC];by_cases b:k=m <;> simp [b]
  ·simp only [h,if_false,jC];rw [iF l n m x];by_cases b:k=m
   ·subst b;simp only [if_true];rw [if_neg (λe=>h e.symm)]
   ·simp [b]
def Dj {α:Type}:∀(l:List (Int × α)) (n:Int),(yU l n).map (·.1)=(l.map (·.1)).erase n
 |[],n=>rfl
 |(k,v)::l,n=>by
  simp only [yU,zax,List.erase_cons];by_cases h:k=n
  ·simp [h]
  ·simp [h,Dj l n]
def QK {α:Type}:∀(l:List (Int × α)) (n:Int) (x:α),(mM l n x).map (·.1)=if n∈l.map (·.1) then l.map (·.1) else l.map (·.1)++[n]
 |[],n,x=>by simp [mM]
 |(k,v)::l,n,x=>by
  simp only [mM,zax,zaj];by_cases h:k=n
  ·simp [h]
  ·have b:¬n=k:=λe=>h e.symm;simp only [h,if_false,zax,b,false_or,QK l n x];split <;> simp
def nJ {α:Type}{l:List (Int × α)}(h:(l.map (·.1)).Nodup)(n:Int)(x:α):((mM l n x).map (·.1)).Nodup:=by
 rw [QK];split
 ·exact h
 ·rename_i d;rw [zb2];refine⟨h,O,λa ha b hb=>?_⟩;simp only [zaU] at hb;subst hb;intro e;subst e;exact d ha
def Dk {α:Type}:∀{l:List (Int × α)},(l.map (·.1)).Nodup->∀(n m:Int),jC (yU l n) m=if n=m then none else jC l m
 |[],_,n,m=>by simp [yU,jC]
 |(k,v)::l,h,n,m=>by
  rw [zax,za1] at h;simp only [yU];by_cases hk:k=n
  ·subst hk;simp only [if_true,jC];by_cases b:k=m
   ·subst b;simp only [if_true];exact KT.2 h.1
   ·simp [b]
  ·simp only [hk,if_false,jC];rw [Dk h.2 n m];by_cases b:k=m
   ·subst b;simp only [if_true];rw [if_neg λe=>hk e.symm]
   ·simp [b]
where
 KT {α:Type}:∀{es:List (Int × α)} {n:Int},jC es n=none↔n∉es.map (·.1)
 |[],n=>by simp [jC]
 |(k,v)::l,n=>by
  simp only [jC,zax,zaj,not_or];by_cases h:k=n
  ·simp [h]
  ·simp only [h,if_false];rw [KT (es:=l)];exact⟨λd=>⟨λe=>h e.symm,d⟩,λd=>d.2⟩
def mQ {α:Type}:∀{l:List (Int × α)} {n:Int} {x:α},jC l n=some x->(n,x)∈l
 |[],n,x,h=>by cases h
 |(k,v)::l,n,x,h=>by
  simp only [jC] at h;split at h
  ·rename_i e;cases h;subst e;simp
  ·simp [mQ h]
def mV {α:Type}:∀{l:List (Int × α)} {n:Int} {x:α} {e:Int × α},e∈mM l n x->e=(n,x)∨e∈l
 |[],n,x,e,h=>by simp [mM] at h;exact .inl h
 |(k,v)::l,n,x,e,h=>by
  simp only [mM] at h;split at h
  ·rcases zaj.1 h with h|h
   ·exact .inl h
   ·exact .inr (by simp [h])
  ·rcases zaj.1 h with h|h
   ·exact .inr (by simp [h])
   ·rcases mV h with h|h
    ·exact .inl h
    ·exact .inr (by simp [h])
def IB {α:Type}:∀{l:List (Int × α)} {n:Int} {e:Int × α},e∈yU l n->e∈l
 |[],n,e,h=>by cases h
 |(k,v)::l,n,e,h=>by
  simp only [yU] at h;split at h
  ·simp [h]
  ·rcases zaj.1 h with h|h
   ·simp [h]
   ·simp [IB h]
structure IC(t:Turns):Prop where
 ok:(t.gG.map (·.1)).Nodup
 oge:∀e∈t.gG,0<=e.2
 wk:(t.wait.map (·.1)).Nodup
 wge:∀e∈t.wait,∀w∈e.2,0<=w.1
structure Uk(t:Turns)(r:iE):Prop where
 owner:∀aj,t.owner aj=r.jg aj
 waits:∀aj,t.ws aj=r.waits aj
 rok:(r.owner.map (·.1)).Nodup
 rge:∀o∈r.owner,0<=o.2
def IC.owned {t:Turns}(h:IC t)(aj:Int):t.owned aj=true↔t.owner aj≠-1:=by
 unfold Turns.owned Turns.owner;cases ha:jC t.gG aj with
 |none=>simp
 |some v=>
  have:=h.oge _ (mQ ha);simp only [zaL,zav,true_iff];simp only at this;omega
def zo {l:List (Int × Int)}{aj who m:Int}(b:∀o∈l,o.1≠aj):(((l++[(aj,who)]).find? λo=>decide (o.1=m)).map (·.2)).getD (-1)=if m=aj then who else((l.find? λo=>decide (o.1=m)).map (·.2)).getD (-1):=by
 rw [zdO];by_cases h:m=aj
 ·subst h;have:(l.find? λo=>decide (o.1=m))=none:=by
   rw [zbP];intro o d;simpa using b o d
  rw [this];simp
 ·rw [if_neg h];cases i:l.find? λo=>decide (o.1=m) with
  |some o=>simp
  |none=>
   have g:¬aj=m:=λe=>h e.symm;simp [g]
def Uk.free {t:Turns}{r:iE}(S:Uk t r){aj:Int}(h:r.jg aj=-1):∀o∈r.owner,o.1≠aj:=by
 intro o d e;unfold iE.jg at h;cases b:r.owner.find? λo=>decide (o.1=aj) with
 |none=>
  have:=zbP.1 b o d;simp [e] at this
 |some g=>
  rw [b] at h;have:=S.rge g (zba b);simp only [zak,zav] at h;omega
def KU {l:List (Int × Int)}(h:(l.map (·.1)).Nodup){aj who:Int}(d:∀o∈l,o.1≠aj):((l++[(aj,who)]).map (·.1)).Nodup:=by
 rw [zbi,zb2];refine⟨h,O,λa ha b hb=>?_⟩;obtain⟨o,e,rfl⟩:=zaI.1 ha;simp only [zax,zbJ,zaU] at hb;subst hb;exact d o e
def Uk.ask {t:Turns}{r:iE}(S:Uk t r)(h:IC t)(aj who id:Int):Uk (t.ask aj who id).1 (r.ask aj who id).1/\(r.ask aj who id).2=(t.ask aj who id).2/\IC (t.ask aj who id).1:=by
 unfold Turns.ask iE.ask;by_cases k:who<0
 ·rw [if_pos k,if_pos k];exact⟨S,rfl,h⟩
 rw [if_neg k,if_neg k];have b:=h.owned aj;by_cases hc:(t.owned aj || !(t.ws aj).isEmpty)=true
 ·have j:¬(r.jg aj=-1/\r.waits aj=[]):=by
   rintro⟨p,q⟩;simp only [zbk,za4] at hc;rcases hc with hc|hc
   ·exact b.1 hc (by rw [S.owner,p])
   ·rw [S.waits,q] at hc;cases hc
  rw [if_pos hc,if_neg j];refine⟨⟨S.owner,λm=>?_,S.rok,S.rge⟩,rfl,⟨h.ok,h.oge,nJ h.wk _ _,λe d w hw=>?_⟩⟩
  ·show(jC (mM t.wait aj (t.ws aj++[(who,id)])) m).getD []=((r.wait++[(aj,who,id)]).filter λw=>decide (w.1=m)).map (·.2);have hm:=S.waits m;unfold Turns.ws iE.waits at hm;rw [iF,zcq,zbi,<-hm];by_cases i:aj=m
   ·subst i;simp [Turns.ws]
   ·simp [i]
  ·rcases mV d with rfl|d
   ·rcases zaO.1 hw with hw|hw
    ·unfold Turns.ws at hw;cases ha:jC t.wait aj with
     |none=>rw [ha] at hw;cases hw
     |some ws=>rw [ha] at hw;exact h.wge _ (mQ ha) w hw
    ·simp only [zaU] at hw;subst hw;simp only;omega
   ·exact h.wge e d w hw
 ·have g:t.owned aj=false/\t.ws aj=[]:=by
   simp only [zbk,za4,not_or,zdp,zcy,List.isEmpty_iff] at hc;exact hc
  have j:r.jg aj=-1/\r.waits aj=[]:=by
   refine⟨?_,by rw [<-S.waits];exact g.2⟩;rw [<-S.owner];rcases Classical.em (t.owner aj=-1) with e|e
   ·exact e
   ·rw [b.2 e] at g;cases g.1
  rw [if_neg hc,if_pos j];refine⟨⟨λm=>?_,S.waits,KU S.rok (S.free j.1),λo b=>?_⟩,rfl,⟨nJ h.ok _ _,λe d=>?_,h.wk,h.wge⟩⟩
  ·show(jC (mM t.gG aj who) m).getD (-1)=(((r.owner++[(aj,who)]).find? λo=>decide (o.1=m)).map (·.2)).getD (-1);rw [zo (S.free j.1),iF];by_cases i:aj=m
   ·subst i;simp
   ·rw [if_neg i,if_neg λe=>i e.symm];exact S.owner m
  ·rcases zaO.1 b with b|b
   ·exact S.rge o b
   ·simp only [zaU] at b;subst b;simp only;omega
  ·rcases mV d with rfl|d
   ·simp only;omega
   ·exact h.oge e d
def Bc:∀{l:List (Int × Int)},(l.map (·.1)).Nodup->∀{aj who:Int},(aj,who)∈l->∀m,(((mO (λo=>decide (o.1=aj) && decide (o.2=who)) l).find? λo=>decide (o.1=m)).map (·.2)).getD (-1)=if m=aj then -1 else((l.find? λo=>decide (o.1=m)).map (·.2)).getD (-1)
 |[],_,aj,who,h,m=>by cases h
 |(k,v)::l,b,aj,who,h,m=>by
  rw [zax,za1] at b;simp only [mO];by_cases hk:k=aj
  ·subst hk;have hv:v=who:=by
    rcases zaj.1 h with e|e
    ·cases e;rfl
    ·exact absurd (zaI.2 ⟨_,e,rfl⟩) b.1
   subst hv;simp only [decide_true,zcj,if_true,List.find?_cons];by_cases hm:m=k
   ·subst hm;have:(l.find? λo=>decide (o.1=m))=none:=by
     rw [zbP];intro o d;simp only [decide_eq_true_eq];intro e;exact b.1 (zaI.2 ⟨o,d,e⟩)
    rw [this];simp
   ·have:¬k=m:=λe=>hm e.symm;simp [hm,this]
  ·have g:(aj,who)∈l:=by
    rcases zaj.1 h with e|e
    ·cases e;exact absurd rfl hk
    ·exact e
   simp only [hk,decide_false,zaP,zai,if_false,List.find?_cons];by_cases hm:k=m
   ·subst hm;simp [hk]
   ·simp only [hm,decide_false];exact Bc b.2 g m
def xK {α:Type}(p:α->Bool):∀l:List α,(mO p l).Sublist l
 |[]=>.slnil
 |x::l=>by
  simp only [mO];split
  ·exact List.sublist_cons_self x l
  ·exact(xK p l).cons_cons x
def Uk.release {t:Turns}{r:iE}(S:Uk t r)(h:IC t){aj who:Int}(hw:t.owner aj=who)(h0:0<=who):Uk (t.release aj who).1 (r.release aj who).1/\(t.release aj who).2=0/\IC (t.release aj who).1:=by
 have ha:jC t.gG aj=some who:=by
  unfold Turns.owner at hw;cases e:jC t.gG aj with
  |none=>rw [e] at hw;simp at hw;omega
  |some v=>rw [e] at hw;simp at hw;rw [hw]
 have hm:(aj,who)∈r.owner:=by
  have:=S.owner aj;rw [hw] at this;unfold iE.jg at this;cases e:r.owner.find? λo=>decide (o.1=aj) with
  |none=>rw [e] at this;simp at this;omega
  |some o=>
   rw [e] at this;have g:=zba e;have i:o.1=aj:=by simpa using zb3 e
   simp at this;have:o=(aj,who):=by rw [Prod.ext_iff];exact⟨i,this.symm⟩
   rw [<-this];exact g
 have b:(r.owner.any λo=>decide (o.1=aj) && decide (o.2=who))=true:=zcG.2 ⟨_,hm,O⟩;unfold Turns.release iE.release;rw [if_pos ha,if_pos b];refine⟨⟨λm=>?_,S.waits,(S.rok.sublist ((xK _ _).map _)),λo j=>S.rge o ((xK _ _).subset j)⟩,rfl,⟨?_,λe k=>h.oge e (IB k),h.wk,h.wge⟩⟩
 ·show(jC (yU t.gG aj) m).getD (-1)=_;rw [Dk h.ok];show _=(((mO (λo=>decide (o.1=aj) && decide (o.2=who)) r.owner).find? λo=>decide (o.1=m)).map (·.2)).getD (-1);rw [Bc S.rok hm];by_cases d:aj=m
  ·subst d;simp
  ·rw [if_neg d,if_neg λe=>d e.symm];exact S.owner m
 ·show((yU t.gG aj).map (·.1)).Nodup;rw [Dj];exact h.ok.erase _
def zZ:∀(l:List (Int × Int × Int)) (aj m:Int),((mO (λw=>decide (w.1=aj)) l).filter λw=>decide (w.1=m))=if m=aj then(l.filter λw=>decide (w.1=m)).tail else l.filter λw=>decide (w.1=m)
 |[],aj,m=>by simp [mO]
 |w::l,aj,m=>by
  simp only [mO];by_cases hw:w.1=aj
  ·simp only [hw,decide_true,if_true,zbX];by_cases hm:m=aj
   ·subst hm;simp
   ·have:¬aj=m:=λe=>hm e.symm;simp [hm,this]
  ·simp only [hw,decide_false,zai,if_false,zbX];by_cases hm:w.1=m
   ·have b:¬m=aj:=λe=>hw (by rw [hm,e]);simp only [hm,decide_true,if_true,b,if_false];rw [zZ l aj m,if_neg b]
   ·simp only [hm,decide_false,zai,if_false];exact zZ l aj m
def Uk.next {t:Turns}{r:iE}(S:Uk t r)(h:IC t)(aj:Int):Uk (t.next aj).1 (r.next aj).1/\(r.next aj).2=(t.next aj).2/\IC (t.next aj).1:=by
 unfold Turns.next iE.next
 by_cases d:t.owned aj=true
 ·rw [if_pos d,if_pos (by rw [<-S.owner];exact(h.owned aj).1 d)];exact⟨S,rfl,h⟩
 ·have y:r.jg aj=-1:=by
   rw [<-S.owner];rcases Classical.em (t.owner aj=-1) with e|e
   ·exact e
   ·exact absurd ((h.owned aj).2 e) d
  rw [if_neg d,if_neg (by rw [y];simp)];have hw:=S.waits aj;unfold iE.waits at hw;cases z:r.wait.find? λw=>decide (w.1=aj) with
  |none=>
   have:(r.wait.filter λw=>decide (w.1=aj))=[]:=by
    rw [List.filter_eq_nil_iff];exact λw hw=>zbP.1 z w hw
   rw [this] at hw;rw [hw];exact⟨S,rfl,h⟩
  |some w=>
   have k:(r.wait.filter λw=>decide (w.1=aj))=w::(r.wait.filter λw=>decide (w.1=aj)).tail:=by
    have v:(r.wait.filter λw=>decide (w.1=aj)).head?=some w:=by rw [List.head?_filter];exact z
    cases g:r.wait.filter λw=>decide (w.1=aj) with
    |nil=>rw [g] at v;cases v
    |cons a b=>rw [g] at v;cases v;rfl
   rw [k,zax] at hw;rw [hw];have D:w.1=aj:=by simpa using zb3 z
   have p:∃ws,jC t.wait aj=some ws/\ws=w.2::(r.wait.filter λw=>decide (w.1=aj)).tail.map (·.2):=by
    unfold Turns.ws at hw;cases e:jC t.wait aj with
    |none=>rw [e] at hw;cases hw
    |some ws=>rw [e] at hw;exact⟨ws,rfl,hw⟩
   obtain⟨ws,A,i⟩:=p;have q:∀x∈ws,0<=x.1:=h.wge _ (mQ A);have u:0<=w.2.1:=q w.2 (by rw [i];simp);refine⟨⟨λm=>?_,λm=>?_,KU S.rok (S.free y),λo d=>?_⟩,rfl,⟨nJ h.ok _ _,λe j=>?_,nJ h.wk _ _,λe j x C=>?_⟩⟩
   ·show(jC (mM t.gG aj w.2.1) m).getD (-1)=(((r.owner++[(aj,w.2.1)]).find? λo=>decide (o.1=m)).map (·.2)).getD (-1);rw [zo (S.free y),iF];by_cases g:aj=m
    ·subst g;simp
    ·rw [if_neg g,if_neg λe=>g e.symm];exact S.owner m
   ·show(jC (mM t.wait aj _) m).getD []=((mO (λw=>decide (w.1=aj)) r.wait).filter λw=>decide (w.1=m)).map (·.2);rw [iF,zZ];by_cases g:aj=m
    ·subst g;simp
    ·rw [if_neg g,if_neg λe=>g e.symm];exact S.waits m
   ·rcases zaO.1 d with d|d
    ·exact S.rge o d
    ·simp only [zaU] at d;subst d;exact u
   ·rcases mV j with rfl|j
    ·exact u
    ·exact h.oge e j
   ·rcases mV j with rfl|j
    ·exact q x (by rw [i];exact za9 _ C)
    ·exact h.wge e j x C
def xM {x y:Int}:∀{l:List Int},y∈mP x l↔y=x∨y∈l
 |[]=>by simp [mP]
 |z::l=>by
  simp only [mP];split
  ·rw [zaj,xM (l:=l),zaj];constructor
   ·rintro(h|h|h) <;> simp [h]
   ·rintro(h|h|h) <;> simp [h]
  ·split
   ·rename_i h;subst h;simp
   ·simp
def xO {x:Int}:∀{l:List Int},l.Pairwise (· < ·)->(mP x l).Pairwise (· < ·)
 |[],_=>by simp [mP]
 |z::l,h=>by
  have d:=zbg.1 h;simp only [mP];split
  ·rename_i e;refine zbg.2 ⟨λy b=>?_,xO d.2⟩;rcases xM.1 b with rfl|b
   ·exact e
   ·exact d.1 y b
  ·split
   ·exact h
   ·refine zbg.2 ⟨λy b=>?_,h⟩;rcases zaj.1 b with rfl|b
    ·omega
    ·have:=d.1 y b;omega
def Dl(t:iE):∀(l:List (Int × Int × Int)) (out:List Int),out.Pairwise (· < ·)->
  (l.foldl (λout w=>if t.jg w.1≠-1 then out else mP w.1 out) out).Pairwise (· < ·)/\
  ∀x,x∈l.foldl (λout w=>if t.jg w.1≠-1 then out else mP w.1 out) out↔x∈out∨(t.jg x=-1/\∃w∈l,w.1=x)
 |[],out,h=>⟨h,λx=>O⟩
 |w::l,out,h=>by
  rw [zbT];by_cases hw:t.jg w.1≠-1
  ·rw [if_pos hw];obtain⟨d,g⟩:=Dl t l out h;refine⟨d,λx=>?_⟩;rw [g x];constructor
   ·rintro(h|⟨h,w',b,e⟩)
    ·exact .inl h
    ·exact .inr ⟨h,w',by simp [b],e⟩
   ·rintro(h|⟨h,w',b,e⟩)
    ·exact .inl h
    ·rcases zaj.1 b with i|b
     ·rw [<-e,i] at h;exact absurd h hw
     ·exact .inr ⟨h,w',b,e⟩
  ·rw [if_neg hw];obtain⟨d,g⟩:=Dl t l (mP w.1 out) (xO h);refine⟨d,λx=>?_⟩;rw [g x,xM];have hw:t.jg w.1=-1:=by
    rcases Classical.em (t.jg w.1=-1) with e|e
    ·exact e
    ·exact absurd e hw
   constructor
   ·rintro((h|h)|⟨h,w',b,e⟩)
    ·exact .inr ⟨by rw [h];exact hw,w,O,h.symm⟩
    ·exact .inl h
    ·exact .inr ⟨h,w',by simp [b],e⟩
   ·rintro(h|⟨h,w',b,e⟩)
    ·exact .inl (.inr h)
    ·rcases zaj.1 b with i|b
     ·exact .inl (.inl (by rw [<-e,i]))
     ·exact .inr ⟨h,w',b,e⟩
def XZ {l d:List Int}(h:l.Pairwise (· < ·))(e:d.Pairwise (· < ·))(hm:∀x,x∈l↔x∈d):l=d:=by
 have n1:l.Nodup:=h.imp λh=>by omega
 have g:d.Nodup:=e.imp λh=>by omega
 exact((List.perm_ext_iff_of_nodup n1 g).2 hm).eq_of_pairwise (λa b _ _ i j=>V) h e
def alZ {l:List Int}(h:l.Nodup):(srt [] l).Pairwise (· < ·)/\∀x,x∈srt [] l↔x∈l:=by
 obtain⟨d,e⟩:=vU l [] List.Pairwise.nil;rw [zaM] at d;have n:(srt [] l).Nodup:=d.nodup_iff.2 h;exact⟨e.imp₂ (λa b d e=>V) n,λx=>d.mem_iff⟩
def Uk.ready {t:Turns}{r:iE}(S:Uk t r)(h:IC t):r.ready=t.ready (srt [] (t.wait.map (·.1))):=by
 obtain⟨k,m⟩:=Dl r r.wait [] List.Pairwise.nil;obtain⟨k1,o⟩:=alZ h.wk;refine XZ k (k1.filter _) λx=>?_;show x∈r.wait.foldl (λout w=>if r.jg w.1≠-1 then out else mP w.1 out) []↔x∈(srt [] (t.wait.map (·.1))).filter λaj=>!t.owned aj && !(t.ws aj).isEmpty;rw [m x,zbp,o];have g:t.owned x=false↔r.jg x=-1:=by
  rw [<-S.owner];have:=h.owned x;cases i:t.owned x
  ·simp only [i,zai,false_iff,ne_eq,Decidable.not_not] at this;simp [this]
  ·simp only [i,true_iff] at this;simp [this]
 have hw:(t.ws x).isEmpty=false↔∃w∈r.wait,w.1=x:=by
  rw [S.waits];unfold iE.waits;constructor
  ·intro j;cases e:r.wait.filter λw=>decide (w.1=x) with
   |nil=>rw [e] at j;cases j
   |cons a l=>
    have:a∈r.wait.filter λw=>decide (w.1=x):=by rw [e];simp
    rw [zbp] at this;exact⟨a,this.1,by simpa using this.2⟩
  ·rintro⟨w,d,b⟩;have:w∈r.wait.filter λw=>decide (w.1=x):=zbp.2 ⟨d,by simp [b]⟩;cases e:r.wait.filter λw=>decide (w.1=x) with
   |nil=>rw [e] at this;cases this
   |cons a l=>rfl
 simp only [zaA,false_or,zah,za4];constructor
 ·rintro⟨d,b⟩;refine⟨?_,g.2 d,hw.2 b⟩;have:=hw.2 b;unfold Turns.ws at this;cases ha:jC t.wait x with
  |none=>rw [ha] at this;cases this
  |some v=>exact zaI.2 ⟨_,mQ ha,rfl⟩
 ·rintro⟨_,d,b⟩;exact⟨g.1 d,hw.1 b⟩
structure KW(c:Cfg)(me:Int)(h:Home)(r:gZ):Prop where
 dJ:∀aj,lq c me aj=true->∃row,jC h.dJ aj=some row/\r.dJ[aj.toNat]?=some row
 none:∀aj,lq c me aj=false->jC h.dJ aj=none
 aT:Uk h.aT r.aT
structure Y4(c:Cfg)(me:Int)(h:Home):Prop where
 aT:IC h.aT
 here:∀e∈h.aT.wait,lq c me e.1=true
def KW.row {c:Cfg}{me:Int}{h:Home}{r:gZ}(S:KW c me h r){aj:Int}(b:lq c me aj=true):r.row aj=jq h.dJ aj:=by
 obtain⟨row,d,e⟩:=S.dJ aj b;unfold gZ.row jq;rw [d,zas,e];first|done|rfl
def KW.granted {c:Cfg}{me:Int}{h:Home}{r:gZ}(S:KW c me h r){aj:Int}(b:lq c me aj=true)(who id:Int):r.granted me aj who id=Proofs.YtljogojaihgdlaaGreat.granted h.dJ me aj who id:=by
 unfold gZ.granted Proofs.YtljogojaihgdlaaGreat.granted;rw [S.row b]
def KW.IE {c:Cfg}{me:Int}{h:Home}{r:gZ}(S:KW c me h r){t:Turns}{b:iE}(T:Uk t b):KW c me { h with aT:=t } { r with aT:=b }:=⟨S.dJ,S.none,T⟩
def VX {t:Turns}{aj who id:Int}{e:Int × List (Int × Int)}(h:e∈(t.ask aj who id).1.wait):e.1=aj∨e∈t.wait:=by
 unfold Turns.ask at h;split at h
 ·exact .inr h
 ·split at h
  ·rcases mV h with rfl|h
   ·exact .inl rfl
   ·exact .inr h
  ·exact .inr h
def Eo {t:Turns}{aj who:Int}:(t.release aj who).1.wait=t.wait:=by
 unfold Turns.release;split <;> rfl
def QL {t:Turns}{aj:Int}{e:Int × List (Int × Int)}(h:e∈(t.next aj).1.wait):e∈t.wait∨(e.1=aj/\t.ws aj≠[]):=by
 unfold Turns.next at h
 split at h
 ·exact .inl h
 ·split at h
  ·exact .inl h
  ·rename_i w ws hw;rcases mV h with rfl|h
   ·exact .inr ⟨rfl,by rw [hw];simp⟩
   ·exact .inl h
def Bf {c:Cfg}(hc:c.ok=true){me aj:Int}(h0:0<=aj):(c.bf aj≠me∨c.aY<=aj)↔lq c me aj=false:=by
 have b:c.bf aj=aj % c.aB:=by unfold Cfg.bf xH;rw [if_neg V]
 unfold lq;rw [b];constructor
 ·rintro(h|h)
  ·simp [h]
  ·have:¬aj<c.aY:=V
   simp [this]
 ·intro h;simp only [zc3,decide_eq_false_iff_not] at h;rcases h with(h|h)|h
  ·omega
  ·right;omega
  ·exact .inl h
def KW.set {c:Cfg}{me:Int}{h:Home}{r:gZ}(S:KW c me h r)(aj aV head:Int)(data:List Int):
  (r.pq c me aj aV head data).2=(iL c h.dJ aj aV head data).2/\KW c me { h with dJ:=(iL c h.dJ aj aV head data).1 } (r.pq c me aj aV head data).1/\(r.pq c me aj aV head data).1.aT=r.aT:=by
 unfold gZ.pq iL;by_cases b:lq c me aj=true
 ·obtain⟨row,q,k⟩:=S.dJ aj b;rw [if_neg (by rw [b];simp),q];simp only;by_cases d:aV<0∨2<aV∨head < -1∨c.aB<=head
  ·rw [if_pos (by rcases d with h|h|h|h <;> simp [h]),if_pos d];exact⟨rfl,S,rfl⟩
  ·rw [if_neg d];have o:(aV<0∨2<aV∨head < -1∨c.aB<=head∨¬(aV=0↔head=-1)∨(data≠[]/\(data.length:Int)≠c.bI))↔((decide (head=-1) !=decide (aV=0)) || (decide (data≠[]) && decide ((data.length:Int)≠c.bI)))=true:=by
    simp only [not_or] at d;simp only [d.1,d.2.1,d.2.2.1,d.2.2.2,false_or,zbk,zah,decide_eq_true_eq,bne_iff_ne,ne_eq,decide_eq_decide];constructor
    ·rintro(h|h)
     ·exact .inl λe=>h e.symm
     ·exact .inr h
    ·rintro(h|h)
     ·exact .inl λe=>h e.symm
     ·exact .inr h
   by_cases i:((decide (head=-1) !=decide (aV=0)) || (decide (data≠[]) && decide ((data.length:Int)≠c.bI)))=true
   ·rw [if_pos (o.2 i),if_pos i];exact⟨rfl,S,rfl⟩
   ·rw [if_neg λe=>i (o.1 e),if_neg i];refine⟨rfl,⟨λm hm=>?_,λm hm=>?_,S.aT⟩,rfl⟩
    ·obtain⟨g,k1,u⟩:=S.dJ m hm;have w:0<=aj:=by simp only [lq,zah,decide_eq_true_eq] at b;exact b.1.1
     have v:0<=m:=by simp only [lq,zah,decide_eq_true_eq] at hm;exact hm.1.1
     simp only;rw [iF];by_cases p:aj=m
     ·subst p;rw [if_pos rfl];refine⟨_,rfl,?_⟩;have j:=(zae.1 k).1;rw [zbd j];have:r.row aj=row:=by unfold gZ.row;rw [zas,k];rfl
      rw [this]
     ·rw [if_neg p,zbl V];exact⟨g,k1,u⟩
    ·simp only;rw [iF,if_neg λe=>by subst e;rw [b] at hm;cases hm];exact S.none m hm
 ·have b:lq c me aj=false:=by simpa using b
  rw [if_pos b,S.none aj b];exact⟨rfl,S,rfl⟩
def KW.handle {c:Cfg}(hc:c.ok=true){me:Int}{h:Home}{r:gZ}(S:KW c me h r)(I:Y4 c me h)(p:Pkt):
  KW c me (h.handle c me p).1 (r.handle c me p).1/\(r.handle c me p).2=(h.handle c me p).2/\Y4 c me (h.handle c me p).1:=by
 unfold Home.handle gZ.handle;by_cases d:p.ok=false∨p.dst≠me∨c.aB<=p.src∨(p.aS≠1/\p.aS≠2)
 ·rw [if_pos d,if_pos (by
   rcases d with h|h|h|h
   ·simp [h]
   ·simp [h]
   ·have:¬p.src<c.aB:=V
    simp [this]
   ·simp [h])]
  exact⟨S,rfl,I⟩
 rw [if_neg d,if_neg (by
  simp only [not_or] at d;obtain⟨m,u,L,A⟩:=d;have C:p.src<c.aB:=V
  have m:p.ok=true:=by simpa using m
  simp only [ne_eq,Decidable.not_not] at u;simp only [m,u,C,decide_true,zcj,zaf,zbI,zah,decide_eq_true_eq];exact A)]
 simp only [not_or] at d;have i:p.ok=true:=by simpa using d.1
 have j:0<=p.aj:=by
  simp only [Pkt.ok,zah,decide_eq_true_eq] at i;omega
 have o:0<=p.src:=by
  simp only [Pkt.ok,zah,decide_eq_true_eq] at i;omega
 by_cases b:lq c me p.aj=false
 ·rw [if_pos b,if_pos ((Bf hc j).2 b)];exact⟨S,rfl,I⟩
 rw [if_neg b,if_neg λe=>b ((Bf hc j).1 e)];have b:lq c me p.aj=true:=by simpa using b
 by_cases hk:p.aS=1
 ·rw [if_pos hk,if_pos hk];obtain⟨v,D,w⟩:=S.aT.ask I.aT p.aj p.src p.id;have y:∀e∈(h.aT.ask p.aj p.src p.id).1.wait,lq c me e.1=true:=λe k=>by
   rcases VX k with h|h
   ·rw [h];exact b
   ·exact I.here e h
  simp only [D];split
  ·exact⟨S.IE v,by simp only;rw [S.granted b],⟨w,y⟩⟩
  ·exact⟨S.IE v,rfl,⟨w,y⟩⟩
 rw [if_neg hk,if_neg hk];unfold Home.unlock;generalize (if p.flag=true then p.data else [])=dat;by_cases g:h.aT.owner p.aj≠p.src
 ·simp only [if_pos g,if_pos (show r.aT.jg p.aj≠p.src by rw [<-S.aT.owner];exact g)];exact⟨S,rfl,I⟩
 ·simp only [if_neg g,if_neg (show¬r.aT.jg p.aj≠p.src by rw [<-S.aT.owner];exact g)];have g:h.aT.owner p.aj=p.src:=by simpa using g
  obtain⟨E,z,F⟩:=S.set p.aj p.aV p.ptr dat;obtain⟨G,H,K⟩:=S.aT.release I.aT g o;have q:(h.aT.release p.aj p.src).1.wait=h.aT.wait:=Eo;rw [E];by_cases k:(iL c h.dJ p.aj p.aV p.ptr dat).2=0
  ·simp only [if_pos k,H,if_true];refine⟨⟨z.dJ,z.none,?_⟩,by first|trivial|rfl,⟨K,by rw [q];exact I.here⟩⟩;simp only;rw [F];exact G
  ·simp only [if_neg k];exact⟨S,by first|trivial|rfl,I⟩
def KW.ready {c:Cfg}{me:Int}{h:Home}{r:gZ}(S:KW c me h r)(I:Y4 c me h):r.aT.ready=h.ready:=S.aT.ready I.aT
def uI {h:Home}{aj:Int}{l:List Int}(d:h.ready=aj::l):h.aT.owned aj=false/\h.aT.ws aj≠[]/\aj∈h.aT.wait.map (·.1):=by
 have:aj∈h.ready:=by rw [d];simp
 unfold Home.ready Turns.ready at this;rw [zbp] at this;obtain⟨g,b⟩:=this;simp only [zah,za4] at b;refine⟨b.1,λe=>by rw [e] at b;exact absurd b.2 O,?_⟩;have:=(vU (h.aT.wait.map (·.1)) [] List.Pairwise.nil).1;rw [zaM] at this;exact this.mem_iff.1 g
def KW.grant {c:Cfg}{me:Int}{h:Home}{r:gZ}(S:KW c me h r)(I:Y4 c me h):
  KW c me (h.grant me).1 (r.grant me).1/\(r.grant me).2.1=(h.grant me).2.1/\Y4 c me (h.grant me).1:=by
 unfold Home.grant gZ.grant;rw [S.ready I];cases p:h.ready with
 |nil=>exact⟨S,rfl,I⟩
 |cons aj l=>
  obtain⟨q,u,v⟩:=uI p;obtain⟨b,d,g⟩:=S.aT.next I.aT aj
  have m:lq c me aj=true:=by
   obtain⟨e,i,rfl⟩:=zaI.1 v;exact I.here e i
  have j:∀e∈(h.aT.next aj).1.wait,lq c me e.1=true:=λe i=>by
   rcases QL i with h|h
   ·exact I.here e h
   ·rw [h.1];exact m
  obtain⟨w,hw⟩:∃w,(h.aT.next aj).2=some w:=by
   unfold Turns.next
   rw [if_neg (by rw [q];simp)];cases k:h.aT.ws aj with
   |nil=>exact absurd k u
   |cons w ws=>exact⟨w,rfl⟩
  simp only;cases ha:h.aT.next aj with
  |mk t o=>
   cases hb:r.aT.next aj with
   |mk y z=>
    rw [ha,hb] at b d;rw [ha] at g j hw;simp only at b d g j hw;subst d;subst hw;simp only [zav];exact⟨S.IE b,S.granted m _ _,⟨g,j⟩⟩
def Ep(d:bM)(bF:Int)(c:Cache)(p:Pkt):Nxt:=
 if d.aS=1 then dX d bF c p else if d.aS=2 then dY d bF c p else if d.aS=3 then eF d c p else wQ c
def I64(z:Int):Prop:=-9223372036854775808<=z/\z<=9223372036854775807
def al0(z:Int):I64 (w64 z):=by
 show -9223372036854775808<=IntKind.wrap .i64 z/\IntKind.wrap .i64 z<=9223372036854775807;simp only [IntKind.wrap,IntKind.bits,IntKind.signed];simp;split <;> constructor <;> omega
def qB(c:Cfg)(d:List Int):Prop:=(d.length:Int)=c.bI/\∀v∈d,I64 v
structure yV(c:Cfg)(p:Pkt):Prop where
 ok:p.ok=true
 dat:p.aS=7∨p.aS=9->qB c p.data
 num:∀v∈p.data,I64 v
structure KX(c:Cfg)(p:Port):Prop where
 rq:(p.rq.length:Int)<=c.out
 an:(p.an.length:Int)<=c.out
 rin:(p.rin.length:Int)<=c.inn
 ain:(p.ain.length:Int)<=1
 pkt:∀q,q∈p.rq∨q∈p.an∨q∈p.rin∨q∈p.ain->yV c q
structure wR(c:Cfg)(f:Fab):Prop where
 out:f.out=c.out
 inn:f.inn=c.inn
 len:(f.l.length:Int)=c.aB
 port:∀p∈f.l,KX c p
def nK {c:Cfg}(h:c.ok=true):(1<=c.aB/\c.aB<=6)/\(1<=c.aY/\c.aY<=8)/\(1<=c.bI/\c.bI<=4)/\(1<=c.sets/\c.sets<=4)/\(1<=c.ways/\c.ways<=3)/\(1<=c.out/\c.out<=8)/\(1<=c.inn/\c.inn<=8):=by
 unfold Cfg.ok at h;simp only [zah,decide_eq_true_eq] at h;omega
def wR.get {c:Cfg}{f:Fab}(F:wR c f){i:Int}(h:f.is i=true):KX c (f.port i):=by
 unfold Fab.is at h;simp only [zah,decide_eq_true_eq] at h;have hi:i.toNat<f.l.length:=V
 unfold Fab.port;rw [zas,zab hi,zav];exact F.port _ (zc4 hi)
def wR.put {c:Cfg}{f:Fab}(F:wR c f)(i:Int){p:Port}(h:KX c p):wR c (f.put i p):=by
 refine⟨F.out,F.inn,by simp only [Fab.put,zcf];exact F.len,λq b=>?_⟩;simp only [Fab.put] at b;rcases zbV b with b|b
 ·exact F.port q b
 ·rw [b];exact h
def wR.send {c:Cfg}{f:Fab}(F:wR c f){p:Pkt}(e:p.ok=true->yV c p):wR c (f.send p).1:=by
 unfold Fab.send;split
 ·exact F
 ·rename_i h;simp only [zbk,za4,not_or,zcy] at h;obtain⟨⟨g,i⟩,j⟩:=h;have P:=F.get i;have Q:=e g;split
  ·exact F
  ·rename_i d;refine F.put _ ?_;rw [F.out] at d;cases hk:qU p.aS with
   |true=>
    rw [hk] at d;simp only [Port.sort,if_true] at d;refine⟨?_,P.an,P.rin,P.ain,λq b=>?_⟩
    ·simp only [Port.kP,Port.sort,if_true,zaq,zal,zao];omega
    ·simp only [Port.kP,Port.sort,if_true,zaO,zaU] at b;rcases b with(b|b)|b
     ·exact P.pkt q (.inl b)
     ·rw [b];exact Q
     ·exact P.pkt q (.inr b)
   |false=>
    rw [hk] at d;simp only [Port.sort,zai,if_false] at d;refine⟨P.rq,?_,P.rin,P.ain,λq b=>?_⟩
    ·simp only [Port.kP,Port.sort,zai,if_false,zaq,zal,zao];omega
    ·simp only [Port.kP,Port.sort,zai,if_false,zaO,zaU] at b;rcases b with b|(b|b)|b
     ·exact P.pkt q (.inl b)
     ·exact P.pkt q (.inr (.inl b))
     ·rw [b];exact Q
     ·exact P.pkt q (.inr (.inr b))
def wR.take {c:Cfg}{f:Fab}(F:wR c f)(i:Int)(req:Bool):wR c (f.take i req).1/\∀p,(f.take i req).2=some p->yV c p:=by
 unfold Fab.take;split
 ·rename_i h;have P:=F.get h;cases d:(f.port i).qo req with
  |nil=>exact⟨F,λp e=>by cases e⟩
  |cons p l=>
   simp only;cases req with
   |true=>
    simp only [Port.qo,if_true] at d;have g:=P.rin;rw [d] at g;simp only [zal] at g;refine⟨F.put _ ⟨P.rq,P.an,?_,P.ain,λq b=>?_⟩,λj e=>?_⟩
    ·simp only [Port.lG,if_true];omega
    ·simp only [Port.lG,if_true] at b;rcases b with b|b|b|b
     ·exact P.pkt q (.inl b)
     ·exact P.pkt q (.inr (.inl b))
     ·exact P.pkt q (.inr (.inr (.inl (by rw [d];simp [b]))))
     ·exact P.pkt q (.inr (.inr (.inr b)))
    ·cases e;exact P.pkt _ (.inr (.inr (.inl (by rw [d];simp))))
   |false=>
    simp only [Port.qo,zai,if_false] at d;have g:=P.ain;rw [d] at g;simp only [zal] at g;refine⟨F.put _ ⟨P.rq,P.an,P.rin,?_,λq b=>?_⟩,λj e=>?_⟩
    ·simp only [Port.lG,zai,if_false];omega
    ·simp only [Port.lG,zai,if_false] at b;rcases b with b|b|b|b
     ·exact P.pkt q (.inl b)
     ·exact P.pkt q (.inr (.inl b))
     ·exact P.pkt q (.inr (.inr (.inl b)))
     ·exact P.pkt q (.inr (.inr (.inr (by rw [d];simp [b]))))
    ·cases e;exact P.pkt _ (.inr (.inr (.inr (by rw [d];simp))))
 ·exact⟨F,λp e=>by cases e⟩
def wR.room {c:Cfg}{f:Fab}(F:wR c f)(i:Int)(req:Bool):0<=f.roomOf i req:=by
 unfold Fab.roomOf;split
 ·rename_i h;have P:=F.get h;have b:=P.rq;have d:=P.an;rw [F.out];cases req <;> simp only [Port.sort,if_true,zai,if_false] <;> omega
 ·exact za2 _
def Bg {α:Type}{l:List α}{i:Nat}{a:α}(h:a∈l.eraseIdx i):a∈l:=(zcZ l i).subset h
def KX.drop {c:Cfg}{p:Port}(P:KX c p)(req:Bool)(k:Nat):KX c (p.drop req k):=by
 have d:∀(l:List Pkt),((l.eraseIdx k).length:Int)<=l.length:=λl=>by
  have:=(zcZ l k).length_le;omega
 cases req with
 |true=>
  refine⟨?_,P.an,P.rin,P.ain,λq b=>?_⟩
  ·have:=d p.rq;have:=P.rq;simp only [Port.drop,Port.kP,Port.sort,if_true];omega
  ·simp only [Port.drop,Port.kP,Port.sort,if_true] at b;rcases b with b|b
   ·exact P.pkt q (.inl (Bg b))
   ·exact P.pkt q (.inr b)
 |false=>
  refine⟨P.rq,?_,P.rin,P.ain,λq b=>?_⟩
  ·have:=d p.an;have:=P.an;simp only [Port.drop,Port.kP,Port.sort,zai,if_false];omega
  ·simp only [Port.drop,Port.kP,Port.sort,zai,if_false] at b;rcases b with b|b|b
   ·exact P.pkt q (.inl b)
   ·exact P.pkt q (.inr (.inl (Bg b)))
   ·exact P.pkt q (.inr (.inr b))
def QM:∀(l:List Port) (i k:Nat) {j:Nat} {req:Bool} {k':Nat},AX l i k=some (j,req,k')->i<=j/\j<i+l.length
 |[],i,k,j,req,k',h=>by cases h
 |p::l,i,k,j,req,k',h=>by
  simp only [AX] at h;split at h
  ·cases h;simp
  ·split at h
   ·cases h;simp
   ·have:=QM l (i+1) _ h;simp only [zal];omega
def wR.remove {c:Cfg}{f:Fab}(F:wR c f)(k:Nat):wR c (f.remove k):=by
 unfold Fab.remove;split
 ·rename_i i req k' h;have hi:=QM _ _ _ h;refine F.put _ ((F.get ?_).drop _ _);unfold Fab.is;simp only [zah,decide_eq_true_eq];omega
 ·exact F
def wR.pkt {c:Cfg}{f:Fab}(F:wR c f){p:Pkt}(h:p∈f.all):yV c p:=by
 unfold Fab.all at h;obtain⟨q,d,b⟩:=za0.1 h;rcases zaO.1 b with b|b
 ·exact(F.port q d).pkt p (.inl b)
 ·exact(F.port q d).pkt p (.inr (.inl b))
def wR.deliver {c:Cfg}{f:Fab}(F:wR c f)(at_ bit mask:Int):wR c (f.deliver at_ bit mask).1:=by
 unfold Fab.deliver;split
 ·exact F
 split
 ·exact F
 ·rename_i p g;have Q:=F.pkt (zan g);split
  ·exact F
  split
  ·exact F
  ·rename_i d;refine wR.remove ?_ _;by_cases h:f.is p.dst=true
   ·have P:=F.get h;refine F.put _ ?_;cases hk:qU p.aS with
    |true=>
     rw [hk] at d;simp only [Fab.room,Port.qo,if_true,F.inn] at d;refine⟨P.rq,P.an,?_,P.ain,λq b=>?_⟩
     ·simp only [Port.lG,Port.qo,if_true,zaq,zal,zao];omega
     ·simp only [Port.lG,Port.qo,if_true,zaO,zaU] at b;rcases b with b|b|(b|b)|b
      ·exact P.pkt q (.inl b)
      ·exact P.pkt q (.inr (.inl b))
      ·exact P.pkt q (.inr (.inr (.inl b)))
      ·rw [b];exact Q
      ·exact P.pkt q (.inr (.inr (.inr b)))
    |false=>
     rw [hk] at d;simp only [Fab.room,Port.qo,zai,if_false] at d;refine⟨P.rq,P.an,P.rin,?_,λq b=>?_⟩
     ·simp only [Port.lG,Port.qo,zai,if_false,zaq,zal,zao];omega
     ·simp only [Port.lG,Port.qo,zai,if_false,zaO,zaU] at b;rcases b with b|b|b|(b|b)
      ·exact P.pkt q (.inl b)
      ·exact P.pkt q (.inr (.inl b))
      ·exact P.pkt q (.inr (.inr (.inl b)))
      ·exact P.pkt q (.inr (.inr (.inr b)))
      ·rw [b];exact Q
   ·-- no such bF:nothing is put
    have i:f.l.length<=p.dst.toNat:=by
     have e:=Q.ok;simp only [Pkt.ok,zah,decide_eq_true_eq] at e;simp only [Fab.is,zah,decide_eq_true_eq] at h;omega
    unfold Fab.put;rw [List.set_eq_of_length_le i];exact⟨F.out,F.inn,F.len,F.port⟩
structure aqR(c:Cfg)(k:Int)(e:Ent):Prop where
 lo:0<=e.aj
 hi:e.aj<c.aY
 used:e.used<=k
 u0:0<=e.used
 dat:qB c e.data
structure Fj(c:Cfg)(ca:Cache):Prop where
 sets:ca.sets=c.sets
 ways:ca.ways=c.ways
 aY:Lines ca.l
 adZ:Iz ca.l
 ent:∀e∈ca.l,aqR c ca.dh e
 room:∀aj,((ca.pq aj).length:Int)<=ca.ways
 aiJ:0<=ca.dh
structure al1(c:Cfg)(n:Node):Prop where
 eG:n.bQ.eG=true
 op:∃o,n.bQ.cur=some o/\c.bU o.addr=n.aI.aj/\(n.aI.aS=1->o.aS=1)/\(n.aI.aS=2->o.aS=2∨o.aS=3)
 full:n.aH.full n.aI.aj=false
structure agH(c:Cfg)(n:Node):Prop where
 lo:0<=n.aI.aj
 hi:n.aI.aj<c.aY
 aS:1<=n.aI.aS/\n.aI.aS<=3
 dat:n.aI.data=[]∨qB c n.aI.data
 aiK:n.aI.aS=2->n.aI.step=3->qB c n.aI.data
 roll:n.aI.aS=3->n.bQ.eG=true
 work:n.aI.aS≠3->n.aI.step≠6->al1 c n
 rest:n.aI.aS≠3->n.aI.step=6->n.bQ.eG=false
structure ap6(c:Cfg)(p:Proc):Prop where
 most:p.ops.length<=24
 right:∀o∈p.ops,c.right o=true/\I64 o.value
 vals:p.bH.length<=p.ops.length
 eG:p.eG=true->p.bH.length<p.ops.length
structure X0(c:Cfg)(me:Int)(n:Node):Prop where
 bQ:ap6 c n.bQ
 aH:Fj c n.aH
 dJ:∀e∈n.home.dJ,qB c e.2.data
 home:Y4 c me n.home
 aI:n.aI.step≠0->agH c n
 clk:n.aH.dh<=n.bQ.bH.length
def aah {l:List Ent}{f:Ent->Ent}(h:Iz l)(d:∀x∈l,(f x).used=x.used):Iz (l.map f):=by
 unfold Iz;rw [zcx];exact h.imp_of_mem λha hb b=>by rw [d _ ha,d _ hb];exact b
def Bh {l:List Ent}{f:Ent->Ent}(h:Lines l)(d:∀x∈l,(f x).aj=x.aj):Lines (l.map f):=by
 unfold Lines;rw [zcx];exact h.imp_of_mem λha hb b=>by rw [d _ ha,d _ hb];exact b
def Bj(ca:Cache)(aj:Int){q:Ent->Bool}:(({ ca with l:=ca.l.filter q }:Cache).pq aj).length<=(ca.pq aj).length:=by
 unfold Cache.pq;rw [zdJ];have:(ca.l.filter λe=>(decide (0<=aj) && decide (e.aj.tmod ca.sets=aj.tmod ca.sets)) && q e)=((ca.l.filter λe=>decide (0<=aj) && decide (e.aj.tmod ca.sets=aj.tmod ca.sets))).filter q:=by
  rw [zdJ]
  apply zdj
  intro x _;rw [Bool.and_comm]
 rw [this];exact zcv _ _
def IG(ca:Cache)(aj k:Int){f:Ent->Ent}(b:∀x∈ca.l,(f x).aj=x.aj):(({ ca with l:=ca.l.map f,dh:=k }:Cache).pq aj).length=(ca.pq aj).length:=by
 unfold Cache.pq;rw [List.filter_map,zaE]
 congr 1
 apply zdj
 intro y d;simp only [Function.comp,b y d]
def Fj.put {c:Cfg}{ca:Cache}(I:Fj c ca){e:Ent}(h0:0<=e.aj)(j:e.aj<c.aY)(hd:qB c e.data):Fj c (ca.put e).1:=by
 cases i:ca.find e.aj with
 |some x=>
  obtain⟨k,m⟩:=(iJ I.aY).1 i;rw [lY I.aY h0 i];refine⟨I.sets,I.ways,Bh I.aY λy _=>?_,aah I.adZ λy g=>?_,λy g=>?_,λaj=>?_,I.aiJ⟩
  ·split
   ·rename_i h;exact h.symm
   ·rfl
  ·split
   ·rename_i h;rw [I.aY.inj g k (by rw [h,m])]
   ·rfl
  ·obtain⟨z,q,rfl⟩:=zaI.1 g;split
   ·exact⟨h0,j,(I.ent x k).used,(I.ent x k).u0,hd⟩
   ·exact I.ent z q
  ·have:=IG ca aj ca.dh (f:=λy=>if y.aj=e.aj then { e with used:=x.used } else y) (λy _=>by
    split
    ·rename_i h;exact h.symm
    ·rfl)
   have o:=I.room aj;rw [<-this] at o;exact o
 |none=>
  unfold Cache.put;rw [if_neg V,zX.2 i];simp only;split
  ·exact I
  ·rename_i d;have u:=uH.1 (show(ca.l.find? λx=>decide (x.aj=e.aj))=none from i);refine⟨I.sets,I.ways,?_,?_,λy g=>?_,λaj=>?_,by have:=I.aiJ;simp only;omega⟩
   ·unfold Lines;rw [List.pairwise_append];exact⟨I.aY,O,λa ha b hb=>by rw [zaU.1 hb];exact u a ha⟩
   ·unfold Iz;rw [List.pairwise_append];refine⟨I.adZ,O,λa ha b hb=>?_⟩;rw [zaU.1 hb];have:=(I.ent a ha).used;simp only;omega
   ·rcases zaO.1 g with g|g
    ·have:=I.ent y g;exact⟨this.lo,this.hi,by have:=this.used;simp only;omega,this.u0,this.dat⟩
    ·rw [zaU.1 g];exact⟨h0,j,by simp only;omega,by have:=I.aiJ;simp only;omega,hd⟩
   ·simp only [Cache.full,i,zcP,zaN,decide_eq_true_eq] at d;have p:=I.room aj;unfold Cache.pq at d p ⊢;simp only [zcq,zaq];by_cases hs:(decide (0<=aj) && decide (e.aj.tmod ca.sets=aj.tmod ca.sets))=true
    ·simp only [zah,decide_eq_true_eq] at hs;have:(ca.l.filter λx=>decide (0<=aj) && decide (x.aj.tmod ca.sets=aj.tmod ca.sets))=ca.l.filter λx=>decide (0<=e.aj) && decide (x.aj.tmod ca.sets=e.aj.tmod ca.sets):=by
      apply zdj
      intro x _;rw [hs.2];simp [hs.1,h0]
     rw [this];have j:(([({ e with used:=ca.dh+1 }:Ent)].filter λx=>decide (0<=aj) && decide (x.aj.tmod ca.sets=aj.tmod ca.sets)).length)<=1:=zcv _ _;omega
    ·have:([({ e with used:=ca.dh+1 }:Ent)].filter λx=>decide (0<=aj) && decide (x.aj.tmod ca.sets=aj.tmod ca.sets))=[]:=by
      simp only [zbX,List.filter_nil];rw [if_neg hs]
     rw [this];simp only [zao,zbr];exact p
def Fj.drop {c:Cfg}{ca:Cache}(I:Fj c ca)(b:Int):Fj c (ca.drop b):=by
 rw [Iw I.aY];refine⟨I.sets,I.ways,I.aY.filter _,I.adZ.filter _,λe d=>I.ent e (zbp.1 d).1,λaj=>?_,I.aiJ⟩;have:=I.room aj;have g:(({ ca with l:=ca.l.filter λx=>decide (x.aj≠b) }:Cache).pq aj).length<=(ca.pq aj).length:=Bj _ _;simp only at g ⊢;omega
def Fj.touch {c:Cfg}{ca:Cache}(I:Fj c ca){aj:Int}{e:Ent}(h:ca.find aj=some e):Fj c (ca.touch aj):=by
 obtain⟨k,j⟩:=(iJ I.aY).1 h;rw [yC I.aY h];refine⟨I.sets,I.ways,Bh I.aY λy _=>?_,?_,λy m=>?_,λd=>?_,by have:=I.aiJ;simp only;omega⟩
 ·split
  ·rename_i h;rw [h];exact j
  ·rfl
 ·unfold Iz;rw [zcx];refine(I.aY.and I.adZ).imp_of_mem λ{a b} ha hb g=>?_;have q:=(I.ent a ha).used;have u:=(I.ent b hb).used;split <;> split
  ·rename_i o i;exact absurd (by rw [o,i]) g.1
  ·simp only;omega
  ·simp only;omega
  ·exact g.2
 ·obtain⟨z,p,rfl⟩:=zaI.1 m;split
  ·have:=I.ent e k;exact⟨this.lo,this.hi,by simp only;omega,by have:=I.aiJ;simp only;omega,this.dat⟩
  ·have:=I.ent z p;exact⟨this.lo,this.hi,by have:=this.used;simp only;omega,this.u0,this.dat⟩
 ·have:=IG ca d (ca.dh+1) (f:=λx=>if x.aj=aj then { e with used:=ca.dh+1 } else x) (λy _=>by
   split
   ·rename_i h;rw [h];exact j
   ·rfl)
  have i:=I.room d;rw [<-this] at i;exact i
def ad1 {ca:Cache}(d:Lines ca.l){e x:Ent}(h0:0<=e.aj)(g:ca.find e.aj=some x)(aj:Int):(ca.put e).1.full aj=ca.full aj:=by
 obtain⟨o,k⟩:=(iJ d).1 g;rw [lY d h0 g];have hm:∀y∈ca.l,(if y.aj=e.aj then { e with used:=x.used } else y).aj=y.aj:=λy _=>by
  split
  ·rename_i h;exact h.symm
  ·rfl
 have i:({ ca with l:=ca.l.map λy=>if y.aj=e.aj then { e with used:=x.used } else y }:Cache).find aj=none↔ca.find aj=none:=by
  unfold Cache.find;rw [uH,uH];constructor
  ·intro h y b;have:=h _ (zaI.2 ⟨y,b,rfl⟩)
   rwa [hm y b] at this
  ·intro h y b;obtain⟨z,j,rfl⟩:=zaI.1 b;rw [hm z j];exact h z j
 have m:(({ ca with l:=ca.l.map λy=>if y.aj=e.aj then { e with used:=x.used } else y }:Cache).pq aj).length=(ca.pq aj).length:=by
  unfold Cache.pq;rw [List.filter_map,zaE]
  congr 1
  apply zdj
  intro y b;simp only [Function.comp,hm y b]
 unfold Cache.full;rw [m]
 congr 1
 cases ha:ca.find aj with
 |none=>rw [i.2 ha]
 |some u=>
  cases hb:({ ca with l:=ca.l.map λy=>if y.aj=e.aj then { e with used:=x.used } else y }:Cache).find aj with
  |none=>rw [i.1 hb] at ha;cases ha
  |some v=>rfl
def Bl {α:Type}{p q:α->Bool}:∀{l:List α},(∀x∈l,q x=true->p x=true)->∀{a:α},a∈l->p a=true->q a=false->(l.filter q).length<(l.filter p).length
 |[],_,a,h,_,_=>by cases h
 |x::l,hs,a,h,j,k=>by
  have d:∀{l:List α},(∀x∈l,q x=true->p x=true)->(l.filter q).length<=(l.filter p).length:=by
   intro l hs
   induction l with
   |nil=>simp
   |cons y l g=>
    have:=g λz b=>hs z (by simp [b]);simp only [zbX];cases i:q y
    ·simp only [zai,if_false];split
     ·simp only [zal];omega
     ·exact this
    ·rw [hs y O i];simp only [if_true,zal];omega
  simp only [zbX];rcases zaj.1 h with e|h
  ·subst e;rw [j,k];simp only [if_true,zai,if_false,zal];have:=d λz b=>hs z (za9 _ b);omega
  ·have g:=Bl (λz b=>hs z (za9 _ b)) h j k;cases i:q x
   ·simp only [zai,if_false];split
    ·simp only [zal];omega
    ·exact g
   ·rw [hs x O i];simp only [if_true,zal];omega
def aai {c:Cfg}(hc:c.ok=true){ca:Cache}(I:Fj c ca){b aj:Int}(h:ca.full aj=false):(ca.drop b).full aj=false:=by
 rw [Iw I.aY];unfold Cache.full at h ⊢;have k:(({ ca with l:=ca.l.filter λx=>decide (x.aj≠b) }:Cache).pq aj).length<=(ca.pq aj).length:=Bj _ _;cases j:ca.find aj with
 |none=>
  rw [j] at h;simp only [zcP,zaN,decide_eq_false_iff_not] at h;simp only [zc3,decide_eq_false_iff_not];right;omega
 |some e=>
  obtain⟨d,g⟩:=(iJ I.aY).1 j;by_cases i:aj=b
  ·subst i;simp only [zc3,decide_eq_false_iff_not];right;have o:=I.room aj;have p:=(I.ent e d).lo;have m:(({ ca with l:=ca.l.filter λx=>decide (x.aj≠aj) }:Cache).pq aj).length<(ca.pq aj).length:=by
    unfold Cache.pq;rw [zdJ];refine Bl (λx _ h=>?_) d ?_ ?_
    ·simp only [zah] at h ⊢;exact h.1
    ·rw [g];simp;omega
    ·simp [g]
   omega
  ·have:({ ca with l:=ca.l.filter λx=>decide (x.aj≠b) }:Cache).find aj=some e:=by
    unfold Cache.find;rw [iJ (I.aY.filter _)];refine⟨zbp.2 ⟨d,?_⟩,g⟩;simp only [decide_eq_true_eq];omega
   rw [this];rfl
abbrev By:=BitVec 8
abbrev S16:=BitVec 16
def shS(s:S16):S16:=(s <<< 1) ^^^ (if s.msb then 0x1021#16 else 0#16)
def shN:Nat->S16->S16
 |0,s=>s
 |n+1,s=>shN n (shS s)
def Y5(s:S16)(c:By):S16:=shN 8 (s ^^^ (c.setWidth 16 <<< 8))
def vV(s:S16)(l:List By):S16:=l.foldl Y5 s
def Y6(s:S16):By:=(s >>> 8).setWidth 8
def Y7(s:S16):By:=s.setWidth 8
def jT(l:List By):List By:=l++[Y6 (vV 0xffff#16 l),Y7 (vV 0xffff#16 l)]
def ad2:shS 0#16=0#16:=Z
def aaj(s t:S16):shS (s ^^^ t)=shS s ^^^ shS t:=by
 unfold shS;rw [BitVec.msb_xor,BitVec.shiftLeft_xor_distrib];cases s.msb <;> cases t.msb <;> simp
 ·rw [zby]
 ·rw [zby,zby,BitVec.xor_comm (t <<< 1)]
 ·rw [zby,<-zby 4129#16,BitVec.xor_comm 4129#16,zby,zcQ,zdy]
def ad3 {s:S16}(h:shS s=0#16):s=0#16:=by
 unfold shS at h;cases hm:s.msb with
 |true=>
  rw [hm] at h;have:=congrArg (λv:S16=>v.getLsbD 0) h;simp at this
 |false=>
  rw [hm] at h;simp only [zai,if_false,zdy] at h
  apply zck
  intro i hi;by_cases b:i=15
  ·subst b;have:s.getLsbD 15=s.msb:=by simp [BitVec.msb_eq_getLsbD_last]
   rw [this,hm];simp
  ·have:=congrArg (λv:S16=>v.getLsbD (i+1)) h;simp only [zcg,BitVec.getLsbD_zero] at this;have d:i+1<16:=V
   simp [d] at this
   simpa using this
def NG:∀n,shN n 0#16=0#16
 |0=>rfl
 |n+1=>by rw [shN,ad2,NG n]
def aak:∀n (s t:S16),shN n (s ^^^ t)=shN n s ^^^ shN n t
 |0,_,_=>rfl
 |n+1,s,t=>by rw [shN,aaj,aak n];rfl
def NH:∀n {s:S16},shN n s=0#16->s=0#16
 |0,_,h=>h
 |n+1,s,h=>ad3 (NH n h)
def akC(b:Bool):S16:=if b then 0x8000#16 else 0#16
def Es(s:S16)(b:Bool):S16:=shS (s ^^^ akC b)
def Ul:List Bool->S16
 |[]=>0#16
 |b::l=>akC b ^^^ (Ul l >>> 1)
def aiL:∀i:Fin 16,(0x8000#16).getLsbD i.val=decide (i.val=15):=Z
def ad4(b:Bool){i:Nat}(h:i<16):(akC b).getLsbD i=(b && decide (i=15)):=by
 unfold akC;cases b
 ·simp
 ·simp only [if_true,zaN];exact aiL ⟨i,h⟩
def Bo:∀(l:List Bool) (i:Nat),l.length<=16->i<16->(Ul l).getLsbD i=(l[15-i]?).getD false
 |[],i,_,_=>by simp [Ul]
 |b::l,i,h,hi=>by
  simp only [zal] at h;rw [Ul,BitVec.getLsbD_xor,zc7,ad4 b hi];by_cases d:i=15
  ·subst d;have:(Ul l).getLsbD (1+15)=false:=BitVec.getLsbD_of_ge _ _ V;rw [this];simp
  ·rw [Bo l (1+i) V V];have e:15-i=(15-(1+i))+1:=V
   rw [e,zbf];simp [d]
def yD:∀(l:List Bool) (s:S16),l.length<=16->l.foldl Es s=shN l.length (s ^^^ Ul l)
 |[],s,_=>by simp [Ul,shN]
 |b::l,s,h=>by
  simp only [zal] at h;rw [zbT,yD l _ V];show shN l.length (Es s b ^^^ Ul l)=shN l.length (shS (s ^^^ Ul (b::l)))
  congr 1
  rw [Ul,<-zby,aaj];unfold Es
  congr 1
  unfold shS;have hm:(Ul l >>> 1).msb=false:=by simp [BitVec.msb_ushiftRight]
  rw [hm];simp only [zai,if_false,zdy];have d:(Ul l).getLsbD 0=false:=by
   rw [Bo l 0 V V,zaG V];rfl
  apply zck
  intro i hi;rw [zcg,zc7];cases i with
  |zero=>rw [d];simp
  |succ i=>
   have e:1+(i+1-1)=i+1:=V
   have g:¬(i+1<1):=V
   rw [e];simp [hi,g]
def aal {l:List Bool}(h:l.length<=16)(h0:Ul l=0#16):∀b∈l,b=false:=by
 intro b hb;obtain⟨k,hk,rfl⟩:=zc6.1 hb;have:=Bo l (15-k) h V;rw [h0,show 15-(15-k)=k by omega,zab hk] at this
 simpa using this.symm
def xP(c:By):List Bool:=[c.getLsbD 7,c.getLsbD 6,c.getLsbD 5,c.getLsbD 4,c.getLsbD 3,c.getLsbD 2,c.getLsbD 1,c.getLsbD 0]
def yX(l:List By):List Bool:=l.flatMap xP
def aam(c:By):Ul (xP c)=c.setWidth 16 <<< 8:=by
 apply zck
 intro i hi;rw [Bo _ _ (by simp [xP]) hi,zcg,BitVec.getLsbD_setWidth];rcases(show i=0∨i=1∨i=2∨i=3∨i=4∨i=5∨i=6∨i=7∨i=8∨i=9∨i=10∨i=11∨i=12∨i=13∨i=14∨i=15 by omega) with h|h|h|h|h|h|h|h|h|h|h|h|h|h|h|h <;> subst h <;> simp [xP]
def aan(s:S16)(c:By):Y5 s c=(xP c).foldl Es s:=by
 rw [yD _ _ (by simp [xP]),aam];rfl
def Dn:∀(l:List By) (s:S16),vV s l=(yX l).foldl Es s
 |[],s=>rfl
 |c::l,s=>by
  show vV (Y5 s c) l=_;rw [Dn l,aan];show _=(xP c++yX l).foldl Es s;rw [zdk]
def sQ(l:List By):(yX l).length=8*l.length:=by
 unfold yX
 induction l with
 |nil=>rfl
 |cons c l b=>rw [zaC,zaq,b];simp [xP];omega
def QN(l:List By):vV 0xffff#16 (jT l)=0#16:=by
 unfold jT;obtain⟨s,hs⟩:∃s,s=vV 0xffff#16 l:=⟨_,rfl⟩
 rw [<-hs];unfold vV at hs ⊢;rw [zdk,<-hs];show vV s [Y6 s,Y7 s]=0#16;rw [Dn,yD _ _ (by rw [sQ];simp)];have:Ul (yX [Y6 s,Y7 s])=s:=by
  apply zck
  intro i hi;rw [Bo _ _ (by rw [sQ];simp) hi];have e:yX [Y6 s,Y7 s]=[s.getLsbD 15,s.getLsbD 14,s.getLsbD 13,s.getLsbD 12,s.getLsbD 11,s.getLsbD 10,s.getLsbD 9,s.getLsbD 8,s.getLsbD 7,s.getLsbD 6,s.getLsbD 5,s.getLsbD 4,s.getLsbD 3,s.getLsbD 2,s.getLsbD 1,s.getLsbD 0]:=by
   simp [yX,xP,Y6,Y7,zaC]
  rw [e];rcases(show i=0∨i=1∨i=2∨i=3∨i=4∨i=5∨i=6∨i=7∨i=8∨i=9∨i=10∨i=11∨i=12∨i=13∨i=14∨i=15 by omega) with h|h|h|h|h|h|h|h|h|h|h|h|h|h|h|h <;> subst h <;> rfl
 rw [this,zcQ,NG]
def X3(l m:List By):List By:=List.zipWith (· ^^^ ·) l m
def ad5(s t:S16)(c d:By):Y5 (s ^^^ t) (c ^^^ d)=Y5 s c ^^^ Y5 t d:=by
 unfold Y5;rw [<-aak]
 congr 1
 rw [BitVec.setWidth_xor,BitVec.shiftLeft_xor_distrib];rw [zby,zby]
 congr 1
 rw [<-zby,<-zby,BitVec.xor_comm t]
def QO:∀(l m:List By) (s t:S16),l.length=m.length->vV (s ^^^ t) (X3 l m)=vV s l ^^^ vV t m
 |[],[],s,t,_=>rfl
 |c::l,d::m,s,t,h=>by
  show vV (Y5 (s ^^^ t) (c ^^^ d)) (X3 l m)=vV (Y5 s c) l ^^^ vV (Y5 t d) m;rw [ad5,QO l m _ _ (by simpa using h)]
 |[],_::_,_,_,h=>by simp at h
 |_::_,[],_,_,h=>by simp at h
def Dq:∀(l:List Bool) (s:S16),(∀b∈l,b=false)->l.foldl Es s=shN l.length s
 |[],s,_=>rfl
 |b::l,s,h=>by
  have hb:=h b O;subst hb;rw [zbT,Dq l _ λb hb=>h b (by simp [hb])];show shN l.length (shS (s ^^^ akC false))=shN l.length (shS s);simp [akC]
def X4 {B:List Bool}{a:Int}(h:∀(k:Nat),B[k]?=some true->a<=k/\(k:Int)<a+16)(h0:B.foldl Es 0#16=0#16):∀b∈B,b=false:=by
 obtain⟨p,o⟩:∃p,p=a.toNat:=⟨_,rfl⟩
 have g:B=B.take p++((B.drop p).take 16++(B.drop p).drop 16):=by rw [zcu,zcu]
 have i:∀b∈B.take p,b=false:=by
  intro b hb;obtain⟨k,hk,rfl⟩:=zc6.1 hb;cases d:(B.take p)[k] with
  |false=>rfl
  |true=>
   have e:k<p:=by rw [zau] at hk;omega
   have:B[k]?=some true:=by
    rw [<-d,<-zab hk,zaB,if_pos e]
   have:=h k this;omega
 have j:∀b∈(B.drop p).drop 16,b=false:=by
  intro b hb;obtain⟨k,hk,rfl⟩:=zc6.1 hb;cases d:((B.drop p).drop 16)[k] with
  |false=>rfl
  |true=>
   have:B[p+(16+k)]?=some true:=by
    rw [<-d,<-zab hk,zaF,zaF]
   have:=h _ this;omega
 rw [g,zdk,zdk,Dq _ _ i,NG,Dq _ _ j,yD _ _ (by rw [zau];omega),BitVec.zero_xor] at h0;have m:=aal (by rw [zau];omega) (NH _ (NH _ h0));intro b hb;rw [g] at hb;rcases zaO.1 hb with hb|hb
 ·exact i b hb
 ·rcases zaO.1 hb with hb|hb
  ·exact m b hb
  ·exact j b hb
def ad6 {c d:By}(h:∀b∈xP (c ^^^ d),b=false):c=d:=by
 apply zck
 intro i hi;have key:(c ^^^ d).getLsbD i=false:=by
  apply h
  rcases(show i=0∨i=1∨i=2∨i=3∨i=4∨i=5∨i=6∨i=7 by omega) with h|h|h|h|h|h|h|h <;> subst h <;> simp [xP]
 rw [BitVec.getLsbD_xor] at key;cases e:c.getLsbD i <;> cases g:d.getLsbD i <;> simp [e,g] at key ⊢
def II:∀{l m:List By},l.length=m.length->(∀b∈yX (X3 l m),b=false)->l=m
 |[],[],_,_=>rfl
 |c::l,d::m,h,hb=>by
  have e:yX (X3 (c::l) (d::m))=xP (c ^^^ d)++yX (X3 l m):=rfl;rw [e] at hb;rw [ad6 λb h=>hb b (zcC _ h),II (by simpa using h) λb h=>hb b (zc0 _ h)]
 |[],_::_,h,_=>by simp at h
 |_::_,[],h,_=>by simp at h
def Um {x y:List By}{a:Int}(b:(jT x).length=(jT y).length)(h:∀(k:Nat),(yX (X3 (jT x) (jT y)))[k]?=some true->a<=k/\(k:Int)<a+16):jT x=jT y:=by
 refine II b (X4 h ?_);rw [<-Dn];have:=QO (jT x) (jT y) 0xffff#16 0xffff#16 b;rw [zcQ,QN,QN,zcQ] at this;exact this
def agI(bit mask:Int)(k:Nat):Bool:=decide (0<=(k:Int)-bit) && decide ((k:Int)-bit<16) && mask.toNat.testBit (15-((k:Int)-bit).toNat)
def vW(bit mask:Int)(at_:Nat):By:=
 if 8*(at_:Int)-bit<=-8∨16<=8*(at_:Int)-bit then 0#8 else(((BitVec.ofNat 32 mask.toNat) <<< 8 <<< (8*(at_:Int)-bit+8).toNat) >>> 24).setWidth 8
def rH(bit mask:Int)(l:List By):List By:=l.mapIdx λi c=>c ^^^ vW bit mask i
def Un {m k:Nat}(hm:m<=65535)(hk:16<=k):m.testBit k=false:=by
 apply Nat.testBit_lt_two_pow
 calc m<2 ^ 16:=V
  _<=2 ^ k:=Nat.pow_le_pow_right Z hk
def aao {bit mask:Int}(h0:0<=mask)(v:mask<=65535)(at_ j:Nat)(g:j<8):(vW bit mask at_).getLsbD j=agI bit mask (8*at_+(7-j)):=by
 unfold vW agI;obtain⟨y,i⟩:∃y:Int,y=8*(at_:Int)-bit:=⟨_,rfl⟩
 have hk:((8*at_+(7-j):Nat):Int)-bit=y+(7-(j:Int)):=V
 rw [<-i,hk];by_cases h:y<=-8∨16<=y
 ·rw [if_pos h];simp only [BitVec.getLsbD_zero];rcases h with h|h
  ·have:¬(0<=y+(7-(j:Int))):=V
   simp [this]
  ·have:¬(y+(7-(j:Int))<16):=V
   simp [this]
 ·rw [if_neg h];simp only [not_or] at h;obtain⟨n,k⟩:∃n:Nat,n=(y+8).toNat:=⟨_,rfl⟩
  rw [<-k];rw [BitVec.getLsbD_setWidth,zc7,zcg,zcg,BitVec.getLsbD_ofNat];have m:24+j<32:=V
  have o:¬(24+j<n):=V
  have p:24+j-n<32:=V
  by_cases b:24+j-n<8
  ·have:¬(y+(7-(j:Int))<16):=V
   simp [b,this]
  ·have q:24+j-n-8<32:=V
   have u:y+(7-(j:Int))<16:=V
   by_cases d:0<=y+(7-(j:Int))
   ·have e:24+j-n-8=15-(y+(7-(j:Int))).toNat:=V
    simp only [g,m,o,p,q,b,d,u,decide_true,decide_false,zam,zaN,zcj];rw [e]
   ·have:mask.toNat.testBit (24+j-n-8)=false:=Un V V;simp [this,d]
def jv(bit mask:Int)(l:List By):(rH bit mask l).length=l.length:=by simp [rH]
def aap(c:By)(j:Nat)(b:j<8):(xP c)[j]?=some (c.getLsbD (7-j)):=by
 rcases(show j=0∨j=1∨j=2∨j=3∨j=4∨j=5∨j=6∨j=7 by omega) with h|h|h|h|h|h|h|h <;> subst h <;> rfl
def IJ:∀(l:List By) (k:Nat),(yX l)[k]?=(l[k / 8]?).map λc=>c.getLsbD (7-k % 8)
 |[],k=>by simp [yX]
 |c::l,k=>by
  have b:yX (c::l)=xP c++yX l:=rfl;rw [b];by_cases h:k<8
  ·rw [zaJ (by simp [xP];exact h),aap c k h,show k / 8=0 by omega,show k % 8=k by omega];rfl
  ·rw [za3 (by simp [xP];omega)];have:(xP c).length=8:=rfl;rw [this,IJ l (k-8),show k / 8=(k-8) / 8+1 by omega,show k % 8=(k-8) % 8 by omega];rfl
def Dt {bit mask:Int}(h0:0<=mask)(b:mask<=65535)(l:List By)(k:Nat)(hk:k<8*l.length):(yX (X3 l (rH bit mask l)))[k]?=some (agI bit mask k):=by
 rw [IJ];have hi:k / 8<l.length:=V
 have:(X3 l (rH bit mask l))[k / 8]?=some (vW bit mask (k / 8)):=by
  unfold X3 rH;rw [zdw,zbe,zab hi];simp only [zak]
  congr 1
  rw [<-zby,zcQ,BitVec.zero_xor]
 rw [this,zak,aao h0 b _ _ V]
 congr 2
 omega
def QS {n:Nat}{bit mask:Int}:aT n bit mask=true↔∃k:Nat,k<8*n/\agI bit mask k=true:=by
 unfold aT;rw [zcG];constructor
 ·rintro⟨i,hi,h⟩;rw [zaW] at hi;simp only [zah,decide_eq_true_eq] at h;obtain⟨⟨a,b⟩,c⟩:=h;refine⟨(bit+i).toNat,V,?_⟩;unfold agI;have e:(((bit+i).toNat:Nat):Int)-bit=i:=V
  rw [e];simp only [zah,decide_eq_true_eq];refine⟨⟨V,V⟩,?_⟩;rw [zar,zds];rw [zcE] at a
  simpa using a
 ·rintro⟨k,hk,h⟩;unfold agI at h;simp only [zah,decide_eq_true_eq] at h;obtain⟨⟨a,b⟩,c⟩:=h;refine⟨((k:Int)-bit).toNat,zaW.2 V,?_⟩;simp only [zah,decide_eq_true_eq];refine⟨⟨?_,V⟩,V⟩;rw [zds] at c;rw [zcE]
  simpa using c
def X5 {bit mask:Int}(h0:0<=mask)(e:mask<=65535){l:List By}(h:aT l.length bit mask=false):rH bit mask l=l:=by
 have g:l.length=(rH bit mask l).length:=(jv _ _ _).symm;refine(II g λb hb=>?_).symm;obtain⟨k,hk,rfl⟩:=zc6.1 hb;have d:k<8*l.length:=by
  rw [sQ] at hk;unfold X3 at hk;rw [List.length_zipWith] at hk;omega
 have:=Dt (bit:=bit) h0 e l k d;rw [zab hk,zaa] at this;rw [this];cases i:agI bit mask k with
 |false=>rfl
 |true=>
  have:=QS.2 ⟨k,d,i⟩;rw [h] at this;cases this
def Uo {bit mask:Int}(h0:0<=mask)(g:mask<=65535){x y:List By}(h:aT (jT x).length bit mask=true):rH bit mask (jT x)≠jT y:=by
 intro e;have j:(jT x).length=(jT y).length:=by rw [<-e,jv]
 have hs:=Um (a:=bit) j λk hk=>by
  rw [<-e] at hk;have d:k<8*(jT x).length:=by
   have b:=(zae.1 hk).1;rw [sQ] at b;unfold X3 at b;rw [List.length_zipWith] at b;omega
  rw [Dt h0 g _ k d] at hk;simp only [zaa] at hk;unfold agI at hk;simp only [zah,decide_eq_true_eq] at hk;omega
 obtain⟨k,hk,m⟩:=QS.1 h;have:=Dt (bit:=bit) h0 g (jT x) k hk;rw [e,<-hs,m,IJ] at this;have o:∀l:List By,X3 l l=l.map λ_=>0#8:=by
  intro l
  induction l with
  |nil=>rfl
  |cons c l p=>
   show(c ^^^ c)::X3 l l=_;rw [p,zcQ];rfl
 rw [o,zaH] at this;cases i:(jT x)[k / 8]? with
 |none=>rw [i] at this;cases this
 |some c=>rw [i] at this;simp at this
def by8(n:Int):By:=BitVec.ofInt 8 n
def rX(n:Int):List By:=[by8 (n.fdiv (2 ^ 56)),by8 (n.fdiv (2 ^ 48)),by8 (n.fdiv (2 ^ 40)),by8 (n.fdiv (2 ^ 32)),by8 (n.fdiv (2 ^ 24)),by8 (n.fdiv (2 ^ 16)),by8 (n.fdiv (2 ^ 8)),by8 (n.fdiv (2 ^ 0))]
def fM(p:Pkt):List By:=[by8 p.aS,by8 p.src,by8 p.dst,by8 (p.id.fdiv 256),by8 p.id,by8 p.aj,by8 (p.ptr+1),by8 p.aV,by8 (if p.flag then 1 else 0),by8 p.data.length]++p.data.flatMap rX
def tX(p:Pkt):List By:=jT (fM p)
def jQ(n:Int):(rX n).length=8:=rfl
def sS(p:Pkt):(tX p).length=p.bytes:=by
 unfold tX jT fM Pkt.bytes;rw [zaq,zaq,dM NJ];simp;omega
where
 NJ:∀n,(rX n).length=8:=λ_=>rfl
 dM {α β:Type} {f:α->List β} {m:Nat} (h:∀a,(f a).length=m):∀{l:List α},(l.flatMap f).length=l.length*m:=by
  intro l
  induction l with
  |nil=>simp
  |cons a l b=>rw [zaC,zaq,h,b,zal,zbM];omega
section
variable {P:Program}{t:TypeId}{k k':IntKind}{a b n:Int}
def aaq(h:0<=n):qH P .shl t (.s (.int k a)) (.s (.int k' n))=some (.s (.int k (k.wrap (a*2 ^ (min n.toNat k.bits))))):=by
 have:¬n<0:=V
 simp [qH,AV.val?,eqGuard,binOp,Op.shift,dR,this]
def Ur(h:0<=n):qH P .shr t (.s (.int k a)) (.s (.int k' n))=some (.s (.int k (a.fdiv (2 ^ (min n.toNat k.bits))))):=by
 have:¬n<0:=V
 simp [qH,AV.val?,eqGuard,binOp,Op.shift,dR,this]
def aiM:qH P .xor t (.s (.int k a)) (.s (.int k b))=some (.s (.int k (k.wrap (BitVec.ofInt k.bits a ^^^ BitVec.ofInt k.bits b).toNat))):=by
 simp [qH,AV.val?,eqGuard,binOp,Op.intBits,dR]
def agJ:qH P .or t (.s (.int k a)) (.s (.int k b))=some (.s (.int k (k.wrap (BitVec.ofInt k.bits a ||| BitVec.ofInt k.bits b).toNat))):=by
 simp [qH,AV.val?,eqGuard,binOp,Op.intBits,dR]
end
def U(k:IntKind)(v:BitVec k.bits):AV:=.s (.int k (v.toNat:Int))
abbrev Y(c:By):AV:=U .u8 c
abbrev U16(s:S16):AV:=U .u16 s
abbrev U32(s:BitVec 32):AV:=U .u32 s
abbrev U64(s:BitVec 64):AV:=U .u64 s
def agK {k:IntKind}(hk:k.signed=false)(z:Int):k.wrap z=z % (2 ^ k.bits:Int):=by simp [IntKind.wrap,hk]
def Bq {k:IntKind}(hk:k.signed=false)(m:Nat):k.wrap (m:Int)=((BitVec.ofNat k.bits m).toNat:Int):=by
 rw [agK hk,zcs]
 norm_cast
def rJ {w:Nat}(v:BitVec w):BitVec.ofInt w (v.toNat:Int)=v:=by
 rw [zdz,zdK,BitVec.setWidth_eq]
def VY {k:IntKind}(hk:k.signed=false)(v:BitVec k.bits):k.wrap (v.toNat:Int)=(v.toNat:Int):=by
 rw [Bq hk,zdK,BitVec.setWidth_eq]
section
variable {P:Program}{t:TypeId}{k k':IntKind}
def aiN(hk:k.signed=false)(x y:BitVec k.bits):qH P .xor t (U k x) (U k y)=some (U k (x ^^^ y)):=by
 unfold U;rw [aiM,rJ,rJ,VY hk]
def atP(hk:k.signed=false)(x y:BitVec k.bits):qH P .or t (U k x) (U k y)=some (U k (x ||| y)):=by
 unfold U;rw [agJ,rJ,rJ,VY hk]
def aar(hk:k.signed=false)(x:BitVec k.bits)(n:Int)(h0:0<=n)(h:n<=k.bits):qH P .shl t (U k x) (.s (.int k' n))=some (U k (x <<< n.toNat)):=by
 unfold U;rw [aaq h0,show min n.toNat k.bits=n.toNat by omega];have:((x.toNat:Int)*2 ^ n.toNat)=((x.toNat*2 ^ n.toNat:Nat):Int):=by norm_cast
 rw [this,Bq hk,zcs,BitVec.toNat_shiftLeft,zdu]
def aiO(x:BitVec k.bits)(n:Int)(h0:0<=n)(h:n<=k.bits):qH P .shr t (U k x) (.s (.int k' n))=some (U k (x >>> n.toNat)):=by
 unfold U;rw [Ur h0,show min n.toNat k.bits=n.toNat by omega,BitVec.toNat_ushiftRight,zcE];have:(2:Int) ^ n.toNat=((2 ^ n.toNat:Nat):Int):=by norm_cast
 rw [this,zb7 _ (Int.natCast_nonneg _)]
 norm_cast
def aqS(hk:k.signed=false)(x y:BitVec k.bits):qH P .mul t (U k x) (U k y)=some (U k (x*y)):=by
 unfold U;rw [je];have:((x.toNat:Int)*y.toNat)=((x.toNat*y.toNat:Nat):Int):=by norm_cast
 rw [this,Bq hk,zcs,BitVec.toNat_mul]
def al2(hk:k'.signed=false)(x:BitVec k.bits):(AV.s (.int k' (k'.wrap (x.toNat:Int))))=U k' (x.setWidth k'.bits):=by
 unfold U;rw [Bq hk,zdK]
end
def ad7(l:List By):(l.map Y).all AV.aP=true:=by
 rw [zaZ];intro x b;obtain⟨c,_,rfl⟩:=zaI.1 b;rfl
def yOf:AV->Option By
 |.s (.int .u8 n)=>if 0<=n/\n<256 then some (BitVec.ofInt 8 n) else none
 |_=>none
def IK(x:AV)(H:ah):Option (List By):=
 match x with
 |.sl r g off b n _ _=>match H.get r with
  |.blk g' _ cells=>if b=1/\g'=g/\off+n<=cells.length/\0<n/\n<=800 then((cells.drop off).take n).mapM yOf else none
  |_=>none
 |_=>none
structure Pkt.fit(p:Pkt):Prop where
 ok:p.ok=true
 num:∀v∈p.data,I64 v
open Classical in
def Du(args:List AV)(H:ah):Option (AV × ah):=
 match args with
 |[x]=>match IK x H with
  |some l=>if h:∃p:Pkt,p.fit/\tX p=l then some (.tup [.agg (Classical.choose h).av,I 0],H)
   else if(∀y,l≠jT y) then some (.tup [.agg Pkt.zero.av,I 2],H) else none
  |none=>none
 |_=>none
def aiP:List Nat:=[
 55,
 138,
 97,
 92,
 180,
 69,
 67,
 65,
 66,
 107,
 109,
 110,
 86,
 131,
 111,
 112,
 20,
 57,
 21,
 29,
 26,
 31,
 68,
 7,
 8,
 147,
 99,
 148,
 100,
 54,
 17,
 34,
 231,
 236,
 133,
 119,
 132,
 135,
 87,
 90,
 91,
 167,
 18,
 35,
 52,
 47,
 181,
 126,
 122,
 134,
 155,
 127,
 50,
 171,
 48,
 123,
 78,
 176,
 137,
 187,
 165,
 166,
 60,
 56,
 19,
 25,
 24,
 0]
def Et:List Nat:=[
 186,
 0]
def KY:List Nat:=[
 0]
def aqT:Pol:=⟨λ_=>false,λ_=>none⟩
def cl0:aF:=callω Tryz.prog aqT
def aiQ:List (Nat × (List AV->ah->Option (AV × ah))):=[
 (163,C9 Et KY),
 (120,cl0 120),
 (94,Du),
 (93,cl0 93),
 (95,cl0 95),
 (0,λ_ _=>none)]
def pol:Pol:=⟨λf=>aiP.contains f,λf=>aiQ.lookup f⟩
def cl:aF:=callω Tryz.prog pol
def VZ(f:FuncId)(p:List AV->ah->Option (AV × ah)):Prop:=
 rW Tryz.prog (λg b H=>if g=f then p b H else none)/\∀b H v H',p b H=some (v,H')->Keeps H H'
def aiR(f:FuncId):VZ f (cl0 f):=by
 have hc:=callω_ok (P:=Tryz.prog) (L:=aqT) (λf p h=>by cases h) J;refine⟨λg b H v H' h=>?_,λb H v H' h=>hc.2 f b H v H' h⟩;simp only at h;split at h
 ·rename_i e;subst e;exact hc.1 _ b H v H' h
 ·cases h
def iQ {f:FuncId}{args:List AV}{H:ah}{r:AV × ah}(h:Ah Tryz.prog cl0 f args H=some r):cl0 f args H=some r:=afP rfl rfl h
def bC {f:FuncId}{args:List AV}{H:ah}{r:AV × ah}(b:pol.adf f=none)(d:pol.pure f=false)(h:Ah Tryz.prog cl f args H=some r):cl f args H=some r:=afP b d h
def jD {f:FuncId}{args:List AV}{H H1:ah}{v v':AV}(b:pol.adf f=none)(d:pol.pure f=true)(h:Ah Tryz.prog cl f args H.guard=some (v,H1))(e:bV H1 H.next 9 v=some v'):cl f args H=some (v',H):=ait b d h e
def kQ {f:FuncId}{args:List AV}{H:ah}{v:AV}{Q:ah->Prop}{sh:Option (AV × ah)}(b:pol.adf f=none)(d:pol.pure f=false)(rn:∀{r},sh=some r->Ah Tryz.prog cl f args H=some r)(h:∃H',sh=some (v,H')/\Q H'):∃H',cl f args H=some (v,H')/\Q H':=by
 obtain⟨H',e,q⟩:=h;exact⟨H',bC b d (rn e),q⟩
def dD {f:FuncId}{args:List AV}{H:ah}{v:AV}{sh:Option (AV × ah)}(b:pol.adf f=none)(d:pol.pure f=true)(rn:∀{r},sh=some r->Ah Tryz.prog cl f args H.guard=some r)(h:sh.map Prod.fst=some v)(e:Frz 9 v):cl f args H=some (v,H):=by
 cases hs:sh with
 |none=>rw [hs] at h;cases h
 |some r=>
  rw [hs] at h;simp only [zak,zaa] at h;subst h;exact jD b d (rn hs) (e _ _)
open Go.RowKit
structure Cho where
 do_:Int
 at_:Int
 bit:Int
 mask:Int
def Cho.av(c:Cho):List AV:=[I c.do_,I c.at_,I c.bit,.s (.int .u16 c.mask)]
def aiS(c:Cho):c.av.all AV.aP=true:=by simp [Cho.av,iP]
structure Cho.In(c:Cho):Prop where
 do_:nN c.do_
 at_:nN c.at_
 bit:nN c.bit
 mask0:0<=c.mask
 mask:c.mask<=65535
structure agL(av:AV)(cs:List Cho):Prop where
 is:aN ah.empty av 4 cs.length (cs.flatMap Cho.av)
 wf:∀c∈cs,c.In
 cell:av.aP=true
def aiT(zs:List Int):Cho:=⟨zs.getD 0 0,zs.getD 1 0,zs.getD 2 0,zs.getD 3 0⟩
abbrev al3:List IntKind:=[.i64,.i64,.i64,.u16]
def ad8 {zs:List Int}(h:zs.length=4):ints al3 zs=(aiT zs).av:=by
 match zs,h with
 |[a,b,c,d],_=>rfl
def al4 {z:Int}(h:(Lit.int .u16 z).wf=true):0<=z/\z<=65535:=by
 simp [Lit.wf,IntKind.min,IntKind.max,IntKind.signed,IntKind.bits] at h;exact⟨V,V⟩
section
variable {P:Program}{H:Type}{enc:TypeId × Value->H}
def QT {t e:TypeId}(o:P.underlying t=some (.slice e))(p:P.cellsOf e=4)(y:aae P e al3){W:World}{r:Reach}{A base:Nat}{C:Nat->Bool}{j:Bool}{v:Value}{d:DataW H}{ps:List MemPlace}
  (g:Value.okWide P W r A t v) (h:DataW.Trod enc P W base C j t v d ps):∃(x:AV) (cs:List Cho),RV ρ0 G0 W x v/\agL x cs:=by
 unfold Value.okWide at g;rw [o] at g;obtain⟨q,u⟩:=h;have hv:v.cells.toList=[v]:=by
  cases v <;> first|rfl|(simp [Cell.okWide,o,Cell.ok] at g)
 rw [hv] at u;obtain⟨av,l,D,m,E⟩:=Iq o (ks:=al3) p y g u;have key:∀l:List (List Int),(∀i∈l,i.length=4)->l.flatMap (ints al3)=(l.map aiT).flatMap Cho.av:=by
  intro l
  induction l with
  |nil=>intro _;rfl
  |cons i l F=>
   intro h;rw [zaC,zax,zaC,F λz G=>h z (by simp [G]),ad8 (h i O)]
 refine⟨av,l.map aiT,D,⟨?_,λc hc=>?_,E⟩⟩
 ·have:=m.is;rw [key l m.len] at this
  simpa using this
 ·obtain⟨i,k,rfl⟩:=zaI.1 hc;have K:=m.len i k;have hw:=m.wf i k
  match i,K with
  |[a,b,c,d],_=>
   have w:=al4 (hw 3 .u16 d rfl rfl);exact⟨aiF (hw 0 .i64 a rfl rfl),aiF (hw 1 .i64 b rfl rfl),aiF (hw 2 .i64 c rfl rfl),w.1,w.2⟩
end
end
end Go.Proofs.YtljogojaihgdlaaGreat
