/-
  Own work: an interpreter over named blocks, its soundness, and what the functions of this seat compute (part 3 of 12).
  Conditions: those of the statement alone.
-/
import Derived.Test.YtljogojaihgdlaaGreatProg
import Derived.KernelRfl
import Derived.ProofKit
import Derived.Below
import Derived.Test.YtljogojaihgdlaaGreatXb
set_option linter.all false
set_option linter.unusedSectionVars false
set_option linter.unusedVariables false
set_option linter.unusedSimpArgs false
namespace Go.Proofs.YtljogojaihgdlaaGreat
def J{p:Prop}(h:p:=by kernel_rfl):p:=h
def ZD{p:Prop}(h:p:=by kernel_rfl):p:=h
def Z{p:Prop}(h:p:=by decide):p:=h
def ZS{p:Prop}(h:p:=by decide):p:=h
noncomputable section
abbrev bi(op:BinOp)(t:TypeId)(x y:AV):Option AV:=qm Tryz.prog op t x y
abbrev un(op:UnOp)(x:AV):Option AV:=unA Tryz.prog op x
abbrev cv(s d:TypeId)(x:AV):AM AV:=kP Tryz.prog s d x
def stk:AM AV:=λ_=>none
abbrev bd(t:TypeId)(ps:List (Nat × AV)):Option AV:=gI Tryz.prog t ps
abbrev bs(t:TypeId)(n:Nat)(ps:List (Nat × AV)):AM AV:=dL Tryz.prog t n ps
def Rn0(f:FuncId)(s:aC->ah->OA):Prop:=∀C H {r:AV × ah},s C H=some r->Ad Tryz.prog C f [] H=some r
def Rn1(f:FuncId)(s:aC->AV->ah->OA):Prop:=∀C a0 H {r:AV × ah},s C a0 H=some r->Ad Tryz.prog C f [a0] H=some r
def Rn2(f:FuncId)(s:aC->AV->AV->ah->OA):Prop:=∀C a0 a1 H {r:AV × ah},s C a0 a1 H=some r->Ad Tryz.prog C f [a0,a1] H=some r
def Rn3(f:FuncId)(s:aC->AV->AV->AV->ah->OA):Prop:=∀C a0 a1 a2 H {r:AV × ah},s C a0 a1 a2 H=some r->Ad Tryz.prog C f [a0,a1,a2] H=some r
def Rn4(f:FuncId)(s:aC->AV->AV->AV->AV->ah->OA):Prop:=∀C a0 a1 a2 a3 H {r:AV × ah},s C a0 a1 a2 a3 H=some r->Ad Tryz.prog C f [a0,a1,a2,a3] H=some r
def Rn5(f:FuncId)(s:aC->AV->AV->AV->AV->AV->ah->OA):Prop:=∀C a0 a1 a2 a3 a4 H {r:AV × ah},s C a0 a1 a2 a3 a4 H=some r->Ad Tryz.prog C f [a0,a1,a2,a3,a4] H=some r
def Qy {n:Nat}{ps:List (Nat × AV)}{H:ah}(h:n*1<=16777216):dL Tryz.prog 22 n ps H=bsl 3 1 [zI] n ps H:=sF J J J rfl h
def ak4 {n:Nat}{ps:List (Nat × AV)}{H:ah}(h:n*3<=16777216):dL Tryz.prog 28 n ps H=bsl 53 3 [zI,zI,zI] n ps H:=sF J J J rfl h
def aqw {n:Nat}{ps:List (Nat × AV)}{H:ah}(h:n*1<=16777216):dL Tryz.prog 29 n ps H=bsl 28 1 [zN] n ps H:=sF J J J rfl h
def aqx {n:Nat}{ps:List (Nat × AV)}{H:ah}(h:n*1<=16777216):dL Tryz.prog 73 n ps H=bsl 35 1 [zP] n ps H:=sF J J J rfl h
def adU {n:Nat}{ps:List (Nat × AV)}{H:ah}(h:n*4<=16777216):dL Tryz.prog 86 n ps H=bsl 85 4 [zI,zI,zB,zI] n ps H:=sF J J J rfl h
def aqy {n:Nat}{ps:List (Nat × AV)}{H:ah}(h:n*4<=16777216):dL Tryz.prog 91 n ps H=bsl 101 4 [zP,zP,zP,zP] n ps H:=sF J J J rfl h
def ak5 {n:Nat}{ps:List (Nat × AV)}{H:ah}(h:n*2<=16777216):dL Tryz.prog 124 n ps H=bsl 99 2 [zP,zP] n ps H:=sF J J J rfl h
def afR {n:Nat}{ps:List (Nat × AV)}{H:ah}(h:n*9<=16777216):dL Tryz.prog 136 n ps H=bsl 112 9 [zI,zI,zI,zI,zI,zI,zI,zB,zN] n ps H:=sF J J J rfl h
def afS {n:Nat}{ps:List (Nat × AV)}{H:ah}(h:n*6<=16777216):dL Tryz.prog 141 n ps H=bsl 166 6 [zI,zI,zI,zI,zB,zN] n ps H:=sF J J J rfl h
def VH {n:Nat}{ps:List (Nat × AV)}{H:ah}(h:n*1<=16777216):dL Tryz.prog 172 n ps H=bsl 5 1 [.s (.int .u8 0)] n ps H:=sF J J J rfl h
def ak6 {n:Nat}{ps:List (Nat × AV)}{H:ah}(h:n*1<=16777216):dL Tryz.prog 183 n ps H=bsl 186 1 [zP] n ps H:=sF J J J rfl h
def afT {n:Nat}{ps:List (Nat × AV)}{H:ah}(h:n*2<=16777216):dL Tryz.prog 256 n ps H=bsl 258 2 [zI,zI] n ps H:=sF J J J rfl h
def ak7 {n:Nat}{ps:List (Nat × AV)}{H:ah}(h:n*3<=16777216):dL Tryz.prog 272 n ps H=bsl 279 3 [zI,zI,zN] n ps H:=sF J J J rfl h
def ak8 {n:Nat}{ps:List (Nat × AV)}{H:ah}(h:n*1<=16777216):dL Tryz.prog 286 n ps H=bsl 172 1 [zN] n ps H:=sF J J J rfl h
def aiw:Nat->Option (Nat × Nat)
 |0=>some (0,1)
 |1=>some (1,1)
 |2=>some (2,1)
 |3=>some (3,1)
 |4=>some (4,1)
 |5=>some (5,1)
 |6=>some (6,1)
 |7=>some (7,1)
 |_=>none
def ak9 {ps:List (Nat × AV)}:gI Tryz.prog 26 ps=jC aiw [zI,zI,zI,zI,zI,zI,zI,zN] ps:=je J Tryz.underlying26 J (by funext i;rcases i with _|_|_|_|_|_|_|_|i <;> kernel_rfl)
def ala:Nat->Option (Nat × Nat)
 |0=>some (0,1)
 |_=>none
def aqz {ps:List (Nat × AV)}:gI Tryz.prog 42 ps=jC ala [zP] ps:=je J Tryz.underlying42 J (by funext i;rcases i with _|i <;> kernel_rfl)
def alb:Nat->Option (Nat × Nat)
 |0=>some (0,1)
 |1=>some (1,1)
 |2=>some (2,1)
 |3=>some (3,1)
 |4=>some (4,1)
 |5=>some (5,1)
 |6=>some (6,1)
 |7=>some (7,1)
 |8=>some (8,1)
 |_=>none
def XR {ps:List (Nat × AV)}:gI Tryz.prog 44 ps=jC alb [zI,zI,zI,zI,zI,zI,zN,zI,zI] ps:=je J Tryz.underlying44 J (by funext i;rcases i with _|_|_|_|_|_|_|_|_|i <;> kernel_rfl)
def ald:Nat->Option (Nat × Nat)
 |0=>some (0,1)
 |1=>some (1,1)
 |2=>some (2,8)
 |3=>some (10,1)
 |4=>some (11,1)
 |5=>some (12,9)
 |6=>some (21,1)
 |_=>none
def aqA {ps:List (Nat × AV)}:gI Tryz.prog 46 ps=jC ald [zP,zP,zI,zI,zI,zI,zI,zI,zI,zN,zI,zP,zI,zI,zI,zI,zI,zI,zN,zI,zI,zI] ps:=je J Tryz.underlying46 J (by funext i;rcases i with _|_|_|_|_|_|_|i <;> kernel_rfl)
def adV:Nat->Option (Nat × Nat)
 |0=>some (0,1)
 |1=>some (1,1)
 |2=>some (2,1)
 |_=>none
def adW {ps:List (Nat × AV)}:gI Tryz.prog 53 ps=jC adV [zI,zI,zI] ps:=je J Tryz.underlying53 J (by funext i;rcases i with _|_|_|i <;> kernel_rfl)
def aix:Nat->Option (Nat × Nat)
 |0=>some (0,1)
 |1=>some (1,1)
 |2=>some (2,1)
 |3=>some (3,1)
 |_=>none
def ale {ps:List (Nat × AV)}:gI Tryz.prog 68 ps=jC aix [zB,zI,zI,.s (.int .u16 0)] ps:=je J Tryz.underlying68 J (by funext i;rcases i with _|_|_|_|i <;> kernel_rfl)
def alf:Nat->Option (Nat × Nat)
 |0=>some (0,1)
 |1=>some (1,1)
 |2=>some (2,8)
 |3=>some (10,1)
 |_=>none
def aqB {ps:List (Nat × AV)}:gI Tryz.prog 75 ps=jC alf [zP,zP,zI,zI,zI,zI,zI,zI,zI,zN,zN] ps:=je J Tryz.underlying75 J (by funext i;rcases i with _|_|_|_|i <;> kernel_rfl)
def aiy:Nat->Option (Nat × Nat)
 |0=>some (0,1)
 |1=>some (1,1)
 |2=>some (2,1)
 |3=>some (3,1)
 |_=>none
def alg {ps:List (Nat × AV)}:gI Tryz.prog 85 ps=jC aiy [zI,zI,zB,zI] ps:=je J Tryz.underlying85 J (by funext i;rcases i with _|_|_|_|i <;> kernel_rfl)
def aqC:Nat->Option (Nat × Nat)
 |0=>some (0,1)
 |_=>none
def aqD {ps:List (Nat × AV)}:gI Tryz.prog 93 ps=jC aqC [zN] ps:=je J Tryz.underlying93 J (by funext i;rcases i with _|i <;> kernel_rfl)
def alh:Nat->Option (Nat × Nat)
 |0=>some (0,1)
 |1=>some (1,1)
 |_=>none
def ali {ps:List (Nat × AV)}:gI Tryz.prog 99 ps=jC alh [zP,zP] ps:=je J Tryz.underlying99 J (by funext i;rcases i with _|_|i <;> kernel_rfl)
def afU:Nat->Option (Nat × Nat)
 |0=>some (0,2)
 |1=>some (2,2)
 |_=>none
def alj {ps:List (Nat × AV)}:gI Tryz.prog 101 ps=jC afU [zP,zP,zP,zP] ps:=je J Tryz.underlying101 J (by funext i;rcases i with _|_|i <;> kernel_rfl)
def afV:Nat->Option (Nat × Nat)
 |0=>some (0,1)
 |_=>none
def alk {ps:List (Nat × AV)}:gI Tryz.prog 103 ps=jC afV [zN] ps:=je J Tryz.underlying103 J (by funext i;rcases i with _|i <;> kernel_rfl)
def afW:Nat->Option (Nat × Nat)
 |0=>some (0,1)
 |1=>some (1,1)
 |2=>some (2,1)
 |_=>none
def alm {ps:List (Nat × AV)}:gI Tryz.prog 108 ps=jC afW [zN,zN,zB] ps:=je J Tryz.underlying108 J (by funext i;rcases i with _|_|_|i <;> kernel_rfl)
def Hw:Nat->Option (Nat × Nat)
 |0=>some (0,1)
 |1=>some (1,1)
 |2=>some (2,1)
 |3=>some (3,1)
 |4=>some (4,1)
 |5=>some (5,1)
 |6=>some (6,1)
 |7=>some (7,1)
 |8=>some (8,1)
 |_=>none
def qZ {ps:List (Nat × AV)}:gI Tryz.prog 112 ps=jC Hw [zI,zI,zI,zI,zI,zI,zI,zB,zN] ps:=je J Tryz.underlying112 J (by funext i;rcases i with _|_|_|_|_|_|_|_|_|i <;> kernel_rfl)
def afX:Nat->Option (Nat × Nat)
 |0=>some (0,1)
 |1=>some (1,1)
 |_=>none
def aln {ps:List (Nat × AV)}:gI Tryz.prog 138 ps=jC afX [zN,zI] ps:=je J Tryz.underlying138 J (by funext i;rcases i with _|_|i <;> kernel_rfl)
def afY:Nat->Option (Nat × Nat)
 |0=>some (0,1)
 |1=>some (1,1)
 |_=>none
def alo {ps:List (Nat × AV)}:gI Tryz.prog 140 ps=jC afY [zN,zI] ps:=je J Tryz.underlying140 J (by funext i;rcases i with _|_|i <;> kernel_rfl)
def afZ:Nat->Option (Nat × Nat)
 |0=>some (0,1)
 |1=>some (1,1)
 |2=>some (2,1)
 |3=>some (3,1)
 |_=>none
def alp {ps:List (Nat × AV)}:gI Tryz.prog 143 ps=jC afZ [zN,zI,zI,zI] ps:=je J Tryz.underlying143 J (by funext i;rcases i with _|_|_|_|i <;> kernel_rfl)
def af0:Nat->Option (Nat × Nat)
 |0=>some (0,1)
 |1=>some (1,1)
 |2=>some (2,8)
 |3=>some (10,1)
 |_=>none
def alq {ps:List (Nat × AV)}:gI Tryz.prog 150 ps=jC af0 [zP,zP,zI,zI,zI,zI,zI,zI,zI,zN,zI] ps:=je J Tryz.underlying150 J (by funext i;rcases i with _|_|_|_|i <;> kernel_rfl)
def af2:Nat->Option (Nat × Nat)
 |0=>some (0,1)
 |1=>some (1,1)
 |_=>none
def alr {ps:List (Nat × AV)}:gI Tryz.prog 164 ps=jC af2 [zI,zI] ps:=je J Tryz.underlying164 J (by funext i;rcases i with _|_|i <;> kernel_rfl)
def af4:Nat->Option (Nat × Nat)
 |0=>some (0,2)
 |1=>some (2,1)
 |2=>some (3,1)
 |3=>some (4,1)
 |4=>some (5,1)
 |_=>none
def af5 {ps:List (Nat × AV)}:gI Tryz.prog 166 ps=jC af4 [zI,zI,zI,zI,zB,zN] ps:=je J Tryz.underlying166 J (by funext i;rcases i with _|_|_|_|_|i <;> kernel_rfl)
def af6:Nat->Option (Nat × Nat)
 |0=>some (0,8)
 |1=>some (8,1)
 |2=>some (9,1)
 |3=>some (10,1)
 |_=>none
def als {ps:List (Nat × AV)}:gI Tryz.prog 185 ps=jC af6 [zI,zI,zI,zI,zI,zI,zI,zN,zP,zN,zN] ps:=je J Tryz.underlying185 J (by funext i;rcases i with _|_|_|_|i <;> kernel_rfl)
def af7:Nat->Option (Nat × Nat)
 |0=>some (0,8)
 |1=>some (8,1)
 |_=>none
def alu {ps:List (Nat × AV)}:gI Tryz.prog 196 ps=jC af7 [zI,zI,zI,zI,zI,zI,zI,zN,zM] ps:=je J Tryz.underlying196 J (by funext i;rcases i with _|_|i <;> kernel_rfl)
def af8:Nat->Option (Nat × Nat)
 |0=>some (0,1)
 |1=>some (1,1)
 |2=>some (2,1)
 |_=>none
def alv {ps:List (Nat × AV)}:gI Tryz.prog 199 ps=jC af8 [zI,zI,zN] ps:=je J Tryz.underlying199 J (by funext i;rcases i with _|_|_|i <;> kernel_rfl)
def af9:Nat->Option (Nat × Nat)
 |0=>some (0,1)
 |1=>some (1,1)
 |_=>none
def alx {ps:List (Nat × AV)}:gI Tryz.prog 203 ps=jC af9 [zM,zM] ps:=je J Tryz.underlying203 J (by funext i;rcases i with _|_|i <;> kernel_rfl)
def aga:Nat->Option (Nat × Nat)
 |0=>some (0,8)
 |1=>some (8,1)
 |_=>none
def aly {ps:List (Nat × AV)}:gI Tryz.prog 237 ps=jC aga [zI,zI,zI,zI,zI,zI,zI,zN,zN] ps:=je J Tryz.underlying237 J (by funext i;rcases i with _|_|i <;> kernel_rfl)
def agb:Nat->Option (Nat × Nat)
 |0=>some (0,8)
 |1=>some (8,1)
 |2=>some (9,1)
 |3=>some (10,1)
 |4=>some (11,1)
 |5=>some (12,1)
 |6=>some (13,1)
 |7=>some (14,1)
 |8=>some (15,9)
 |9=>some (24,1)
 |_=>none
def alz {ps:List (Nat × AV)}:gI Tryz.prog 244 ps=jC agb [zI,zI,zI,zI,zI,zI,zI,zN,zI,zP,zP,zN,zB,zN,zB,zI,zI,zI,zI,zI,zI,zN,zI,zI,zI] ps:=je J Tryz.underlying244 J (by funext i;rcases i with _|_|_|_|_|_|_|_|_|_|i <;> kernel_rfl)
def agc:Nat->Option (Nat × Nat)
 |0=>some (0,1)
 |1=>some (1,1)
 |_=>none
def alA {ps:List (Nat × AV)}:gI Tryz.prog 258 ps=jC agc [zI,zI] ps:=je J Tryz.underlying258 J (by funext i;rcases i with _|_|i <;> kernel_rfl)
def agd:Nat->Option (Nat × Nat)
 |0=>some (0,1)
 |1=>some (1,1)
 |2=>some (2,1)
 |3=>some (3,1)
 |_=>none
def alB {ps:List (Nat × AV)}:gI Tryz.prog 271 ps=jC agd [zI,zI,zI,zN] ps:=je J Tryz.underlying271 J (by funext i;rcases i with _|_|_|_|i <;> kernel_rfl)
def agf:Nat->Option (Nat × Nat)
 |0=>some (0,8)
 |1=>some (8,1)
 |2=>some (9,1)
 |3=>some (10,2)
 |_=>none
def alC {ps:List (Nat × AV)}:gI Tryz.prog 278 ps=jC agf [zI,zI,zI,zI,zI,zI,zI,zN,zI,zN,zN,zN] ps:=je J Tryz.underlying278 J (by funext i;rcases i with _|_|_|_|i <;> kernel_rfl)
def agh:Nat->Option (Nat × Nat)
 |0=>some (0,1)
 |1=>some (1,1)
 |2=>some (2,1)
 |_=>none
def alD {ps:List (Nat × AV)}:gI Tryz.prog 279 ps=jC agh [zI,zI,zN] ps:=je J Tryz.underlying279 J (by funext i;rcases i with _|_|_|i <;> kernel_rfl)
def agi {k:IntKind}{n:Int}{H:ah}:kP Tryz.prog 3 5 (.s (.int k n)) H=some (.s (.int .u8 (IntKind.wrap .u8 n)),H):=Ed J Tryz.underlying3 Tryz.underlying5
def alE {k:IntKind}{n:Int}{H:ah}:kP Tryz.prog 5 3 (.s (.int k n)) H=some (.s (.int .i64 (IntKind.wrap .i64 n)),H):=Ed J Tryz.underlying5 Tryz.underlying3
def aiz {k:IntKind}{n:Int}{H:ah}:kP Tryz.prog 5 50 (.s (.int k n)) H=some (.s (.int .u16 (IntKind.wrap .u16 n)),H):=Ed J Tryz.underlying5 Tryz.underlying50
def adX {k:IntKind}{n:Int}{H:ah}:kP Tryz.prog 5 268 (.s (.int k n)) H=some (.s (.int .u64 (IntKind.wrap .u64 n)),H):=Ed J Tryz.underlying5 Tryz.underlying268
def ZQ {k:IntKind}{n:Int}{H:ah}:kP Tryz.prog 50 5 (.s (.int k n)) H=some (.s (.int .u8 (IntKind.wrap .u8 n)),H):=Ed J Tryz.underlying50 Tryz.underlying5
def ZR {k:IntKind}{n:Int}{H:ah}:kP Tryz.prog 50 234 (.s (.int k n)) H=some (.s (.int .u32 (IntKind.wrap .u32 n)),H):=Ed J Tryz.underlying50 Tryz.underlying234
def adY {k:IntKind}{n:Int}{H:ah}:kP Tryz.prog 234 5 (.s (.int k n)) H=some (.s (.int .u8 (IntKind.wrap .u8 n)),H):=Ed J Tryz.underlying234 Tryz.underlying5
def adZ {k:IntKind}{n:Int}{H:ah}:kP Tryz.prog 268 3 (.s (.int k n)) H=some (.s (.int .i64 (IntKind.wrap .i64 n)),H):=Ed J Tryz.underlying268 Tryz.underlying3
inductive Cell where
 |av (x:AV)
 |seq (m:Nat) (cells:List AV)
 |map (k:IntKind) (es:List (Int × AV))
 |maps (k:IntKind) (m:Nat) (es:List (Int × List AV))
 |alF (w m:Nat) (ls:List (List AV))
abbrev Tag:=Nat × Nat × Nat × Int
section
variable (b:Nat)(H:ah)(τ:Nat->Option Tag)
def OS(T:Tag)(x:AV)(m:Nat)(cells:List AV):Prop:=
 (x=zN/\cells=[])∨∃r g off n d ex e all,x=.sl r g off m n d ex/\τ r=some T/\b<=r/\r<H.next/\n<=d/\H.get r=.blk g e all/\off+d*m<=all.length/\all.all AV.aP=true/\cells=(all.drop off).take (n*m)
def OM(T:Tag)(x:AV)(k:IntKind)(es:List (Int × AV)):Prop:=∃r,x=.mp r/\τ r=some T/\b<=r/\r<H.next/\H.get r=.map k es
def CR(q i:Nat):Cell->AV->Prop
 |.av x,y=>y=x
 |.seq m cells,y=>OS b H τ (q,i+1,0,0) y m cells
 |.map k e,y=>OM b H τ (q,i+1,0,0) y k e
 |.maps k m e,y=>∃d:List (Int × AV),OM b H τ (q,i+1,0,0) y k d/\d.map (·.1)=e.map (·.1)/\∀(j:Nat) n cells x,e[j]?=some (n,cells)->d[j]?=some (n,x)->OS b H τ (q,i+1,1,n) x m cells
 |.alF w m ls,y=>∃xs:List AV,OS b H τ (q,i+1,0,0) y w xs/\xs.length=ls.length/\∀(j:Nat) cells x,ls[j]?=some cells->xs[j]?=some x->OS b H τ (q,i+1,1,(j:Int)) x m cells
structure akx(q:Nat)(cs:List Cell):Prop where
 tag:τ q=some (q,0,0,0)
 lo:b<=q
 hi:q<H.next
 tyl:∀gg ty xs,H.get q=.blk gg ty xs->ty<iw
 blk:∃ty xs,H.get q=.blk 0 ty xs/\xs.length=cs.length/\xs.all AV.aP=true/\∀(i:Nat) c x,cs[i]?=some c->xs[i]?=some x->CR b H τ q i c x
end
abbrev bD:=Nat->Option (List Cell)
def Good(b:Nat)(H:ah)(g:bD):Prop:=b<=H.next/\∃τ,∀q cs,g q=some cs->akx b H τ q cs
def upd(g:bD)(q:Nat)(cs:List Cell):bD:=λx=>if x=q then some cs else g x
section
variable {b:Nat}{H H':ah}{g:bD}{q:Nat}{cs:List Cell}
def aQ:upd g q cs q=some cs:=by simp [upd]
def bn {x:Nat}(h:x≠q):upd g q cs x=g x:=by simp [upd,h]
def qp {b:List Cell}:upd (upd g q cs) q b=upd g q b:=by funext x;simp only [upd];split <;> rfl
def fQ(h:g q=some cs):upd g q cs=g:=by
 funext x
 simp only [upd];split
 ·rename_i e;rw [e,h]
 ·rfl
def OS.keep {τ τ':Nat->Option Tag}{T:Tag}{x:AV}{m:Nat}{cells:List AV}(h:OS b H τ T x m cells)(z:H.next<=H'.next)(e:∀r,r<H.next->τ r=some T->τ' r=some T/\H'.get r=H.get r):OS b H' τ' T x m cells:=by
 rcases h with h|⟨r,g,off,n,d,ex,i,all,rfl,j,k,o,p,q,u,v,w⟩
 ·exact .inl h
 ·obtain⟨k1,y⟩:=e r o j;exact .inr ⟨r,g,off,n,d,ex,i,all,rfl,k1,k,V,p,by rw [y];exact q,u,v,w⟩
def OM.keep {τ τ':Nat->Option Tag}{T:Tag}{x:AV}{k:IntKind}{es:List (Int × AV)}(h:OM b H τ T x k es)(o:H.next<=H'.next)(d:∀r,r<H.next->τ r=some T->τ' r=some T/\H'.get r=H.get r):OM b H' τ' T x k es:=by
 obtain⟨r,rfl,e,g,i,j⟩:=h;obtain⟨k1,m⟩:=d r i e;exact⟨r,rfl,k1,g,V,by rw [m];exact j⟩
def CR.keep {τ τ':Nat->Option Tag}{i:Nat}:∀{c:Cell} {x:AV},CR b H τ q i c x->H.next<=H'.next->(∀r s t,r<H.next->τ r=some (q,i+1,s,t)->τ' r=some (q,i+1,s,t)/\H'.get r=H.get r)->CR b H' τ' q i c x
 |.av _,_,h,_,_=>h
 |.seq _ _,_,h,g,k=>OS.keep h g λr d e=>k r 0 0 d e
 |.map _ _,_,h,g,k=>OM.keep h g λr d e=>k r 0 0 d e
 |.maps _ _ _,_,⟨m,d,e,o⟩,g,k=>⟨m,d.keep g λr d e=>k r 0 0 d e,e,λj n cells x p u=>(o j n cells x p u).keep g λr d e=>k r 1 n d e⟩
 |.alF _ _ _,_,⟨xs,d,e,o⟩,g,k=>⟨xs,d.keep g λr d e=>k r 0 0 d e,e,λj cells x p u=>(o j cells x p u).keep g λr d e=>k r 1 j d e⟩
def wJ {ty:Nat}{xs:List AV}(h:H.get q=.blk 0 ty xs)(d:ty<iw):∀gg ty' b,H.get q=.blk gg ty' b->ty'<iw:=λ_ _ _ e=>by
 rw [h] at e;cases e;exact d
def akx.keep {τ τ':Nat->Option Tag}(h:akx b H τ q cs)(j:H.next<=H'.next)(e:∀r i s t,r<H.next->τ r=some (q,i,s,t)->τ' r=some (q,i,s,t)/\H'.get r=H.get r):akx b H' τ' q cs:=by
 obtain⟨k1,g⟩:=e q 0 0 0 h.hi h.tag;obtain⟨k,xs,d,m,o,p⟩:=h.blk;exact⟨k1,h.lo,by have:=h.hi;omega,wJ (by rw [g];exact d) (h.tyl _ _ _ d),k,xs,by rw [g];exact d,m,o,λi c x hc u=>(p i c x hc u).keep j λr s t v w=>e r (i+1) s t v w⟩
def Good.lt(G:Good b H g)(h:g q=some cs):q<H.next:=(G.2.choose_spec q cs h).hi
def Good.le(G:Good b H g)(h:g q=some cs):b<=q:=(G.2.choose_spec q cs h).lo
def Good.isNone(G:Good b H g)(h:H.next<=q):g q=none:=by
 cases d:g q with
 |none=>rfl
 |some cs=>have:=G.lt d;omega
def Good.ne(G:Good b H g)(h:g q=some cs):q≠H.next:=by have:=G.lt h;omega
def Good.ext(G:Good b H g)(d:H.next<=H'.next)(e:∀r,r<H.next->H'.get r=H.get r):Good b H' g:=by
 obtain⟨o,τ,h⟩:=G;exact⟨V,τ,λq cs j=>(h q cs j).keep d λr i s t k m=>⟨m,e r k⟩⟩
def Good.new(G:Good b H g)(o:gG):Good b (H.new o) g:=G.ext (za8 _) λr d=>by rw [jB,if_neg V]
def Good.guard(G:Good b H g):Good b H.guard g:=G.ext (zac _) λ_ _=>rfl
def Good.sub(G:Good b H g){g':bD}(h:∀q cs,g' q=some cs->g q=some cs):Good b H g':=by
 obtain⟨d,τ,e⟩:=G;exact⟨d,τ,λq cs i=>e q cs (h q cs i)⟩
def Good.empty(H:ah):Good H.next H λ_=>none:=⟨zac _,λ_=>none,λ_ _ h=>by cases h⟩
def Good.empty' {b:Nat}(h:b<=H.next):Good b H λ_=>none:=⟨h,λ_=>none,λ_ _ h=>by cases h⟩
def Good.weak(G:Good b H g){e:Nat}(h:e<=b):Good e H g:=by
 obtain⟨h0,τ,L⟩:=G;have os:∀{T x m cells},OS b H τ T x m cells->OS e H τ T x m cells:=by
  intro T x m cells o;rcases o with o|⟨r,g,off,n,p,ex,u,all,v,w,M,y⟩
  ·exact .inl o
  ·exact .inr ⟨r,g,off,n,p,ex,u,all,v,w,V,y⟩
 have K:∀{T x k z},OM b H τ T x k z->OM e H τ T x k z:=by
  intro T x k z ⟨r,v,w,M,y⟩;exact⟨r,v,w,V,y⟩
 refine⟨V,τ,λq cs Q=>?_⟩;have R:=L q cs Q;obtain⟨u,xs,k1,W,X,k4⟩:=R.blk;refine⟨R.tag,by have:=R.lo;omega,R.hi,R.tyl,u,xs,k1,W,X,λi c x hc d=>?_⟩;have:=k4 i c x hc d;cases c with
 |av _=>exact this
 |seq _ _=>exact os this
 |map _ _=>exact K this
 |maps _ _ _=>
  obtain⟨A,C,D,E⟩:=this;exact⟨A,K C,D,λj n cells x F d=>os (E j n cells x F d)⟩
 |alF _ _ _=>
  obtain⟨ys,C,D,E⟩:=this;exact⟨ys,os C,D,λj cells x F d=>os (E j cells x F d)⟩
structure Step(b:Nat)(H H':ah):Prop where
 base:H'.base=H.base
 next:H.next<=H'.next
 low:∀r,r<b->H'.get r=H.get r
def Step.refl(b:Nat)(H:ah):Step b H H:=⟨rfl,zac _,λ_ _=>rfl⟩
def Step.trans {b:Nat}{H H' H'':ah}(s:Step b H H')(t:Step b H' H''):Step b H H'':=⟨t.base.trans s.base,zax s.next t.next,λr hr=>by rw [t.low r hr,s.low r hr]⟩
def Step.new {b:Nat}{H:ah}(o:gG)(h:b<=H.next):Step b H (H.new o):=⟨rfl,za8 _,λr hr=>by rw [jB,if_neg V]⟩
def Step.put {b:Nat}{H:ah}{r:Nat}(o:gG)(h:b<=r):Step b H (H.put r o):=⟨rfl,zac _,λx d=>by rw [dV,if_neg V]⟩
def Good.newObj(G:Good b H g){ty:TypeId}{xs:List AV}(hc:xs.all AV.aP=true)(ht:ty<iw:=by decide):Good b (H.new (.blk 0 ty xs)) (upd g H.next (xs.map .av)):=by
 obtain⟨h0,τ,h⟩:=G;refine⟨by rw [E9];omega,λr=>if r=H.next then some (r,0,0,0) else τ r,λq cs hq=>?_⟩;by_cases hqn:q=H.next
 ·subst hqn;rw [aQ] at hq;cases hq;refine⟨O,h0,by rw [E9];omega,wJ (xs:=xs) (by simp [jB]) ht,ty,xs,by simp [jB],O,hc,λi c x hci hx=>?_⟩;rw [zaH,hx] at hci;simp only [zaj,zaa] at hci;subst hci;exact rfl
 ·rw [bn hqn] at hq;have R:=h q cs hq;exact R.keep (H':=H.new (.blk 0 ty xs)) (za8 _) λr i s t hr ht=>⟨by rw [if_neg V];exact ht,by rw [jB,if_neg V]⟩
def fK {r off g:Nat}{ty:TypeId}{xs:List AV}(h:H.get r=.blk g ty xs):ld (.ref r g off) H=(xs[off]?).map λv=>(v,H):=by
 simp only [ld,kU,bT,zaj,ldO,h,if_true]
def iK {r off g n:Nat}{ty:TypeId}{xs:List AV}(h:H.get r=.blk g ty xs)(b:off+n<=xs.length):lda n (.ref r g off) H=some (.agg ((xs.drop off).take n),H):=by
 simp only [lda,kU,bT,zaj,apW,h,if_true,b]
def alG {cells:List AV}:ld (.ip cells) H=(cells[0]?).map λv=>(v,H):=by simp only [ld,kU,ldO]
def alH {cells:List AV}{n:Nat}(h:n<=cells.length):lda n (.ip cells) H=some (.agg (cells.take n),H):=by
 simp only [lda,kU,apW,za5,h,if_true,zaS,zaj]
def Good.load(G:Good b H g)(h:g q=some cs){i:Nat}{x:AV}(hi:cs[i]?=some (.av x)):ld (.ref q 0 i) H=some (x,H):=by
 obtain⟨_,τ,hR⟩:=G;obtain⟨ty,xs,h1,h2,h3,h4⟩:=(hR q cs h).blk;rw [fK h1];have hlt:i<xs.length:=by rw [h2];exact(zaf.1 hi).1
 have hx:xs[i]?=some (xs[i]'hlt):=zab hlt;have:=h4 i _ _ hi hx;simp only [CR] at this;rw [hx,this];rfl
def Good.loads(G:Good b H g)(h:g q=some cs){i n:Nat}{xs:List AV}(hi:(cs.drop i).take n=xs.map .av)(hn:xs.length=n)(hp:0<n):lda n (.ref q 0 i) H=some (.agg xs,H):=by
 obtain⟨_,τ,hR⟩:=G;obtain⟨ty,ys,h1,h2,h3,h4⟩:=(hR q cs h).blk;have hl:=congrArg List.length hi;simp only [zav,zaQ,zaE] at hl
 ·rw [iK h1 V]
  congr 2
  congr 1
  apply zbe
  intro j;rcases zaR j n with hj|hj
  ·have hx:xs[j]?=some (xs[j]' V):=zab _;have hc:cs[i+j]?=some (.av (xs[j]' V)):=by
    have:=congrArg (λl=>l[j]?) hi;simp only [zaC,hj,if_true,zaF,zaH,hx,zaj] at this;exact this
   have hlt:i+j<ys.length:=V
   have hy:ys[i+j]?=some (ys[i+j]'hlt):=zab hlt;have:=h4 _ _ _ hc hy;simp only [CR] at this;rw [zaC,if_pos hj,zaF,hy,this,hx]
  ·rw [zaC,if_neg V,zaG V]
end
def aN(H:ah)(x:AV)(m n:Nat)(cells:List AV):Prop:=
 cells.length=n*m/\
 match x with
 |.sl r g off d len e _=>d=m/\len=n/\(r<H.next/\len<=e)/\∃h all,H.get r=.blk g h all/\off+n*m<=all.length/\cells=(all.drop off).take (n*m)
 |.vs k d cs=>d=m/\k=n/\cs=cells
 |.s (.slice none a b)=>a=0/\b=0/\n=0
 |_=>False
def fA(x:AV)(i:Nat):AV:=
 match x with
 |.sl r g off b _ _ _=>.ref r g (off+i*b)
 |.vs _ b cs=>.ip (cs.drop (i*b))
 |_=>bg
section
variable {P:Program}{H:ah}{x:AV}{m n:Nat}{cells:List AV}
def aN.aP(h:aN H x m n cells):x.aP=true:=by
 obtain⟨_,h⟩:=h;cases x with
 |s v=>cases v <;> first|rfl|exact h.elim
 |_=>first|rfl|exact h.elim
def aN.len(h:aN H x m n cells){t e:TypeId}(d:Ah P t=some e):akG P t x H=some (.s (.int .i64 n),H):=by
 obtain⟨_,h⟩:=h;unfold Ah at d;split at d <;> first|(cases d;done)|skip
 rename_i p i;unfold akG kU apQ;cases x with
 |sl r g off j len o ex=>simp only [i];rw [h.2.1];rfl
 |vs k j cs=>simp only [i];rw [h.2.1];rfl
 |s v=>
  cases v with
  |slice a b c=>
   cases a with
   |none=>simp only [i];rw [h.2.2,h.1];rfl
   |some a=>exact h.elim
  |_=>exact h.elim
 |_=>exact h.elim
def aN.xw(h:aN H x m n cells):kN x=some n/\dF H x=some cells:=by
 obtain⟨p,h⟩:=h;cases x with
 |sl r g off d len e ex=>
  obtain⟨rfl,rfl,_,q,all,i,j,o⟩:=h;refine⟨rfl,?_⟩;simp only [dF,i];rw [if_pos ⟨trivial,j⟩,o]
 |vs k d cs=>obtain⟨rfl,rfl,rfl⟩:=h;exact⟨rfl,rfl⟩
 |s v=>
  cases v with
  |slice a b c=>
   cases a with
   |none=>
    obtain⟨rfl,rfl,rfl⟩:=h;refine⟨rfl,?_⟩;have:cells=[]:=zat V;rw [this];rfl
   |some a=>exact h.elim
  |_=>exact h.elim
 |_=>exact h.elim
def aN.index(h:aN H x m n cells){t e:TypeId}(d:Ah P t=some e)(hm:szT P e=some m){k:IntKind}{i:Int}(h0:0<=i)(u:i<n):
  uf P t x (.s (.int k i)) H=some (fA x i.toNat,H):=by
 obtain⟨_,h⟩:=h;unfold Ah at d;split at d <;> first|(cases d;done)|skip
 rename_i w o;simp only [zaa] at d;subst d;unfold uf kU Ci;cases x with
 |sl r g off j len p ex=>
  obtain⟨rfl,rfl,_,y,all,q,z,A⟩:=h;simp only [o,bT,zaj,q,akF,gG.gen,hm,true_and];rw [if_pos ⟨h0,V⟩];rfl
 |vs k' j cs=>
  obtain⟨rfl,rfl,rfl⟩:=h;simp only [o,hm,true_and];rw [if_pos ⟨h0,V⟩];rfl
 |s v=>
  cases v with
  |slice a b c=>
   cases a with
   |none=>obtain⟨rfl,rfl,rfl⟩:=h;omega
   |some a=>exact h.elim
  |_=>exact h.elim
 |_=>exact h.elim
def iO:AV->Option Nat
 |.sl r _ _ _ _ _ _=>some r
 |_=>none
def aN.jq {H':ah}(h:aN H x m n cells)(e:H.next<=H'.next)(i:∀r,iO x=some r->r<H.next->H'.get r=H.get r):aN H' x m n cells:=by
 obtain⟨j,h⟩:=h;refine⟨j,?_⟩;cases x with
 |sl r g off k len o ex=>
  obtain⟨p,q,d,u,all,w,y,z⟩:=h;exact⟨p,q,⟨zaz d.1 e,d.2⟩,u,all,by rw [i r rfl d.1];exact w,y,z⟩
 |s v=>
  cases v with
  |slice a b c=>cases a <;> exact h
  |_=>exact h
 |_=>exact h
def aN.new(h:aN H x m n cells)(o:gG):aN (H.new o) x m n cells:=
 h.jq (za8 _) λr _ b=>by rw [jB,if_neg V]
def aN.put(h:aN H x m n cells){r:Nat}(b:iO x≠some r)(o:gG):aN (H.put r o) x m n cells:=
 h.jq (zac _) λr' d _=>by rw [dV,if_neg (λe=>b (by rw [d,e]))]
def aN.guard(h:aN H x m n cells):aN H.guard x m n cells:=h
def aN.nil {m:Nat}:aN H (.s (.slice none 0 0)) m 0 []:=⟨O,rfl,rfl,rfl⟩
def aN.vs {m n:Nat}{cs:List AV}(h:cs.length=n*m):aN H (.vs n m cs) m n cs:=⟨h,rfl,rfl,rfl⟩
end
def Ua {α:Type}{enc:α->List AV}{m:Nat}(b:∀a,(enc a).length=m)(l:List α):(l.flatMap enc).length=l.length*m:=by
 induction l with
 |nil=>simp
 |cons a l d=>simp only [zaD,zaq,b,d,zam,zbM];omega
def vJ {α:Type}{enc:α->List AV}{m:Nat}(d:∀a,(enc a).length=m):∀(l:List α) (i:Nat) (a:α),l[i]?=some a->((l.flatMap enc).drop (i*m)).take m=enc a
 |[],i,a,h=>by simp at h
 |b::l,0,a,h=>by
  simp only [zaT,zaa] at h;subst h;rw [zbv,zaS,zaD,zbW (by rw [d];omega),zau (by rw [d];omega)]
 |b::l,i+1,a,h=>by
  simp only [zbf] at h;have e:(enc b).drop ((i+1)*m)=[]:=zaV (by rw [d,zbM];omega);have g:(i+1)*m-(enc b).length=i*m:=by rw [d,zbM];omega
  rw [zaD,zdp,e,g,zaM];exact vJ d l i a h
section
variable {b:Nat}{H H':ah}{g:bD}{q:Nat}{cs:List Cell}
def yh {τ τ':Nat->Option Tag}{cs':List Cell}(h0:b<=H.next)(h:∀q cs,g q=some cs->akx b H τ q cs)(hn:H.next<=H'.next)
  (hk:∀r,r<H.next->(∀i s t,τ r≠some (q,i,s,t))->τ' r=τ r/\H'.get r=H.get r) (hR:akx b H' τ' q cs'):Good b H' (upd g q cs'):=by
 refine⟨V,τ',λq2 cs2 hq2=>?_⟩;by_cases e:q2=q
 ·subst e;rw [aQ] at hq2;cases hq2;exact hR
 ·rw [bn e] at hq2;refine(h q2 cs2 hq2).keep hn λr i s t hr ht=>?_;obtain⟨k1,k2⟩:=hk r hr λi' s' t' h'=>by rw [ht] at h';cases h';exact e rfl
  exact⟨by rw [k1];exact ht,k2⟩
def oh {α:Type}{l:List α}{i j:Nat}{a x:α}(h:(l.set i a)[j]?=some x):(j=i/\x=a)∨(j≠i/\l[j]?=some x):=by
 by_cases e:i=j
 ·subst e;have hl:i<l.length:=by
   have:=(zaf.1 h).1
   simpa using this
  rw [zbc hl] at h;cases h;exact .inl ⟨rfl,rfl⟩
 ·rw [zbl e] at h;exact .inr ⟨λe'=>e e'.symm,h⟩
def ZT {l:List AV}(h:l.all AV.aP=true){v:AV}(hv:v.aP=true)(i:Nat):(l.set i v).all AV.aP=true:=by
 rw [za2] at h ⊢;intro x b;rcases zbV b with b|rfl
 ·exact h x b
 ·exact hv
def Qz {l:List AV}{i:Nat}{v:AV}(hi:i<l.length):aO l i [v]=l.set i v:=by
 rw [zdl];simp only [aO,hi,if_true,zam,zao];rfl
def One(v:AV):Prop:=v.cells=[v]/\v.aP=true
def dP {k:IntKind}{n:Int}:One (.s (.int k n)):=⟨rfl,rfl⟩
def Fa {x:Bool}:One (.s (.bool x)):=⟨rfl,rfl⟩
def uq {r g off b len cap:Nat}{ex:Bool}:One (.sl r g off b len cap ex):=⟨rfl,rfl⟩
def agj {n b:Nat}{cells:List AV}:One (.vs n b cells):=⟨rfl,rfl⟩
def qw:One zN:=⟨rfl,rfl⟩
def VI {r gg off:Nat}{v:AV}{ty:TypeId}{xs:List AV}(hv:One v)(h:H.get r=.blk gg ty xs)(hb:H.base<=r)(b:off<xs.length):st 1 (.ref r gg off) v H=some (bg,H.put r (.blk gg ty (xs.set off v))):=by
 show(match H.get r with
  |.blk g' ty cells=>if g'=gg/\H.base<=r/\some 1=some v.cells.length/\v.cells.all AV.aP=true/\off+v.cells.length<=cells.length then some (bg,H.put r (.blk gg ty (aO cells off v.cells))) else none
  |.map ..=>none)=_
 rw [h];simp only;rw [if_pos ⟨trivial,hb,by rw [hv.1];rfl,by rw [hv.1];simp [hv.2],by rw [hv.1];exact b⟩,hv.1,Qz b]
def VJ {r gg off n:Nat}{vs:List AV}{ty:TypeId}{xs:List AV}(hv:vs.all AV.aP=true)(b:vs.length=n)(h:H.get r=.blk gg ty xs)(hb:H.base<=r)(d:off+n<=xs.length):st n (.ref r gg off) (.agg vs) H=some (bg,H.put r (.blk gg ty (aO xs off vs))):=by
 show(match H.get r with
  |.blk g' ty cells=>if g'=gg/\H.base<=r/\some n=some (AV.agg vs).cells.length/\(AV.agg vs).cells.all AV.aP=true/\off+(AV.agg vs).cells.length<=cells.length then some (bg,H.put r (.blk gg ty (aO cells off (AV.agg vs).cells))) else none
  |.map ..=>none)=_
 rw [h];simp only [eX];rw [if_pos ⟨trivial,hb,by rw [b],hv,V⟩]
def Good.store(G:Good b H g)(hb:H.base<=b)(h:g q=some cs){i:Nat}(hi:i<cs.length){v:AV}(hv:One v):
  ∃H',st 1 (.ref q 0 i) v H=some (bg,H')/\Good b H' (upd g q (cs.set i (.av v)))/\Step b H H'/\H'.next=H.next:=by
 obtain⟨u,τ,o⟩:=G;have R:=o q cs h;obtain⟨w,xs,p,y,z,A⟩:=R.blk;have lo:=R.lo;refine⟨_,VI hv p V V,?_,Step.put _ lo,rfl⟩;refine yh (τ':=τ) u o (zac _) (λr C d=>⟨rfl,?_⟩) ⟨R.tag,R.lo,R.hi,wJ (xs:=xs.set i v) (by rw [dV,if_pos rfl]) (R.tyl _ _ _ p),w,xs.set i v,by rw [dV,if_pos rfl],by simp [y],ZT z hv.2 i,λj c x hc k=>?_⟩
 ·rw [dV,if_neg];intro e;subst e;exact d 0 0 0 R.tag
 ·rcases oh hc with⟨rfl,rfl⟩|⟨m,hc⟩
  ·rcases oh k with⟨_,rfl⟩|⟨m,_⟩
   ·exact rfl
   ·exact absurd rfl m
  ·rcases oh k with⟨rfl,_⟩|⟨_,k⟩
   ·exact absurd rfl m
   ·refine(A j c x hc k).keep (zac _) λr s t C d=>⟨d,?_⟩
    rw [dV,if_neg];intro e;subst e;rw [R.tag] at d;cases d
def qH(cs:List Cell)(i:Nat)(vs:List AV):List Cell:=cs.take i++(vs.map .av++cs.drop (i+vs.length))
def oq {l:List AV}{i:Nat}{vs:List AV}(h:i+vs.length<=l.length)(j:Nat):(aO l i vs)[j]?=if i<=j/\j<i+vs.length then vs[j-i]? else l[j]?:=by
 unfold aO;rcases zaR j i with b|b
 ·rw [zaI (by rw [zav];omega),zaC,if_pos b,if_neg V]
 ·have d:(l.take i).length=i:=by rw [zav];omega
  rw [za3 V,d];rcases zaR j (i+vs.length) with hk|hk
  ·rw [if_pos ⟨b,hk⟩,zaI V]
  ·rw [if_neg V,za3 V,zaF]
   congr 1;omega
def XT {i:Nat}{vs:List AV}(h:i+vs.length<=cs.length)(j:Nat):(qH cs i vs)[j]?=if i<=j/\j<i+vs.length then(vs[j-i]?).map .av else cs[j]?:=by
 unfold qH;rcases zaR j i with b|b
 ·rw [zaI (by rw [zav];omega),zaC,if_pos b,if_neg V]
 ·have d:(cs.take i).length=i:=by rw [zav];omega
  rw [za3 V,d];rcases zaR j (i+vs.length) with hk|hk
  ·rw [if_pos ⟨b,hk⟩,zaI (by rw [zaE];omega),zaH]
  ·rw [if_neg V,za3 (by rw [zaE];omega),zaE,zaF]
   congr 1;omega
def oV {l:List AV}{i:Nat}{vs:List AV}(h:i+vs.length<=l.length):(aO l i vs).length=l.length:=by
 simp only [aO,zaq,zav,zaQ];omega
def Nl {i:Nat}{vs:List AV}(h:i+vs.length<=cs.length):(qH cs i vs).length=cs.length:=by
 simp only [qH,zaq,zav,zaQ,zaE];omega
def xB {l vs:List AV}(h:l.all AV.aP=true)(hv:vs.all AV.aP=true)(i:Nat):(aO l i vs).all AV.aP=true:=by
 rw [za2] at h hv ⊢;intro x b;simp only [aO,zaO] at b;rcases b with b|b|b
 ·exact h x (zcB b)
 ·exact hv x b
 ·exact h x (List.mem_of_mem_drop b)
def Good.stores(G:Good b H g)(hb:H.base<=b)(h:g q=some cs){i n:Nat}{vs:List AV}(hi:i+n<=cs.length)(u:vs.length=n)(hv:vs.all AV.aP=true):
  ∃H',st n (.ref q 0 i) (.agg vs) H=some (bg,H')/\Good b H' (upd g q (qH cs i vs))/\Step b H H'/\H'.next=H.next:=by
 obtain⟨v,τ,o⟩:=G;have R:=o q cs h;obtain⟨w,xs,p,y,z,A⟩:=R.blk;have lo:=R.lo;refine⟨_,VJ hv u p V V,?_,Step.put _ lo,rfl⟩;refine yh (τ':=τ) v o (zac _) (λr C d=>⟨rfl,?_⟩) ⟨R.tag,R.lo,R.hi,wJ (xs:=aO xs i vs) (by rw [dV,if_pos rfl]) (R.tyl _ _ _ p),w,aO xs i vs,by rw [dV,if_pos rfl],by rw [oV V,Nl V,y],xB z hv i,λj c x hc k=>?_⟩
 ·rw [dV,if_neg];intro e;subst e;exact d 0 0 0 R.tag
 ·rw [XT V] at hc;rw [oq V] at k;split at hc
  ·rename_i m;rw [if_pos m] at k;rw [k] at hc;simp only [zaj,zaa] at hc;subst hc;exact rfl
  ·rename_i m;rw [if_neg m] at k;refine(A j c x hc k).keep (zac _) λr s t C d=>⟨d,?_⟩
   rw [dV,if_neg];intro e;subst e;rw [R.tag] at d;cases d
structure Cur(b:Nat)(H:ah)(q i:Nat)(x:AV)(m:Nat)(l:List AV):Prop where
 at_:∃ty xs,H.get q=.blk 0 ty xs/\xs[i]?=some x
 own:(x=zN/\l=[])∨∃r g off n cap ex ty all,x=.sl r g off m n cap ex/\r≠q/\b<=r/\r<H.next/\n<=cap/\H.get r=.blk g ty all/\off+cap*m<=all.length/\all.all AV.aP=true/\l=(all.drop off).take (n*m)
 lt:q<H.next
def Good.seq(G:Good b H g)(h:g q=some cs){i m:Nat}{l:List AV}(hi:cs[i]?=some (.seq m l)):∃x,ld (.ref q 0 i) H=some (x,H)/\Cur b H q i x m l:=by
 obtain⟨_,τ,hR⟩:=G;have R:=hR q cs h;obtain⟨ty,xs,h1,h2,h3,h4⟩:=R.blk;have hlt:i<xs.length:=by rw [h2];exact(zaf.1 hi).1
 have hx:xs[i]?=some (xs[i]'hlt):=zab hlt;refine⟨xs[i]'hlt,by rw [fK h1,hx];rfl,⟨ty,xs,h1,hx⟩,?_,R.hi⟩;have:=h4 i _ _ hi hx;simp only [CR] at this;rcases this with h5|⟨r,gg,off,n,cap,ex,ty,all,h5,h6,h7⟩
 ·exact .inl h5
 ·refine .inr ⟨r,gg,off,n,cap,ex,ty,all,h5,?_,h7⟩;intro e;subst e;rw [R.tag] at h6;cases h6
def Cur.load {i m:Nat}{x:AV}{l:List AV}(c:Cur b H q i x m l):ld (.ref q 0 i) H=some (x,H):=by
 obtain⟨g,xs,d,e⟩:=c.at_;rw [fK d,e];rfl
def Cur.ext {i m:Nat}{x:AV}{l:List AV}(c:Cur b H q i x m l)(z:H.next<=H'.next)(j:∀r,r<H.next->H'.get r=H.get r):Cur b H' q i x m l:=by
 obtain⟨d,xs,k,o⟩:=c.at_;refine⟨⟨d,xs,by rw [j q c.lt];exact k,o⟩,?_,by have:=c.lt;omega⟩;rcases c.own with h|⟨r,g,off,n,e,ex,d,all,p,k1,u,v,k4,w,y⟩
 ·exact .inl h
 ·exact .inr ⟨r,g,off,n,e,ex,d,all,p,k1,u,V,k4,by rw [j r v];exact w,y⟩
def Cur.new {i m:Nat}{x:AV}{l:List AV}(c:Cur b H q i x m l)(o:gG):Cur b (H.new o) q i x m l:=c.ext (za8 _) λr d=>by rw [jB,if_neg V]
def Cur.one {i m:Nat}{x:AV}{l:List AV}(c:Cur b H q i x m l):One x:=by
 rcases c.own with⟨rfl,_⟩|⟨r,g,off,n,d,ex,e,all,rfl,_⟩
 ·exact qw
 ·exact uq
def Cur.is {i m n:Nat}{x:AV}{l:List AV}(c:Cur b H q i x m l)(hm:0<m)(d:l.length=n*m):aN H x m n l:=by
 refine⟨d,?_⟩;rcases c.own with⟨rfl,rfl⟩|⟨r,g,off,n',e,ex,j,all,rfl,k1,p,k,k4,o,u,v,rfl⟩
 ·refine⟨rfl,rfl,?_⟩;simp only [zao] at d;rcases zc9.1 d.symm with h|h <;> omega
 ·have w:n'*m<=e*m:=zaB _ k4;rw [zav,zaQ,zbo V] at d;have:n'=n:=zbR hm d;subst this;exact⟨rfl,rfl,⟨k,k4⟩,j,all,o,V,rfl⟩
def Cur.low {i m r:Nat}{x:AV}{l:List AV}(c:Cur b H q i x m l)(h:r<b):iO x≠some r:=by
 rcases c.own with⟨rfl,_⟩|⟨r',g,off,n,d,ex,j,all,rfl,k1,k,_⟩
 ·intro e;cases e
 ·intro e;simp only [iO,zaa] at e;omega
def Fit(H H1:ah)(d x:AV)(m:Nat)(l:List AV):Prop:=
 (x=zN/\l=[])∨∃r g off n b ex e all,x=.sl r g off m n b ex/\(iO d=some r∨H.next<=r)/\r<H1.next/\n<=b/\H1.get r=.blk g e all/\off+b*m<=all.length/\all.all AV.aP=true/\l=(all.drop off).take (n*m)
def Good.seat(G:Good b H g)(h:g q=some cs){i m:Nat}{l0:List AV}(hi:cs[i]?=some (.seq m l0)){x0:AV}(c:Cur b H q i x0 m l0){H1:ah}(hn:H.next<=H1.next)(hb:H1.base<=b)
  (hk:∀r,r<H.next->iO x0≠some r->H1.get r=H.get r) {x:AV} {m':Nat} {l:List AV} (hx:Fit H H1 x0 x m' l):
  ∃H',st 1 (.ref q 0 i) x H1=some (bg,H')/\Good b H' (upd g q (cs.set i (.seq m' l)))/\Step b H1 H'/\H'.next=H1.next:=by
 obtain⟨h0,τ,hR⟩:=G;have R:=hR q cs h;obtain⟨ty,xs,h1,h2,h3,h4⟩:=R.blk;have lo:=R.lo;have hi':=R.hi;have il:i<cs.length:=(zaf.1 hi).1;have hx0:xs[i]?=some x0:=by
  obtain⟨ty',xs',e1,e2⟩:=c.at_;rw [h1] at e1;cases e1;exact e2
 have htag:∀r,iO x0=some r->τ r=some (q,i+1,0,0)/\b<=r:=by
  intro r hr;have:=h4 i _ _ hi hx0;simp only [CR] at this;rcases this with⟨rfl,_⟩|⟨r',gg,off,n,cap,ex,ty',all,rfl,k1,k2,_⟩
  ·cases hr
  ·simp only [iO,zaa] at hr;subst hr;exact⟨k1,k2⟩
 have hqx:iO x0≠some q:=λe=>by have:=(htag q e).1;rw [R.tag] at this;cases this
 have hq1:H1.get q=.blk 0 ty xs:=by rw [hk q hi' hqx];exact h1
 have hone:One x:=by
  rcases hx with⟨rfl,_⟩|⟨r,gg,off,n,cap,ex,ty',all,rfl,_⟩
  ·exact qw
  ·exact uq
 refine⟨_,VI hone hq1 (by omega) (by omega),?_,Step.put _ lo,rfl⟩;refine yh (τ':=λr=>if H.next<=r then some (q,i+1,0,0) else τ r) h0 hR (show H.next<=H1.next from hn) (λr hr ht=>⟨by rw [if_neg (by omega)],?_⟩)
  ⟨by rw [if_neg (by omega)];exact R.tag,R.lo,show q<H1.next by omega,wJ (xs:=xs.set i x) (by rw [dV,if_pos rfl]) (R.tyl _ _ _ h1),ty,xs.set i x,by rw [dV,if_pos rfl],by simp [h2],ZT h3 hone.2 i,λj cc y hc hy=>?_⟩
 ·rw [dV,if_neg (by intro e;subst e;exact ht 0 0 0 R.tag)];exact hk r hr λe=>ht (i+1) 0 0 (htag r e).1
 ·rcases oh hc with⟨rfl,rfl⟩|⟨hj,hc⟩
  ·rcases oh hy with⟨_,rfl⟩|⟨hj,_⟩
   ·rcases hx with hx|⟨r,gg,off,n,cap,ex,ty',all,rfl,k1,k2,k3,k4,k5⟩
    ·exact .inl hx
    ·have hrq:r≠q:=by
      rcases k1 with k1|k1
      ·intro e;subst e;exact hqx k1
      ·omega
     refine .inr ⟨r,gg,off,n,cap,ex,ty',all,rfl,?_,?_,k2,k3,by rw [dV,if_neg hrq];exact k4,k5⟩
     ·show(if H.next<=r then some (q,j+1,0,0) else τ r)=some (q,j+1,0,0);split
      ·rfl
      ·rcases k1 with k1|k1
       ·exact(htag r k1).1
       ·omega
     ·rcases k1 with k1|k1
      ·exact(htag r k1).2
      ·omega
   ·exact absurd rfl hj
  ·rcases oh hy with⟨rfl,_⟩|⟨_,hy⟩
   ·exact absurd rfl hj
   ·refine(h4 j cc y hc hy).keep (show H.next<=H1.next from hn) λr s t hr ht=>⟨by rw [if_neg (by omega)];exact ht,?_⟩
    rw [dV,if_neg (by intro e;subst e;rw [R.tag] at ht;cases ht)];refine hk r hr λe=>?_;have:=(htag r e).1;rw [this] at ht;simp only [zaa,zad,zce] at ht;exact hj ht.2.1.symm
end
section
variable {b:Nat}{H H':ah}{g:bD}{q:Nat}{cs:List Cell}
def aN.lnS {x:AV}{m n:Nat}{cells:List AV}(h:aN H x m n cells):lnS x H=some (I n,H):=by
 obtain⟨_,h⟩:=h;unfold Go.Proofs.YtljogojaihgdlaaGreat.lnS kU aqu;cases x with
 |sl r g off d len e ex=>simp only;rw [h.2.1];rfl
 |vs k d cs=>simp only;rw [h.2.1];rfl
 |s v=>
  cases v with
  |slice a b c=>
   cases a with
   |none=>simp only;rw [h.2.2,h.1];rfl
   |some a=>exact h.elim
  |_=>exact h.elim
 |_=>exact h.elim
def aN.ix {x:AV}{m n:Nat}{cells:List AV}(h:aN H x m n cells){k:IntKind}{i:Int}(h0:0<=i)(o:i<n):ix m x (.s (.int k i)) H=some (fA x i.toNat,H):=by
 obtain⟨_,h⟩:=h;unfold Go.Proofs.YtljogojaihgdlaaGreat.ix kU ixO;cases x with
 |sl r g off d len e ex=>
  obtain⟨rfl,rfl,_,p,all,j,q,u⟩:=h;simp only [bT,zaj,j,akF,gG.gen,true_and];rw [if_pos ⟨h0,V⟩];rfl
 |vs k' d cs=>
  obtain⟨rfl,rfl,rfl⟩:=h;simp only [true_and];rw [if_pos ⟨h0,V⟩];rfl
 |s v=>
  cases v with
  |slice a b c=>
   cases a with
   |none=>obtain⟨rfl,rfl,rfl⟩:=h;omega
   |some a=>exact h.elim
  |_=>exact h.elim
 |_=>exact h.elim
def aN.ld {x:AV}{n:Nat}{cells:List AV}(h:aN H x 1 n cells){i:Nat}(hi:i<n):ld (fA x i) H=(cells[i]?).map λv=>(v,H):=by
 obtain⟨_,h⟩:=h;cases x with
 |sl r g off d len e ex=>
  obtain⟨rfl,rfl,_,m,all,j,o,k⟩:=h;simp only [fA];rw [fK j,k,zaC,if_pos V,zaF,zbO]
 |vs k' d cs=>
  obtain⟨rfl,rfl,rfl⟩:=h;simp only [fA];rw [alG,zaF,zbO,zbu]
 |s v=>
  cases v with
  |slice a b c=>
   cases a with
   |none=>obtain⟨rfl,rfl,rfl⟩:=h;omega
   |some a=>exact h.elim
  |_=>exact h.elim
 |_=>exact h.elim
def aN.alI {x:AV}{m n:Nat}{cells:List AV}(h:aN H x m n cells){i o:Nat}(hi:i<n)(u:o<m):(au (fA x i) o).bind (λp=>Go.Proofs.YtljogojaihgdlaaGreat.ld p H)=(cells[i*m+o]?).map λv=>(v,H):=by
 obtain⟨w,h⟩:=h;have e:i*m+m<=n*m:=by
  have:(i+1)*m<=n*m:=zaB _ hi
  rwa [zbM] at this
 cases x with
 |sl r g off d len j ex=>
  obtain⟨rfl,rfl,_,y,all,k,z,q⟩:=h;simp only [fA,sD,za0];rw [fK k,q,zaC,if_pos V,zaF,zb6]
 |vs k' d cs=>
  obtain⟨rfl,rfl,rfl⟩:=h;simp only [fA,zG,za0];rw [alG,zbL,zaF,zbu]
 |s v=>
  cases v with
  |slice a b c=>
   cases a with
   |none=>obtain⟨rfl,rfl,rfl⟩:=h;omega
   |some a=>exact h.elim
  |_=>exact h.elim
 |_=>exact h.elim
def aN.lda {x:AV}{m n:Nat}{cells:List AV}(h:aN H x m n cells){i:Nat}(hi:i<n):lda m (fA x i) H=some (.agg ((cells.drop (i*m)).take m),H):=by
 obtain⟨p,h⟩:=h;have e:i*m+m<=n*m:=by
  have:(i+1)*m<=n*m:=zaB _ hi
  rwa [zbM] at this
 cases x with
 |sl r g off d len j ex=>
  obtain⟨rfl,rfl,_,q,all,k,u,o⟩:=h;simp only [fA];rw [iK k V,o,zcp,zbZ,zbL,zbo V]
 |vs k' d cs=>
  obtain⟨rfl,rfl,rfl⟩:=h;simp only [fA];rw [alH (by rw [zaQ];omega)]
 |s v=>
  cases v with
  |slice a b c=>
   cases a with
   |none=>obtain⟨rfl,rfl,rfl⟩:=h;omega
   |some a=>exact h.elim
  |_=>exact h.elim
 |_=>exact h.elim
def HY {all new:List AV}{off n:Nat}(h:off+n+new.length<=all.length):((aO all (off+n) new).drop off).take (n+new.length)=(all.drop off).take n++new:=by
 have e:(aO all (off+n) new).length=all.length:=oV V
 apply zbe
 intro j;rcases zaR j n with b|b
 ·rw [zaC,if_pos V,zaF,oq V,if_neg V,zaI (by rw [zav,zaQ];omega),zaC,if_pos b,zaF]
 ·rcases zaR j (n+new.length) with d|d
  ·rw [zaC,if_pos d,zaF,oq V,if_pos V,za3 (by rw [zav,zaQ];omega),zav,zaQ]
   congr 1;omega
  ·rw [zaC,if_neg V,za3 (by rw [zav,zaQ];omega),zav,zaQ,zaG V]
def all_append {l b:List AV}(h:l.all AV.aP=true)(d:b.all AV.aP=true):(l++b).all AV.aP=true:=by rw [zbj,h,d];rfl
def Fb {l:List AV}(h:l.all AV.aP=true)(n:Nat):(l.take n).all AV.aP=true:=by
 rw [za2] at h ⊢;exact λx b=>h x (zcB b)
def AA {l:List AV}(h:l.all AV.aP=true)(n:Nat):(l.drop n).all AV.aP=true:=by
 rw [za2] at h ⊢;exact λx b=>h x (List.mem_of_mem_drop b)
def Own(b:Nat)(H:ah)(x:AV)(m:Nat)(l:List AV):Prop:=
 (x=zN/\l=[])∨∃r g off n d ex e all,x=.sl r g off m n d ex/\b<=r/\r<H.next/\n<=d/\H.get r=.blk g e all/\off+d*m<=all.length/\all.all AV.aP=true/\l=(all.drop off).take (n*m)
def Own.app {m n k:Nat}{x y:AV}{l new:List AV}(c:Own b H x m l)(hb:H.base<=b)(hm:0<m)(hl:l.length=n*m)(hy:aN H y m k new)(hc:new.all AV.aP=true){e:TypeId}{by_:Nat}(h1:n+k<=most)(h2:(n+k)*by_<=most):
  ∃x' H1,app e m by_ x y H=some (x',H1)/\Fit H H1 x x' m (l++new)/\H.next<=H1.next/\H1.base=H.base/\∀r,r<H.next->iO x≠some r->H1.get r=H.get r:=by
 obtain⟨c1,c2⟩:=hy.xw;have c3:=hy.1;have key:Go.Proofs.YtljogojaihgdlaaGreat.app e m by_ x y H=dW e m by_ x k new H:=by simp only [Go.Proofs.YtljogojaihgdlaaGreat.app,c1,c2]
 rw [key];unfold dW;rw [if_pos ⟨c3,hc⟩];rcases c with⟨rfl,rfl⟩|⟨r,gg,off,n',cap,ex,ty,all,rfl,k2,k3,k4,k5,k6,k7,rfl⟩
 ·simp only [zao] at hl;have hn:n=0:=by rcases zc9.1 hl.symm with h|h <;> omega
  subst hn;rw [za5] at h1 h2;by_cases hk:k=0
  ·subst hk;rw [zbv] at c3;have:new=[]:=zat c3;subst this;exact⟨zN,H,by simp only [if_true],.inl ⟨rfl,rfl⟩,zac _,rfl,λ_ _ _=>rfl⟩
  ·refine⟨.sl H.next 0 0 m k k false,H.new (.blk 0 (e+iw) new),by simp only [hk,h1,h2,and_self,if_true,if_false],.inr ⟨H.next,0,0,k,k,false,e+iw,new,rfl,.inr (zac _),by rw [E9];omega,zac _,by simp [jB],by omega,hc,?_⟩,za8 _,rfl,λr hr _=>by rw [jB,if_neg (by omega)]⟩;rw [zaM,zaS,zau (by omega)]
 ·have hcm:n'*m<=cap*m:=zaB _ k4;rw [zav,zaQ,zbo (by omega)] at hl;have hn:n'=n:=zbR hm hl;subst hn;simp only [k5];rw [if_pos ⟨trivial,trivial,by omega⟩];by_cases hk:k=0
  ·subst hk;rw [zbv] at c3;have:new=[]:=zat c3;subst this;exact⟨_,H,by rw [if_pos rfl],.inr ⟨r,gg,off,n',cap,ex,ty,all,rfl,.inl rfl,k3,k4,k5,k6,k7,by rw [zbm]⟩,zac _,rfl,λ_ _ _=>rfl⟩
  ·rw [if_neg hk];by_cases hf:n'+k<=cap
   ·have hfm:(n'+k)*m<=cap*m:=zaB _ hf;rw [if_pos hf,if_pos ⟨by omega,by omega⟩];refine⟨_,_,rfl,.inr ⟨r,gg,off,n'+k,cap,ex,ty,aO all (off+n'*m) new,rfl,.inl rfl,k3,hf,by rw [dV,if_pos rfl],?_,xB k7 hc _,?_⟩,zac _,rfl,λr' hr hne=>?_⟩
    ·rw [zbx] at hfm;rw [oV (by omega)];exact k6
    ·rw [zbx] at hfm ⊢;rw [<-c3,HY (by omega)]
    ·rw [dV,if_neg];intro e';subst e';exact hne rfl
   ·rw [if_neg hf,if_pos ⟨h1,h2⟩];have e1:((all.drop off).take (n'*m)).length=n'*m:=by rw [zav,zaQ];omega
    have e2:((all.drop off).take (n'*m)++new).length=(n'+k)*m:=by rw [zaq,e1,c3,zbx]
    cases ex with
    |true=>
     simp only [if_true];refine⟨_,_,rfl,.inr ⟨H.next,0,0,n'+k,n'+k,false,e+iw,(all.drop off).take (n'*m)++new,rfl,.inr (zac _),by rw [E9];omega,zac _,by simp only [jB,if_true],by rw [e2,za5];exact zac _,all_append (Fb (AA k7 _) _) hc,?_⟩,za8 _,rfl,λr' hr _=>by rw [jB,if_neg (by omega)]⟩;rw [zaS,zau (Nat.le_of_eq e2)]
    |false=>
     simp only [zai,if_false];rw [if_pos (by omega)];refine⟨_,_,rfl,.inr ⟨r,gg+1,0,n'+k,n'+k,false,grT e ty off,(all.drop off).take (n'*m)++new,rfl,.inl rfl,k3,zac _,by simp only [dV,if_true],by rw [e2,za5];exact zac _,all_append (Fb (AA k7 _) _) hc,?_⟩,zac _,rfl,λr' hr hne=>?_⟩
     ·rw [zaS,zau (Nat.le_of_eq e2)]
     ·rw [dV,if_neg];intro e';subst e';exact hne rfl
def Cur.aqE {i m:Nat}{x:AV}{l:List AV}(c:Cur b H q i x m l):Own b H x m l:=by
 rcases c.own with h|⟨r,gg,off,n',d,ex,e,all,g,k1,j⟩
 ·exact .inl h
 ·exact .inr ⟨r,gg,off,n',d,ex,e,all,g,j⟩
def Cur.app {i m n k:Nat}{x y:AV}{l new:List AV}(c:Cur b H q i x m l)(hb:H.base<=b)(hm:0<m)(g:l.length=n*m)(h:aN H y m k new)(hc:new.all AV.aP=true){e:TypeId}{by_:Nat}(j:n+k<=most)(o:(n+k)*by_<=most):
  ∃d H1,app e m by_ x y H=some (d,H1)/\Fit H H1 x d m (l++new)/\H.next<=H1.next/\H1.base=H.base/\∀r,r<H.next->iO x≠some r->H1.get r=H.get r:=
 c.aqE.app hb hm g h hc j o
def Own.step {m n k:Nat}{x y:AV}{l new:List AV}(c:Own b H x m l)(p:b<=H.next)(hb:H.base<=b)(hm:0<m)(q:l.length=n*m)(u:aN H y m k new)(hc:new.all AV.aP=true){e:TypeId}{by_:Nat}(v:n+k<=most)(w:(n+k)*by_<=most):
  ∃h H1,Go.Proofs.YtljogojaihgdlaaGreat.app e m by_ x y H=some (h,H1)/\Own b H1 h m (l++new)/\Step b H H1:=by
 obtain⟨h,H1,z,f,n1,A,k1⟩:=c.app hb hm q u hc (e:=e) (by_:=by_) v w;have j:∀r,iO x=some r->b<=r:=λr i=>by
  rcases c with⟨rfl,_⟩|⟨r',g,off,n',d,ex,o,all,rfl,E,_⟩
  ·cases i
  ·simp only [iO,zaa] at i;omega
 refine⟨h,H1,z,?_,A,n1,λr i=>k1 r V λe=>by have:=j r e;omega⟩;rcases f with f|⟨r,g,off,n',d,ex,o,all,rfl,C,D⟩
 ·exact .inl f
 ·exact .inr ⟨r,g,off,n',d,ex,o,all,rfl,C.elim (j r) λf1=>V,D⟩
def Own.is {m n:Nat}{x:AV}{l:List AV}(c:Own b H x m l)(hm:0<m)(d:l.length=n*m):aN H x m n l:=by
 refine⟨d,?_⟩;rcases c with⟨rfl,rfl⟩|⟨r,g,off,n',e,ex,i,all,rfl,q,j,k4,k,u,v,rfl⟩
 ·refine⟨rfl,rfl,?_⟩;simp only [zao] at d;rcases zc9.1 d.symm with h|h <;> omega
 ·have o:n'*m<=e*m:=zaB _ k4;rw [zav,zaQ,zbo V] at d;have p:n'=n:=zbR hm d;subst p;exact⟨rfl,rfl,⟨j,k4⟩,i,all,k,V,rfl⟩
def Own.ext {m:Nat}{x:AV}{l:List AV}(c:Own b H x m l)(u:H.next<=H'.next)(e:∀r,r<H.next->H'.get r=H.get r):Own b H' x m l:=by
 rcases c with h|⟨r,g,off,n,d,ex,i,all,j,k,o,k4,p,q⟩
 ·exact .inl h
 ·exact .inr ⟨r,g,off,n,d,ex,i,all,j,k,V,k4,by rw [e r o];exact p,q⟩
def Own.new {m:Nat}{x:AV}{l:List AV}(c:Own b H x m l)(o:gG):Own b (H.new o) x m l:=c.ext (za8 _) λr d=>by rw [jB,if_neg V]
def Good.append(G:Good b H g)(hb:H.base<=b)(h:g q=some cs){i m n k:Nat}{l new:List AV}(hi:cs[i]?=some (.seq m l))(hm:0<m)(o:l.length=n*m){x y:AV}(c:Cur b H q i x m l)(p:aN H y m k new)(hc:new.all AV.aP=true){e:TypeId}{by_:Nat}(u:n+k<=most)(v:(n+k)*by_<=most):
  ∃j H1 d,app e m by_ x y H=some (j,H1)/\st 1 (.ref q 0 i) j H1=some (bg,d)/\Good b d (upd g q (cs.set i (.seq m (l++new))))/\Step b H d:=by
 obtain⟨j,H1,w,f,n1,z,k1⟩:=c.app hb hm o p hc (e:=e) (by_:=by_) u v;obtain⟨d,A,C,D,K⟩:=G.seat h hi c n1 V k1 f;have E:=G.1;exact⟨j,H1,d,w,A,C,Step.trans ⟨z,n1,λr F=>k1 r V (c.low F)⟩ D⟩
def Good.elem(G:Good b H g)(hb:H.base<=b)(h:g q=some cs){i m n:Nat}{l:List AV}(hi:cs[i]?=some (.seq m l))(hm:0<m)(K:l.length=n*m){x:AV}(c:Cur b H q i x m l){j:Nat}(hj:j<n):
  ∃r gg off,fA x j=.ref r gg off/\∀(w o:Nat) (v:AV),v.cells.length=w->v.cells.all AV.aP=true->o+w<=m->
   ∃H',st w (.ref r gg (off+o)) v H=some (bg,H')/\Good b H' (upd g q (cs.set i (.seq m (aO l (j*m+o) v.cells))))/\Step b H H'/\H'.next=H.next:=by
 have ab:j*m+m<=n*m:=by
  have:(j+1)*m<=n*m:=zaB _ hj
  rwa [zbM] at this
 rcases c.own with⟨rfl,rfl⟩|⟨r,gg,off,n',u,ex,E,all,rfl,k1,W,k3,k4,k5,k6,k7,rfl⟩
 ·simp only [zao] at K;omega
 ·have ad:n'*m<=u*m:=zaB _ k4;rw [zav,zaQ,zbo V] at K;have hn:n'=n:=zbR hm K;subst hn;refine⟨r,gg,off+j*m,rfl,λw o v hw hv ho=>?_⟩;obtain⟨h0,τ,X⟩:=G;have R:=X q cs h;obtain⟨L,xs,F,h2,h3,h4⟩:=R.blk;have C:xs[i]?=some (.sl r gg off m n' u ex):=by
   obtain⟨ae,af,e1,e2⟩:=c.at_;rw [F] at e1;cases e1;exact e2
  have d:τ r=some (q,i+1,0,0):=by
   have:=h4 i _ _ hi C;simp only [CR] at this;rcases this with⟨h,_⟩|⟨_,_,_,_,_,_,_,_,h,k,_⟩
   ·cases h
   ·cases h;exact k
  refine⟨H.put r (.blk gg E (aO all (off+j*m+o) v.cells)),?_,?_,Step.put _ W,rfl⟩
  ·show(match H.get r with
    |.blk g' E cells=>if g'=gg/\H.base<=r/\some w=some v.cells.length/\v.cells.all AV.aP=true/\off+j*m+o+v.cells.length<=cells.length then some (bg,H.put r (.blk gg E (aO cells (off+j*m+o) v.cells))) else none
    |.map ..=>none)=_
   rw [k5];simp only;rw [if_pos ⟨trivial,V,by rw [hw],hv,V⟩]
  ·refine yh (τ':=τ) h0 X (zac _) (λr' hr A=>⟨rfl,?_⟩) ⟨R.tag,R.lo,R.hi,wJ (xs:=xs) (by rw [dV,if_neg (λe=>k1 e.symm)];exact F) (R.tyl _ _ _ F),L,xs,by rw [dV,if_neg (λe=>k1 e.symm)];exact F,by simp [h2],h3,λj' cc y z M=>?_⟩
   ·rw [dV,if_neg];intro e;subst e;exact A _ _ _ d
   ·rcases oh z with⟨rfl,rfl⟩|⟨Q,z⟩
    ·rw [C] at M;cases M;refine .inr ⟨r,gg,off,n',u,ex,E,_,rfl,d,W,k3,k4,by rw [dV,if_pos rfl],by rw [oV V];exact k6,xB k7 hv _,?_⟩
     apply zbe
     intro p;have aa:((all.drop off).take (n'*m)).length=n'*m:=by rw [zav,zaQ];omega
     rw [oq V];rcases zaR p (n'*m) with T|T
     ·rw [zaC,if_pos T,zaF,zaC,if_pos T,zaF,oq V];by_cases D:j*m+o<=p/\p<j*m+o+v.cells.length
      ·rw [if_pos D,if_pos V];congr 1;omega
      ·rw [if_neg D,if_neg V]
     ·rw [zaC,if_neg V,zaC,if_neg V,if_neg V]
    ·refine(h4 j' cc y z M).keep (zac _) λr' s t hr A=>⟨A,?_⟩
     rw [dV,if_neg];intro e;subst e;rw [d] at A;simp only [zaa,zad,zce] at A;exact Q A.2.1.symm
def Good.map(G:Good b H g)(h:g q=some cs){i:Nat}{k:IntKind}{es:List (Int × AV)}(hi:cs[i]?=some (.map k es)):
  ∃r,ld (.ref q 0 i) H=some (.mp r,H)/\(∀z n ok,lk k z (.mp r) (.s (.int k n)) ok H=some ((match qW es n with
   |some v=>if ok then .tup [v,.s (.bool true)] else v
   |none=>if ok then .tup [.s z,.s (.bool false)] else .s z),H))/\lnM (.mp r) H=some (I es.length,H)/\(H.base<=b->
   (∀n v,∃H',mup k (.mp r) (.s (.int k n)) v H=some (bg,H')/\Good b H' (upd g q (cs.set i (.map k (LX es n v))))/\Step b H H'/\H'.next=H.next)/\
   (∀n,∃H',del k (.mp r) (.s (.int k n)) H=some (.tup [],H')/\Good b H' (upd g q (cs.set i (.map k (Aj es n))))/\Step b H H'/\H'.next=H.next)):=by
 obtain⟨h0,τ,hR⟩:=G;have R:=hR q cs h;obtain⟨ty,xs,h1,h2,h3,h4⟩:=R.blk;have hlt:i<xs.length:=by rw [h2];exact(zaf.1 hi).1
 have hx:xs[i]?=some (xs[i]'hlt):=zab hlt;have:=h4 i _ _ hi hx;simp only [CR] at this;obtain⟨r,e,t1,t2,t3,t4⟩:=this;rw [e] at hx;have hrq:q≠r:=by intro e;subst e;rw [R.tag] at t1;cases t1
 have put:∀es',Good b (H.put r (.map k es')) (upd g q (cs.set i (.map k es'))):=by
  intro es';refine yh (τ':=τ) h0 hR (zac _) (λr' hr ht=>⟨rfl,?_⟩) ⟨R.tag,R.lo,R.hi,wJ (xs:=xs) (by rw [dV,if_neg hrq];exact h1) (R.tyl _ _ _ h1),ty,xs,by rw [dV,if_neg hrq];exact h1,by simp [h2],h3,λj c y hc hy=>?_⟩
  ·rw [dV,if_neg];intro e;subst e;exact ht _ _ _ t1
  ·rcases oh hc with⟨rfl,rfl⟩|⟨hj,hc⟩
   ·rw [hx] at hy;cases hy;exact⟨r,rfl,t1,t2,t3,by rw [dV,if_pos rfl]⟩
   ·refine(h4 j c y hc hy).keep (zac _) λr' s t hr ht=>⟨ht,?_⟩
    rw [dV,if_neg];intro e;subst e;rw [t1] at ht;simp only [zaa,zad,zce] at ht;exact hj ht.2.1.symm
 refine⟨r,by rw [fK h1,hx];rfl,λz n ok=>?_,?_,λhb=>⟨λn v=>⟨H.put r (.map k (LX es n v)),?_,put _,Step.put _ t2,rfl⟩,λn=>⟨H.put r (.map k (Aj es n)),?_,put _,Step.put _ t2,rfl⟩⟩⟩
 ·simp only [lk,kU,bT,zaj,lkO,t4,and_self,if_true];cases qW es n <;> rfl
 ·simp only [lnM,kU,bT,zaj,aqv,t4]
 ·simp only [mup,t4];rw [if_pos ⟨trivial,trivial,V⟩]
 ·simp only [del,t4];rw [if_pos ⟨trivial,trivial,V⟩]
end
abbrev w64(n:Int):Int:=IntKind.wrap .i64 n
structure Cfg where
 aF:Int
 aY:Int
 bI:Int
 sets:Int
 ways:Int
 out:Int
 inn:Int
 init:List Int
structure Pkt where
 aS:Int
 src:Int
 dst:Int
 id:Int
 aj:Int
 ptr:Int
 aW:Int
 flag:Bool
 data:List Int
 deriving DecidableEq
structure Opn where
 aS:Int
 addr:Int
 value:Int
 deriving DecidableEq
structure Evn where
 bF:Int
 index:Int
 done:Bool
 value:Int
 deriving DecidableEq
structure Ent where
 fwd:Int
 back:Int
 aj:Int
 used:Int
 dn:Bool
 data:List Int
 deriving DecidableEq
structure Row where
 aW:Int
 head:Int
 data:List Int
 deriving DecidableEq
structure bJ where
 aS:Int
 aj:Int
 id:Int
 step:Int
 aW:Int
 head:Int
 data:List Int
 next:Int
 told:Int
 deriving DecidableEq
structure Pck where
 deliver:Bool
 at_:Int
 bit:Int
 mask:Int
def vsl {α:Type}(m:Nat)(enc:α->List AV)(l:List α):AV:=if l=[] then zN else .vs l.length m (l.flatMap enc)
def apY(n:Int):List AV:=[I n]
def dat(l:List Int):AV:=vsl 1 apY l
def Cfg.av(c:Cfg):List AV:=[I c.aF,I c.aY,I c.bI,I c.sets,I c.ways,I c.out,I c.inn,dat c.init]
def Pkt.av(p:Pkt):List AV:=[I p.aS,I p.src,I p.dst,I p.id,I p.aj,I p.ptr,I p.aW,B p.flag,dat p.data]
def Opn.av(o:Opn):List AV:=[I o.aS,I o.addr,I o.value]
def Evn.av(e:Evn):List AV:=[I e.bF,I e.index,B e.done,I e.value]
def Ent.av(e:Ent):List AV:=[I e.fwd,I e.back,I e.aj,I e.used,B e.dn,dat e.data]
def Row.av(r:Row):List AV:=[I r.aW,I r.head,dat r.data]
def bJ.av(d:bJ):List AV:=[I d.aS,I d.aj,I d.id,I d.step,I d.aW,I d.head,dat d.data,I d.next,I d.told]
def Pck.av(p:Pck):List AV:=[B p.deliver,I p.at_,I p.bit,.s (.int .u16 p.mask)]
def Pkt.zero:Pkt:=⟨0,0,0,0,0,0,0,false,[]⟩
def Opn.zero:Opn:=⟨0,0,0⟩
def Ent.zero:Ent:=⟨0,0,0,0,false,[]⟩
def Row.zero:Row:=⟨0,0,[]⟩
def bJ.zero:bJ:=⟨0,0,0,0,0,0,[],0,0⟩
def dJ {α:Type}{enc:α->List AV}{m:Nat}(b:∀a,(enc a).length=m)(l:List α):(l.flatMap enc).length=l.length*m:=Ua b l
def Ib {α:Type}{enc:α->List AV}{m:Nat}(b:∀a,(enc a).length=m)(H:ah)(l:List α):aN H (vsl m enc l) m l.length (l.flatMap enc):=by
 unfold vsl;split
 ·rename_i h;subst h;exact aN.nil
 ·exact aN.vs (dJ b l)
def gQ {α:Type}{enc:α->List AV}{m:Nat}:vsl m enc ([]:List α)=zN:=by simp [vsl]
def Fe {α:Type}{enc:α->List AV}{m:Nat}{l:List α}(h:l≠[]):vsl m enc l=.vs l.length m (l.flatMap enc):=by simp [vsl,h]
def Ub {α:Type}{enc:α->List AV}{m:Nat}{l:List α}:One (vsl m enc l):=by
 unfold vsl;split
 ·exact qw
 ·exact agj
def tJ {l:List Int}:One (dat l):=Ub
def ad1(n:Int):(apY n).length=1:=rfl
def QA(l:List Int):l.flatMap apY=l.map I:=by
 induction l with
 |nil=>rfl
 |cons a l b=>rw [zaD,b];rfl
def kZ(H:ah)(l:List Int):aN H (dat l) 1 l.length (l.map I):=by
 have:=Ib ad1 H l;rw [QA] at this;exact this
def bZ(p:Pkt):p.av.length=9:=rfl
def eP(p:Opn):p.av.length=3:=rfl
def oW(p:Evn):p.av.length=4:=rfl
def dX(p:Ent):p.av.length=6:=rfl
def CU(p:Row):p.av.length=3:=rfl
def KD(p:Cfg):p.av.length=8:=rfl
def Ic(p:bJ):p.av.length=9:=rfl
def KG(p:Pck):p.av.length=4:=rfl
def agk(p:Cfg):p.av.take 8=p.av:=rfl
def QB(p:Pkt):p.av.take 9=p.av:=rfl
def agl(p:Opn):p.av.take 3=p.av:=rfl
def agm(p:Evn):p.av.take 4=p.av:=rfl
def agn(p:Ent):p.av.take 6=p.av:=rfl
def agp(p:Row):p.av.take 3=p.av:=rfl
def ZU(p:bJ):p.av.take 9=p.av:=rfl
def agq(p:Pck):p.av.take 4=p.av:=rfl
def Ie {l:List Int}:(dat l).cells=[dat l]:=tJ.1
def oZ {l:List Int}:(dat l).aP=true:=tJ.2
def Ig {α:Type}{enc:α->List AV}{m:Nat}{l:List α}:(vsl m enc l).cells=[vsl m enc l]:=Ub.1
def KI {α:Type}{enc:α->List AV}{m:Nat}{l:List α}:(vsl m enc l).aP=true:=Ub.2
def fE(c:Cfg):c.av.all AV.aP=true:=by simp [Cfg.av,ji,oZ]
def aV(p:Pkt):p.av.all AV.aP=true:=by simp [Pkt.av,ji,kY,oZ]
def pq(p:Opn):p.av.all AV.aP=true:=by simp [Opn.av,ji]
def CV(p:Evn):p.av.all AV.aP=true:=by simp [Evn.av,ji,kY]
def lU(p:Ent):p.av.all AV.aP=true:=by simp [Ent.av,ji,kY,oZ]
def Np(p:Row):p.av.all AV.aP=true:=by simp [Row.av,ji,oZ]
def bG(p:bJ):p.av.all AV.aP=true:=by simp [bJ.av,ji,oZ]
def zK(p:Pck):p.av.all AV.aP=true:=by simp [Pck.av,ji,kY]
def Fg {α:Type}{enc:α->List AV}(h:∀a,(enc a).all AV.aP=true)(l:List α):(l.flatMap enc).all AV.aP=true:=by
 rw [za2];intro x b;obtain⟨a,_,ha⟩:=zaY.1 b;exact za2.1 (h a) x ha
def iT {H:ah}{n d:Nat}:∀(l:List AV),(∀x∈l,bW H n d x=some x)->l.mapM (bW H n d)=some l
 |[],_=>rfl
 |x::l,h=>by
  rw [zby,iT l λy b=>h y (by simp [b]),h x O];rfl
def jc {H:ah}{n d:Nat}{v:Value}:bW H n (d+1) (.s v)=some (.s v):=by rw [bW]
def ZV {H:ah}{n d k m:Nat}{l:List AV}(h:∀x∈l,bW H n d x=some x):bW H n (d+1) (.vs k m l)=some (.vs k m l):=by
 rw [bW];simp only [iT l h,zaj]
def KJ {H:ah}{n d:Nat}{l:List AV}(h:∀x∈l,bW H n d x=some x):bW H n (d+1) (.agg l)=some (.agg l):=by
 rw [bW];simp only [iT l h,zaj]
def KL {H:ah}{n d:Nat}{l:List AV}(h:∀x∈l,bW H n d x=some x):bW H n (d+1) (.tup l)=some (.tup l):=by
 rw [bW];simp only [iT l h,zaj]
def lg {H:ah}{n d r g off b len cap:Nat}{ex:Bool}{l:List AV}(e:n<=r){cells:List AV}(hc:dF H (.sl r g off b len cap ex)=some cells)(h:cells.mapM (bW H n d)=some l):bW H n (d+1) (.sl r g off b len cap ex)=some (.vs len b l):=by
 rw [bW];simp only [if_neg (zdP.2 e),hc,h,zaj]
def Frz(d:Nat)(x:AV):Prop:=∀H n,bW H n d x=some x
def iy {v:Value}{d:Nat}:Frz (d+1) (.s v):=λ_ _=>jc
def ags {d k m:Nat}{l:List AV}(h:∀x∈l,Frz d x):Frz (d+1) (.vs k m l):=λH n=>ZV λx b=>h x b H n
def oz {d:Nat}{l:List AV}(h:∀x∈l,Frz d x):Frz (d+1) (.agg l):=λH n=>KJ λx b=>h x b H n
def vK {d:Nat}{l:List AV}(h:∀x∈l,Frz d x):Frz (d+1) (.tup l):=λH n=>KL λx b=>h x b H n
def aiA {α:Type}{enc:α->List AV}{m d:Nat}{l:List α}(h:∀a,∀x∈enc a,Frz (d+1) x):Frz (d+2) (vsl m enc l):=by
 unfold vsl;split
 ·exact iy
 ·refine ags λx b=>?_;obtain⟨a,_,ha⟩:=zaY.1 b;exact h a x ha
def vM {l:List Int}{d:Nat}:Frz (d+2) (dat l):=aiA λa x b=>by
 simp only [apY,zaU] at b;subst b;exact iy
section
variable {β:Type}{x:Option (AV × ah)}{H:ah}{k:AV->ah->Option β}
def alJ:gdA (some (.s (.bool true))) true x H k=bnd x k:=rfl
def alK:gdA (some (.s (.bool true))) false x H k=k bg H:=rfl
def alL:gdA (some (.s (.bool false))) true x H k=k bg H:=rfl
def alM:gdA (some (.s (.bool false))) false x H k=bnd x k:=rfl
def ata {a b:AV}:cO (.s (.bool true)) a b=some a:=rfl
def atb {a b:AV}:cO (.s (.bool false)) a b=some b:=rfl
end
def ZW {r g o:Nat}:aA (.ref r g o)=some (.ref r g o):=rfl
def agt {l:List AV}:aA (.ip l)=some (.ip l):=rfl
def agu {f:FuncId}{a c:List AV}:aA (.fn (.func f) a c)=some (.fn (.func f) a c):=rfl
def agv {l:List AV}{i:Nat}:aJ (.tup l) i=l[i]?:=rfl
def agw {l:List AV}{o:Nat}:fl (.agg l) o=l[o]?:=rfl
def agx {r g off:Nat}{H:ah}:ld (.ref r g off) H=match H.get r with
  |.blk g' _ cells=>if g'=g then(cells[off]?).map λv=>(v,H) else none
  |.map ..=>none:=by
 simp only [ld,kU,bT,zaj,ldO];cases H.get r with
 |map k b=>rfl
 |blk g' d cells=>simp only;split <;> rfl
def Uc {r g off n:Nat}{H:ah}:lda n (.ref r g off) H=match H.get r with
  |.blk g' _ cells=>if g'=g then(if off+n<=cells.length then some (.agg ((cells.drop off).take n),H) else none) else none
  |.map ..=>none:=by
 simp only [lda,kU,bT,zaj,apW];cases H.get r with
 |map k b=>rfl
 |blk g' d cells=>
  simp only;split
  ·split <;> rfl
  ·rfl
def aG {t:TypeId}{l:List AV}{H:ah}(h:l.all AV.aP=true)(b:t<1000000000):iq t (.agg l) H=some (.ref H.next 0 0,H.new (.blk 0 t l)):=Vx h b
def agy {t:TypeId}{z:List AV}{H:ah}:alc t z H=some (.ref H.next 0 0,H.new (.blk 0 t z)):=rfl
def agz {k:IntKind}{H:ah}:mkm k H=some (.mp H.next,H.new (.map k [])):=rfl
def leS {a b:Nat}(h:a<=b):a<=b+1:=V
def ltS {a b:Nat}(h:a<b):a<b+1:=V
def fB {H:ah}{o:gG}:(H.new o).next=H.next+1:=Eq.trans rfl rfl
def atc {H:ah}{r:Nat}{o:gG}:(H.put r o).next=H.next:=Eq.trans rfl rfl
def jD {H:ah}{o:gG}:(H.new o).base=H.base:=Eq.trans rfl rfl
def atd {H:ah}{r:Nat}{o:gG}:(H.put r o).base=H.base:=Eq.trans rfl rfl
def Fh {H:ah}:H.guard.next=H.next:=Eq.trans rfl rfl
def apZ {H:ah}:H.guard.base=H.next:=Eq.trans rfl rfl
def ap0 {H:ah}:H.guard.get=H.get:=Eq.trans rfl rfl
def ru {H:ah}{o:gG}:(H.new o).get H.next=o:=by rw [jB,if_pos rfl]
def aZ {H:ah}{o:gG}{r:Nat}(h:r=H.next):(H.new o).get r=o:=by rw [jB,if_pos h]
def bM {H:ah}{o:gG}{r:Nat}(h:r<H.next):(H.new o).get r=H.get r:=by rw [jB,if_neg (by omega)]
def Ih {H:ah}{o:gG}{r:Nat}:(H.put r o).get r=o:=by rw [dV,if_pos rfl]
def Nq {n r off:Nat}{v:AV}{H:ah}:st n (.ref r 0 off) v H=match H.get r with
  |.blk g' ty cells=>if g'=0/\H.base<=r/\n=v.cells.length/\v.cells.all AV.aP=true/\off+v.cells.length<=cells.length then some (bg,H.put r (.blk 0 ty (aO cells off v.cells))) else none
  |.map ..=>none:=by
 unfold st;simp only [zaa];cases H.get r <;> rfl
def agB {H:ah}{r off:Nat}{ty:TypeId}{cells:List AV}(h:r=H.next):ld (.ref r 0 off) (H.new (.blk 0 ty cells))=(cells[off]?).map λv=>(v,H.new (.blk 0 ty cells)):=fK (aZ h)
def ZX {H:ah}{r off n:Nat}{ty:TypeId}{cells:List AV}(h:r=H.next):lda n (.ref r 0 off) (H.new (.blk 0 ty cells))=if off+n<=cells.length then some (.agg ((cells.drop off).take n),H.new (.blk 0 ty cells)) else none:=by
 split
 ·rename_i b;exact iK (aZ h) b
 ·rename_i b;rw [Uc,aZ h];simp only [if_true,b,if_false]
def Ee {H:ah}{r off:Nat}{o:gG}(h:r<H.next):ld (.ref r 0 off) (H.new o)=(ld (.ref r 0 off) H).map λp=>(p.1,H.new o):=by
 rw [agx,agx,bM h];cases H.get r with
 |map k es=>rfl
 |blk g ty cells=>simp only;split <;> first|rfl|(cases cells[off]? <;> rfl)
def ZY {H:ah}{r off n:Nat}{o:gG}(h:r<H.next):lda n (.ref r 0 off) (H.new o)=(lda n (.ref r 0 off) H).map λp=>(p.1,H.new o):=by
 rw [Uc,Uc,bM h];cases H.get r with
 |map k es=>rfl
 |blk g ty cells=>simp only;split <;> first|rfl|(split <;> rfl)
def Ii {H:ah}{a b:gG}:(H.new a).put H.next b=H.new b:=by
 unfold ah.put ah.new;simp only
 congr 1
 funext x
 split <;> rfl
def alN {H:ah}{r:Nat}{a b:gG}(h:r<H.next):(H.new a).put r b=(H.put r b).new a:=by
 unfold ah.put ah.new;simp only
 congr 1
 funext x
 split <;> split <;> first|rfl|(exfalso;omega)
def QC {n:Nat}{H:ah}{r off:Nat}{v:AV}{ty:TypeId}{cells:List AV}(h:r=H.next):st n (.ref r 0 off) v (H.new (.blk 0 ty cells))=if H.base<=r/\n=v.cells.length/\v.cells.all AV.aP=true/\off+v.cells.length<=cells.length then some (bg,H.new (.blk 0 ty (aO cells off v.cells))) else none:=by
 subst h;rw [Nq,aZ rfl];simp only [true_and,jD,Ii]
def QD {n:Nat}{H:ah}{r off:Nat}{v:AV}{o:gG}(h:r<H.next):st n (.ref r 0 off) v (H.new o)=(st n (.ref r 0 off) v H).map λp=>(p.1,p.2.new o):=by
 rw [Nq,Nq,bM h];cases H.get r with
 |map k es=>rfl
 |blk g ty cells=>
  simp only [jD];split
  ·simp only [zaj,alN h]
  ·rfl
def agC {r off n:Nat}{v:AV}{ty:TypeId}{xs:List AV}{H:ah}(h:H.get r=.blk 0 ty xs)(hb:H.base<=r)(hv:v.cells.all AV.aP=true)(b:v.cells.length=n)(d:off+n<=xs.length):st n (.ref r 0 off) v H=some (bg,H.put r (.blk 0 ty (aO xs off v.cells))):=by
 show(match H.get r with
  |.blk g' ty cells=>if g'=0/\H.base<=r/\some n=some v.cells.length/\v.cells.all AV.aP=true/\off+v.cells.length<=cells.length then some (bg,H.put r (.blk 0 ty (aO cells off v.cells))) else none
  |.map ..=>none)=_
 rw [h];simp only;rw [if_pos ⟨trivial,hb,by rw [b],hv,V⟩]
def eu {b:Nat->Option (Nat × Nat)}{z:List AV}:gu b z []=some z:=rfl
def Ij {b:Nat->Option (Nat × Nat)}{z:List AV}{i off:Nat}{v:AV}{ps:List (Nat × AV)}(d:b i=some (off,1))(hv:v.cells=[v])(e:off<z.length):gu b z ((i,v)::ps)=gu b (z.set off v) ps:=by
 rw [gu];simp only [d,hv,zam,zao];rw [if_pos ⟨trivial,V⟩,Qz e]
def zL {e m:Nat}{z:List AV}{H:ah}:bsl e m z 0 [] H=some (.sl H.next 0 0 m 0 0 true,H.new (.blk 0 e [])):=rfl
def lq {e m:Nat}{z:List AV}{v:AV}{H:ah}(b:z.length=m)(hv:v.cells.length=m)(hc:v.cells.all AV.aP=true):bsl e m z 1 [(0,v)] H=some (.sl H.next 0 0 m 1 1 true,H.new (.blk 0 e v.cells)):=by
 have d:(dO z 1).length=m:=by simp [dO,b]
 unfold bsl;rw [gu];simp only [zbv,hv,d,za5,zac,and_self,if_true,gu];have:aO (dO z 1) 0 v.cells=v.cells:=by
  simp only [aO,zdE,zaM,za5];rw [zaV V,zbm]
 rw [this,if_pos hc]
def kQ {e m n:Nat}{l:List AV}{H:ah}{ex:Bool}(h:l.length=n*m):aN (H.new (.blk 0 e l)) (.sl H.next 0 0 m n n ex) m n l:=
 ⟨h,rfl,rfl,⟨by rw [fB];omega,zac _⟩,e,l,by simp [jB],V,by rw [zaS,zau V]⟩
def uw {e m by_ r n ty:Nat}{y:AV}{cells:List AV}{H:ah}(d:H.get r=.blk 0 ty [])(b:aN H y m n cells)(hc:cells.all AV.aP=true)(g:n≠0)(k:n<=most)(h:n*by_<=most):
  app e m by_ (.sl r 0 0 m 0 0 true) y H=some (.sl H.next 0 0 m n n false,H.new (.blk 0 (e+iw) cells)):=by
 obtain⟨i,j⟩:=b.xw;simp only [app,i,j];unfold dW;rw [if_pos ⟨b.1,hc⟩];simp only [d];rw [if_pos ⟨trivial,trivial,O⟩,if_neg g,if_neg V,if_pos ⟨V,by rw [za5];exact h⟩];simp
def Nr {e m by_ n:Nat}{y:AV}{cells:List AV}{H:ah}(b:aN H y m n cells)(hc:cells.all AV.aP=true)(d:n≠0)(g:n<=most)(h:n*by_<=most):
  app e m by_ zN y H=some (.sl H.next 0 0 m n n false,H.new (.blk 0 (e+iw) cells)):=by
 obtain⟨i,j⟩:=b.xw;simp only [app,i,j];unfold dW;rw [if_pos ⟨b.1,hc⟩];simp only;rw [if_neg d,if_pos ⟨g,h⟩]
def uy {P:Program}{t e:TypeId}{n m:Nat}{l:List AV}(h:P.underlying t=some (.slice e)):qm P .eql t (.vs n m l) (.s (.slice none 0 0))=some (B false):=by
 simp [qm,AV.val?,PN,h]
def CW {P:Program}{t e:TypeId}{r g o m n c:Nat}{ex:Bool}(h:P.underlying t=some (.slice e)):qm P .eql t (.sl r g o m n c ex) (.s (.slice none 0 0))=some (B false):=by
 simp [qm,AV.val?,PN,h]
def uz {P:Program}{C:aC}{f:FuncId}{a c args:List AV}{H:ah}(h:nR P f=true):tq P C (.fn (.func f) a c) args H=C f (a++args++c) H:=adN h
def wrap_i64 {a:Int}(b:-9223372036854775808<=a)(d:a<=9223372036854775807):IntKind.wrap .i64 a=a:=akV b d
def xq_:(type_of% @afQ)/\(type_of% @ak3)/\(type_of% @Vs)/\(type_of% @ZP)/\(type_of% @KC)/\(type_of% @Hu)/\(type_of% @Qm)/\(type_of% @decide_true)/\
 (type_of% @decide_false)/\(type_of% @alJ)/\(type_of% @alK)/\(type_of% @alL)/\(type_of% @alM)/\(type_of% @Vy)/\
 (type_of% @Qo)/\(type_of% @Vu)/\(type_of% @Option.map_some.{0,0})/\(type_of% @Option.bind_some.{0,0})/\(type_of% @sD)/\(type_of% @zG)/\
 (type_of% @ZW)/\(type_of% @agt)/\(type_of% @agu)/\(type_of% @agv)/\(type_of% @agw)/\(type_of% @List.getElem?_cons_zero.{0})/\
 (type_of% @List.getElem?_cons_succ.{0})/\(type_of% @Nat.zero_add)/\(type_of% @Nat.add_zero)/\(type_of% @ata)/\(type_of% @atb)/\(type_of% @Zz)/\
 (type_of% @ZA)/\(type_of% @TT)/\(type_of% @MV)/\(type_of% @ZB)/\(type_of% @ZC)/\(type_of% @Vw)/\
 (type_of% @beq_self_eq_true.{0})/\(type_of% @if_true.{1})/\(type_of% @Bool.false_eq_true)/\(type_of% @if_false.{1})/\(type_of% @List.nil_append.{0})/\(type_of% @List.cons_append.{0})/\
 (type_of% @List.append_nil.{0})/\(type_of% @agy)/\(type_of% @agz)/\(type_of% @fB)/\(type_of% @atc)/\(type_of% @jD)/\
 (type_of% @atd)/\(type_of% @Fh)/\(type_of% @apZ):=
 ⟨@afQ,@ak3,@Vs,@ZP,@KC,@Hu,@Qm,@decide_true,@decide_false,@alJ,@alK,@alL,@alM,@Vy,@Qo,@Vu,@Option.map_some.{0,0},@Option.bind_some.{0,0},@sD,@zG,@ZW,@agt,@agu,@agv,@agw,@List.getElem?_cons_zero.{0},@List.getElem?_cons_succ.{0},@Nat.zero_add,@Nat.add_zero,@ata,@atb,@Zz,@ZA,@TT,@MV,@ZB,@ZC,@Vw,@beq_self_eq_true.{0},@if_true.{1},@Bool.false_eq_true,@if_false.{1},@List.nil_append.{0},@List.cons_append.{0},@List.append_nil.{0},@agy,@agz,@fB,@atc,@jD,@atd,@Fh,@apZ⟩
def hq_:(type_of% @agB)/\(type_of% @Ee)/\(type_of% @ZX)/\(type_of% @ZY)/\(type_of% @QC)/\(type_of% @QD)/\
 (type_of% @Nat.lt_add_one)/\(type_of% @ne_eq.{1})/\(type_of% @nx1)/\(type_of% @nx2)/\(type_of% @nx3)/\(type_of% @ny1)/\
 (type_of% @ny2)/\(type_of% @ny3)/\(type_of% @not_false_eq_true)/\(type_of% @List.length_cons.{0})/\(type_of% @List.length_nil.{0})/\(type_of% @List.take_succ_cons.{0})/\
 (type_of% @List.take_zero.{0})/\(type_of% @List.drop_succ_cons.{0})/\(type_of% @List.drop_zero.{0})/\(type_of% @Ie)/\(type_of% @Qp)/\(type_of% @Kr)/\
 (type_of% @eX)/\(type_of% @List.all_cons.{0})/\(type_of% @List.all_nil.{0})/\(type_of% @ji)/\(type_of% @kY)/\(type_of% @oZ)/\
 (type_of% @Kt)/\(type_of% @Ku)/\(type_of% @KI)/\(type_of% @Ig)/\(type_of% @KD)/\(type_of% @bZ)/\
 (type_of% @eP)/\(type_of% @oW)/\(type_of% @dX)/\(type_of% @CU)/\(type_of% @Ic)/\(type_of% @KG)/\
 (type_of% @agk)/\(type_of% @QB)/\(type_of% @agl)/\(type_of% @agm)/\(type_of% @agn)/\(type_of% @agp)/\
 (type_of% @ZU)/\(type_of% @agq)/\(type_of% @fE)/\(type_of% @aV)/\(type_of% @pq)/\(type_of% @CV)/\
 (type_of% @lU)/\(type_of% @Np)/\(type_of% @bG)/\(type_of% @zK)/\(type_of% @List.drop_nil.{0})/\(type_of% @Bool.and_true)/\
 (type_of% @Bool.and_self)/\(type_of% @and_self)/\(type_of% @Nat.le_refl)/\(type_of% @true_and)/\(type_of% @and_true)/\(type_of% @Nat.le_add_right)/\
 (type_of% @leS)/\(type_of% @ltS):=
 ⟨@agB,@Ee,@ZX,@ZY,@QC,@QD,@Nat.lt_add_one,@ne_eq.{1},@nx1,@nx2,@nx3,@ny1,@ny2,@ny3,@not_false_eq_true,@List.length_cons.{0},@List.length_nil.{0},@List.take_succ_cons.{0},@List.take_zero.{0},@List.drop_succ_cons.{0},@List.drop_zero.{0},@Ie,@Qp,@Kr,@eX,@List.all_cons.{0},@List.all_nil.{0},@ji,@kY,@oZ,@Kt,@Ku,@KI,@Ig,@KD,@bZ,@eP,@oW,@dX,@CU,@Ic,@KG,@agk,@QB,@agl,@agm,@agn,@agp,@ZU,@agq,@fE,@aV,@pq,@CV,@lU,@Np,@bG,@zK,@List.drop_nil.{0},@Bool.and_true,@Bool.and_self,@and_self,@Nat.le_refl,@true_and,@and_true,@Nat.le_add_right,@leS,@ltS⟩
def sG(g g':bD):Prop:=∀q cs,g q=some cs->g' q=some cs
def sG.refl(g:bD):sG g g:=λ_ _ h=>h
def sG.more {g g':bD}(h:sG g g'){n:Nat}(d:g n=none)(c:List Cell):sG g (upd g' n c):=λq cs b=>by
 rw [bn (λe=>by rw [e,d] at b;cases b)];exact h q cs b
def sG.both {g g':bD}(h:sG g g')(n:Nat)(c:List Cell):sG (upd g n c) (upd g' n c):=λq cs b=>by
 by_cases e:q=n
 ·subst e;rw [aQ] at b ⊢;exact b
 ·rw [bn e] at b ⊢;exact h q cs b
def AB {g:bD}{q n:Nat}{c:List Cell}(h:g n=none)(b:n≠q):upd g q c n=none:=by rw [bn b];exact h
section
variable {b:Nat}{H H':ah}{g:bD}{q:Nat}{cs:List Cell}
def Cur.length {i m n:Nat}{x:AV}{l:List AV}(c:Cur b H q i x m l)(hm:0<m)(d:l.length=n*m):(x=zN/\n=0)∨∃r g off cap ex ty all,x=.sl r g off m n cap ex/\r≠q/\b<=r/\r<H.next/\n<=cap/\H.get r=.blk g ty all/\off+cap*m<=all.length/\all.all AV.aP=true/\l=(all.drop off).take (n*m):=by
 rcases c.own with⟨rfl,rfl⟩|⟨r,g,off,n',cap,ex,ty,all,rfl,k1,e,j,k4,k,o,p,rfl⟩
 ·left;simp only [zao] at d;refine⟨rfl,?_⟩;rcases zc9.1 d.symm with h|h <;> omega
 ·right;have u:n'*m<=cap*m:=zaB _ k4;rw [zav,zaQ,zbo V] at d;have:n'=n:=zbR hm d;subst this;exact⟨r,g,off,cap,ex,ty,all,rfl,k1,e,j,k4,k,o,p,rfl⟩
def alO {r gg off m len cap:Nat}{ex:Bool}{k1 k2:IntKind}{lo hi:Int}(h0:0<=lo)(d:lo<=hi)(e:hi<=cap):slS m (.sl r gg off m len cap ex) (some (.s (.int k1 lo))) (some (.s (.int k2 hi))) none=some (.sl r gg (off+lo.toNat*m) m (hi.toNat-lo.toNat) (cap-lo.toNat) ex):=by
 have b:0<=hi:=V
 simp only [slS,jl,h0,b,if_true,isNone,zae,zdK];rw [if_pos ⟨trivial,V,V,V,O⟩]
def VK {r gg off m len cap:Nat}{ex:Bool}{k2:IntKind}{hi:Int}(h0:0<=hi)(b:hi<=cap):slS m (.sl r gg off m len cap ex) none (some (.s (.int k2 hi))) none=some (.sl r gg off m hi.toNat cap ex):=by
 simp only [slS,jl,h0,if_true,isNone,zae,zdK];rw [if_pos ⟨trivial,V,V,V,O⟩];simp
def Fj {r gg off m len cap:Nat}{ex:Bool}{k1:IntKind}{lo:Int}(h0:0<=lo)(b:lo<=len)(d:len<=cap):slS m (.sl r gg off m len cap ex) (some (.s (.int k1 lo))) none none=some (.sl r gg (off+lo.toNat*m) m (len-lo.toNat) (cap-lo.toNat) ex):=by
 simp only [slS,jl,h0,if_true,isNone,zae,zdK];rw [if_pos ⟨trivial,V,V,V,O⟩]
def aiB {r gg off m len cap:Nat}{ex:Bool}{k1 k2 d:IntKind}{lo hi b:Int}(h0:0<=lo)(h:lo<=hi)(i:hi<=b)(j:b<=cap):slS m (.sl r gg off m len cap ex) (some (.s (.int k1 lo))) (some (.s (.int k2 hi))) (some (.s (.int d b)))=some (.sl r gg (off+lo.toNat*m) m (hi.toNat-lo.toNat) (b.toNat-lo.toNat) true):=by
 have e:0<=hi:=V
 have g:0<=b:=V
 simp only [slS,jl,h0,e,g,if_true,isNone,zal,Bool.or_true];rw [if_pos ⟨trivial,V,V,V,O⟩]
def yj {z:List AV}(h:z.all AV.aP=true):∀n,(dO z n).all AV.aP=true
 |0=>rfl
 |n+1=>by rw [dO,zbj,h,yj h n];rfl
def VL {i m n:Nat}{x:AV}{l z:List AV}(c:Cur b H q i x m l)(hb:H.base<=b)(hm:0<m)(hl:l.length=n*m)(hn:n<1000000000){j:Nat}(hj:j<n)(Q:z.length=m)(o:z.all AV.aP=true){e:TypeId}{by_:Nat}(aa:by_<1000):
  ∃y R T C H1 W u,slS m x (some (I j)) (some (I (j+1))) (some (I n))=some y/\slS m x none (some (I j)) none=some R/\slS m x (some (I (j+1))) none none=some T/\app e m by_ R T H=some (C,H1)/\
   lnS C H1=some (I ((n:Int)-1),H1)/\slS m C (some (I ((n:Int)-1))) (some (I n)) none=some W/\clr m z W H1=some (.tup [],u)/\
   Fit H u x C m (l.take (j*m)++l.drop ((j+1)*m))/\u.next=H.next/\u.base=H.base/\∀r,iO x≠some r->u.get r=H.get r:=by
 rcases c.length hm hl with⟨_,D⟩|⟨r,gg,off,cap,ex,k,all,rfl,k1,k2,k3,k4,E,k6,F,rfl⟩
 ·omega
 have ab:(j+1)*m<=n*m:=zaB _ hj;have ad:n*m<=cap*m:=zaB _ k4;have ae:(j+1)*m=j*m+m:=zbM j m;have af:(n-(j+1))*m=n*m-(j+1)*m:=Nat.sub_mul n (j+1) m;have ag:(n-1)*m=n*m-m:=by rw [Nat.sub_mul,zbh]
 let new:=(all.drop (off+(j+1)*m)).take ((n-(j+1))*m);have h:new.length=(n-(j+1))*m:=by simp only [new];rw [zav,zaQ];omega
 let d:=aO all (off+j*m) new;have v:d.length=all.length:=oV V;let g:=aO d (off+(n-1)*m) (dO z 1);have ai:(dO z 1).length=m:=by simp [dO,Q]
 have al:g.length=all.length:=by rw [oV V];exact v
 have G:d.all AV.aP=true:=xB F (Fb (AA F _) _) _;have K:g.all AV.aP=true:=xB G (yj o 1) _;have w:app e m by_ (.sl r gg off m j cap ex) (.sl r gg (off+(j+1)*m) m (n-(j+1)) (cap-(j+1)) ex) H=some (.sl r gg off m (n-1) cap ex,H.put r (.blk gg k d)):=by
  have hs:dF H (.sl r gg (off+(j+1)*m) m (n-(j+1)) (cap-(j+1)) ex)=some new:=by
   simp only [dF,E];rw [if_pos ⟨trivial,V⟩]
  simp only [app,kN,hs];unfold dW;rw [if_pos ⟨h,Fb (AA F _) _⟩];simp only [E];rw [if_pos ⟨trivial,trivial,V⟩];by_cases D:n-(j+1)=0
  ·rw [if_pos D];have L:new=[]:=zat (by rw [h,D,zbv]);have:d=all:=by
    simp only [d,L,aO,zaM,zao,zbu,zcu]
   rw [this,show j=n-1 by omega]
   congr 2
   ·unfold ah.put;have:(λx=>if x=r then gG.blk gg k all else H.get x)=H.get:=by
     funext x
     split
     ·rename_i e;rw [e,E]
     ·rfl
    rw [this]
  ·rw [if_neg D,if_pos V,if_pos ⟨V,by
    have:(j+(n-(j+1)))*m<=cap*m:=zaB _ V;omega⟩]
   rw [show j+(n-(j+1))=n-1 by omega]
 refine⟨_,.sl r gg off m j cap ex,.sl r gg (off+(j+1)*m) m (n-(j+1)) (cap-(j+1)) ex,.sl r gg off m (n-1) cap ex,H.put r (.blk gg k d),.sl r gg (off+(n-1)*m) m 1 (cap-(n-1)) ex,(H.put r (.blk gg k d)).put r (.blk gg k g),aiB V V V V,?_,?_,w,?_,?_,?_,.inr ⟨r,gg,off,n-1,cap,ex,k,g,rfl,.inl rfl,k3,V,by simp [dV],V,K,?_⟩,rfl,rfl,?_⟩
 ·exact VK V V
 ·have:=Fj (r:=r) (gg:=gg) (off:=off) (m:=m) (len:=n) (cap:=cap) (ex:=ex) (k1:=.i64) (lo:=(j:Int)+1) V V  k4;rw [show((j:Int)+1).toNat=j+1 by omega] at this;exact this
 ·simp only [lnS,kU,aqu,zaj]
  congr 5
  omega
 ·have:=alO (r:=r) (gg:=gg) (off:=off) (m:=m) (len:=n-1) (cap:=cap) (ex:=ex) (k1:=.i64) (k2:=.i64) (lo:=(n:Int)-1) (hi:=n) V V V;rw [show((n:Int)-1).toNat=n-1 by omega,show(n:Int).toNat=n by omega,show n-(n-1)=1 by omega] at this;exact this
 ·simp only [clr,Nat.one_ne_zero,if_false,dV,if_true];rw [if_pos ⟨trivial,trivial,by rw [adO];omega,Q,o,by rw [v];omega⟩]
 ·-- what is there then
  apply zbe
  intro p;have A:((all.drop off).take (n*m)).length=n*m:=by rw [zav,zaQ];omega
  rcases zaR p (j*m) with X|X
  ·rw [zaI (by rw [zav];omega),zaC,if_pos X,zaC,if_pos V,zaC,if_pos V,zaF,zaF];rw [oq V,if_neg V,oq V,if_neg V]
  ·rw [za3 (by rw [zav];omega),zav,A,zbo V,zaF];rcases zaR p ((n-1)*m) with h2|h2
   ·rw [zaC,if_pos V,zaF,zaC,if_pos h2,zaF];rw [oq V,if_neg V,oq V,if_pos V];simp only [new];rw [zaC,if_pos V,zaF]
    congr 1;omega
   ·rw [zaG (by rw [A];omega),zaG (by rw [zav,zaQ];omega)]
 ·intro r' M;have:r'≠r:=λe=>M (by rw [e];rfl);rw [dV,if_neg this,dV,if_neg this]
def Z4 {e m by_:Nat}{z:List AV}{n:Int}{H:ah}(b:z.length=m)(hc:z.all AV.aP=true)(h0:0<=n)(d:n<=1000000)(hb:by_<=1000):mks e m by_ z (I n) (I n) H=some (.sl H.next 0 0 m n.toNat n.toNat true,H.new (.blk 0 e (dO z n.toNat))):=by
 have g:(by_:Int)*n<=140737488355328:=by
  have:(by_:Int)*n<=1000*1000000:=zbN V d h0 V;omega
 simp only [mks];rw [if_pos ⟨b,hc,h0,za6 _,V,g⟩]
def lH {v:AV}:∀n,dO [v] n=List.replicate n v
 |0=>rfl
 |n+1=>by rw [dO,lH n];rfl
def aN.from_ {x:AV}{m n:Nat}{cells:List AV}(h:aN H x m n cells){k:IntKind}{lo:Int}(h0:0<=lo)(o:lo<=n):∃y,slS m x (some (.s (.int k lo))) none none=some y/\aN H y m (n-lo.toNat) (cells.drop (lo.toNat*m)):=by
 obtain⟨i,h⟩:=h;have p:lo.toNat*m<=n*m:=zaB _ V;have d:(n-lo.toNat)*m=n*m-lo.toNat*m:=Nat.sub_mul n lo.toNat m;cases x with
 |sl r g off e len q ex=>
  obtain⟨rfl,rfl,⟨u,hc⟩,w,all,z,j,A⟩:=h;refine⟨_,Fj h0 o hc,by rw [zaQ,i,d],rfl,rfl,⟨u,V⟩,w,all,z,by rw [d];omega,?_⟩;rw [A,zcp,zbL,d]
 |vs k' e cs=>
  obtain⟨rfl,rfl,rfl⟩:=h;refine⟨.vs (k'-lo.toNat) e ((cs.drop (lo.toNat*e)).take ((k'-lo.toNat)*e)),?_,by rw [zaQ,i,d],rfl,rfl,?_⟩
  ·simp only [slS,jl,h0,if_true];rw [if_pos ⟨trivial,V,V⟩]
  ·rw [zau (by rw [zaQ,i,d];exact zac _)]
 |s v=>
  cases v with
  |slice a b c=>
   cases a with
   |none=>
    obtain⟨rfl,rfl,rfl⟩:=h;have j:lo=0:=V
    subst j;refine⟨zN,by simp [slS,jl],?_,rfl,rfl,rfl⟩
    simpa using i
   |some a=>exact h.elim
  |_=>exact h.elim
 |_=>exact h.elim
def alQ {r g off m len cap ty n:Nat}{ex:Bool}{cells new:List AV}{y:AV}(hx:H.get r=.blk g ty cells)(hb:H.base<=r)(hl:off+len*m<=cells.length)(hy:aN H y m n new)(hc:new.all AV.aP=true):
  ∃H',cpy m (.sl r g off m len cap ex) y H=some (I ((min n len:Nat):Int),H')/\H'.get r=.blk g ty (aO cells off (new.take (min n len*m)))/\(∀r',r'≠r->H'.get r'=H.get r')/\H'.next=H.next/\H'.base=H.base:=by
 obtain⟨c1,c2⟩:=hy.xw;have c3:=hy.1;have s1:kN (AV.sl r g off m len cap ex)=some len:=rfl;simp only [cpy,s1,c1,c2];rw [if_pos ⟨c3,hc⟩];by_cases hk:min n len=0
 ·refine⟨H,by rw [if_pos hk,hk];rfl,?_,λ_ _=>rfl,rfl,rfl⟩;rw [hx,hk,zbv,zdE];simp only [aO,zaM,zao,zbu,zcu]
 ·rw [if_neg hk];simp only [hx];rw [if_pos ⟨trivial,trivial,hb,hl⟩];exact⟨_,rfl,by rw [dV,if_pos rfl],λr' hr=>by rw [dV,if_neg hr],rfl,rfl⟩
end
def jE {α:Type}:List (Int × α)->Int->Option α
 |[],_=>none
 |(k,v)::l,n=>if k=n then some v else jE l n
def mV {α:Type}:List (Int × α)->Int->α->List (Int × α)
 |[],n,x=>[(n,x)]
 |(k,v)::l,n,x=>if k=n then(n,x)::l else(k,v)::mV l n x
def yQ {α:Type}:List (Int × α)->Int->List (Int × α)
 |[],_=>[]
 |(k,v)::l,n=>if k=n then l else(k,v)::yQ l n
section
variable {α:Type}(f:α->AV)
def Z5(l:List (Int × α)):List (Int × AV):=l.map λe=>(e.1,f e.2)
def yt:∀(l:List (Int × α)) (n:Int),qW (Z5 f l) n=(jE l n).map f
 |[],_=>rfl
 |(k,v)::l,n=>by
  simp only [Z5,zay,qW,jE];by_cases h:k=n
  ·simp [h]
  ·simp only [h,if_false];exact yt l n
def Ik:∀(l:List (Int × α)) (n:Int) (x:α),LX (Z5 f l) n (f x)=Z5 f (mV l n x)
 |[],_,_=>rfl
 |(k,v)::l,n,x=>by
  simp only [Z5,zay,LX,mV];by_cases h:k=n
  ·simp [h]
  ·simp only [h,if_false,zay,zbU,true_and];exact Ik l n x
def VN:∀(l:List (Int × α)) (n:Int),Aj (Z5 f l) n=Z5 f (yQ l n)
 |[],_=>rfl
 |(k,v)::l,n=>by
  simp only [Z5,zay,Aj,yQ];by_cases h:k=n
  ·simp [h]
  ·simp only [h,if_false,zay,zbU,true_and];exact VN l n
end
abbrev kC(n most:Int):Bool:=decide (1<=n) && decide (n<=most)
def Cfg.ok(c:Cfg):Bool:=
 kC c.aF 6 && kC c.aY 8 && kC c.bI 4 && kC c.sets 4 && kC c.ways 3 && kC c.out 8 && kC c.inn 8 && decide ((c.init.length:Int)<=c.aY*c.bI)
def yZ(aj by_:Int):Int:=if aj<0 then -1 else aj % by_
def Cfg.bf(c:Cfg)(aj:Int):Int:=yZ aj c.aF
def Cfg.kV(c:Cfg):Int:=c.aY*c.bI
def Cfg.bV(c:Cfg)(a:Int):Int:=if a<0∨c.kV<=a then -1 else a / c.bI
def Cfg.dI(c:Cfg)(a:Int):Int:=if a<0∨c.kV<=a then 0 else a % c.bI
def Cfg.first(c:Cfg)(aj:Int):List Int:=
 if aj<0∨c.aY<=aj then [] else(List.range c.bI.toNat).map λi=>c.init.getD ((aj*c.bI).toNat+i) 0
def Cfg.right(c:Cfg)(o:Opn):Bool:=decide (1<=o.aS) && decide (o.aS<=4) && decide (c.bV o.addr≠-1) && (decide (o.value=0) || decide (o.aS=2) || decide (o.aS=3))
def Cfg.vN(c:Cfg)(ps:List (List Opn)):Bool:=(ps.all λl=>decide (l.length<=24) && l.all c.right) && decide ((ps.length:Int)=c.aF)
def qR(k:Int):Bool:=decide (1<=k) && decide (k<=6)
def CX(k:Int):Int:=if k=1 then 7 else if k=2∨k=4∨k=5 then 8 else if k=3∨k=6 then 9 else 0
def Pkt.ok(p:Pkt):Bool:=
 decide (0<=p.src) && decide (p.src<6) && decide (0<=p.dst) && decide (p.dst<6) && decide (0<=p.id) && decide (p.id<4096) && decide (1<=p.aS) && decide (p.aS<10) && decide (0<=p.aj) && decide (p.aj<8) &&
 decide (-1<=p.ptr) && decide (p.ptr<6) && decide (0<=p.aW) && decide (p.aW<3) && decide (p.data.length<=4)
structure Cache where
 l:List Ent
 sets:Int
 ways:Int
 dh:Int
def Cache.at_(c:Cache)(aj:Int):Option Nat:=c.l.findIdx? λe=>decide (e.aj=aj)
def Cache.pz(c:Cache)(aj:Int):List Ent:=c.l.filter λe=>decide (0<=aj) && decide (e.aj.tmod c.sets=aj.tmod c.sets)
def Cache.find(c:Cache)(aj:Int):Option Ent:=c.l.find? λe=>decide (e.aj=aj)
def Cache.full(c:Cache)(aj:Int):Bool:=(c.find aj).isNone && decide (c.ways<=(c.pz aj).length)
def Cache.put(c:Cache)(e:Ent):Cache × Int:=
 if e.aj<0 then(c,1) else
 match c.at_ e.aj with
 |some i=>({ c with l:=c.l.set i { e with used:=(c.l.getD i .zero).used } },0)
 |none=>if c.full e.aj then(c,5) else({ c with l:=c.l++[{ e with used:=c.dh+1 }],dh:=c.dh+1 },0)
def Cache.drop(c:Cache)(aj:Int):Cache:=
 match c.at_ aj with
 |some i=>{ c with l:=c.l.eraseIdx i }
 |none=>c
def Cache.touch(c:Cache)(aj:Int):Cache:=
 match c.at_ aj with
 |some i=>{ c with l:=c.l.set i { c.l.getD i .zero with used:=c.dh+1 },dh:=c.dh+1 }
 |none=>c
def oC:List Ent->Option Ent
 |[]=>none
 |e::l=>some (l.foldl (λm x=>if x.used<m.used then x else m) e)
def Cache.oK(c:Cache)(aj:Int):Option Int:=(oC (c.pz aj)).map (·.aj)
structure Turns where
 gK:List (Int × Int)
 wait:List (Int × List (Int × Int))
def Turns.owner(t:Turns)(aj:Int):Int:=(jE t.gK aj).getD (-1)
def Turns.owned(t:Turns)(aj:Int):Bool:=(jE t.gK aj).isSome
def Turns.ws(t:Turns)(aj:Int):List (Int × Int):=(jE t.wait aj).getD []
def Turns.ask(t:Turns)(aj who id:Int):Turns × Bool:=
 if who<0 then(t,false) else
 if t.owned aj || !(t.ws aj).isEmpty then({ t with wait:=mV t.wait aj (t.ws aj++[(who,id)]) },false)
 else({ t with gK:=mV t.gK aj who },true)
def Turns.release(t:Turns)(aj who:Int):Turns × Int:=
 if jE t.gK aj=some who then({ t with gK:=yQ t.gK aj },0) else(t,6)
def Turns.next(t:Turns)(aj:Int):Turns × Option (Int × Int):=
 if t.owned aj then(t,none) else
 match t.ws aj with
 |[]=>(t,none)
 |w::ws=>({ gK:=mV t.gK aj w.1,wait:=mV t.wait aj ws },some w)
def Turns.ready(t:Turns)(b:List Int):List Int:=b.filter λaj=>!t.owned aj && !(t.ws aj).isEmpty
abbrev Rows:=List (Int × Row)
def iP(c:Cfg)(dK:Rows)(aj aW head:Int)(data:List Int):Rows × Int:=
 match jE dK aj with
 |none=>(dK,3)
 |some r=>
  if aW<0∨2<aW∨head < -1∨c.aF<=head then(dK,1)
  else if(decide (head=-1) !=decide (aW=0)) || (decide (data≠[]) && decide ((data.length:Int)≠c.bI)) then(dK,1)
  else(mV dK aj ⟨aW,head,if data=[] then r.data else data⟩,0)
structure Home where
 dK:Rows
 aT:Turns
def jr(dK:Rows)(aj:Int):Row:=(jE dK aj).getD .zero
def granted(dK:Rows)(bF aj who id:Int):Pkt:=⟨7,bF,who,id,aj,(jr dK aj).head,(jr dK aj).aW,false,(jr dK aj).data⟩
def Home.unlock(c:Cfg)(h:Home)(p:Pkt):Home × Int:=
 if h.aT.owner p.aj≠p.src then(h,6) else
 let r:=iP c h.dK p.aj p.aW p.ptr (if p.flag then p.data else [])
 if r.2=0 then(⟨r.1,(h.aT.release p.aj p.src).1⟩,(h.aT.release p.aj p.src).2) else(h,r.2)
def Home.handle(c:Cfg)(bF:Int)(h:Home)(p:Pkt):Home × Pkt × Bool × Int:=
 if !(p.ok && decide (p.dst=bF) && decide (p.src<c.aF)) || (decide (p.aS≠1) && decide (p.aS≠2)) then(h,.zero,false,1)
 else if c.bf p.aj≠bF∨c.aY<=p.aj then(h,.zero,false,3)
 else if p.aS=1 then
  let a:=h.aT.ask p.aj p.src p.id
  if a.2=true then({ h with aT:=a.1 },granted h.dK bF p.aj p.src p.id,true,0) else({ h with aT:=a.1 },.zero,false,0)
 else
  let u:=h.unlock c p
  if u.2=0 then(u.1,⟨8,bF,p.src,p.id,p.aj,0,0,false,[]⟩,true,0) else(u.1,.zero,false,u.2)
def fU(c:Cache)(p:Pkt):Cache × Pkt × Int:=
 if !p.ok || decide (p.aS<3) || decide (6<p.aS) then(c,.zero,1) else
 match c.find p.aj with
 |none=>(c,.zero,2+1)
 |some e=>
  let out:Pkt:=⟨CX p.aS,p.dst,p.src,p.id,p.aj,0,0,false,[]⟩
  if p.aS=3 then let r:=c.put { e with dn:=false,back:=p.ptr };(r.1,{ out with data:=e.data,flag:=e.dn },r.2)
  else if p.aS=4 then let r:=c.put { e with fwd:=p.ptr };(r.1,out,r.2)
  else if p.aS=5 then let r:=c.put { e with back:=p.ptr };(r.1,out,r.2)
  else(c.drop p.aj,{ out with data:=e.data,flag:=e.dn,ptr:=e.fwd },0)
def bJ.begin(aS aj id:Int):bJ:=⟨aS,aj,id,1,0,-1,[],-1,-1⟩
def AL(step:Int):Int:=if step=1 then 1 else if step=2 then 3 else if step=3 then 6 else if step=4 then 4 else if step=5 then 5 else if step=6 then 2 else 0
def bJ.ask(d:bJ)(bF home:Int):Pkt:=
 if d.step=1 then⟨1,bF,home,d.id,d.aj,0,0,false,[]⟩
 else if d.step=2 then⟨3,bF,d.head,d.id,d.aj,bF,0,false,[]⟩
 else if d.step=3 then⟨6,bF,d.next,d.id,d.aj,0,0,false,[]⟩
 else if d.step=4 then⟨4,bF,d.head,d.id,d.aj,d.next,0,false,[]⟩
 else if d.step=5 then⟨5,bF,d.next,d.id,d.aj,d.head,0,false,[]⟩
 else if d.step=6 then⟨2,bF,home,d.id,d.aj,d.head,d.aW,decide (d.data≠[]),d.data⟩
 else .zero
def bJ.fits(d:bJ)(p:Pkt):Bool:=
 decide (CX (AL d.step)≠0) && decide (p.aS=CX (AL d.step)) && decide (p.id=d.id) && decide (p.aj=d.aj)
abbrev Nxt:=Cache × bJ × Bool
def wM(c:Cache):Nxt:=(c,.zero,false)
def dY(d:bJ)(bF:Int)(c:Cache)(p:Pkt):Nxt:=
 if d.aS≠1∨d.fits p=false then wM c
 else if d.step=1 then
  if p.aW≠0 then(c,{ d with aW:=p.aW,head:=p.ptr,told:=p.ptr,data:=p.data,step:=2 },true)
  else((c.put ⟨-1,-1,d.aj,0,false,p.data⟩).1,{ d with told:=p.ptr,step:=6,aW:=1,head:=bF,data:=[] },true)
 else if d.step=2 then
  ((c.put ⟨d.head,-1,d.aj,0,false,p.data⟩).1,{ d with step:=6,aW:=1,head:=bF,data:=if p.flag then p.data else [] },true)
 else if d.step=6 then(c,{ d with step:=0 },true)
 else wM c
def dG(d:bJ)(bF:Int)(c:Cache):Cache × bJ:=
 let d:bJ:=match c.find d.aj with
  |some own=>if d.next=bF then { d with next:=own.fwd } else d
  |none=>d
 if d.next≠-1 then(c,{ d with step:=3 })
 else((c.put ⟨-1,-1,d.aj,0,true,d.data⟩).1,{ d with step:=6,aW:=2,head:=bF,data:=[] })
def dZ(d:bJ)(bF:Int)(c:Cache)(p:Pkt):Nxt:=
 if d.aS≠2∨d.fits p=false then wM c
 else if d.step=1 then
  let r:=dG { d with aW:=p.aW,head:=p.ptr,told:=p.ptr,data:=(match c.find d.aj with|some own=>own.data|none=>p.data),next:=p.ptr } bF c
  (r.1,r.2,true)
 else if d.step=3 then
  let r:=dG { d with data:=(match c.find d.aj with|some _=>d.data|none=>p.data),next:=p.ptr } bF c
  (r.1,r.2,true)
 else if d.step=6 then(c,{ d with step:=0 },true)
 else wM c
def gX(d:bJ)(c:Cache)(head:Int):Nxt:=(c.drop d.aj,{ d with step:=6,aW:=1,head:=head,data:=[] },true)
def eG(d:bJ)(c:Cache)(p:Pkt):Nxt:=
 if d.aS≠3∨d.fits p=false then wM c
 else if d.step=1 then
  let d:bJ:={ d with aW:=p.aW,head:=p.ptr,told:=p.ptr,data:=[],step:=6 }
  match c.find d.aj with
  |none=>(c,d,true)
  |some e=>
   if e.back=-1/\e.fwd=-1 then(c.drop d.aj,{ d with aW:=0,head:=-1,data:=if e.dn then e.data else [] },true)
   else if e.back=-1 then(c,{ d with head:=-1,next:=e.fwd,step:=5 },true)
   else(c,{ d with head:=e.back,next:=e.fwd,step:=4 },true)
 else if d.step=4 then
  if d.next=-1 then gX d c d.told else(c,{ d with step:=5 },true)
 else if d.step=5 then
  if d.head=-1 then gX d c d.next else gX d c d.told
 else if d.step=6 then(c,{ d with step:=0 },true)
 else wM c
structure Proc where
 ops:List Opn
 bH:List Int
 eH:Bool
def Proc.cur(p:Proc):Option Opn:=p.ops[p.bH.length]?
def Proc.left(p:Proc):Int:=(p.ops.length:Int)-p.bH.length
structure Port where
 rq:List Pkt
 rin:List Pkt
 an:List Pkt
 ain:List Pkt
def Port.sort(p:Port)(req:Bool):List Pkt:=if req then p.rq else p.an
def Port.ql(p:Port)(req:Bool):List Pkt:=if req then p.rin else p.ain
def Port.kR(p:Port)(req:Bool)(l:List Pkt):Port:=if req then { p with rq:=l } else { p with an:=l }
def Port.lI(p:Port)(req:Bool)(l:List Pkt):Port:=if req then { p with rin:=l } else { p with ain:=l }
def Port.zero:Port:=⟨[],[],[],[]⟩
structure Fab where
 out:Int
 inn:Int
 l:List Port
def Fab.is(f:Fab)(bF:Int):Bool:=decide (0<=bF) && decide (bF<f.l.length)
def Fab.port(f:Fab)(bF:Int):Port:=f.l.getD bF.toNat .zero
def Fab.room(f:Fab)(req:Bool):Int:=if req then f.inn else 1
def Fab.put(f:Fab)(bF:Int)(p:Port):Fab:={ f with l:=f.l.set bF.toNat p }
def Fab.send(f:Fab)(p:Pkt):Fab × Int:=
 if !p.ok || !f.is p.src || !f.is p.dst then(f,1) else
 if(f.out:Int)<=((f.port p.src).sort (qR p.aS)).length then(f,5)
 else(f.put p.src ((f.port p.src).kR (qR p.aS) ((f.port p.src).sort (qR p.aS)++[p])),0)
def Fab.jv(f:Fab):List (List Pkt):=f.l.flatMap λp=>[p.rq,p.an]
def Fab.all(f:Fab):List Pkt:=f.l.flatMap λp=>p.rq++p.an
def Fab.under(f:Fab):Nat:=f.all.length
def AO:List Port->Nat->Nat->Option (Nat × Bool × Nat)
 |[],_,_=>none
 |p::l,i,k=>if k<p.rq.length then some (i,true,k) else if k<p.rq.length+p.an.length then some (i,false,k-p.rq.length) else AO l (i+1) (k-(p.rq.length+p.an.length))
def Fab.take(f:Fab)(bF:Int)(req:Bool):Fab × Option Pkt:=
 if f.is bF then
  match(f.port bF).ql req with
  |[]=>(f,none)
  |p::l=>(f.put bF ((f.port bF).lI req l),some p)
 else(f,none)
def Fab.waiting(f:Fab)(bF:Int)(req:Bool):Nat:=if f.is bF then((f.port bF).ql req).length else 0
def Fab.roomOf(f:Fab)(bF:Int)(req:Bool):Int:=if f.is bF then f.out-((f.port bF).sort req).length else 0
open Go.ChangeShapes Go.WideShapes Go.ChangeAt Go.RowKit
abbrev ρ0:Ren:=λ_=>none
abbrev G0:Nat->Nat:=λ_=>0
def Z7 {w:World}(d:adg ρ0 w):Rel ρ0 ah.empty w:=⟨λr _=>⟨rfl,rfl⟩,λr b e h=>(by cases h),λr r' b e g h=>(by cases h),d⟩
def Z8 {P:Program}{L:Pol}(i:XM P L)(hm:P.follows .mixedOrders=true){k:FuncId}{xs:List AV}{b:Bool}{H':ah}(h:callω P L k xs ah.empty=some (.s (.bool b),H')){W:World}{args:Array Value}(j:adg ρ0 W)(ha:RVs ρ0 G0 W xs args.toList):
  Calls P k args W λe m=>e=.returned (.bool b)/\Below W.heap.size W m:=by
 refine((callω_ok i hm).1 k xs _ _ H' h ρ0 W args (Z7 j) ha).mono λe w' o=>?_;obtain⟨cv,ρ',rfl,_,g,d⟩:=o;simp only [RV] at g;subst g;exact⟨rfl,d.os,d.tape,d.output,d.size,λk hk=>d.frame k hk λr p h=>(by cases h)⟩
section
variable {H:Type}{enc:TypeId × Value->H}{P:Program}
def AP(m:laidOutB P=true){W o:World}(hb:Below W.heap.size W o):∀{g:List TypeId} {vs:List Value} {i:List (DataW H)} {ps:List MemPlace},g.all (λt=>P.readableRec t && decide (t<P.types.size))=true->
  DataW.TrodAll enc P W 0 (λ_=>true) true g vs i ps->(∀x∈ps,x.block<W.heap.size)->DataW.TrodAll enc P o 0 (λb=>decide (b<W.heap.size)) true g vs i ps
 |[],vs,i,ps,_,h,_=>by
  obtain⟨rfl,rfl,rfl⟩:=trodAll_nil h;exact trodAll_mk0
 |t::g,vs,i,ps,j,h,e=>by
  simp only [zcJ,zah,decide_eq_true_eq] at j;obtain⟨v,u,d,w,p,q,rfl,rfl,rfl,y,z⟩:=trodAll_cons h;exact⟨p,q,Below.trod m j.1.1 j.1.2 y hb λx k=>e x (by simp [k]),AP m hb (by simpa using j.2) z λx k=>e x (by simp [k]),rfl⟩
def Z9 {f:Func}{s:ChangeSpec}{W j:World}{args:Array Value}{d o:List (DataW H)}{b:List MemPlace}{k:TypeId}(u:laidOutB P=true)
  (v:f.params.toList.all (λt=>P.readableRec t && decide (t<P.types.size))=true) (w:f.resultTypes=#[k]) (hb:P.underlying k=some .bool)
  (g:DataW.Whole enc P f.params.toList s.vars false W args.toList d o b) (hv:s.vars=[])
  (y:(s.fn H d).results=[.lit (.bool true)]) (z:(s.fn H d).args=d) (A:(s.fn H d).vars=[]) (B:Below W.heap.size W j):
  s.post enc P f false true false false W args (.bool true) j:=by
 have e:∀x∈b,x.block<W.heap.size:=λx C=>g.lt x C;have i:=g;obtain⟨p,q,D,m,rfl,_,_⟩:=g;rw [hv] at m;obtain⟨rfl,rfl⟩:=trodVars_none m;rw [zbm] at e;refine⟨d,[],p++[],[],p,[],i,?_,?_,?_,B.frame _,λh=>by cases h⟩
 ·rw [zbm,y,w];exact trodAll_mk1 (shut_bool hb true)
 ·rw [zbm,z];exact AP u B v D e
 ·rw [zbm,A,hv];exact rfl
def Ef {W:World}{k:IntKind}{n:Int}:RV ρ0 G0 W (.s (.int k n)) (.int k n):=by simp [RV]
def AQ {W:World}{x:AV}{v:Value}{xs:List AV}{vs:List Value}(h:RV ρ0 G0 W x v)(b:RVs ρ0 G0 W xs vs):RVs ρ0 G0 W (x::xs) (v::vs):=by
 simp only [RVs];exact⟨v,vs,rfl,h,b⟩
def ate {W:World}:RVs ρ0 G0 W [] []:=by simp only [RVs]
def ints(ks:List IntKind)(zs:List Int):List AV:=List.zipWith (λk z=>.s (.int k z)) ks zs
def aac(ks:List IntKind)(zs:List Int):List Value:=List.zipWith (λk z=>.int k z) ks zs
def alR(P:Program)(e:TypeId)(ks:List IntKind):Prop:=
 ∀{H:Type} {enc:TypeId × Value->H} {W:World} {base:Nat} {g:Nat->Bool} {b:Bool} {n:Nat} {cs:List Value} {y:DataW H × List MemPlace},DataW.trod enc P W base g b n e cs=some y->
  ∃d:List Int,d.length=ks.length/\cs=aac ks d/\∀(i:Nat) (k:IntKind) (z:Int),ks[i]?=some k->d[i]?=some z->(Lit.int k z).wf=true
def VO {e:TypeId}{k:IntKind}(j:P.underlying e=some (.int k)):alR P e [k]:=by
 intro H enc W base m d n cs y h;obtain⟨z,rfl,rfl,hw⟩:=DataW.trod_int j h;refine⟨[z],rfl,rfl,λi k' o b g=>?_⟩;cases i with
 |zero=>simp at b g;subst b;subst g;exact hw
 |succ i=>simp at b
def zO {ks:List IntKind}{zs:List Int}(h:zs.length=ks.length):(ints ks zs).length=ks.length:=by
 simp [ints,h]
def VP {W:World}:∀(ks:List IntKind) (zs:List Int),RVs ρ0 G0 W (ints ks zs) (aac ks zs)
 |[],zs=>by simp [ints,aac,RVs]
 |k::ks,[]=>by simp [ints,aac,RVs]
 |k::ks,z::zs=>by
  simp only [ints,aac,List.zipWith_cons_cons,RVs];exact⟨_,_,rfl,Ef,VP ks zs⟩
structure aad(ks:List IntKind)(av:AV)(l:List (List Int)):Prop where
 is:aN ah.empty av ks.length l.length (l.flatMap (ints ks))
 len:∀zs∈l,zs.length=ks.length
 wf:∀zs∈l,∀(i:Nat) (k:IntKind) (z:Int),ks[i]?=some k->zs[i]?=some z->(Lit.int k z).wf=true
def zQ {ks:List IntKind}:∀{l:List (List Int)},(∀zs∈l,zs.length=ks.length)->(l.flatMap (ints ks)).length=l.length*ks.length
 |[],_=>by simp
 |zs::l,h=>by
  rw [zaD,zaq,zO (h zs O),zQ λz b=>h z (by simp [b]),zam,zbM];omega
def QE {t e:TypeId}{ks:List IntKind}(ht:P.underlying t=some (.slice e))(hc:P.cellsOf e=ks.length)(hF:alR P e ks){W:World}{r:Reach}{b0 base:Nat}{sp:Nat->Bool}{C:Bool}{v:Value}{D:Nat}{y:DataW H × List MemPlace}
  (q:Cell.okWide P W r b0 t v) (h:DataW.trod enc P W base sp C D t [v]=some y):∃(av:AV) (l:List (List Int)),RV ρ0 G0 W av v/\aad ks av l/\av.aP=true:=by
 rcases DataW.trod_slice ht h with⟨L,_⟩|⟨a,len,E,M,rest,n,_,hv,_,hb,hl,hm,ab,Q,_,_⟩
 ·have L:v=.slice none 0 0:=by simpa using L
  subst L;exact⟨.s (.slice none 0 0),[],by simp [RV],⟨⟨O,rfl,rfl,rfl⟩,O,O⟩,rfl⟩
 ·have hv:v=.slice (some a) len E:=by simpa using hv
  subst hv;simp only [Cell.okWide,ht,Cell.ok] at q;obtain⟨_,_,_,d,row,cells,R,_⟩:=q;obtain⟨b,o,ad⟩:=a;simp only at d;subst d;have F:∀i,∃g:List Int,i<len->g.length=ks.length/\(∀(j:Nat) (k:IntKind) (z:Int),ks[j]?=some k->g[j]?=some z->(Lit.int k z).wf=true)/\RVc ρ0 G0 W (ints ks g) b (o+i*ks.length):=by
   intro i;by_cases hi:i<len
   ·have:=Q i hi;rw [zab V] at this;obtain⟨cs,T,X⟩:=Option.bind_eq_some_iff.1 this;obtain⟨g,z1,z2,z3⟩:=hF X;refine⟨g,λ_=>⟨z1,z3,qQ λj x hx=>?_⟩⟩;obtain⟨_,c1,c2⟩:=World.cells?_some T;have hj:j<ks.length:=by
     have:=(zaf.1 hx).1
     rwa [zO z1] at this
    have G:=c2 j (by rw [hc];exact hj);obtain⟨u,hu,aa⟩:=jT (VP (W:=W) ks g) hx;refine⟨u,?_,aa⟩;rw [z2,hu] at G;rw [<-G,hc]
    congr 1
    unfold Addr.add;by_cases h1:i*ks.length=0
    ·rw [if_pos h1,h1];by_cases w:j=0
     ·rw [if_pos w,w];rfl
     ·rw [if_neg w];rfl
    ·rw [if_neg h1];by_cases w:j=0
     ·rw [if_pos w,w];rfl
     ·rw [if_neg w]
   ·exact⟨[],λh=>absurd h hi⟩
  obtain⟨f,K⟩:=Classical.axiomOfChoice F;have A:∀g∈(List.range len).map f,g.length=ks.length:=by
   intro g hz;obtain⟨i,hi,rfl⟩:=zaJ.1 hz;exact(K i (zaZ.1 hi)).1
  have p:∀m s,s+m<=len->RVc ρ0 G0 W (((List.range' s m).map f).flatMap (ints ks)) b (o+s*ks.length):=by
   intro m
   induction m with
   |zero=>intro s _;simp [RVc]
   |succ m ih=>
    intro s hs;rw [zc3,zay,zaD];refine Xv (K s V).2.2 ?_;rw [zO (K s V).1];have:=ih (s+1) V
    rwa [zbM,<-zb6] at this
  refine⟨.vs len ks.length (((List.range len).map f).flatMap (ints ks)),(List.range len).map f,?_,⟨?_,A,λzs hz=>?_⟩,rfl⟩
  ·simp only [RV];refine⟨b,o,E,rfl,hl,?_,Gv R,λr sh h=>(by cases h),?_⟩
   ·rw [zQ A];simp
   ·have:=p len 0 V;rw [zcD]
    simpa using this
  ·have:=aN.vs (H:=ah.empty) (m:=ks.length) (n:=len) (cs:=((List.range len).map f).flatMap (ints ks)) (by rw [zQ A];simp)
   simpa using this
  ·obtain⟨i,hi,rfl⟩:=zaJ.1 hz;exact(K i (zaZ.1 hi)).2.1
def Ud {t:TypeId}{m:Array Field}{b:List TypeId}(T:P.underlying t=some (.struct m))(M:P.cellTypes P.depth t=some b)(q:m.toList.map (λ(f:Field)=>(f.type,f.offset))=b.zipIdx)
  (hc:∀u∈b,P.cellsOf u=1) (w:P.cellsOf t=b.length) {W:World} {r:Reach} {X base:Nat} {Q:Nat->Bool} {e:Bool} {v:Value} {d:DataW H} {ps:List MemPlace}
  (g:Value.okWide P W r X t v) (h:DataW.Trod enc P W base Q e t v d ps):
  ∃cs:Array Value,v=.agg cs/\cs.size=b.length/\∀(i:Nat) (u:TypeId),b[i]?=some u->∃(c:Value) (n:Nat) (y:DataW H × List MemPlace),cs[i]?=some c/\Cell.okWide P W r X u c/\DataW.trod enc P W base Q e n u [c]=some y:=by
 unfold Value.okWide at g;rw [T] at g;obtain⟨cs,rfl,hsz,ab,z,_,A⟩:=g;rw [M] at z;cases z;obtain⟨aa,hf⟩:=h;obtain⟨xs,n,_,_,hl,hx,hr⟩:=DataW.trod_struct T hf;have ad:m.size=b.length:=by
  have:=congrArg List.length q
  simpa using this
 have C:∀(i:Nat) (u:TypeId),b[i]?=some u->∃f:Field,m[i]?=some f/\f.type=u/\f.offset=i:=by
  intro i u k;have hi:i<b.length:=(zaf.1 k).1;have D:m[i]?=some (m[i]' V):=zbS _;have o:(m.toList.map (λ(f:Field)=>(f.type,f.offset)))[i]?=some ((m[i]' V).type,(m[i]' V).offset):=by
   rw [zaH];simp [D]
  rw [q,List.getElem?_zipIdx,k] at o;simp at o;exact⟨_,D,o.1.symm,o.2.symm⟩
 have E:∀(i:Nat) (u:TypeId),b[i]?=some u->∃c y,cs[i]?=some c/\DataW.trod enc P W base Q e n u [c]=some y:=by
  intro i u k;obtain⟨f,o,R,L⟩:=C i u k;have hi:i<b.length:=(zaf.1 k).1;have:=hr i f o;rw [R,L,hc u (zan k),zab (show i<xs.length by omega)] at this;have F:i<cs.size:=by rw [hsz,w];exact hi
  cases j:cs[i]? with
  |none=>rw [zbS F] at j;cases j
  |some c=>
   have G:i<cs.size:=by
    rcases zaR i cs.size with K|K
    ·exact K
    ·rw [zcT K] at j;cases j
   have K:(((Value.agg cs).cells.toList.drop i).take 1)=[c]:=by
    have p:cs.toList[i]?=some c:=by simpa using j
    show(cs.toList.drop i).take 1=[c]
    rw [zbw (by simpa using G)];rw [zab (by simpa using G)] at p;simp at p;simp [p]
   rw [K] at this;exact⟨c,_,rfl,this⟩
 refine⟨cs,rfl,?_,λi u k=>?_⟩
 ·rw [hsz,w]
 ·obtain⟨c,y,o,R⟩:=E i u k;obtain⟨u',L,h4⟩:=A i c o;have hi:i<b.length:=(zaf.1 k).1;rw [zco hi,k] at L;cases L;exact⟨c,n,y,o,h4,R⟩
structure AU(k:IntKind)(av:AV)(zs:List Int):Prop where
 is:aN ah.empty av 1 zs.length (zs.map λz=>.s (.int k z))
 wf:∀z∈zs,(Lit.int k z).wf=true
 cell:av.aP=true
def QF {k:IntKind}:∀(l:List (List Int)),(∀zs∈l,zs.length=1)->l.flatMap (ints [k])=(l.map (λzs=>zs.headD 0)).map λz=>.s (.int k z)
 |[],_=>rfl
 |zs::l,h=>by
  have b:=h zs O;rw [zaD,QF l λz d=>h z (by simp [d])];cases zs with
  |nil=>simp at b
  |cons z zs=>
   cases zs with
   |nil=>rfl
   |cons _ _=>simp at b
def aad.ints {k:IntKind}{av:AV}{l:List (List Int)}(h:aad [k] av l)(hc:av.aP=true):AU k av (l.map λzs=>zs.headD 0):=by
 refine⟨?_,λz d=>?_,hc⟩
 ·have:=h.is;rw [QF l h.len] at this
  simpa using this
 ·obtain⟨zs,b,rfl⟩:=zaJ.1 d;have e:=h.len zs b;cases zs with
  |nil=>simp at e
  |cons z zs=>exact h.wf _ b 0 k z rfl rfl
structure lu where
 aF:Int
 aY:Int
 bI:Int
 sets:Int
 ways:Int
 out:Int
 inn:Int
 init:AV
 who:AV
 kinds:AV
 kV:AV
 bH:AV
def lu.cells(s:lu):List AV:=
 [.s (.int .i64 s.aF),.s (.int .i64 s.aY),.s (.int .i64 s.bI),.s (.int .i64 s.sets),.s (.int .i64 s.ways),.s (.int .i64 s.out),.s (.int .i64 s.inn),s.init,s.who,s.kinds,s.kV,s.bH]
abbrev qI(z:Int):Prop:=-9223372036854775808<=z/\z<=9223372036854775807
def ap1 {z:Int}(h:(Lit.int .i64 z).wf=true):qI z:=by
 simp [Lit.wf,IntKind.min,IntKind.max,IntKind.signed,IntKind.bits] at h;exact⟨V,V⟩
structure lu.Ok(s:lu)(zi zw zk za zv:List Int):Prop where
 aF:qI s.aF
 aY:qI s.aY
 bI:qI s.bI
 sets:qI s.sets
 ways:qI s.ways
 out:qI s.out
 inn:qI s.inn
 init:AU .i64 s.init zi
 who:AU .i64 s.who zw
 kinds:AU .i64 s.kinds zk
 kV:AU .i64 s.kV za
 bH:AU .i64 s.bH zv
def XU {t b sl e:TypeId}{fs:Array Field}(ht:P.underlying t=some (.struct fs))(p:P.cellTypes P.depth t=some [b,b,b,b,b,b,b,sl,sl,sl,sl,sl])
  (q:fs.toList.map (λ(f:Field)=>(f.type,f.offset))=[b,b,b,b,b,b,b,sl,sl,sl,sl,sl].zipIdx) (u:P.cellsOf t=12) (w:P.underlying b=some (.int .i64)) (ae:P.cellsOf b=1)
  (A:P.underlying sl=some (.slice e)) (j:P.cellsOf sl=1) (C:P.underlying e=some (.int .i64)) (D:P.cellsOf e=1)
  {W:World} {r:Reach} {b0 base:Nat} {sp:Nat->Bool} {k:Bool} {v:Value} {d:DataW H} {ps:List MemPlace} (m:Value.okWide P W r b0 t v) (h:DataW.Trod enc P W base sp k t v d ps):
  ∃(s:lu) (zi zw zk za zv:List Int),RV ρ0 G0 W (.agg s.cells) v/\s.Ok zi zw zk za zv:=by
 obtain⟨cs,rfl,hsz,g⟩:=Ud ht p q (λu hu=>by
  simp only [zak,zaA,or_false] at hu;rcases hu with rfl|rfl|rfl|rfl|rfl|rfl|rfl|rfl|rfl|rfl|rfl|rfl <;> assumption) u m h
 have num:∀i:Nat,[b,b,b,b,b,b,b,sl,sl,sl,sl,sl][i]?=some b->∃z,cs[i]?=some (.int .i64 z)/\qI z:=by
  intro i hi;obtain⟨c,n,y,o,_,E⟩:=g i b hi;obtain⟨z,hz,_,hw⟩:=DataW.trod_int w E;simp at hz;subst hz;exact⟨z,o,ap1 hw⟩
 have row:∀i:Nat,[b,b,b,b,b,b,b,sl,sl,sl,sl,sl][i]?=some sl->∃c av zs,cs[i]?=some c/\RV ρ0 G0 W av c/\AU .i64 av zs:=by
  intro i hi;obtain⟨c,n,y,o,h2,E⟩:=g i sl hi;obtain⟨av,l,r1,r2,r3⟩:=QE A (ks:=[.i64]) D (VO C) h2 E;exact⟨c,av,_,o,r1,r2.ints r3⟩
 obtain⟨z0,a0,w0⟩:=num 0 rfl;obtain⟨z1,a1,w1⟩:=num 1 rfl;obtain⟨z2,a2,w2⟩:=num 2 rfl;obtain⟨z3,a3,w3⟩:=num 3 rfl;obtain⟨z4,a4,w4⟩:=num 4 rfl;obtain⟨z5,a5,w5⟩:=num 5 rfl;obtain⟨z6,a6,w6⟩:=num 6 rfl;obtain⟨c7,v7,l7,a7,r7,o7⟩:=row 7 rfl;obtain⟨c8,v8,l8,a8,r8,o8⟩:=row 8 rfl;obtain⟨c9,v9,l9,a9,r9,o9⟩:=row 9 rfl;obtain⟨F,G,K,L,M,Q⟩:=row 10 rfl;obtain⟨R,T,X,aa,ab,ad⟩:=row 11 rfl;have j:cs.toList=[.int .i64 z0,.int .i64 z1,.int .i64 z2,.int .i64 z3,.int .i64 z4,.int .i64 z5,.int .i64 z6,c7,c8,c9,F,R]:=by
  apply zbe
  intro i;rcases zaR i 12 with hi|hi
  ·have:i=0∨i=1∨i=2∨i=3∨i=4∨i=5∨i=6∨i=7∨i=8∨i=9∨i=10∨i=11:=V
   rcases this with rfl|rfl|rfl|rfl|rfl|rfl|rfl|rfl|rfl|rfl|rfl|rfl <;> simp [a0,a1,a2,a3,a4,a5,a6,a7,a8,a9,L,aa]
  ·have o:cs.toList.length=12:=by simpa using hsz
   rw [zaG V,zaG (by simpa using hi)]
 refine⟨⟨z0,z1,z2,z3,z4,z5,z6,v7,v8,v9,G,T⟩,l7,l8,l9,K,X,?_,⟨w0,w1,w2,w3,w4,w5,w6,o7,o8,o9,Q,ad⟩⟩;simp only [RV,lu.cells];refine⟨cs,rfl,?_⟩;rw [j];exact AQ Ef (AQ Ef (AQ Ef (AQ Ef (AQ Ef (AQ Ef (AQ Ef (AQ r7 (AQ r8 (AQ r9 (AQ M (AQ ab ate)))))))))))
def XV {t e:TypeId}(i:P.underlying t=some (.slice e))(j:P.underlying e=some (.int .i64))(k:P.cellsOf e=1){W:World}{r:Reach}{p base:Nat}{q:Nat->Bool}{g:Bool}{v:Value}{d:DataW H}{ps:List MemPlace}
  (b:Value.okWide P W r p t v) (h:DataW.Trod enc P W base q g t v d ps):∃(x:AV) (zs:List Int),RV ρ0 G0 W x v/\AU .i64 x zs:=by
 unfold Value.okWide at b;rw [i] at b;obtain⟨m,o⟩:=h;have hv:v.cells.toList=[v]:=by
  cases v <;> first|rfl|(simp [Cell.okWide,i,Cell.ok] at b)
 rw [hv] at o;obtain⟨av,l,u,w,y⟩:=QE i (ks:=[.i64]) k (VO j) b o;exact⟨av,_,u,w.ints y⟩
end
open Go.RowKit
variable {P:Program}{ρ:Ren}{H:ah}{w w':World}
def KN {f:FuncId}{p:List AV->ah->Option (AV × ah)}
  (h:∀args H v H',p args H=some (v,H')->∀(ρ:Ren) (w:World) (b:Array Value),Rel ρ H w->RVs ρ H.gen w args b.toList->
   Calls P f b w λe w'=>∃cv ρ',e=.returned cv/\Rel ρ' H' w'/\RV ρ' H'.gen w' v cv/\Ext ρ H w ρ' H' w'):rQ P (λg args H=>if g=f then p args H else none):=by
 intro g args H v H' d ρ w b R ha;simp only at d;split at d
 ·rename_i e;subst e;exact h args H v H' d ρ w b R ha
 ·cases d
def Il(R:Rel ρ H w)(B:Below w.heap.size w w'):Rel ρ H w'/\Ext ρ H w ρ H w':=by
 have E:Ext ρ H w ρ H w':=⟨zac _,λ_=>zac _,λ_ _ h _=>h,λ_ _ h=>h,λ_ _ d h=>.inr ⟨d,h⟩,B.size,λb hb _=>B.block b hb,λb hb=>by rw [fH,fH,B.block b hb],B.os,B.tape,B.output⟩
 exact⟨⟨R.out,λr b d h=>zq.mono E.toMono (B.block b (R.block h)) (R.obj r b d h),R.inj,R.gl.ext E⟩,E⟩
def QG(R:Rel ρ H w){b:Nat}(hb:w.heap.size<=b):Imm ρ b:=λr d h=>by
 have:=R.block h;omega
def Ue {G:Nat->Nat}{x:AV}{b:Array Value}(h:RVs ρ G w [x] b.toList):∃c,b=#[c]/\RV ρ G w x c:=by
 obtain⟨d,l,e,g,i⟩:=(by simpa only [RVs] using h)
 subst i;exact⟨d,zcn.1 (by simpa using e),g⟩
def alS:AV:=.s (.slice none 0 0)
def aae(ks:List Int):AV:=if ks=[] then alS else .vs ks.length 1 ((ks.mergeSort λx y=>decide (x<=y)).map λn=>.s (.int .i64 n))
def CY(h i:List Nat)(args:List AV)(H:ah):Option (AV × ah):=
 match args with
 |[.fn (.func f) [] [.ref r g 0]]=>
  match H.get r with
  |.blk g' d [.mp m]=>match H.get m with
   |.map .i64 b=>if g'=g/\d<iw/\f≠0/\f∈h/\(b.map (·.1)).Nodup/\(b.all λe=>(Lit.int .i64 e.1).wf)=true/\b.length<=1000000 then some (aae (b.map (·.1)),H) else none
   |_=>none
  |.blk g' d [.s (.slice none 0 0)]=>if g'=g/\d<iw/\f≠0/\f∈i then some (alS,H) else none
  |_=>none
 |_=>none
structure Node where
 aH:Cache
 bQ:Proc
 home:Home
 aI:bJ
 num:Int
structure cZ where
 c:Cfg
 aF:List Node
 fab:Fab
 trace:List Evn
def Cfg.jR(c:Cfg)(me:Int):Nat->Rows
 |0=>[]
 |n+1=>if c.bf n=me then mV (c.jR me n) n ⟨0,-1,c.first n⟩ else c.jR me n
def Home.new(c:Cfg)(me:Int):Home:=⟨c.jR me c.aY.toNat,⟨[],[]⟩⟩
def Node.new(c:Cfg)(me:Int)(l:List Opn):Node:=⟨⟨[],c.sets,c.ways,0⟩,⟨l,[],false⟩,.new c me,.zero,0⟩
def Fab.new(c:Cfg):Fab:=⟨c.out,c.inn,List.replicate c.aF.toNat .zero⟩
def cZ.new(c:Cfg)(ps:List (List Opn)):cZ:=⟨c,ps.mapIdx λi l=>.new c i l,.new c,[]⟩
structure iH where
 owner:List (Int × Int)
 wait:List (Int × Int × Int)
structure iD where
 dK:List Row
 aT:iH
structure jF where
 aH:Cache
 homes:iD
 ops:List Opn
 eH:Bool
 bH:List Int
 has:Bool
 aI:bJ
 num:Int
structure jQ where
 c:Cfg
 fab:List Port
 aF:List jF
 ev:List Evn
def iD.new(c:Cfg):iD:=⟨(List.range c.aY.toNat).map λ(i:Nat)=>(⟨0,-1,c.first (i:Int)⟩:Row),⟨[],[]⟩⟩
def jF.new(c:Cfg)(l:List Opn):jF:=⟨⟨[],c.sets,c.ways,0⟩,.new c,l,false,[],false,.zero,0⟩
def jQ.new(c:Cfg)(ps:List (List Opn)):jQ:=⟨c,List.replicate c.aF.toNat .zero,ps.map (.new c),[]⟩
inductive zS {α:Type} (R:α->List AV->Prop):List α->List AV->Prop
 |nil:zS R [] []
 |cons {a:α} {l:List α} {cs cells:List AV}:R a cs->zS R l cells->zS R (a::l) (cs++cells)
section
variable {α:Type}{R:α->List AV->Prop}{l:List α}{cells:List AV}
def zS.length {m:Nat}(hm:∀a cs,R a cs->cs.length=m)(h:zS R l cells):cells.length=l.length*m:=by
 induction h with
 |nil=>simp
 |cons b _ d=>rw [zaq,hm _ _ b,d,zam,zbM,Nat.add_comm]
def zS.all(hm:∀a cs,R a cs->cs.all AV.aP=true)(h:zS R l cells):cells.all AV.aP=true:=by
 induction h with
 |nil=>rfl
 |cons b _ d=>rw [zbj,hm _ _ b,d];rfl
def zS.append {b:List α}{cells':List AV}(h:zS R l cells)(d:zS R b cells'):zS R (l++b) (cells++cells'):=by
 induction h with
 |nil=>exact d
 |cons e _ g=>rw [zbq,zbb];exact .cons e g
def zS.one {a:α}{cs:List AV}(h:R a cs):zS R [a] cs:=by
 have:=zS.cons h (zS.nil (R:=R))
 rwa [zbm] at this
def zS.mono {b:α->List AV->Prop}(d:∀a cs,a∈l->R a cs->b a cs)(h:zS R l cells):zS b l cells:=by
 induction h with
 |nil=>exact .nil
 |cons e _ g=>exact .cons (d _ _ O e) (g λa cs ha=>d a cs (by simp [ha]))
def zS.get {m:Nat}(hm:∀a cs,R a cs->cs.length=m)(h:zS R l cells):∀{i:Nat} {a:α},l[i]?=some a->R a ((cells.drop (i*m)).take m):=by
 induction h with
 |nil=>intro i a hi;simp at hi
 |cons b _ d=>
  intro i a hi;have e:=hm _ _ b;cases i with
  |zero=>
   simp only [zaT,zaa] at hi;subst hi;rw [zbv,zaS,zbW V,zau V];exact b
  |succ i=>
   rw [zbM,zdp,zaV V,zaM,e,Nat.add_sub_cancel];exact d (by simpa using hi)
def zS.plain {enc:α->List AV}:∀l:List α,zS (λa cs=>cs=enc a) l (l.flatMap enc)
 |[]=>.nil
 |a::l=>.cons rfl (zS.plain l)
def zS.of {enc:α->List AV}(b:∀a,a∈l->R a (enc a)):zS R l (l.flatMap enc):=
 (zS.plain (enc:=enc) l).mono λa cs ha (h:cs=enc a)=>by rw [h];exact b a ha
end
def Pkt.avx(p:Pkt)(x:AV):List AV:=[I p.aS,I p.src,I p.dst,I p.id,I p.aj,I p.ptr,I p.aW,B p.flag,x]
def Ent.avx(e:Ent)(x:AV):List AV:=[I e.fwd,I e.back,I e.aj,I e.used,B e.dn,x]
def Row.avx(r:Row)(x:AV):List AV:=[I r.aW,I r.head,x]
def bJ.avx(d:bJ)(x:AV):List AV:=[I d.aS,I d.aj,I d.id,I d.step,I d.aW,I d.head,x,I d.next,I d.told]
def uD(g:bD)(x:AV)(l:List Int):Prop:=x=dat l∨∃q ex,l≠[]/\x=.sl q 0 0 1 l.length l.length ex/\g q=some (l.map λn=>.av (I n))
def XW(cs:List Cell):Prop:=∃c∈cs,∀n,c≠.av (I n)
section
variable {b:Nat}{H:ah}{g g':bD}{x:AV}{l:List Int}
def uD.dat:uD g (dat l) l:=.inl rfl
def uD.one(h:uD g x l):One x:=by
 rcases h with rfl|⟨q,ex,_,rfl,_⟩
 ·exact tJ
 ·exact uq
def uD.sub(h:uD g x l)(b:∀q cs,g q=some cs->¬XW cs->g' q=some cs):uD g' x l:=by
 rcases h with rfl|⟨q,ex,d,rfl,h⟩
 ·exact .inl rfl
 ·refine .inr ⟨q,ex,d,rfl,b _ _ h λ⟨c,hc,e⟩=>?_⟩;obtain⟨n,_,rfl⟩:=zaJ.1 hc;exact e n rfl
def uD.upd {q:Nat}{cs cs':List Cell}(h:uD g x l)(d:g q=some cs)(i:XW cs):uD (upd g q cs') x l:=
 h.sub λq' k b j=>by
  rw [bn];exact b;intro e;subst e;rw [d] at b;cases b;exact j i
def uD.nil(h:uD g x l)(h0:l=[]):x=zN:=by
 rcases h with rfl|⟨q,ex,b,_⟩
 ·rw [h0,Proofs.YtljogojaihgdlaaGreat.dat,gQ]
 ·exact absurd h0 b
def uD.is(G:Good b H g)(h:uD g x l):aN H x 1 l.length (l.map I):=by
 rcases h with rfl|⟨q,ex,_,rfl,h⟩
 ·exact kZ H l
 ·obtain⟨_,τ,j⟩:=G;have R:=j q _ h;obtain⟨k,xs,m,d,p,o⟩:=R.blk;have:xs=l.map I:=by
   apply zbe
   intro i;rcases zaR i l.length with hi|hi
   ·have e:xs[i]?=some (xs[i]'(by simp at d;omega)):=zab _;have:=o i (.av (I l[i])) _ (by simp [hi]) e;simp only [CR] at this;rw [e,this];simp [hi]
   ·rw [zaG (by simp at d;omega),zaG (by simp;omega)]
  subst this;exact⟨O,rfl,rfl,⟨R.hi,zac _⟩,k,_,m,O,by simp [zau]⟩
end
def atH(g:bD)(p:Pkt)(cs:List AV):Prop:=∃x,uD g x p.data/\cs=p.avx x
def atI(g:bD)(e:Ent)(cs:List AV):Prop:=∃x,uD g x e.data/\cs=e.avx x
def aqF(g:bD)(r:Row)(cs:List AV):Prop:=∃x,uD g x r.data/\cs=r.avx x
def aqG(g:bD)(d:bJ)(cs:List AV):Prop:=∃x,uD g x d.data/\cs=d.avx x
def aiC {g:bD}(p:Row):aqF g p p.av:=⟨_,.dat,rfl⟩
def CZ(c:Cache)(cells:List AV):List Cell:=[.av (I c.sets),.av (I c.ways),.av (I c.dh),.seq 6 cells]
def qx(c:Cfg)(me:Int)(dK:List AV)(t:iH):List Cell:=c.av.map .av++[.av (I me),.seq 3 dK,.seq 2 (t.owner.flatMap λe=>[I e.1,I e.2]),.seq 3 (t.wait.flatMap λe=>[I e.1,I e.2.1,I e.2.2])]
def Eh(a:Nat->Nat)(c:Cfg)(me:Int)(n:jF)(d:List AV):List Cell:=
 c.av.map .av++[.av (I me),.av (.ref (a 1) 0 0),.av (.ref (a 2) 0 0),.seq 3 (n.ops.flatMap Opn.av),.av (B n.eH),.seq 1 (n.bH.map I),.av (B n.has)]++d.map .av++[.av (I n.num)]
def XY(c:Cfg)(ls:List (List AV)):List Cell:=c.av.map .av++[.alF 4 9 ls]
def rC(f:Nat)(N:Nat->Nat->Nat)(c:Cfg)(n:Nat)(ev:List Evn):List Cell:=c.av.map .av++[.av (.ref f 0 0),.seq 1 ((List.range n).map λi=>.ref (N i 0) 0 0),.seq 4 (ev.flatMap Evn.av)]
structure pF(g:bD)(a:Nat->Nat)(c:Cfg)(me:Int)(n:jF):Prop where
 bF:∃d,aqG g n.aI d/\g (a 0)=some (Eh a c me n d)
 aH:∃cells,zS (atI g) n.aH.l cells/\g (a 1)=some (CZ n.aH cells)
 homes:∃dK,zS (aqF g) n.homes.dK dK/\g (a 2)=some (qx c me dK n.homes.aT)
def aqH(N:Nat->Nat->Nat)(n:Nat):Prop:=∀i j s t,i<n->j<n->s<3->t<3->N i s=N j t->i=j/\s=t
def agD(p:Port):List (List Pkt):=[p.rq,p.an,p.rin,p.ain]
structure Io(g:bD)(q f:Nat)(N:Nat->Nat->Nat)(m:jQ):Prop where
 gY:g q=some (rC f N m.c m.aF.length m.ev)
 fab:∃ls:List (List AV),g f=some (XY m.c ls)/\ls.length=4*m.fab.length/\∀(i:Nat) l cells,(m.fab.flatMap agD)[i]?=some l->ls[i]?=some cells->zS (atH g) l cells
 bF:∀(i:Nat) n,m.aF[i]?=some n->pF g (N i) m.c i n
 inj:aqH N m.aF.length
def Ei(x:Int):List Int->List Int
 |[]=>[x]
 |y::rp=>if x<y then y::Ei x rp else x::y::rp
def srt:List Int->List Int->List Int
 |b,[]=>b.reverse
 |b,x::l=>srt (Ei x b) l
def Ent.word(e:Ent)(w:Int):Int:=if 0<=w/\w<e.data.length then e.data.getD w.toNat 0 else 0
def Ent.write(e:Ent)(w v:Int):Ent:=if e.dn=true/\0<=w/\w<e.data.length then { e with data:=e.data.set w.toNat v } else e
def Home.ready(h:Home):List Int:=h.aT.ready (srt [] (h.aT.wait.map (·.1)))
def Home.grant(bF:Int)(h:Home):Home × Pkt × Bool:=
 match h.ready with
 |[]=>(h,.zero,false)
 |aj::_=>match h.aT.next aj with
  |(t,some w)=>({ h with aT:=t },granted h.dK bF aj w.1 w.2,true)
  |(_,none)=>(h,.zero,false)
def Proc.idx(p:Proc):Int:=match p.cur with
 |some _=>p.bH.length
 |none=>0
def Proc.op(p:Proc):Opn:=p.cur.getD .zero
def Proc.C9(p:Proc)(v:Int):Proc:=if p.eH then⟨p.ops,p.bH++[v],false⟩ else p
def Proc.AX(p:Proc):Proc:=if p.eH=true∨p.cur=none then p else { p with eH:=true }
abbrev NT:=Node × List Evn
def Node.done(me:Int)(n:Node)(t:List Evn)(v:Int):NT:=({ n with bQ:=n.bQ.C9 v },t++[⟨me,n.bQ.idx,true,v⟩])
def eU(e:Ent)(o:Opn)(w:Int):Ent:=if o.aS=2 then e.write w o.value else if o.aS=3 then e.write w (w64 (e.word w+o.value)) else e
def Node.effect(c:Cfg)(me:Int)(n:Node)(t:List Evn):NT:=
 let o:=n.bQ.op;let e:=(n.aH.find (c.bV o.addr)).getD .zero;let n':={ n with aH:=(n.aH.put (eU e o (c.dI o.addr))).1 }
 n'.done me t (if o.aS=2 then 0 else e.word (c.dI o.addr))
def Node.ad2(c:Cfg)(me:Int)(n:Node)(f:Fab):Fab:=(f.send (n.aI.ask me (c.bf n.aI.aj))).1
def Node.after(me:Int)(n:Node)(p:Pkt):Nxt:=
 if n.aI.aS=1 then dY n.aI me n.aH p else if n.aI.aS=2 then dZ n.aI me n.aH p else if n.aI.aS=3 then eG n.aI n.aH p else wM n.aH
abbrev NFT:=Node × Fab × List Evn
def Node.answered(c:Cfg)(me:Int)(n:Node)(f:Fab)(t:List Evn)(p:Pkt):NFT:=
 match n.after me p with
 |(ca,d,ok)=>
  if ok=false then({ n with aH:=ca },f,t) else
  let n:={ n with aH:=ca,aI:=d }
  if d.step=0 then(if d.aS=3/\n.bQ.op.aS=4 then((n.done me t 0).1,f,(n.done me t 0).2) else(n,f,t))
  else
   let b:=if d.step=6/\d.aS≠3 then n.effect c me t else(n,t)
   (b.1,b.1.ad2 c me f,b.2)
def Node.begin_(c:Cfg)(me:Int)(n:Node)(f:Fab)(aS aj:Int):Node × Fab:=
 let n:={ n with aI:=.begin aS aj n.num,num:=(n.num+1).tmod 4096 }
 (n,n.ad2 c me f)
def Node.asked(c:Cfg)(me:Int)(n:Node)(f:Fab)(p:Pkt):Node × Fab:=
 if p.aS=1∨p.aS=2 then
  match n.home.handle c me p with
  |(h,out,ok,e)=>({ n with home:=h },if ok=true/\e=0 then(f.send out).1 else f)
 else
  match fU n.aH p with
  |(ca,out,e)=>({ n with aH:=ca },if e=0 then(f.send out).1 else f)
def Node.work(c:Cfg)(me:Int)(n:Node)(f:Fab)(t:List Evn)(o:Opn):NFT:=
 let t:=if n.bQ.eH then t else t++[⟨me,n.bQ.bH.length,false,0⟩]
 let n:={ n with bQ:={ n.bQ with eH:=true } }
 let aj:=c.bV o.addr;let e:=n.aH.find aj
 if o.aS=4/\e=none then((n.done me t 0).1,f,(n.done me t 0).2)
 else if o.aS=4 then((n.begin_ c me f 3 aj).1,(n.begin_ c me f 3 aj).2,t)
 else if e.isSome=true/\(o.aS=1∨(e.getD .zero).dn=true) then
  let n:={ n with aH:=n.aH.touch aj }
  ((n.effect c me t).1,f,(n.effect c me t).2)
 else if n.aH.full aj=true then((n.begin_ c me f 3 ((n.aH.oK aj).getD 0)).1,(n.begin_ c me f 3 ((n.aH.oK aj).getD 0)).2,t)
 else if o.aS=1 then((n.begin_ c me f 1 aj).1,(n.begin_ c me f 1 aj).2,t)
 else((n.begin_ c me f 2 aj).1,(n.begin_ c me f 2 aj).2,t)
def Node.step(c:Cfg)(me:Int)(n:Node)(f:Fab)(t:List Evn):NFT × Int:=
 match f.take me false with
 |(b,some p)=>(n.answered c me b t p,1)
 |(_,none)=>
  if n.home.ready≠[]/\f.roomOf me false≠0 then
   (({ n with home:=(n.home.grant me).1 },(f.send (n.home.grant me).2.1).1,t),2)
  else
   match(if f.roomOf me false=0 then(f,none) else f.take me true) with
   |(b,some p)=>(((n.asked c me b p).1,(n.asked c me b p).2,t),3)
   |(_,none)=>
    match n.bQ.cur with
    |some o=>if n.aI.step=0 then(n.work c me f t o,4) else((n,f,t),0)
    |none=>((n,f,t),0)
def cZ.bF(m:cZ)(i:Int):Option Node:=if 0<=i then m.aF[i.toNat]? else none
def cZ.step(m:cZ)(i:Int):cZ × Int:=
 match m.bF i with
 |none=>(m,0)
 |some n=>match n.step m.c i m.fab m.trace with
  |((n',f,t),k)=>({ m with aF:=m.aF.set i.toNat n',fab:=f,trace:=t },k)
def aT(bytes:Nat)(bit mask:Int):Bool:=(List.range 16).any λi=>decide ((mask.toNat >>> (15-i)) % 2=1) && decide (0<=bit+i) && decide (bit+i<8*bytes)
def Pkt.bytes(p:Pkt):Nat:=12+8*p.data.length
def Port.drop(p:Port)(req:Bool)(k:Nat):Port:=p.kR req ((p.sort req).eraseIdx k)
def Fab.remove(f:Fab)(at_:Nat):Fab:=match AO f.l 0 at_ with
 |some (i,req,k)=>f.put i ((f.port i).drop req k)
 |none=>f
def Fab.deliver(f:Fab)(at_ bit mask:Int):Fab × Int:=
 if at_<0 then(f,3) else
 match f.all[at_.toNat]? with
 |none=>(f,3)
 |some p=>
  if aT p.bytes bit mask=true then(f,2) else
  if f.room (qR p.aS)<=((f.port p.dst).ql (qR p.aS)).length then(f,5) else
  ((f.put p.dst ((f.port p.dst).lI (qR p.aS) ((f.port p.dst).ql (qR p.aS)++[p]))).remove at_.toNat,0)
def cZ.deliver(m:cZ)(at_ bit mask:Int):cZ × Int:=({ m with fab:=(m.fab.deliver at_ bit mask).1 },(m.fab.deliver at_ bit mask).2)
def cZ.do_(m:cZ)(p:Pck):cZ × Bool:=
 if p.deliver then((m.deliver p.at_ p.bit p.mask).1,decide ((m.deliver p.at_ p.bit p.mask).2=0))
 else((m.step p.at_).1,decide ((m.step p.at_).2≠0))
def zT(e:Ent):List Ent->List Ent
 |[]=>[e]
 |x::l=>if e.aj<x.aj then e::x::l else x::zT e l
def Cache.Y1(c:Cache)(e:Ent):Cache × Int:=
 if e.aj<0 then(c,1) else
 match c.at_ e.aj with
 |some i=>({ c with l:=c.l.set i { e with used:=(c.l.getD i .zero).used } },0)
 |none=>if c.ways<=(c.pz e.aj).length then(c,5) else({ c with l:=zT { e with used:=c.dh+1 } c.l,dh:=c.dh+1 },0)
def Cache.Ns(c:Cache)(aj:Int):Int:=((oC (c.pz aj)).map (·.aj)).getD (-1)
def iH.jh(t:iH)(aj:Int):Int:=((t.owner.find? λo=>decide (o.1=aj)).map (·.2)).getD (-1)
def iH.waits(t:iH)(aj:Int):List (Int × Int):=(t.wait.filter λw=>decide (w.1=aj)).map (·.2)
def iH.ask(t:iH)(aj who id:Int):iH × Bool:=
 if who<0 then(t,false) else
 if t.jh aj=-1/\t.waits aj=[] then({ t with owner:=t.owner++[(aj,who)] },true)
 else({ t with wait:=t.wait++[(aj,who,id)] },false)
def mW {α:Type}(p:α->Bool):List α->List α
 |[]=>[]
 |x::l=>if p x then l else x::mW p l
def iH.release(t:iH)(aj who:Int):iH × Bool:=
 if(t.owner.any λo=>decide (o.1=aj) && decide (o.2=who))=true then({ t with owner:=mW (λo=>decide (o.1=aj) && decide (o.2=who)) t.owner },true) else(t,false)
def iH.next(t:iH)(aj:Int):iH × Option (Int × Int):=
 if t.jh aj≠-1 then(t,none) else
 match t.wait.find? λw=>decide (w.1=aj) with
 |some w=>(⟨t.owner++[(aj,w.2.1)],mW (λw=>decide (w.1=aj)) t.wait⟩,some w.2)
 |none=>(t,none)
def mX(x:Int):List Int->List Int
 |[]=>[x]
 |y::l=>if y<x then y::mX x l else if y=x then y::l else x::y::l
def iH.ready(t:iH):List Int:=t.wait.foldl (λout w=>if t.jh w.1≠-1 then out else mX w.1 out) []
def lJ(c:Cfg)(me aj:Int):Bool:=decide (0<=aj) && decide (aj<c.aY) && decide (aj % c.aF=me)
def iD.row(h:iD)(aj:Int):Row:=h.dK.getD aj.toNat .zero
def iD.pz(c:Cfg)(me:Int)(h:iD)(aj aW head:Int)(data:List Int):iD × Int:=
 if lJ c me aj=false then(h,3) else
 if aW<0∨2<aW∨head < -1∨c.aF<=head∨¬(aW=0↔head=-1)∨(data≠[]/\(data.length:Int)≠c.bI) then(h,1) else
 ({ h with dK:=h.dK.set aj.toNat ⟨aW,head,if data=[] then(h.row aj).data else data⟩ },0)
def iD.granted(me:Int)(h:iD)(aj who id:Int):Pkt:=⟨7,me,who,id,aj,(h.row aj).head,(h.row aj).aW,false,(h.row aj).data⟩
def iD.handle(c:Cfg)(me:Int)(h:iD)(p:Pkt):iD × Pkt × Bool × Int:=
 if p.ok=false∨p.dst≠me∨c.aF<=p.src∨(p.aS≠1/\p.aS≠2) then(h,.zero,false,1)
 else if lJ c me p.aj=false then(h,.zero,false,3)
 else if p.aS=1 then
  let a:=h.aT.ask p.aj p.src p.id
  if a.2=true then({ h with aT:=a.1 },h.granted me p.aj p.src p.id,true,0) else({ h with aT:=a.1 },.zero,false,0)
 else if h.aT.jh p.aj≠p.src then(h,.zero,false,6)
 else
  let r:=h.pz c me p.aj p.aW p.ptr (if p.flag then p.data else [])
  if r.2=0 then({ r.1 with aT:=(r.1.aT.release p.aj p.src).1 },⟨8,me,p.src,p.id,p.aj,0,0,false,[]⟩,true,0) else(h,.zero,false,r.2)
def iD.grant(me:Int)(h:iD):iD × Pkt × Bool:=
 match h.aT.ready with
 |[]=>(h,.zero,false)
 |aj::_=>match h.aT.next aj with
  |(t,w)=>({ h with aT:=t },h.granted me aj (w.getD (0,0)).1 (w.getD (0,0)).2,true)
def aiD(c:Cache)(p:Pkt):Cache × Pkt × Int:=
 if p.ok=false∨p.aS<3∨6<p.aS then(c,.zero,1) else
 match c.find p.aj with
 |none=>(c,.zero,3)
 |some e=>
  let out:Pkt:=⟨CX p.aS,p.dst,p.src,p.id,p.aj,0,0,false,[]⟩
  if p.aS=3 then((c.Y1 { e with dn:=false,back:=p.ptr }).1,{ out with data:=e.data,flag:=e.dn },0)
  else if p.aS=4 then((c.Y1 { e with fwd:=p.ptr }).1,out,0)
  else if p.aS=5 then((c.Y1 { e with back:=p.ptr }).1,out,0)
  else(c.drop p.aj,{ out with data:=e.data,flag:=e.dn,ptr:=e.fwd },0)
def aqI(d:bJ)(bF:Int)(c:Cache)(p:Pkt):Nxt:=
 if d.step=1/\d.aW=0 then((c.Y1 ⟨-1,-1,d.aj,0,false,d.data⟩).1,{ d with step:=6,aW:=1,head:=bF,data:=[] },true)
 else if d.step=1 then(c,{ d with step:=2 },true)
 else if d.step=2 then((c.Y1 ⟨d.head,-1,d.aj,0,false,p.data⟩).1,{ d with step:=6,aW:=1,head:=bF,data:=if p.flag then p.data else [] },true)
 else wM c
def alT(d:bJ)(bF:Int)(c:Cache):Nxt:=
 let d:bJ:=match c.find d.aj with
  |some own=>if d.next=bF then { d with next:=own.fwd } else d
  |none=>d
 if d.next≠-1 then(c,{ d with step:=3 },true)
 else((c.Y1 ⟨-1,-1,d.aj,0,true,d.data⟩).1,{ d with step:=6,aW:=2,head:=bF,data:=[] },true)
def alU(d:bJ)(bF:Int)(c:Cache)(p:Pkt):Nxt:=
 if d.step=1 then alT { d with data:=(match c.find d.aj with|some own=>own.data|none=>d.data),next:=d.head } bF c
 else if d.step=3 then alT { d with data:=(match c.find d.aj with|some _=>d.data|none=>p.data),next:=p.ptr } bF c
 else wM c
def Nu(d:bJ)(c:Cache)(head:Int):Nxt:=(c.drop d.aj,{ d with step:=6,aW:=1,head:=head,data:=[] },true)
def aqJ(d:bJ)(c:Cache):Nxt:=
 if d.step=1 then
  match c.find d.aj with
  |none=>(c,{ d with step:=6,data:=[] },true)
  |some e=>
   if e.back=-1/\e.fwd=-1 then(c.drop d.aj,{ d with step:=6,aW:=0,head:=-1,data:=if e.dn then e.data else [] },true)
   else if e.back=-1 then(c,{ d with data:=[],head:=-1,next:=e.fwd,step:=5 },true)
   else(c,{ d with data:=[],head:=e.back,next:=e.fwd,step:=4 },true)
 else if d.step=4 then
  if d.next≠-1 then(c,{ d with step:=5 },true) else Nu d c d.told
 else if d.step=5 then
  if d.head=-1 then Nu d c d.next else Nu d c d.told
 else wM c
def aqK(d:bJ)(bF:Int)(c:Cache)(p:Pkt):Nxt:=
 if d.fits p=false∨d.aS<1∨3<d.aS then wM c else
 if d.step=6 then(c,{ d with step:=0 },true) else
 let d:=if d.step=1 then { d with aW:=p.aW,head:=p.ptr,told:=p.ptr,data:=p.data } else d
 if d.aS=1 then aqI d bF c p else if d.aS=2 then alU d bF c p else aqJ d c
abbrev RNT:=jF × List Evn
def jF.done(me:Int)(n:jF)(t:List Evn)(v:Int):RNT:=({ n with bH:=n.bH++[v],eH:=false },t++[⟨me,n.bH.length,true,v⟩])
def aiE(e:Ent)(o:Opn)(w:Nat):Ent:=
 if o.aS=2 then { e with data:=e.data.set w o.value } else if o.aS=3 then { e with data:=e.data.set w (w64 (e.data.getD w 0+o.value)) } else e
def jF.effect(c:Cfg)(n:jF)(o:Opn):jF × Int:=
 let i:=(n.aH.at_ (o.addr.tdiv c.bI)).getD 0;let e:=n.aH.l.getD i .zero;let w:=(o.addr.tmod c.bI).toNat
 ({ n with aH:={ n.aH with l:=n.aH.l.set i (aiE e o w) } },if o.aS=2 then 0 else e.data.getD w 0)
def jF.ad2(c:Cfg)(me:Int)(n:jF)(f:Fab):Fab:=(f.send (n.aI.ask me (n.aI.aj.tmod c.aF))).1
def jF.begin_(c:Cfg)(me:Int)(n:jF)(f:Fab)(aS aj:Int):jF × Fab:=
 let n:={ n with has:=true,aI:=.begin aS aj n.num,num:=(n.num+1).tmod 4096 }
 (n,n.ad2 c me f)
abbrev aqL:=jF × Fab × List Evn
def jF.answered(c:Cfg)(me:Int)(n:jF)(f:Fab)(t:List Evn)(p:Pkt):aqL:=
 if n.has=false then(n,f,t) else
 match aqK n.aI me n.aH p with
 |(ca,d,ok)=>
  if ok=false then({ n with aH:=ca },f,t) else
  let n:={ n with aH:=ca,aI:=d }
  if d.step=0 then
   let n:={ n with has:=false,aI:=.zero }
   match n.ops[n.bH.length]? with
   |some o=>if n.eH=true/\o.aS=4 then((n.done me t 0).1,f,(n.done me t 0).2) else(n,f,t)
   |none=>(n,f,t)
  else
   let b:=if d.step=6/\d.aS≠3 then let ev:=n.effect c (n.ops.getD n.bH.length .zero);ev.1.done me t ev.2 else(n,t)
   (b.1,b.1.ad2 c me f,b.2)
def jF.work(c:Cfg)(me:Int)(n:jF)(f:Fab)(t:List Evn)(o:Opn):aqL:=
 let t:=if n.eH then t else t++[⟨me,n.bH.length,false,0⟩]
 let n:={ n with eH:=true }
 let aj:=o.addr.tdiv c.bI;let e:=n.aH.find aj
 if o.aS=4/\e=none then((n.done me t 0).1,f,(n.done me t 0).2)
 else if o.aS=4 then((n.begin_ c me f 3 aj).1,(n.begin_ c me f 3 aj).2,t)
 else if e.isSome=true/\(o.aS=1∨(e.getD .zero).dn=true) then
  let n:={ n with aH:=n.aH.touch aj }
  let ev:=n.effect c o
  ((ev.1.done me t ev.2).1,f,(ev.1.done me t ev.2).2)
 else if e=none/\0<=aj/\n.aH.ways<=(n.aH.pz aj).length then((n.begin_ c me f 3 (n.aH.Ns aj)).1,(n.begin_ c me f 3 (n.aH.Ns aj)).2,t)
 else if o.aS=1 then((n.begin_ c me f 1 aj).1,(n.begin_ c me f 1 aj).2,t)
 else((n.begin_ c me f 2 aj).1,(n.begin_ c me f 2 aj).2,t)
def jF.asked(c:Cfg)(me:Int)(n:jF)(f:Fab)(p:Pkt):jF × Fab:=
 if p.aS=1∨p.aS=2 then
  match n.homes.handle c me p with
  |(h,out,ok,e)=>({ n with homes:=h },if ok=true/\e=0 then(f.send out).1 else f)
 else
  match aiD n.aH p with
  |(ca,out,e)=>({ n with aH:=ca },if e=0 then(f.send out).1 else f)
def jF.step(c:Cfg)(me:Int)(n:jF)(f:Fab)(t:List Evn):aqL × Int:=
 match f.take me false with
 |(b,some p)=>(n.answered c me b t p,1)
 |(_,none)=>
  if 0<f.roomOf me false/\n.homes.aT.ready≠[] then
   (({ n with homes:=(n.homes.grant me).1 },(f.send (n.homes.grant me).2.1).1,t),2)
  else if 0<f.roomOf me false/\0<f.waiting me true then
   match f.take me true with
   |(b,p)=>(((n.asked c me b (p.getD .zero)).1,(n.asked c me b (p.getD .zero)).2,t),3)
  else
   match n.ops[n.bH.length]? with
   |some o=>if n.has=false then(n.work c me f t o,4) else((n,f,t),0)
   |none=>((n,f,t),0)
def jQ.aqM(m:jQ):Fab:=⟨m.c.out,m.c.inn,m.fab⟩
def jQ.all(m:jQ):List Pkt:=m.fab.flatMap λp=>p.rq++p.an
def jQ.left(m:jQ):Int:=(m.aF.map λn=>(n.ops.length:Int)-n.bH.length).sum
def jQ.busy(m:jQ)(i:Nat):Bool:=match m.aF[i]?,m.fab[i]? with
 |some n,some p=>n.eH || n.has || decide (0<p.rin.length) || decide (0<p.ain.length)
 |_,_=>false
def jQ.quiet(m:jQ):Bool:=decide (m.all.length=0) && (List.range m.aF.length).all λi=>!m.busy i
def jQ.step(m:jQ)(i:Int):jQ × Int:=
 match(if 0<=i then m.aF[i.toNat]? else none) with
 |none=>(m,0)
 |some n=>match n.step m.c i m.aqM m.ev with
  |((n',f,t),k)=>({ m with aF:=m.aF.set i.toNat n',fab:=f.l,ev:=t },k)
def jQ.deliver(m:jQ)(at_ bit mask:Int):jQ × Int:=({ m with fab:=(m.aqM.deliver at_ bit mask).1.l },(m.aqM.deliver at_ bit mask).2)
def jQ.do_(m:jQ)(p:Pck):jQ × Bool:=
 if p.deliver then((m.deliver p.at_ p.bit p.mask).1,decide ((m.deliver p.at_ p.bit p.mask).2=0))
 else((m.step p.at_).1,decide ((m.step p.at_).2≠0))
structure ap2(c:Cfg)(me:Int)(n:Node)(r:jF):Prop where
 ops:r.ops=n.bQ.ops
 bH:r.bH=n.bQ.bH
 eH:r.eH=n.bQ.eH
 has:r.has=!decide (n.aI.step=0)
 aI:r.aI=if n.aI.step=0 then .zero else n.aI
 num:r.num=n.num
 sets:r.aH.sets=n.aH.sets
 ways:r.aH.ways=n.aH.ways
 dh:r.aH.dh=n.aH.dh
 sorted:r.aH.l.Pairwise λa b=>a.aj<b.aj
 perm:n.aH.l.Perm r.aH.l
 dK:∀aj,lJ c me aj=true->∃row,jE n.home.dK aj=some row/\r.homes.dK[aj.toNat]?=some row
 none:∀aj,lJ c me aj=false->jE n.home.dK aj=none
 owner:∀aj,n.home.aT.owner aj=r.homes.aT.jh aj
 waits:∀aj,n.home.aT.ws aj=r.homes.aT.waits aj
structure Sim(m:cZ)(r:jQ):Prop where
 c:r.c=m.c
 len:r.aF.length=m.aF.length
 fab:r.fab=m.fab.l
 ev:r.ev=m.trace
 bF:∀(i:Nat) n rn,m.aF[i]?=some n->r.aF[i]?=some rn->ap2 m.c i n rn
structure Dc(c r:Cache):Prop where
 sets:r.sets=c.sets
 ways:r.ways=c.ways
 dh:r.dh=c.dh
 sorted:r.l.Pairwise λa b=>a.aj<b.aj
 perm:c.l.Perm r.l
def Lines(l:List Ent):Prop:=l.Pairwise λa b=>a.aj≠b.aj
def xE {l:List Ent}(h:l.Pairwise λa b=>a.aj<b.aj):Lines l:=h.imp λh=>by omega
def Lines.perm {l b:List Ent}(h:Lines l)(p:l.Perm b):Lines b:=(p.pairwise_iff (λh=>Ne.symm h)).1 h
def Dc.aY {c r:Cache}(S:Dc c r):Lines c.l:=(xE S.sorted).perm S.perm.symm
def Dc.VQ {c r:Cache}(S:Dc c r):Lines r.l:=xE S.sorted
def Lines.inj:∀{l:List Ent},Lines l->∀{a b:Ent},a∈l->b∈l->a.aj=b.aj->a=b
 |[],_,a,_,ha,_,_=>by cases ha
 |x::l,h,a,b,ha,hb,e=>by
  have i:=zbg.1 h;rcases zak.1 ha with g|g
  ·rcases zak.1 hb with d|d
   ·rw [g,d]
   ·rw [g] at e;exact absurd e (i.1 b d)
  ·rcases zak.1 hb with d|d
   ·rw [d] at e;exact absurd e.symm (i.1 a g)
   ·exact Lines.inj i.2 g d e
def iL {l:List Ent}(h:Lines l){aj:Int}{e:Ent}:(l.find? λx=>decide (x.aj=aj))=some e↔e∈l/\e.aj=aj:=by
 constructor
 ·intro b;exact⟨zba b,by simpa using zb3 b⟩
 ·rintro⟨d,g⟩;cases b:l.find? λx=>decide (x.aj=aj) with
  |none=>
   have:=zbP.1 b e d;simp [g] at this
  |some x=>
   have i:=zba b;have j:x.aj=aj:=by simpa using zb3 b
   rw [h.inj i d (by rw [j,g])]
def uF {l:List Ent}{aj:Int}:(l.find? λx=>decide (x.aj=aj))=none↔∀e∈l,e.aj≠aj:=by
 rw [zbP];simp
def Dc.find {c r:Cache}(S:Dc c r)(aj:Int):r.find aj=c.find aj:=by
 unfold Cache.find;cases b:c.l.find? λx=>decide (x.aj=aj) with
 |none=>
  rw [uF] at b ⊢;exact λe d=>b e (S.perm.mem_iff.2 d)
 |some e=>
  rw [iL S.aY] at b;rw [iL S.VQ];exact⟨S.perm.mem_iff.1 b.1,b.2⟩
def Dc.count {c r:Cache}(S:Dc c r)(aj:Int):(r.pz aj).length=(c.pz aj).length:=by
 unfold Cache.pz;rw [S.sets];exact(S.perm.filter _).length_eq.symm
def Dc.full {c r:Cache}(S:Dc c r)(aj:Int):r.full aj=c.full aj:=by
 unfold Cache.full;rw [S.find,S.count,S.ways]
def zU {c:Cache}{aj:Int}:c.at_ aj=none↔c.find aj=none:=by
 unfold Cache.at_ Cache.find;rw [List.findIdx?_eq_none_iff,zbP];simp
def Df {c:Cache}{aj:Int}{i:Nat}(h:c.at_ aj=some i):∃e,c.l[i]?=some e/\c.find aj=some e/\e.aj=aj:=by
 unfold Cache.at_ at h;have hi:=List.findIdx?_eq_some_iff_getElem.1 h;obtain⟨b,d,g⟩:=hi;refine⟨c.l[i],zab b,?_,by simpa using d⟩;unfold Cache.find;rw [List.find?_eq_some_iff_getElem];exact⟨d,i,b,rfl,λj k=>by simpa using g j k⟩
def yu {c:Cache}{aj:Int}{e:Ent}(h:c.find aj=some e):∃i,c.at_ aj=some i/\c.l[i]?=some e:=by
 cases ha:c.at_ aj with
 |none=>rw [zU.1 ha] at h;cases h
 |some i=>
  obtain⟨g,d,b,_⟩:=Df ha;rw [h] at b;cases b;exact⟨i,rfl,d⟩
def Nv:∀{l:List Ent},Lines l->∀{i:Nat} {e v:Ent},l[i]?=some e->l.set i v=l.map λx=>if x.aj=e.aj then v else x
 |[],_,i,e,v,h=>by simp at h
 |x::l,d,i,e,v,h=>by
  have b:=zbg.1 d;cases i with
  |zero=>
   simp only [zaT,zaa] at h;subst h;simp only [zb9,zay,if_true]
   congr 1
   have:∀y∈l,(if y.aj=x.aj then v else y)=y:=λy g=>if_neg (Ne.symm (b.1 y g));rw [zbs this];simp
  |succ i=>
   simp only [zbf] at h;have j:x.aj≠e.aj:=b.1 e (zan h);simp only [zca,zay,if_neg j];rw [Nv b.2 h]
def Ej:∀{l:List Ent},Lines l->∀{i:Nat} {e:Ent},l[i]?=some e->l.eraseIdx i=l.filter λx=>decide (x.aj≠e.aj)
 |[],_,i,e,h=>by simp at h
 |x::l,d,i,e,h=>by
  have b:=zbg.1 d;cases i with
  |zero=>
   simp only [zaT,zaa] at h;subst h;simp only [List.eraseIdx_cons_zero,zbX,ne_eq,not_true,decide_false,zai,if_false];rw [List.filter_eq_self.2];intro y g;have:=b.1 y g;simp only [decide_eq_true_eq];exact λe=>this e.symm
  |succ i=>
   simp only [zbf] at h;have j:x.aj≠e.aj:=b.1 e (zan h);simp only [zdf,zbX,j,ne_eq,not_false_eq_true,decide_true,if_true];rw [Ej b.2 h]
def xF(e:Ent):∀l,(zT e l).Perm (e::l)
 |[]=>.refl _
 |x::l=>by
  rw [zT];split
  ·exact .refl _
  ·exact((xF e l).cons x).trans (.swap e x l)
def y7(e:Ent):∀l:List Ent,(l.Pairwise λa b=>a.aj<b.aj)->(∀x∈l,x.aj≠e.aj)->(zT e l).Pairwise λa b=>a.aj<b.aj
 |[],_,_=>by simp [zT]
 |x::l,h,j=>by
  have i:=zbg.1 h;rw [zT];split
  ·rename_i g;refine zbg.2 ⟨λy d=>?_,h⟩;rcases zak.1 d with rfl|d
   ·exact g
   ·have:=i.1 y d;omega
  ·rename_i g;refine zbg.2 ⟨λy d=>?_,y7 e l i.2 λy d=>j y (by simp [d])⟩;rcases zak.1 ((xF e l).mem_iff.1 d) with rfl|d
   ·have:=j x O;omega
   ·exact i.1 y d
def ad3 {l:List Ent}{f:Ent->Ent}(e:∀x∈l,(f x).aj=x.aj)(h:l.Pairwise λa b=>a.aj<b.aj):(l.map f).Pairwise λa b=>a.aj<b.aj:=by
 rw [zcx];exact h.imp_of_mem λha hb d=>by rw [e _ ha,e _ hb];exact d
def Dc.mapped {c r:Cache}(S:Dc c r){f:Ent->Ent}(b:∀x∈c.l,(f x).aj=x.aj)(k:Int):Dc { c with l:=c.l.map f,dh:=k } { r with l:=r.l.map f,dh:=k }:=
 ⟨S.sets,S.ways,rfl,ad3 (λx d=>b x (S.perm.mem_iff.2 d)) S.sorted,S.perm.map f⟩
def mD {c:Cache}(g:Lines c.l){e x:Ent}(h0:0<=e.aj)(h:c.find e.aj=some x):c.put e=({ c with l:=c.l.map λy=>if y.aj=e.aj then { e with used:=x.used } else y },0):=by
 obtain⟨i,d,b⟩:=yu h;have j:x.aj=e.aj:=by
  obtain⟨y,k1,_,k⟩:=Df d;rw [b] at k1;cases k1;exact k
 unfold Cache.put;rw [if_neg V,d];simp only;rw [zas,b,zaw,Nv g b,j]
def XZ {c:Cache}(g:Lines c.l){e x:Ent}(h0:0<=e.aj)(h:c.find e.aj=some x):c.Y1 e=({ c with l:=c.l.map λy=>if y.aj=e.aj then { e with used:=x.used } else y },0):=by
 obtain⟨i,d,b⟩:=yu h;have j:x.aj=e.aj:=by
  obtain⟨y,k1,_,k⟩:=Df d;rw [b] at k1;cases k1;exact k
 unfold Cache.Y1;rw [if_neg V,d];simp only;rw [zas,b,zaw,Nv g b,j]
def Dc.put {c r:Cache}(S:Dc c r)(e:Ent):Dc (c.put e).1 (r.Y1 e).1/\(r.Y1 e).2=(c.put e).2:=by
 by_cases d:e.aj<0
 ·unfold Cache.put Cache.Y1;rw [if_pos d,if_pos d];exact⟨S,rfl⟩
 cases b:c.find e.aj with
 |some x=>
  rw [mD S.aY V b,XZ S.VQ V (by rw [S.find,b])];refine⟨?_,rfl⟩;have:=S.mapped (f:=λy=>if y.aj=e.aj then { e with used:=x.used } else y) (λy _=>by
   try simp only
   split
   ·rename_i h;exact h.symm
   ·rfl) c.dh
  rw [<-S.dh] at this;have g:({ c with l:=c.l.map λy=>if y.aj=e.aj then { e with used:=x.used } else y }:Cache)={ c with l:=c.l.map λy=>if y.aj=e.aj then { e with used:=x.used } else y,dh:=r.dh }:=by rw [S.dh]
  rw [g];exact this
 |none=>
  have i:=zU.2 b;have j:r.at_ e.aj=none:=zU.2 (by rw [S.find,b]);unfold Cache.put Cache.Y1;rw [if_neg d,if_neg d,i,j];have hc:(r.ways<=((r.pz e.aj).length:Int))=(c.full e.aj=true):=by
   simp only [Cache.full,b,zcO,zaN,S.count,S.ways,decide_eq_true_eq]
  simp only [hc];split
  ·exact⟨S,rfl⟩
  ·refine⟨⟨S.sets,S.ways,by simp only [S.dh],?_,?_⟩,rfl⟩
   ·simp only [S.dh];refine y7 _ _ S.sorted λx k=>?_;have:=uF.1 (show(c.l.find? λx=>decide (x.aj=e.aj))=none from b);exact this x (S.perm.mem_iff.2 k)
   ·simp only [S.dh];refine(zdv.trans ?_).trans (xF _ _).symm;exact S.perm.cons _
def Ip {c:Cache}(b:Lines c.l)(aj:Int):c.drop aj={ c with l:=c.l.filter λx=>decide (x.aj≠aj) }:=by
 unfold Cache.drop;cases ha:c.at_ aj with
 |none=>
  have:=uF.1 (show(c.l.find? λx=>decide (x.aj=aj))=none from zU.1 ha);simp only;rw [List.filter_eq_self.2 λx d=>by simpa using this x d]
 |some i=>
  obtain⟨e,g,_,h⟩:=Df ha;simp only;rw [Ej b g,h]
def Dc.drop {c r:Cache}(S:Dc c r)(aj:Int):Dc (c.drop aj) (r.drop aj):=by
 rw [Ip S.aY,Ip S.VQ];exact⟨S.sets,S.ways,S.dh,S.sorted.filter _,S.perm.filter _⟩
def yw {c:Cache}(g:Lines c.l){aj:Int}{e:Ent}(h:c.find aj=some e):c.touch aj={ c with l:=c.l.map λx=>if x.aj=aj then { e with used:=c.dh+1 } else x,dh:=c.dh+1 }:=by
 obtain⟨i,d,b⟩:=yu h;obtain⟨y,k1,_,j⟩:=Df d;rw [b] at k1;cases k1;unfold Cache.touch;rw [d];simp only;rw [zas,b,zaw,Nv g b,j]
def Dc.touch {c r:Cache}(S:Dc c r){aj:Int}{e:Ent}(h:c.find aj=some e):Dc (c.touch aj) (r.touch aj):=by
 have b:e.aj=aj:=by
  obtain⟨i,d,g⟩:=yu h;obtain⟨y,k1,_,j⟩:=Df d;rw [g] at k1;cases k1;exact j
 rw [yw S.aY h,yw S.VQ (by rw [S.find,h]),S.dh];exact S.mapped (λx _=>by
  try simp only
  split
  ·rename_i k;rw [k];exact b
  ·rfl) _
def Iq:∀(l:List Ent) (m:Ent),(l.foldl (λm x=>if x.used<m.used then x else m) m)∈m::l/\∀x∈m::l,(l.foldl (λm x=>if x.used<m.used then x else m) m).used<=x.used
 |[],m=>by simp
 |x::l,m=>by
  rw [zbT];obtain⟨i,e⟩:=Iq l (if x.used<m.used then x else m);refine⟨?_,λy b=>?_⟩
  ·rcases zak.1 i with h|h
   ·rw [h];split <;> simp
   ·simp [h]
  ·have d:(if x.used<m.used then x else m).used<=x.used/\(if x.used<m.used then x else m).used<=m.used:=by
    split
    ·omega
    ·omega
   have g:=e _ (List.mem_cons_self ..);rcases zak.1 b with b|b
   ·rw [b];exact zdb g d.2
   ·rcases zak.1 b with b|b
    ·rw [b];exact zdb g d.1
    ·exact e y (by simp [b])
def sH {l:List Ent}{e:Ent}(h:oC l=some e):e∈l/\∀x∈l,e.used<=x.used:=by
 cases l with
 |nil=>cases h
 |cons m l=>
  simp only [oC,zaa] at h;subst h;exact Iq l m
def Ir(l:List Ent):Prop:=l.Pairwise λa b=>a.used≠b.used
def Ir.inj:∀{l:List Ent},Ir l->∀{a b:Ent},a∈l->b∈l->a.used=b.used->a=b
 |[],_,a,_,ha,_,_=>by cases ha
 |x::l,h,a,b,ha,hb,e=>by
  have i:=zbg.1 h;rcases zak.1 ha with g|g
  ·rcases zak.1 hb with d|d
   ·rw [g,d]
   ·rw [g] at e;exact absurd e (i.1 b d)
  ·rcases zak.1 hb with d|d
   ·rw [d] at e;exact absurd e.symm (i.1 a g)
   ·exact Ir.inj i.2 g d e
def QH {l d:List Ent}(p:l.Perm d)(h:Ir l):oC d=oC l:=by
 cases i:oC l with
 |none=>
  cases l with
  |nil=>rw [List.nil_perm.1 p];rfl
  |cons m l=>cases i
 |some e=>
  obtain⟨g,k⟩:=sH i;cases b:oC d with
  |none=>
   cases d with
   |nil=>rw [List.perm_nil.1 p] at g;cases g
   |cons m l=>cases b
  |some o=>
   obtain⟨j,q⟩:=sH b;have u:=k o (p.mem_iff.2 j);have v:=q e (p.mem_iff.1 g);rw [h.inj g (p.mem_iff.2 j) V]
def Dc.oK {c r:Cache}(S:Dc c r)(h:Ir c.l)(aj:Int):r.Ns aj=(c.oK aj).getD (-1):=by
 unfold Cache.Ns Cache.oK;have:oC (r.pz aj)=oC (c.pz aj):=by
  unfold Cache.pz;rw [S.sets];exact QH (S.perm.filter _) (h.filter _)
 rw [this]
def zV(x:Int):∀l,(Ei x l).Perm (x::l)
 |[]=>List.Perm.refl _
 |y::l=>by
  simp only [Ei];split
  ·exact((zV x l).cons y).trans (List.Perm.swap x y l)
  ·exact List.Perm.refl _
def AY(x:Int):∀l,l.Pairwise (· ≥ ·)->(Ei x l).Pairwise (· ≥ ·)
 |[],_=>by simp [Ei]
 |y::l,h=>by
  simp only [Ei];rw [zbg] at h;split
  ·rename_i d;refine zbg.2 ⟨λz b=>?_,AY x l h.2⟩;rcases zak.1 ((zV x l).mem_iff.1 b) with rfl|b
   ·omega
   ·exact h.1 z b
  ·rename_i d;refine zbg.2 ⟨λz b=>?_,zbg.2 h⟩;rcases zak.1 b with rfl|b
   ·omega
   ·have:=h.1 z b;omega
def vO:∀(l b:List Int),b.Pairwise (· ≥ ·)->(srt b l).Perm (b++l)/\(srt b l).Pairwise (· <= ·)
 |[],b,h=>by
  simp only [srt,zbm];exact⟨List.reverse_perm b,List.pairwise_reverse.2 (h.imp λh=>h)⟩
 |x::l,b,h=>by
  have:=vO l (Ei x b) (AY x b h);simp only [srt];refine⟨this.1.trans ?_,this.2⟩;refine((zV x b).append_right l).trans ?_;rw [zbq];exact(zdq (a:=x) (l₁:=b) (l₂:=l)).symm
def alV {l d:List Int}(h:l.Perm d)(hs:d.Pairwise (· <= ·)):srt [] l=d:=by
 obtain⟨e,g⟩:=vO l [] List.Pairwise.nil;exact(e.trans h).eq_of_pairwise (λa b _ _ e g=>Int.le_antisymm e g) g hs
def iI {α:Type}:∀(l:List (Int × α)) (n m:Int) (x:α),jE (mV l n x) m=if n=m then some x else jE l m
 |[],n,m,x=>by simp [mV,jE]
 |(k,v)::l,n,m,x=>by
  simp only [mV];by_cases h:k=n
  ·subst h;simp only [if_true,jE];by_cases b:k=m <;> simp [b]
  ·simp only [h,if_false,jE];rw [iI l n m x];by_cases b:k=m
   ·subst b;simp only [if_true];rw [if_neg (λe=>h e.symm)]
   ·simp [b]
def Dh {α:Type}:∀(l:List (Int × α)) (n:Int),(yQ l n).map (·.1)=(l.map (·.1)).erase n
 |[],n=>rfl
 |(k,v)::l,n=>by
  simp only [yQ,zay,List.erase_cons];by_cases h:k=n
  ·simp [h]
  ·simp [h,Dh l n]
def QI {α:Type}:∀(l:List (Int × α)) (n:Int) (x:α),(mV l n x).map (·.1)=if n∈l.map (·.1) then l.map (·.1) else l.map (·.1)++[n]
 |[],n,x=>by simp [mV]
 |(k,v)::l,n,x=>by
  simp only [mV,zay,zak];by_cases h:k=n
  ·simp [h]
  ·have b:¬n=k:=λe=>h e.symm;simp only [h,if_false,zay,b,false_or,QI l n x];split <;> simp
def nM {α:Type}{l:List (Int × α)}(h:(l.map (·.1)).Nodup)(n:Int)(x:α):((mV l n x).map (·.1)).Nodup:=by
 rw [QI];split
 ·exact h
 ·rename_i d;rw [zb2];refine⟨h,O,λa ha b hb=>?_⟩;simp only [zaU] at hb;subst hb;intro e;subst e;exact d ha
def Di {α:Type}:∀{l:List (Int × α)},(l.map (·.1)).Nodup->∀(n m:Int),jE (yQ l n) m=if n=m then none else jE l m
 |[],_,n,m=>by simp [yQ,jE]
 |(k,v)::l,h,n,m=>by
  rw [zay,za1] at h;simp only [yQ];by_cases hk:k=n
  ·subst hk;simp only [if_true,jE];by_cases h2:k=m
   ·subst h2;simp only [if_true];exact KP.2 h.1
   ·simp [h2]
  ·simp only [hk,if_false,jE];rw [Di h.2 n m];by_cases h2:k=m
   ·subst h2;simp only [if_true];rw [if_neg λe=>hk e.symm]
   ·simp [h2]
where
 KP {α:Type}:∀{es:List (Int × α)} {n:Int},jE es n=none↔n∉es.map (·.1)
 |[],n=>by simp [jE]
 |(k,v)::l,n=>by
  simp only [jE,zay,zak,not_or];by_cases h:k=n
  ·simp [h]
  ·simp only [h,if_false];rw [KP (es:=l)];exact⟨λh'=>⟨λe=>h e.symm,h'⟩,λh'=>h'.2⟩
def mY {α:Type}:∀{l:List (Int × α)} {n:Int} {x:α},jE l n=some x->(n,x)∈l
 |[],n,x,h=>by cases h
 |(k,v)::l,n,x,h=>by
  simp only [jE] at h;split at h
  ·rename_i e;cases h;subst e;simp
  ·simp [mY h]
def mZ {α:Type}:∀{l:List (Int × α)} {n:Int} {x:α} {e:Int × α},e∈mV l n x->e=(n,x)∨e∈l
 |[],n,x,e,h=>by simp [mV] at h;exact .inl h
 |(k,v)::l,n,x,e,h=>by
  simp only [mV] at h;split at h
  ·rcases zak.1 h with h|h
   ·exact .inl h
   ·exact .inr (by simp [h])
  ·rcases zak.1 h with h|h
   ·exact .inr (by simp [h])
   ·rcases mZ h with h|h
    ·exact .inl h
    ·exact .inr (by simp [h])
def Iu {α:Type}:∀{l:List (Int × α)} {n:Int} {e:Int × α},e∈yQ l n->e∈l
 |[],n,e,h=>by cases h
 |(k,v)::l,n,e,h=>by
  simp only [yQ] at h;split at h
  ·simp [h]
  ·rcases zak.1 h with h|h
   ·simp [h]
   ·simp [Iu h]
structure Iw(t:Turns):Prop where
 ok:(t.gK.map (·.1)).Nodup
 oge:∀e∈t.gK,0<=e.2
 wk:(t.wait.map (·.1)).Nodup
 wge:∀e∈t.wait,∀w∈e.2,0<=w.1
structure Uf(t:Turns)(r:iH):Prop where
 owner:∀aj,t.owner aj=r.jh aj
 waits:∀aj,t.ws aj=r.waits aj
 rok:(r.owner.map (·.1)).Nodup
 rge:∀o∈r.owner,0<=o.2
def Iw.owned {t:Turns}(h:Iw t)(aj:Int):t.owned aj=true↔t.owner aj≠-1:=by
 unfold Turns.owned Turns.owner;cases ha:jE t.gK aj with
 |none=>simp
 |some v=>
  have:=h.oge _ (mY ha);simp only [zaL,zaw,true_iff];simp only at this;omega
def y8 {l:List (Int × Int)}{aj who m:Int}(b:∀o∈l,o.1≠aj):(((l++[(aj,who)]).find? λo=>decide (o.1=m)).map (·.2)).getD (-1)=if m=aj then who else((l.find? λo=>decide (o.1=m)).map (·.2)).getD (-1):=by
 rw [zdN];by_cases h:m=aj
 ·subst h;have:(l.find? λo=>decide (o.1=m))=none:=by
   rw [zbP];intro o d;simpa using b o d
  rw [this];simp
 ·rw [if_neg h];cases i:l.find? λo=>decide (o.1=m) with
  |some o=>simp
  |none=>
   have g:¬aj=m:=λe=>h e.symm;simp [g]
def Uf.free {t:Turns}{r:iH}(S:Uf t r){aj:Int}(h:r.jh aj=-1):∀o∈r.owner,o.1≠aj:=by
 intro o d e;unfold iH.jh at h;cases b:r.owner.find? λo=>decide (o.1=aj) with
 |none=>
  have:=zbP.1 b o d;simp [e] at this
 |some g=>
  rw [b] at h;have:=S.rge g (zba b);simp only [zaj,zaw] at h;omega
def KQ {l:List (Int × Int)}(h:(l.map (·.1)).Nodup){aj who:Int}(d:∀o∈l,o.1≠aj):((l++[(aj,who)]).map (·.1)).Nodup:=by
 rw [zbi,zb2];refine⟨h,O,λa ha b hb=>?_⟩;obtain⟨o,e,rfl⟩:=zaJ.1 ha;simp only [zay,zbJ,zaU] at hb;subst hb;exact d o e
def Uf.ask {t:Turns}{r:iH}(S:Uf t r)(h:Iw t)(aj who id:Int):Uf (t.ask aj who id).1 (r.ask aj who id).1/\(r.ask aj who id).2=(t.ask aj who id).2/\Iw (t.ask aj who id).1:=by
 unfold Turns.ask iH.ask;by_cases k:who<0
 ·rw [if_pos k,if_pos k];exact⟨S,rfl,h⟩
 rw [if_neg k,if_neg k];have b:=h.owned aj;by_cases hc:(t.owned aj || !(t.ws aj).isEmpty)=true
 ·have j:¬(r.jh aj=-1/\r.waits aj=[]):=by
   rintro⟨p,q⟩;simp only [zbk,za7] at hc;rcases hc with hc|hc
   ·exact b.1 hc (by rw [S.owner,p])
   ·rw [S.waits,q] at hc;cases hc
  rw [if_pos hc,if_neg j];refine⟨⟨S.owner,λm=>?_,S.rok,S.rge⟩,rfl,⟨h.ok,h.oge,nM h.wk _ _,λe d w hw=>?_⟩⟩
  ·show(jE (mV t.wait aj (t.ws aj++[(who,id)])) m).getD []=((r.wait++[(aj,who,id)]).filter λw=>decide (w.1=m)).map (·.2);have hm:=S.waits m;unfold Turns.ws iH.waits at hm;rw [iI,zcq,zbi,<-hm];by_cases i:aj=m
   ·subst i;simp [Turns.ws]
   ·simp [i]
  ·rcases mZ d with rfl|d
   ·rcases zaO.1 hw with hw|hw
    ·unfold Turns.ws at hw;cases ha:jE t.wait aj with
     |none=>rw [ha] at hw;cases hw
     |some ws=>rw [ha] at hw;exact h.wge _ (mY ha) w hw
    ·simp only [zaU] at hw;subst hw;simp only;omega
   ·exact h.wge e d w hw
 ·have g:t.owned aj=false/\t.ws aj=[]:=by
   simp only [zbk,za7,not_or,zdo,zcy,List.isEmpty_iff] at hc;exact hc
  have j:r.jh aj=-1/\r.waits aj=[]:=by
   refine⟨?_,by rw [<-S.waits];exact g.2⟩;rw [<-S.owner];rcases Classical.em (t.owner aj=-1) with e|e
   ·exact e
   ·rw [b.2 e] at g;cases g.1
  rw [if_neg hc,if_pos j];refine⟨⟨λm=>?_,S.waits,KQ S.rok (S.free j.1),λo b=>?_⟩,rfl,⟨nM h.ok _ _,λe d=>?_,h.wk,h.wge⟩⟩
  ·show(jE (mV t.gK aj who) m).getD (-1)=(((r.owner++[(aj,who)]).find? λo=>decide (o.1=m)).map (·.2)).getD (-1);rw [y8 (S.free j.1),iI];by_cases i:aj=m
   ·subst i;simp
   ·rw [if_neg i,if_neg λe=>i e.symm];exact S.owner m
  ·rcases zaO.1 b with b|b
   ·exact S.rge o b
   ·simp only [zaU] at b;subst b;simp only;omega
  ·rcases mZ d with rfl|d
   ·simp only;omega
   ·exact h.oge e d
def AZ:∀{l:List (Int × Int)},(l.map (·.1)).Nodup->∀{aj who:Int},(aj,who)∈l->∀m,(((mW (λo=>decide (o.1=aj) && decide (o.2=who)) l).find? λo=>decide (o.1=m)).map (·.2)).getD (-1)=if m=aj then -1 else((l.find? λo=>decide (o.1=m)).map (·.2)).getD (-1)
 |[],_,aj,who,h,m=>by cases h
 |(k,v)::l,b,aj,who,h,m=>by
  rw [zay,za1] at b;simp only [mW];by_cases hk:k=aj
  ·subst hk;have hv:v=who:=by
    rcases zak.1 h with e|e
    ·cases e;rfl
    ·exact absurd (zaJ.2 ⟨_,e,rfl⟩) b.1
   subst hv;simp only [decide_true,zcj,if_true,List.find?_cons];by_cases hm:m=k
   ·subst hm;have:(l.find? λo=>decide (o.1=m))=none:=by
     rw [zbP];intro o d;simp only [decide_eq_true_eq];intro e;exact b.1 (zaJ.2 ⟨o,d,e⟩)
    rw [this];simp
   ·have:¬k=m:=λe=>hm e.symm;simp [hm,this]
  ·have g:(aj,who)∈l:=by
    rcases zak.1 h with e|e
    ·cases e;exact absurd rfl hk
    ·exact e
   simp only [hk,decide_false,zaP,zai,if_false,List.find?_cons];by_cases hm:k=m
   ·subst hm;simp [hk]
   ·simp only [hm,decide_false];exact AZ b.2 g m
def xG {α:Type}(p:α->Bool):∀l:List α,(mW p l).Sublist l
 |[]=>.slnil
 |x::l=>by
  simp only [mW];split
  ·exact List.sublist_cons_self x l
  ·exact(xG p l).cons_cons x
def Uf.release {t:Turns}{r:iH}(S:Uf t r)(h:Iw t){aj who:Int}(hw:t.owner aj=who)(h0:0<=who):Uf (t.release aj who).1 (r.release aj who).1/\(t.release aj who).2=0/\Iw (t.release aj who).1:=by
 have ha:jE t.gK aj=some who:=by
  unfold Turns.owner at hw;cases e:jE t.gK aj with
  |none=>rw [e] at hw;simp at hw;omega
  |some v=>rw [e] at hw;simp at hw;rw [hw]
 have hm:(aj,who)∈r.owner:=by
  have:=S.owner aj;rw [hw] at this;unfold iH.jh at this;cases e:r.owner.find? λo=>decide (o.1=aj) with
  |none=>rw [e] at this;simp at this;omega
  |some o=>
   rw [e] at this;have g:=zba e;have i:o.1=aj:=by simpa using zb3 e
   simp at this;have:o=(aj,who):=by rw [Prod.ext_iff];exact⟨i,this.symm⟩
   rw [<-this];exact g
 have b:(r.owner.any λo=>decide (o.1=aj) && decide (o.2=who))=true:=zcG.2 ⟨_,hm,O⟩;unfold Turns.release iH.release;rw [if_pos ha,if_pos b];refine⟨⟨λm=>?_,S.waits,(S.rok.sublist ((xG _ _).map _)),λo j=>S.rge o ((xG _ _).subset j)⟩,rfl,⟨?_,λe k=>h.oge e (Iu k),h.wk,h.wge⟩⟩
 ·show(jE (yQ t.gK aj) m).getD (-1)=_;rw [Di h.ok];show _=(((mW (λo=>decide (o.1=aj) && decide (o.2=who)) r.owner).find? λo=>decide (o.1=m)).map (·.2)).getD (-1);rw [AZ S.rok hm];by_cases d:aj=m
  ·subst d;simp
  ·rw [if_neg d,if_neg λe=>d e.symm];exact S.owner m
 ·show((yQ t.gK aj).map (·.1)).Nodup;rw [Dh];exact h.ok.erase _
def zW:∀(l:List (Int × Int × Int)) (aj m:Int),((mW (λw=>decide (w.1=aj)) l).filter λw=>decide (w.1=m))=if m=aj then(l.filter λw=>decide (w.1=m)).tail else l.filter λw=>decide (w.1=m)
 |[],aj,m=>by simp [mW]
 |w::l,aj,m=>by
  simp only [mW];by_cases hw:w.1=aj
  ·simp only [hw,decide_true,if_true,zbX];by_cases hm:m=aj
   ·subst hm;simp
   ·have:¬aj=m:=λe=>hm e.symm;simp [hm,this]
  ·simp only [hw,decide_false,zai,if_false,zbX];by_cases hm:w.1=m
   ·have b:¬m=aj:=λe=>hw (by rw [hm,e]);simp only [hm,decide_true,if_true,b,if_false];rw [zW l aj m,if_neg b]
   ·simp only [hm,decide_false,zai,if_false];exact zW l aj m
def Uf.next {t:Turns}{r:iH}(S:Uf t r)(h:Iw t)(aj:Int):Uf (t.next aj).1 (r.next aj).1/\(r.next aj).2=(t.next aj).2/\Iw (t.next aj).1:=by
 unfold Turns.next iH.next
 by_cases d:t.owned aj=true
 ·rw [if_pos d,if_pos (by rw [<-S.owner];exact(h.owned aj).1 d)];exact⟨S,rfl,h⟩
 ·have y:r.jh aj=-1:=by
   rw [<-S.owner];rcases Classical.em (t.owner aj=-1) with e|e
   ·exact e
   ·exact absurd ((h.owned aj).2 e) d
  rw [if_neg d,if_neg (by rw [y];simp)];have hw:=S.waits aj;unfold iH.waits at hw;cases z:r.wait.find? λw=>decide (w.1=aj) with
  |none=>
   have:(r.wait.filter λw=>decide (w.1=aj))=[]:=by
    rw [List.filter_eq_nil_iff];exact λw hw=>zbP.1 z w hw
   rw [this] at hw;rw [hw];exact⟨S,rfl,h⟩
  |some w=>
   have k:(r.wait.filter λw=>decide (w.1=aj))=w::(r.wait.filter λw=>decide (w.1=aj)).tail:=by
    have v:(r.wait.filter λw=>decide (w.1=aj)).head?=some w:=by rw [List.head?_filter];exact z
    cases g:r.wait.filter λw=>decide (w.1=aj) with
    |nil=>rw [g] at v;cases v
    |cons a b=>rw [g] at v;cases v;rfl
   rw [k,zay] at hw;rw [hw];have D:w.1=aj:=by simpa using zb3 z
   have p:∃ws,jE t.wait aj=some ws/\ws=w.2::(r.wait.filter λw=>decide (w.1=aj)).tail.map (·.2):=by
    unfold Turns.ws at hw;cases e:jE t.wait aj with
    |none=>rw [e] at hw;cases hw
    |some ws=>rw [e] at hw;exact⟨ws,rfl,hw⟩
   obtain⟨ws,A,i⟩:=p;have q:∀x∈ws,0<=x.1:=h.wge _ (mY A);have u:0<=w.2.1:=q w.2 (by rw [i];simp);refine⟨⟨λm=>?_,λm=>?_,KQ S.rok (S.free y),λo d=>?_⟩,rfl,⟨nM h.ok _ _,λe j=>?_,nM h.wk _ _,λe j x C=>?_⟩⟩
   ·show(jE (mV t.gK aj w.2.1) m).getD (-1)=(((r.owner++[(aj,w.2.1)]).find? λo=>decide (o.1=m)).map (·.2)).getD (-1);rw [y8 (S.free y),iI];by_cases g:aj=m
    ·subst g;simp
    ·rw [if_neg g,if_neg λe=>g e.symm];exact S.owner m
   ·show(jE (mV t.wait aj _) m).getD []=((mW (λw=>decide (w.1=aj)) r.wait).filter λw=>decide (w.1=m)).map (·.2);rw [iI,zW];by_cases g:aj=m
    ·subst g;simp
    ·rw [if_neg g,if_neg λe=>g e.symm];exact S.waits m
   ·rcases zaO.1 d with d|d
    ·exact S.rge o d
    ·simp only [zaU] at d;subst d;exact u
   ·rcases mZ j with rfl|j
    ·exact u
    ·exact h.oge e j
   ·rcases mZ j with rfl|j
    ·exact q x (by rw [i];exact za9 _ C)
    ·exact h.wge e j x C
def xH {x y:Int}:∀{l:List Int},y∈mX x l↔y=x∨y∈l
 |[]=>by simp [mX]
 |z::l=>by
  simp only [mX];split
  ·rw [zak,xH (l:=l),zak];constructor
   ·rintro(h|h|h) <;> simp [h]
   ·rintro(h|h|h) <;> simp [h]
  ·split
   ·rename_i h;subst h;simp
   ·simp
def xI {x:Int}:∀{l:List Int},l.Pairwise (· < ·)->(mX x l).Pairwise (· < ·)
 |[],_=>by simp [mX]
 |z::l,h=>by
  have d:=zbg.1 h;simp only [mX];split
  ·rename_i e;refine zbg.2 ⟨λy b=>?_,xI d.2⟩;rcases xH.1 b with rfl|b
   ·exact e
   ·exact d.1 y b
  ·split
   ·exact h
   ·refine zbg.2 ⟨λy b=>?_,h⟩;rcases zak.1 b with rfl|b
    ·omega
    ·have:=d.1 y b;omega
def Dj(t:iH):∀(l:List (Int × Int × Int)) (out:List Int),out.Pairwise (· < ·)->
  (l.foldl (λout w=>if t.jh w.1≠-1 then out else mX w.1 out) out).Pairwise (· < ·)/\
  ∀x,x∈l.foldl (λout w=>if t.jh w.1≠-1 then out else mX w.1 out) out↔x∈out∨(t.jh x=-1/\∃w∈l,w.1=x)
 |[],out,h=>⟨h,λx=>O⟩
 |w::l,out,h=>by
  rw [zbT];by_cases hw:t.jh w.1≠-1
  ·rw [if_pos hw];obtain⟨d,g⟩:=Dj t l out h;refine⟨d,λx=>?_⟩;rw [g x];constructor
   ·rintro(h|⟨h,w',b,e⟩)
    ·exact .inl h
    ·exact .inr ⟨h,w',by simp [b],e⟩
   ·rintro(h|⟨h,w',b,e⟩)
    ·exact .inl h
    ·rcases zak.1 b with i|b
     ·rw [<-e,i] at h;exact absurd h hw
     ·exact .inr ⟨h,w',b,e⟩
  ·rw [if_neg hw];obtain⟨d,g⟩:=Dj t l (mX w.1 out) (xI h);refine⟨d,λx=>?_⟩;rw [g x,xH];have hw:t.jh w.1=-1:=by
    rcases Classical.em (t.jh w.1=-1) with e|e
    ·exact e
    ·exact absurd e hw
   constructor
   ·rintro((h|h)|⟨h,w',b,e⟩)
    ·exact .inr ⟨by rw [h];exact hw,w,O,h.symm⟩
    ·exact .inl h
    ·exact .inr ⟨h,w',by simp [b],e⟩
   ·rintro(h|⟨h,w',b,e⟩)
    ·exact .inl (.inr h)
    ·rcases zak.1 b with i|b
     ·exact .inl (.inl (by rw [<-e,i]))
     ·exact .inr ⟨h,w',b,e⟩
def X0 {l d:List Int}(h:l.Pairwise (· < ·))(e:d.Pairwise (· < ·))(hm:∀x,x∈l↔x∈d):l=d:=by
 have n1:l.Nodup:=h.imp λh=>by omega
 have g:d.Nodup:=e.imp λh=>by omega
 exact((List.perm_ext_iff_of_nodup n1 g).2 hm).eq_of_pairwise (λa b _ _ i j=>V) h e
def alW {l:List Int}(h:l.Nodup):(srt [] l).Pairwise (· < ·)/\∀x,x∈srt [] l↔x∈l:=by
 obtain⟨d,e⟩:=vO l [] List.Pairwise.nil;rw [zaM] at d;have n:(srt [] l).Nodup:=d.nodup_iff.2 h;exact⟨e.imp₂ (λa b d e=>V) n,λx=>d.mem_iff⟩
def Uf.ready {t:Turns}{r:iH}(S:Uf t r)(h:Iw t):r.ready=t.ready (srt [] (t.wait.map (·.1))):=by
 obtain⟨k,m⟩:=Dj r r.wait [] List.Pairwise.nil;obtain⟨k1,o⟩:=alW h.wk;refine X0 k (k1.filter _) λx=>?_;show x∈r.wait.foldl (λout w=>if r.jh w.1≠-1 then out else mX w.1 out) []↔x∈(srt [] (t.wait.map (·.1))).filter λaj=>!t.owned aj && !(t.ws aj).isEmpty;rw [m x,zbp,o];have g:t.owned x=false↔r.jh x=-1:=by
  rw [<-S.owner];have:=h.owned x;cases i:t.owned x
  ·simp only [i,zai,false_iff,ne_eq,Decidable.not_not] at this;simp [this]
  ·simp only [i,true_iff] at this;simp [this]
 have hw:(t.ws x).isEmpty=false↔∃w∈r.wait,w.1=x:=by
  rw [S.waits];unfold iH.waits;constructor
  ·intro j;cases e:r.wait.filter λw=>decide (w.1=x) with
   |nil=>rw [e] at j;cases j
   |cons a l=>
    have:a∈r.wait.filter λw=>decide (w.1=x):=by rw [e];simp
    rw [zbp] at this;exact⟨a,this.1,by simpa using this.2⟩
  ·rintro⟨w,d,b⟩;have:w∈r.wait.filter λw=>decide (w.1=x):=zbp.2 ⟨d,by simp [b]⟩;cases e:r.wait.filter λw=>decide (w.1=x) with
   |nil=>rw [e] at this;cases this
   |cons a l=>rfl
 simp only [zaA,false_or,zah,za7];constructor
 ·rintro⟨d,b⟩;refine⟨?_,g.2 d,hw.2 b⟩;have:=hw.2 b;unfold Turns.ws at this;cases ha:jE t.wait x with
  |none=>rw [ha] at this;cases this
  |some v=>exact zaJ.2 ⟨_,mY ha,rfl⟩
 ·rintro⟨_,d,b⟩;exact⟨g.1 d,hw.1 b⟩
structure KR(c:Cfg)(me:Int)(h:Home)(r:iD):Prop where
 dK:∀aj,lJ c me aj=true->∃row,jE h.dK aj=some row/\r.dK[aj.toNat]?=some row
 none:∀aj,lJ c me aj=false->jE h.dK aj=none
 aT:Uf h.aT r.aT
structure Y2(c:Cfg)(me:Int)(h:Home):Prop where
 aT:Iw h.aT
 here:∀e∈h.aT.wait,lJ c me e.1=true
def KR.row {c:Cfg}{me:Int}{h:Home}{r:iD}(S:KR c me h r){aj:Int}(b:lJ c me aj=true):r.row aj=jr h.dK aj:=by
 obtain⟨row,d,e⟩:=S.dK aj b;unfold iD.row jr;rw [d,zas,e];first|done|rfl
def KR.granted {c:Cfg}{me:Int}{h:Home}{r:iD}(S:KR c me h r){aj:Int}(b:lJ c me aj=true)(who id:Int):r.granted me aj who id=Proofs.YtljogojaihgdlaaGreat.granted h.dK me aj who id:=by
 unfold iD.granted Proofs.YtljogojaihgdlaaGreat.granted;rw [S.row b]
def KR.Iy {c:Cfg}{me:Int}{h:Home}{r:iD}(S:KR c me h r){t:Turns}{b:iH}(T:Uf t b):KR c me { h with aT:=t } { r with aT:=b }:=⟨S.dK,S.none,T⟩
def VR {t:Turns}{aj who id:Int}{e:Int × List (Int × Int)}(h:e∈(t.ask aj who id).1.wait):e.1=aj∨e∈t.wait:=by
 unfold Turns.ask at h;split at h
 ·exact .inr h
 ·split at h
  ·rcases mZ h with rfl|h
   ·exact .inl rfl
   ·exact .inr h
  ·exact .inr h
def Em {t:Turns}{aj who:Int}:(t.release aj who).1.wait=t.wait:=by
 unfold Turns.release;split <;> rfl
def QJ {t:Turns}{aj:Int}{e:Int × List (Int × Int)}(h:e∈(t.next aj).1.wait):e∈t.wait∨(e.1=aj/\t.ws aj≠[]):=by
 unfold Turns.next at h
 split at h
 ·exact .inl h
 ·split at h
  ·exact .inl h
  ·rename_i w ws hw;rcases mZ h with rfl|h
   ·exact .inr ⟨rfl,by rw [hw];simp⟩
   ·exact .inl h
def A8 {c:Cfg}(hc:c.ok=true){me aj:Int}(h0:0<=aj):(c.bf aj≠me∨c.aY<=aj)↔lJ c me aj=false:=by
 have b:c.bf aj=aj % c.aF:=by unfold Cfg.bf yZ;rw [if_neg V]
 unfold lJ;rw [b];constructor
 ·rintro(h|h)
  ·simp [h]
  ·have:¬aj<c.aY:=V
   simp [this]
 ·intro h;simp only [zc1,decide_eq_false_iff_not] at h;rcases h with(h|h)|h
  ·omega
  ·right;omega
  ·exact .inl h
def KR.set {c:Cfg}{me:Int}{h:Home}{r:iD}(S:KR c me h r)(aj aW head:Int)(data:List Int):
  (r.pz c me aj aW head data).2=(iP c h.dK aj aW head data).2/\KR c me { h with dK:=(iP c h.dK aj aW head data).1 } (r.pz c me aj aW head data).1/\(r.pz c me aj aW head data).1.aT=r.aT:=by
 unfold iD.pz iP;by_cases b:lJ c me aj=true
 ·obtain⟨row,q,k⟩:=S.dK aj b;rw [if_neg (by rw [b];simp),q];simp only;by_cases d:aW<0∨2<aW∨head < -1∨c.aF<=head
  ·rw [if_pos (by rcases d with h|h|h|h <;> simp [h]),if_pos d];exact⟨rfl,S,rfl⟩
  ·rw [if_neg d];have o:(aW<0∨2<aW∨head < -1∨c.aF<=head∨¬(aW=0↔head=-1)∨(data≠[]/\(data.length:Int)≠c.bI))↔((decide (head=-1) !=decide (aW=0)) || (decide (data≠[]) && decide ((data.length:Int)≠c.bI)))=true:=by
    simp only [not_or] at d;simp only [d.1,d.2.1,d.2.2.1,d.2.2.2,false_or,zbk,zah,decide_eq_true_eq,bne_iff_ne,ne_eq,decide_eq_decide];constructor
    ·rintro(h|h)
     ·exact .inl λe=>h e.symm
     ·exact .inr h
    ·rintro(h|h)
     ·exact .inl λe=>h e.symm
     ·exact .inr h
   by_cases i:((decide (head=-1) !=decide (aW=0)) || (decide (data≠[]) && decide ((data.length:Int)≠c.bI)))=true
   ·rw [if_pos (o.2 i),if_pos i];exact⟨rfl,S,rfl⟩
   ·rw [if_neg λe=>i (o.1 e),if_neg i];refine⟨rfl,⟨λm hm=>?_,λm hm=>?_,S.aT⟩,rfl⟩
    ·obtain⟨g,k1,u⟩:=S.dK m hm;have w:0<=aj:=by simp only [lJ,zah,decide_eq_true_eq] at b;exact b.1.1
     have v:0<=m:=by simp only [lJ,zah,decide_eq_true_eq] at hm;exact hm.1.1
     simp only;rw [iI];by_cases p:aj=m
     ·subst p;rw [if_pos rfl];refine⟨_,rfl,?_⟩;have j:=(zaf.1 k).1;rw [zbc j];have:r.row aj=row:=by unfold iD.row;rw [zas,k];rfl
      rw [this]
     ·rw [if_neg p,zbl V];exact⟨g,k1,u⟩
    ·simp only;rw [iI,if_neg λe=>by subst e;rw [b] at hm;cases hm];exact S.none m hm
 ·have b:lJ c me aj=false:=by simpa using b
  rw [if_pos b,S.none aj b];exact⟨rfl,S,rfl⟩
def KR.handle {c:Cfg}(hc:c.ok=true){me:Int}{h:Home}{r:iD}(S:KR c me h r)(I:Y2 c me h)(p:Pkt):
  KR c me (h.handle c me p).1 (r.handle c me p).1/\(r.handle c me p).2=(h.handle c me p).2/\Y2 c me (h.handle c me p).1:=by
 unfold Home.handle iD.handle;by_cases d:p.ok=false∨p.dst≠me∨c.aF<=p.src∨(p.aS≠1/\p.aS≠2)
 ·rw [if_pos d,if_pos (by
   rcases d with h|h|h|h
   ·simp [h]
   ·simp [h]
   ·have:¬p.src<c.aF:=V
    simp [this]
   ·simp [h])]
  exact⟨S,rfl,I⟩
 rw [if_neg d,if_neg (by
  simp only [not_or] at d;obtain⟨m,u,L,A⟩:=d;have C:p.src<c.aF:=V
  have m:p.ok=true:=by simpa using m
  simp only [ne_eq,Decidable.not_not] at u;simp only [m,u,C,decide_true,zcj,zae,zbI,zah,decide_eq_true_eq];exact A)]
 simp only [not_or] at d;have i:p.ok=true:=by simpa using d.1
 have j:0<=p.aj:=by
  simp only [Pkt.ok,zah,decide_eq_true_eq] at i;omega
 have o:0<=p.src:=by
  simp only [Pkt.ok,zah,decide_eq_true_eq] at i;omega
 by_cases b:lJ c me p.aj=false
 ·rw [if_pos b,if_pos ((A8 hc j).2 b)];exact⟨S,rfl,I⟩
 rw [if_neg b,if_neg λe=>b ((A8 hc j).1 e)];have b:lJ c me p.aj=true:=by simpa using b
 by_cases hk:p.aS=1
 ·rw [if_pos hk,if_pos hk];obtain⟨v,D,w⟩:=S.aT.ask I.aT p.aj p.src p.id;have y:∀e∈(h.aT.ask p.aj p.src p.id).1.wait,lJ c me e.1=true:=λe k=>by
   rcases VR k with h|h
   ·rw [h];exact b
   ·exact I.here e h
  simp only [D];split
  ·exact⟨S.Iy v,by simp only;rw [S.granted b],⟨w,y⟩⟩
  ·exact⟨S.Iy v,rfl,⟨w,y⟩⟩
 rw [if_neg hk,if_neg hk];unfold Home.unlock;generalize (if p.flag=true then p.data else [])=dat;by_cases g:h.aT.owner p.aj≠p.src
 ·simp only [if_pos g,if_pos (show r.aT.jh p.aj≠p.src by rw [<-S.aT.owner];exact g)];exact⟨S,rfl,I⟩
 ·simp only [if_neg g,if_neg (show¬r.aT.jh p.aj≠p.src by rw [<-S.aT.owner];exact g)];have g:h.aT.owner p.aj=p.src:=by simpa using g
  obtain⟨E,z,F⟩:=S.set p.aj p.aW p.ptr dat;obtain⟨G,H,K⟩:=S.aT.release I.aT g o;have q:(h.aT.release p.aj p.src).1.wait=h.aT.wait:=Em;rw [E];by_cases k:(iP c h.dK p.aj p.aW p.ptr dat).2=0
  ·simp only [if_pos k,H,if_true];refine⟨⟨z.dK,z.none,?_⟩,by first|trivial|rfl,⟨K,by rw [q];exact I.here⟩⟩;simp only;rw [F];exact G
  ·simp only [if_neg k];exact⟨S,by first|trivial|rfl,I⟩
def KR.ready {c:Cfg}{me:Int}{h:Home}{r:iD}(S:KR c me h r)(I:Y2 c me h):r.aT.ready=h.ready:=S.aT.ready I.aT
def xJ {h:Home}{aj:Int}{l:List Int}(d:h.ready=aj::l):h.aT.owned aj=false/\h.aT.ws aj≠[]/\aj∈h.aT.wait.map (·.1):=by
 have:aj∈h.ready:=by rw [d];simp
 unfold Home.ready Turns.ready at this;rw [zbp] at this;obtain⟨g,b⟩:=this;simp only [zah,za7] at b;refine⟨b.1,λe=>by rw [e] at b;exact absurd b.2 O,?_⟩;have:=(vO (h.aT.wait.map (·.1)) [] List.Pairwise.nil).1;rw [zaM] at this;exact this.mem_iff.1 g
def KR.grant {c:Cfg}{me:Int}{h:Home}{r:iD}(S:KR c me h r)(I:Y2 c me h):
  KR c me (h.grant me).1 (r.grant me).1/\(r.grant me).2.1=(h.grant me).2.1/\Y2 c me (h.grant me).1:=by
 unfold Home.grant iD.grant;rw [S.ready I];cases hr:h.ready with
 |nil=>exact⟨S,rfl,I⟩
 |cons aj l=>
  obtain⟨m1,m2,m3⟩:=xJ hr;obtain⟨t1,t2,t3⟩:=S.aT.next I.aT aj
  have hh:lJ c me aj=true:=by
   obtain⟨e,he,rfl⟩:=zaJ.1 m3;exact I.here e he
  have Nw:∀e∈(h.aT.next aj).1.wait,lJ c me e.1=true:=λe he=>by
   rcases QJ he with h|h
   ·exact I.here e h
   ·rw [h.1];exact hh
  obtain⟨w,hw⟩:∃w,(h.aT.next aj).2=some w:=by
   unfold Turns.next
   rw [if_neg (by rw [m1];simp)];cases hws:h.aT.ws aj with
   |nil=>exact absurd hws m2
   |cons w ws=>exact⟨w,rfl⟩
  simp only;cases ha:h.aT.next aj with
  |mk t o=>
   cases hb:r.aT.next aj with
   |mk rt ro=>
    rw [ha,hb] at t1 t2;rw [ha] at t3 Nw hw;simp only at t1 t2 t3 Nw hw;subst t2;subst hw;simp only [zaw];exact⟨S.Iy t1,S.granted hh _ _,⟨t3,Nw⟩⟩
def En(d:bJ)(bF:Int)(c:Cache)(p:Pkt):Nxt:=
 if d.aS=1 then dY d bF c p else if d.aS=2 then dZ d bF c p else if d.aS=3 then eG d c p else wM c
def I64(z:Int):Prop:=-9223372036854775808<=z/\z<=9223372036854775807
def alX(z:Int):I64 (w64 z):=by
 show -9223372036854775808<=IntKind.wrap .i64 z/\IntKind.wrap .i64 z<=9223372036854775807;simp only [IntKind.wrap,IntKind.bits,IntKind.signed];simp;split <;> constructor <;> omega
def qA(c:Cfg)(d:List Int):Prop:=(d.length:Int)=c.bI/\∀v∈d,I64 v
structure yR(c:Cfg)(p:Pkt):Prop where
 ok:p.ok=true
 dat:p.aS=7∨p.aS=9->qA c p.data
 num:∀v∈p.data,I64 v
structure KT(c:Cfg)(p:Port):Prop where
 rq:(p.rq.length:Int)<=c.out
 an:(p.an.length:Int)<=c.out
 rin:(p.rin.length:Int)<=c.inn
 ain:(p.ain.length:Int)<=1
 pkt:∀q,q∈p.rq∨q∈p.an∨q∈p.rin∨q∈p.ain->yR c q
structure wO(c:Cfg)(f:Fab):Prop where
 out:f.out=c.out
 inn:f.inn=c.inn
 len:(f.l.length:Int)=c.aF
 port:∀p∈f.l,KT c p
def mF {c:Cfg}(h:c.ok=true):(1<=c.aF/\c.aF<=6)/\(1<=c.aY/\c.aY<=8)/\(1<=c.bI/\c.bI<=4)/\(1<=c.sets/\c.sets<=4)/\(1<=c.ways/\c.ways<=3)/\(1<=c.out/\c.out<=8)/\(1<=c.inn/\c.inn<=8):=by
 unfold Cfg.ok at h;simp only [zah,decide_eq_true_eq] at h;omega
def wO.get {c:Cfg}{f:Fab}(F:wO c f){i:Int}(h:f.is i=true):KT c (f.port i):=by
 unfold Fab.is at h;simp only [zah,decide_eq_true_eq] at h;have hi:i.toNat<f.l.length:=V
 unfold Fab.port;rw [zas,zab hi,zaw];exact F.port _ (zc2 hi)
def wO.put {c:Cfg}{f:Fab}(F:wO c f)(i:Int){p:Port}(h:KT c p):wO c (f.put i p):=by
 refine⟨F.out,F.inn,by simp only [Fab.put,zcf];exact F.len,λq b=>?_⟩;simp only [Fab.put] at b;rcases zbV b with b|b
 ·exact F.port q b
 ·rw [b];exact h
def wO.send {c:Cfg}{f:Fab}(F:wO c f){p:Pkt}(e:p.ok=true->yR c p):wO c (f.send p).1:=by
 unfold Fab.send;split
 ·exact F
 ·rename_i h;simp only [zbk,za7,not_or,zcy] at h;obtain⟨⟨g,i⟩,j⟩:=h;have P:=F.get i;have Q:=e g;split
  ·exact F
  ·rename_i d;refine F.put _ ?_;rw [F.out] at d;cases hk:qR p.aS with
   |true=>
    rw [hk] at d;simp only [Port.sort,if_true] at d;refine⟨?_,P.an,P.rin,P.ain,λq b=>?_⟩
    ·simp only [Port.kR,Port.sort,if_true,zaq,zam,zao];omega
    ·simp only [Port.kR,Port.sort,if_true,zaO,zaU] at b;rcases b with(b|b)|b
     ·exact P.pkt q (.inl b)
     ·rw [b];exact Q
     ·exact P.pkt q (.inr b)
   |false=>
    rw [hk] at d;simp only [Port.sort,zai,if_false] at d;refine⟨P.rq,?_,P.rin,P.ain,λq b=>?_⟩
    ·simp only [Port.kR,Port.sort,zai,if_false,zaq,zam,zao];omega
    ·simp only [Port.kR,Port.sort,zai,if_false,zaO,zaU] at b;rcases b with b|(b|b)|b
     ·exact P.pkt q (.inl b)
     ·exact P.pkt q (.inr (.inl b))
     ·rw [b];exact Q
     ·exact P.pkt q (.inr (.inr b))
def wO.take {c:Cfg}{f:Fab}(F:wO c f)(i:Int)(req:Bool):wO c (f.take i req).1/\∀p,(f.take i req).2=some p->yR c p:=by
 unfold Fab.take;split
 ·rename_i h;have P:=F.get h;cases d:(f.port i).ql req with
  |nil=>exact⟨F,λp e=>by cases e⟩
  |cons p l=>
   simp only;cases req with
   |true=>
    simp only [Port.ql,if_true] at d;have g:=P.rin;rw [d] at g;simp only [zam] at g;refine⟨F.put _ ⟨P.rq,P.an,?_,P.ain,λq b=>?_⟩,λp' e=>?_⟩
    ·simp only [Port.lI,if_true];omega
    ·simp only [Port.lI,if_true] at b;rcases b with b|b|b|b
     ·exact P.pkt q (.inl b)
     ·exact P.pkt q (.inr (.inl b))
     ·exact P.pkt q (.inr (.inr (.inl (by rw [d];simp [b]))))
     ·exact P.pkt q (.inr (.inr (.inr b)))
    ·cases e;exact P.pkt _ (.inr (.inr (.inl (by rw [d];simp))))
   |false=>
    simp only [Port.ql,zai,if_false] at d;have g:=P.ain;rw [d] at g;simp only [zam] at g;refine⟨F.put _ ⟨P.rq,P.an,P.rin,?_,λq b=>?_⟩,λp' e=>?_⟩
    ·simp only [Port.lI,zai,if_false];omega
    ·simp only [Port.lI,zai,if_false] at b;rcases b with b|b|b|b
     ·exact P.pkt q (.inl b)
     ·exact P.pkt q (.inr (.inl b))
     ·exact P.pkt q (.inr (.inr (.inl b)))
     ·exact P.pkt q (.inr (.inr (.inr (by rw [d];simp [b]))))
    ·cases e;exact P.pkt _ (.inr (.inr (.inr (by rw [d];simp))))
 ·exact⟨F,λp e=>by cases e⟩
def wO.room {c:Cfg}{f:Fab}(F:wO c f)(i:Int)(req:Bool):0<=f.roomOf i req:=by
 unfold Fab.roomOf;split
 ·rename_i h;have P:=F.get h;have b:=P.rq;have d:=P.an;rw [F.out];cases req <;> simp only [Port.sort,if_true,zai,if_false] <;> omega
 ·exact za6 _
def Ba {α:Type}{l:List α}{i:Nat}{a:α}(h:a∈l.eraseIdx i):a∈l:=(zcX l i).subset h
def KT.drop {c:Cfg}{p:Port}(P:KT c p)(req:Bool)(k:Nat):KT c (p.drop req k):=by
 have d:∀(l:List Pkt),((l.eraseIdx k).length:Int)<=l.length:=λl=>by
  have:=(zcX l k).length_le;omega
 cases req with
 |true=>
  refine⟨?_,P.an,P.rin,P.ain,λq b=>?_⟩
  ·have:=d p.rq;have:=P.rq;simp only [Port.drop,Port.kR,Port.sort,if_true];omega
  ·simp only [Port.drop,Port.kR,Port.sort,if_true] at b;rcases b with b|b
   ·exact P.pkt q (.inl (Ba b))
   ·exact P.pkt q (.inr b)
 |false=>
  refine⟨P.rq,?_,P.rin,P.ain,λq b=>?_⟩
  ·have:=d p.an;have:=P.an;simp only [Port.drop,Port.kR,Port.sort,zai,if_false];omega
  ·simp only [Port.drop,Port.kR,Port.sort,zai,if_false] at b;rcases b with b|b|b
   ·exact P.pkt q (.inl b)
   ·exact P.pkt q (.inr (.inl (Ba b)))
   ·exact P.pkt q (.inr (.inr b))
def QK:∀(l:List Port) (i k:Nat) {j:Nat} {req:Bool} {k':Nat},AO l i k=some (j,req,k')->i<=j/\j<i+l.length
 |[],i,k,j,req,k',h=>by cases h
 |p::l,i,k,j,req,k',h=>by
  simp only [AO] at h;split at h
  ·cases h;simp
  ·split at h
   ·cases h;simp
   ·have:=QK l (i+1) _ h;simp only [zam];omega
def wO.remove {c:Cfg}{f:Fab}(F:wO c f)(k:Nat):wO c (f.remove k):=by
 unfold Fab.remove;split
 ·rename_i i req k' h;have hi:=QK _ _ _ h;refine F.put _ ((F.get ?_).drop _ _);unfold Fab.is;simp only [zah,decide_eq_true_eq];omega
 ·exact F
def wO.pkt {c:Cfg}{f:Fab}(F:wO c f){p:Pkt}(h:p∈f.all):yR c p:=by
 unfold Fab.all at h;obtain⟨q,d,b⟩:=zaY.1 h;rcases zaO.1 b with b|b
 ·exact(F.port q d).pkt p (.inl b)
 ·exact(F.port q d).pkt p (.inr (.inl b))
def wO.deliver {c:Cfg}{f:Fab}(F:wO c f)(at_ bit mask:Int):wO c (f.deliver at_ bit mask).1:=by
 unfold Fab.deliver;split
 ·exact F
 split
 ·exact F
 ·rename_i p g;have Q:=F.pkt (zan g);split
  ·exact F
  split
  ·exact F
  ·rename_i d;refine wO.remove ?_ _;by_cases h:f.is p.dst=true
   ·have P:=F.get h;refine F.put _ ?_;cases hk:qR p.aS with
    |true=>
     rw [hk] at d;simp only [Fab.room,Port.ql,if_true,F.inn] at d;refine⟨P.rq,P.an,?_,P.ain,λq b=>?_⟩
     ·simp only [Port.lI,Port.ql,if_true,zaq,zam,zao];omega
     ·simp only [Port.lI,Port.ql,if_true,zaO,zaU] at b;rcases b with b|b|(b|b)|b
      ·exact P.pkt q (.inl b)
      ·exact P.pkt q (.inr (.inl b))
      ·exact P.pkt q (.inr (.inr (.inl b)))
      ·rw [b];exact Q
      ·exact P.pkt q (.inr (.inr (.inr b)))
    |false=>
     rw [hk] at d;simp only [Fab.room,Port.ql,zai,if_false] at d;refine⟨P.rq,P.an,P.rin,?_,λq b=>?_⟩
     ·simp only [Port.lI,Port.ql,zai,if_false,zaq,zam,zao];omega
     ·simp only [Port.lI,Port.ql,zai,if_false,zaO,zaU] at b;rcases b with b|b|b|(b|b)
      ·exact P.pkt q (.inl b)
      ·exact P.pkt q (.inr (.inl b))
      ·exact P.pkt q (.inr (.inr (.inl b)))
      ·exact P.pkt q (.inr (.inr (.inr b)))
      ·rw [b];exact Q
   ·-- no such bF:nothing is put
    have i:f.l.length<=p.dst.toNat:=by
     have e:=Q.ok;simp only [Pkt.ok,zah,decide_eq_true_eq] at e;simp only [Fab.is,zah,decide_eq_true_eq] at h;omega
    unfold Fab.put;rw [List.set_eq_of_length_le i];exact⟨F.out,F.inn,F.len,F.port⟩
structure aqN(c:Cfg)(k:Int)(e:Ent):Prop where
 lo:0<=e.aj
 hi:e.aj<c.aY
 used:e.used<=k
 u0:0<=e.used
 dat:qA c e.data
structure Fp(c:Cfg)(ca:Cache):Prop where
 sets:ca.sets=c.sets
 ways:ca.ways=c.ways
 aY:Lines ca.l
 ad4:Ir ca.l
 ent:∀e∈ca.l,aqN c ca.dh e
 room:∀aj,((ca.pz aj).length:Int)<=ca.ways
 aiF:0<=ca.dh
structure alY(c:Cfg)(n:Node):Prop where
 eH:n.bQ.eH=true
 op:∃o,n.bQ.cur=some o/\c.bV o.addr=n.aI.aj/\(n.aI.aS=1->o.aS=1)/\(n.aI.aS=2->o.aS=2∨o.aS=3)
 full:n.aH.full n.aI.aj=false
structure agE(c:Cfg)(n:Node):Prop where
 lo:0<=n.aI.aj
 hi:n.aI.aj<c.aY
 aS:1<=n.aI.aS/\n.aI.aS<=3
 dat:n.aI.data=[]∨qA c n.aI.data
 aiG:n.aI.aS=2->n.aI.step=3->qA c n.aI.data
 roll:n.aI.aS=3->n.bQ.eH=true
 work:n.aI.aS≠3->n.aI.step≠6->alY c n
 rest:n.aI.aS≠3->n.aI.step=6->n.bQ.eH=false
structure ap3(c:Cfg)(p:Proc):Prop where
 most:p.ops.length<=24
 right:∀o∈p.ops,c.right o=true/\I64 o.value
 vals:p.bH.length<=p.ops.length
 eH:p.eH=true->p.bH.length<p.ops.length
structure X3(c:Cfg)(me:Int)(n:Node):Prop where
 bQ:ap3 c n.bQ
 aH:Fp c n.aH
 dK:∀e∈n.home.dK,qA c e.2.data
 home:Y2 c me n.home
 aI:n.aI.step≠0->agE c n
 clk:n.aH.dh<=n.bQ.bH.length
def aaf {l:List Ent}{f:Ent->Ent}(h:Ir l)(d:∀x∈l,(f x).used=x.used):Ir (l.map f):=by
 unfold Ir;rw [zcx];exact h.imp_of_mem λha hb b=>by rw [d _ ha,d _ hb];exact b
def Bc {l:List Ent}{f:Ent->Ent}(h:Lines l)(d:∀x∈l,(f x).aj=x.aj):Lines (l.map f):=by
 unfold Lines;rw [zcx];exact h.imp_of_mem λha hb b=>by rw [d _ ha,d _ hb];exact b
def Bf(ca:Cache)(aj:Int){q:Ent->Bool}:(({ ca with l:=ca.l.filter q }:Cache).pz aj).length<=(ca.pz aj).length:=by
 unfold Cache.pz;rw [zdH];have:(ca.l.filter λe=>(decide (0<=aj) && decide (e.aj.tmod ca.sets=aj.tmod ca.sets)) && q e)=((ca.l.filter λe=>decide (0<=aj) && decide (e.aj.tmod ca.sets=aj.tmod ca.sets))).filter q:=by
  rw [zdH]
  apply zdh
  intro x _;rw [Bool.and_comm]
 rw [this];exact zcv _ _
def Iz(ca:Cache)(aj k:Int){f:Ent->Ent}(b:∀x∈ca.l,(f x).aj=x.aj):(({ ca with l:=ca.l.map f,dh:=k }:Cache).pz aj).length=(ca.pz aj).length:=by
 unfold Cache.pz;rw [List.filter_map,zaE]
 congr 1
 apply zdh
 intro y d;simp only [Function.comp,b y d]
def Fp.put {c:Cfg}{ca:Cache}(I:Fp c ca){e:Ent}(h0:0<=e.aj)(j:e.aj<c.aY)(hd:qA c e.data):Fp c (ca.put e).1:=by
 cases i:ca.find e.aj with
 |some x=>
  obtain⟨k,m⟩:=(iL I.aY).1 i;rw [mD I.aY h0 i];refine⟨I.sets,I.ways,Bc I.aY λy _=>?_,aaf I.ad4 λy g=>?_,λy g=>?_,λaj=>?_,I.aiF⟩
  ·split
   ·rename_i h;exact h.symm
   ·rfl
  ·split
   ·rename_i h;rw [I.aY.inj g k (by rw [h,m])]
   ·rfl
  ·obtain⟨z,q,rfl⟩:=zaJ.1 g;split
   ·exact⟨h0,j,(I.ent x k).used,(I.ent x k).u0,hd⟩
   ·exact I.ent z q
  ·have:=Iz ca aj ca.dh (f:=λy=>if y.aj=e.aj then { e with used:=x.used } else y) (λy _=>by
    split
    ·rename_i h;exact h.symm
    ·rfl)
   have o:=I.room aj;rw [<-this] at o;exact o
 |none=>
  unfold Cache.put;rw [if_neg V,zU.2 i];simp only;split
  ·exact I
  ·rename_i d;have u:=uF.1 (show(ca.l.find? λx=>decide (x.aj=e.aj))=none from i);refine⟨I.sets,I.ways,?_,?_,λy g=>?_,λaj=>?_,by have:=I.aiF;simp only;omega⟩
   ·unfold Lines;rw [List.pairwise_append];exact⟨I.aY,O,λa ha b hb=>by rw [zaU.1 hb];exact u a ha⟩
   ·unfold Ir;rw [List.pairwise_append];refine⟨I.ad4,O,λa ha b hb=>?_⟩;rw [zaU.1 hb];have:=(I.ent a ha).used;simp only;omega
   ·rcases zaO.1 g with g|g
    ·have:=I.ent y g;exact⟨this.lo,this.hi,by have:=this.used;simp only;omega,this.u0,this.dat⟩
    ·rw [zaU.1 g];exact⟨h0,j,by simp only;omega,by have:=I.aiF;simp only;omega,hd⟩
   ·simp only [Cache.full,i,zcO,zaN,decide_eq_true_eq] at d;have p:=I.room aj;unfold Cache.pz at d p ⊢;simp only [zcq,zaq];by_cases hs:(decide (0<=aj) && decide (e.aj.tmod ca.sets=aj.tmod ca.sets))=true
    ·simp only [zah,decide_eq_true_eq] at hs;have:(ca.l.filter λx=>decide (0<=aj) && decide (x.aj.tmod ca.sets=aj.tmod ca.sets))=ca.l.filter λx=>decide (0<=e.aj) && decide (x.aj.tmod ca.sets=e.aj.tmod ca.sets):=by
      apply zdh
      intro x _;rw [hs.2];simp [hs.1,h0]
     rw [this];have j:(([({ e with used:=ca.dh+1 }:Ent)].filter λx=>decide (0<=aj) && decide (x.aj.tmod ca.sets=aj.tmod ca.sets)).length)<=1:=zcv _ _;omega
    ·have:([({ e with used:=ca.dh+1 }:Ent)].filter λx=>decide (0<=aj) && decide (x.aj.tmod ca.sets=aj.tmod ca.sets))=[]:=by
      simp only [zbX,List.filter_nil];rw [if_neg hs]
     rw [this];simp only [zao,zbu];exact p
def Fp.drop {c:Cfg}{ca:Cache}(I:Fp c ca)(b:Int):Fp c (ca.drop b):=by
 rw [Ip I.aY];refine⟨I.sets,I.ways,I.aY.filter _,I.ad4.filter _,λe d=>I.ent e (zbp.1 d).1,λaj=>?_,I.aiF⟩;have:=I.room aj;have g:(({ ca with l:=ca.l.filter λx=>decide (x.aj≠b) }:Cache).pz aj).length<=(ca.pz aj).length:=Bf _ _;simp only at g ⊢;omega
def Fp.touch {c:Cfg}{ca:Cache}(I:Fp c ca){aj:Int}{e:Ent}(h:ca.find aj=some e):Fp c (ca.touch aj):=by
 obtain⟨he,hl⟩:=(iL I.aY).1 h;rw [yw I.aY h];refine⟨I.sets,I.ways,Bc I.aY λy _=>?_,?_,λy hy=>?_,λline'=>?_,by have:=I.aiF;simp only;omega⟩
 ·split
  ·rename_i h;rw [h];exact hl
  ·rfl
 ·unfold Ir;rw [zcx];refine(I.aY.and I.ad4).imp_of_mem λ{a b} ha hb hab=>?_;have ua:=(I.ent a ha).used;have ub:=(I.ent b hb).used;split <;> split
  ·rename_i h1 h2;exact absurd (by rw [h1,h2]) hab.1
  ·simp only;omega
  ·simp only;omega
  ·exact hab.2
 ·obtain⟨z,hz,rfl⟩:=zaJ.1 hy;split
  ·have:=I.ent e he;exact⟨this.lo,this.hi,by simp only;omega,by have:=I.aiF;simp only;omega,this.dat⟩
  ·have:=I.ent z hz;exact⟨this.lo,this.hi,by have:=this.used;simp only;omega,this.u0,this.dat⟩
 ·have:=Iz ca line' (ca.dh+1) (f:=λx=>if x.aj=aj then { e with used:=ca.dh+1 } else x) (λy _=>by
   split
   ·rename_i h;rw [h];exact hl
   ·rfl)
  have h2:=I.room line';rw [<-this] at h2;exact h2
def ad5 {ca:Cache}(hl:Lines ca.l){e x:Ent}(h0:0<=e.aj)(hf:ca.find e.aj=some x)(aj:Int):(ca.put e).1.full aj=ca.full aj:=by
 obtain⟨hx,hxl⟩:=(iL hl).1 hf;rw [mD hl h0 hf];have hm:∀y∈ca.l,(if y.aj=e.aj then { e with used:=x.used } else y).aj=y.aj:=λy _=>by
  split
  ·rename_i h;exact h.symm
  ·rfl
 have h1:({ ca with l:=ca.l.map λy=>if y.aj=e.aj then { e with used:=x.used } else y }:Cache).find aj=none↔ca.find aj=none:=by
  unfold Cache.find;rw [uF,uF];constructor
  ·intro h y hy;have:=h _ (zaJ.2 ⟨y,hy,rfl⟩)
   rwa [hm y hy] at this
  ·intro h y hy;obtain⟨z,hz,rfl⟩:=zaJ.1 hy;rw [hm z hz];exact h z hz
 have h2:(({ ca with l:=ca.l.map λy=>if y.aj=e.aj then { e with used:=x.used } else y }:Cache).pz aj).length=(ca.pz aj).length:=by
  unfold Cache.pz;rw [List.filter_map,zaE]
  congr 1
  apply zdh
  intro y hy;simp only [Function.comp,hm y hy]
 unfold Cache.full;rw [h2]
 congr 1
 cases ha:ca.find aj with
 |none=>rw [h1.2 ha]
 |some u=>
  cases hb:({ ca with l:=ca.l.map λy=>if y.aj=e.aj then { e with used:=x.used } else y }:Cache).find aj with
  |none=>rw [h1.1 hb] at ha;cases ha
  |some v=>rfl
def Bg {α:Type}{p q:α->Bool}:∀{l:List α},(∀x∈l,q x=true->p x=true)->∀{a:α},a∈l->p a=true->q a=false->(l.filter q).length<(l.filter p).length
 |[],_,a,h,_,_=>by cases h
 |x::l,hs,a,h,j,k=>by
  have d:∀{l:List α},(∀x∈l,q x=true->p x=true)->(l.filter q).length<=(l.filter p).length:=by
   intro l hs
   induction l with
   |nil=>simp
   |cons y l g=>
    have:=g λz b=>hs z (by simp [b]);simp only [zbX];cases i:q y
    ·simp only [zai,if_false];split
     ·simp only [zam];omega
     ·exact this
    ·rw [hs y O i];simp only [if_true,zam];omega
  simp only [zbX];rcases zak.1 h with e|h
  ·subst e;rw [j,k];simp only [if_true,zai,if_false,zam];have:=d λz b=>hs z (za9 _ b);omega
  ·have g:=Bg (λz b=>hs z (za9 _ b)) h j k;cases i:q x
   ·simp only [zai,if_false];split
    ·simp only [zam];omega
    ·exact g
   ·rw [hs x O i];simp only [if_true,zam];omega
def aag {c:Cfg}(hc:c.ok=true){ca:Cache}(I:Fp c ca){b aj:Int}(h:ca.full aj=false):(ca.drop b).full aj=false:=by
 rw [Ip I.aY];unfold Cache.full at h ⊢;have k:(({ ca with l:=ca.l.filter λx=>decide (x.aj≠b) }:Cache).pz aj).length<=(ca.pz aj).length:=Bf _ _;cases j:ca.find aj with
 |none=>
  rw [j] at h;simp only [zcO,zaN,decide_eq_false_iff_not] at h;simp only [zc1,decide_eq_false_iff_not];right;omega
 |some e=>
  obtain⟨d,g⟩:=(iL I.aY).1 j;by_cases i:aj=b
  ·subst i;simp only [zc1,decide_eq_false_iff_not];right;have o:=I.room aj;have p:=(I.ent e d).lo;have m:(({ ca with l:=ca.l.filter λx=>decide (x.aj≠aj) }:Cache).pz aj).length<(ca.pz aj).length:=by
    unfold Cache.pz;rw [zdH];refine Bg (λx _ h=>?_) d ?_ ?_
    ·simp only [zah] at h ⊢;exact h.1
    ·rw [g];simp;omega
    ·simp [g]
   omega
  ·have:({ ca with l:=ca.l.filter λx=>decide (x.aj≠b) }:Cache).find aj=some e:=by
    unfold Cache.find;rw [iL (I.aY.filter _)];refine⟨zbp.2 ⟨d,?_⟩,g⟩;simp only [decide_eq_true_eq];omega
   rw [this];rfl
abbrev By:=BitVec 8
abbrev S16:=BitVec 16
def shS(s:S16):S16:=(s <<< 1) ^^^ (if s.msb then 0x1021#16 else 0#16)
def shN:Nat->S16->S16
 |0,s=>s
 |n+1,s=>shN n (shS s)
def Y3(s:S16)(c:By):S16:=shN 8 (s ^^^ (c.setWidth 16 <<< 8))
def vP(s:S16)(l:List By):S16:=l.foldl Y3 s
def Y4(s:S16):By:=(s >>> 8).setWidth 8
def Y5(s:S16):By:=s.setWidth 8
def jV(l:List By):List By:=l++[Y4 (vP 0xffff#16 l),Y5 (vP 0xffff#16 l)]
def ad6:shS 0#16=0#16:=Z
def aah(s t:S16):shS (s ^^^ t)=shS s ^^^ shS t:=by
 unfold shS;rw [BitVec.msb_xor,BitVec.shiftLeft_xor_distrib];cases s.msb <;> cases t.msb <;> simp
 ·rw [zbA]
 ·rw [zbA,zbA,BitVec.xor_comm (t <<< 1)]
 ·rw [zbA,<-zbA 4129#16,BitVec.xor_comm 4129#16,zbA,zcP,zdw]
def ad7 {s:S16}(h:shS s=0#16):s=0#16:=by
 unfold shS at h;cases hm:s.msb with
 |true=>
  rw [hm] at h;have:=congrArg (λv:S16=>v.getLsbD 0) h;simp at this
 |false=>
  rw [hm] at h;simp only [zai,if_false,zdw] at h
  apply zck
  intro i hi;by_cases h15:i=15
  ·subst h15;have:s.getLsbD 15=s.msb:=by simp [BitVec.msb_eq_getLsbD_last]
   rw [this,hm];simp
  ·have:=congrArg (λv:S16=>v.getLsbD (i+1)) h;simp only [zcg,BitVec.getLsbD_zero] at this;have h1:i+1<16:=V
   simp [h1] at this
   simpa using this
def Ny:∀n,shN n 0#16=0#16
 |0=>rfl
 |n+1=>by rw [shN,ad6,Ny n]
def aai:∀n (s t:S16),shN n (s ^^^ t)=shN n s ^^^ shN n t
 |0,_,_=>rfl
 |n+1,s,t=>by rw [shN,aah,aai n];rfl
def Nz:∀n {s:S16},shN n s=0#16->s=0#16
 |0,_,h=>h
 |n+1,s,h=>ad7 (Nz n h)
def aky(b:Bool):S16:=if b then 0x8000#16 else 0#16
def Eo(s:S16)(b:Bool):S16:=shS (s ^^^ aky b)
def Ug:List Bool->S16
 |[]=>0#16
 |b::l=>aky b ^^^ (Ug l >>> 1)
def aiH:∀i:Fin 16,(0x8000#16).getLsbD i.val=decide (i.val=15):=Z
def ad8(b:Bool){i:Nat}(h:i<16):(aky b).getLsbD i=(b && decide (i=15)):=by
 unfold aky;cases b
 ·simp
 ·simp only [if_true,zaN];exact aiH ⟨i,h⟩
def Bh:∀(l:List Bool) (i:Nat),l.length<=16->i<16->(Ug l).getLsbD i=(l[15-i]?).getD false
 |[],i,_,_=>by simp [Ug]
 |b::l,i,h,hi=>by
  simp only [zam] at h;rw [Ug,BitVec.getLsbD_xor,zc5,ad8 b hi];by_cases d:i=15
  ·subst d;have:(Ug l).getLsbD (1+15)=false:=BitVec.getLsbD_of_ge _ _ V;rw [this];simp
  ·rw [Bh l (1+i) V V];have e:15-i=(15-(1+i))+1:=V
   rw [e,zbf];simp [d]
def yx:∀(l:List Bool) (s:S16),l.length<=16->l.foldl Eo s=shN l.length (s ^^^ Ug l)
 |[],s,_=>by simp [Ug,shN]
 |b::l,s,h=>by
  simp only [zam] at h;rw [zbT,yx l _ V];show shN l.length (Eo s b ^^^ Ug l)=shN l.length (shS (s ^^^ Ug (b::l)))
  congr 1
  rw [Ug,<-zbA,aah];unfold Eo
  congr 1
  unfold shS;have hm:(Ug l >>> 1).msb=false:=by simp [BitVec.msb_ushiftRight]
  rw [hm];simp only [zai,if_false,zdw];have d:(Ug l).getLsbD 0=false:=by
   rw [Bh l 0 V V,zaG V];rfl
  apply zck
  intro i hi;rw [zcg,zc5];cases i with
  |zero=>rw [d];simp
  |succ i=>
   have e:1+(i+1-1)=i+1:=V
   have g:¬(i+1<1):=V
   rw [e];simp [hi,g]
def aaj {l:List Bool}(h:l.length<=16)(h0:Ug l=0#16):∀b∈l,b=false:=by
 intro b hb;obtain⟨k,hk,rfl⟩:=zc4.1 hb;have:=Bh l (15-k) h V;rw [h0,show 15-(15-k)=k by omega,zab hk] at this
 simpa using this.symm
def xK(c:By):List Bool:=[c.getLsbD 7,c.getLsbD 6,c.getLsbD 5,c.getLsbD 4,c.getLsbD 3,c.getLsbD 2,c.getLsbD 1,c.getLsbD 0]
def yS(l:List By):List Bool:=l.flatMap xK
def aak(c:By):Ug (xK c)=c.setWidth 16 <<< 8:=by
 apply zck
 intro i hi;rw [Bh _ _ (by simp [xK]) hi,zcg,BitVec.getLsbD_setWidth];rcases(show i=0∨i=1∨i=2∨i=3∨i=4∨i=5∨i=6∨i=7∨i=8∨i=9∨i=10∨i=11∨i=12∨i=13∨i=14∨i=15 by omega) with h|h|h|h|h|h|h|h|h|h|h|h|h|h|h|h <;> subst h <;> simp [xK]
def aal(s:S16)(c:By):Y3 s c=(xK c).foldl Eo s:=by
 rw [yx _ _ (by simp [xK]),aak];rfl
def Dk:∀(l:List By) (s:S16),vP s l=(yS l).foldl Eo s
 |[],s=>rfl
 |c::l,s=>by
  show vP (Y3 s c) l=_;rw [Dk l,aal];show _=(xK c++yS l).foldl Eo s;rw [zdi]
def sJ(l:List By):(yS l).length=8*l.length:=by
 unfold yS
 induction l with
 |nil=>rfl
 |cons c l b=>rw [zaD,zaq,b];simp [xK];omega
def QL(l:List By):vP 0xffff#16 (jV l)=0#16:=by
 unfold jV;obtain⟨s,hs⟩:∃s,s=vP 0xffff#16 l:=⟨_,rfl⟩
 rw [<-hs];unfold vP at hs ⊢;rw [zdi,<-hs];show vP s [Y4 s,Y5 s]=0#16;rw [Dk,yx _ _ (by rw [sJ];simp)];have:Ug (yS [Y4 s,Y5 s])=s:=by
  apply zck
  intro i hi;rw [Bh _ _ (by rw [sJ];simp) hi];have e:yS [Y4 s,Y5 s]=[s.getLsbD 15,s.getLsbD 14,s.getLsbD 13,s.getLsbD 12,s.getLsbD 11,s.getLsbD 10,s.getLsbD 9,s.getLsbD 8,s.getLsbD 7,s.getLsbD 6,s.getLsbD 5,s.getLsbD 4,s.getLsbD 3,s.getLsbD 2,s.getLsbD 1,s.getLsbD 0]:=by
   simp [yS,xK,Y4,Y5,zaD]
  rw [e];rcases(show i=0∨i=1∨i=2∨i=3∨i=4∨i=5∨i=6∨i=7∨i=8∨i=9∨i=10∨i=11∨i=12∨i=13∨i=14∨i=15 by omega) with h|h|h|h|h|h|h|h|h|h|h|h|h|h|h|h <;> subst h <;> rfl
 rw [this,zcP,Ny]
def X4(l m:List By):List By:=List.zipWith (· ^^^ ·) l m
def ad9(s t:S16)(c d:By):Y3 (s ^^^ t) (c ^^^ d)=Y3 s c ^^^ Y3 t d:=by
 unfold Y3;rw [<-aai]
 congr 1
 rw [BitVec.setWidth_xor,BitVec.shiftLeft_xor_distrib];rw [zbA,zbA]
 congr 1
 rw [<-zbA,<-zbA,BitVec.xor_comm t]
def QM:∀(l m:List By) (s t:S16),l.length=m.length->vP (s ^^^ t) (X4 l m)=vP s l ^^^ vP t m
 |[],[],s,t,_=>rfl
 |c::l,d::m,s,t,h=>by
  show vP (Y3 (s ^^^ t) (c ^^^ d)) (X4 l m)=vP (Y3 s c) l ^^^ vP (Y3 t d) m;rw [ad9,QM l m _ _ (by simpa using h)]
 |[],_::_,_,_,h=>by simp at h
 |_::_,[],_,_,h=>by simp at h
def Dl:∀(l:List Bool) (s:S16),(∀b∈l,b=false)->l.foldl Eo s=shN l.length s
 |[],s,_=>rfl
 |b::l,s,h=>by
  have hb:=h b O;subst hb;rw [zbT,Dl l _ λb hb=>h b (by simp [hb])];show shN l.length (shS (s ^^^ aky false))=shN l.length (shS s);simp [aky]
def X5 {B:List Bool}{a:Int}(h:∀(k:Nat),B[k]?=some true->a<=k/\(k:Int)<a+16)(h0:B.foldl Eo 0#16=0#16):∀b∈B,b=false:=by
 obtain⟨p,o⟩:∃p,p=a.toNat:=⟨_,rfl⟩
 have g:B=B.take p++((B.drop p).take 16++(B.drop p).drop 16):=by rw [zcu,zcu]
 have i:∀b∈B.take p,b=false:=by
  intro b hb;obtain⟨k,hk,rfl⟩:=zc4.1 hb;cases d:(B.take p)[k] with
  |false=>rfl
  |true=>
   have e:k<p:=by rw [zav] at hk;omega
   have:B[k]?=some true:=by
    rw [<-d,<-zab hk,zaC,if_pos e]
   have:=h k this;omega
 have j:∀b∈(B.drop p).drop 16,b=false:=by
  intro b hb;obtain⟨k,hk,rfl⟩:=zc4.1 hb;cases d:((B.drop p).drop 16)[k] with
  |false=>rfl
  |true=>
   have:B[p+(16+k)]?=some true:=by
    rw [<-d,<-zab hk,zaF,zaF]
   have:=h _ this;omega
 rw [g,zdi,zdi,Dl _ _ i,Ny,Dl _ _ j,yx _ _ (by rw [zav];omega),BitVec.zero_xor] at h0;have m:=aaj (by rw [zav];omega) (Nz _ (Nz _ h0));intro b hb;rw [g] at hb;rcases zaO.1 hb with hb|hb
 ·exact i b hb
 ·rcases zaO.1 hb with hb|hb
  ·exact m b hb
  ·exact j b hb
def aea {c d:By}(h:∀b∈xK (c ^^^ d),b=false):c=d:=by
 apply zck
 intro i hi;have key:(c ^^^ d).getLsbD i=false:=by
  apply h
  rcases(show i=0∨i=1∨i=2∨i=3∨i=4∨i=5∨i=6∨i=7 by omega) with h|h|h|h|h|h|h|h <;> subst h <;> simp [xK]
 rw [BitVec.getLsbD_xor] at key;cases e:c.getLsbD i <;> cases g:d.getLsbD i <;> simp [e,g] at key ⊢
def IB:∀{l m:List By},l.length=m.length->(∀b∈yS (X4 l m),b=false)->l=m
 |[],[],_,_=>rfl
 |c::l,d::m,h,hb=>by
  have e:yS (X4 (c::l) (d::m))=xK (c ^^^ d)++yS (X4 l m):=rfl;rw [e] at hb;rw [aea λb h=>hb b (zcC _ h),IB (by simpa using h) λb h=>hb b (zcY _ h)]
 |[],_::_,h,_=>by simp at h
 |_::_,[],h,_=>by simp at h
def Uh {x y:List By}{a:Int}(b:(jV x).length=(jV y).length)(h:∀(k:Nat),(yS (X4 (jV x) (jV y)))[k]?=some true->a<=k/\(k:Int)<a+16):jV x=jV y:=by
 refine IB b (X5 h ?_);rw [<-Dk];have:=QM (jV x) (jV y) 0xffff#16 0xffff#16 b;rw [zcP,QL,QL,zcP] at this;exact this
def agF(bit mask:Int)(k:Nat):Bool:=decide (0<=(k:Int)-bit) && decide ((k:Int)-bit<16) && mask.toNat.testBit (15-((k:Int)-bit).toNat)
def vS(bit mask:Int)(at_:Nat):By:=
 if 8*(at_:Int)-bit<=-8∨16<=8*(at_:Int)-bit then 0#8 else(((BitVec.ofNat 32 mask.toNat) <<< 8 <<< (8*(at_:Int)-bit+8).toNat) >>> 24).setWidth 8
def rD(bit mask:Int)(l:List By):List By:=l.mapIdx λi c=>c ^^^ vS bit mask i
def Ui {m k:Nat}(hm:m<=65535)(hk:16<=k):m.testBit k=false:=by
 apply Nat.testBit_lt_two_pow
 calc m<2 ^ 16:=V
  _<=2 ^ k:=Nat.pow_le_pow_right Z hk
def aam {bit mask:Int}(h0:0<=mask)(v:mask<=65535)(at_ j:Nat)(g:j<8):(vS bit mask at_).getLsbD j=agF bit mask (8*at_+(7-j)):=by
 unfold vS agF;obtain⟨y,i⟩:∃y:Int,y=8*(at_:Int)-bit:=⟨_,rfl⟩
 have hk:((8*at_+(7-j):Nat):Int)-bit=y+(7-(j:Int)):=V
 rw [<-i,hk];by_cases h:y<=-8∨16<=y
 ·rw [if_pos h];simp only [BitVec.getLsbD_zero];rcases h with h|h
  ·have:¬(0<=y+(7-(j:Int))):=V
   simp [this]
  ·have:¬(y+(7-(j:Int))<16):=V
   simp [this]
 ·rw [if_neg h];simp only [not_or] at h;obtain⟨n,k⟩:∃n:Nat,n=(y+8).toNat:=⟨_,rfl⟩
  rw [<-k];rw [BitVec.getLsbD_setWidth,zc5,zcg,zcg,BitVec.getLsbD_ofNat];have m:24+j<32:=V
  have o:¬(24+j<n):=V
  have p:24+j-n<32:=V
  by_cases b:24+j-n<8
  ·have:¬(y+(7-(j:Int))<16):=V
   simp [b,this]
  ·have q:24+j-n-8<32:=V
   have u:y+(7-(j:Int))<16:=V
   by_cases d:0<=y+(7-(j:Int))
   ·have e:24+j-n-8=15-(y+(7-(j:Int))).toNat:=V
    simp only [g,m,o,p,q,b,d,u,decide_true,decide_false,zal,zaN,zcj];rw [e]
   ·have:mask.toNat.testBit (24+j-n-8)=false:=Ui V V;simp [this,d]
def jw(bit mask:Int)(l:List By):(rD bit mask l).length=l.length:=by simp [rD]
def aan(c:By)(j:Nat)(b:j<8):(xK c)[j]?=some (c.getLsbD (7-j)):=by
 rcases(show j=0∨j=1∨j=2∨j=3∨j=4∨j=5∨j=6∨j=7 by omega) with h|h|h|h|h|h|h|h <;> subst h <;> rfl
def IC:∀(l:List By) (k:Nat),(yS l)[k]?=(l[k / 8]?).map λc=>c.getLsbD (7-k % 8)
 |[],k=>by simp [yS]
 |c::l,k=>by
  have b:yS (c::l)=xK c++yS l:=rfl;rw [b];by_cases h:k<8
  ·rw [zaI (by simp [xK];exact h),aan c k h,show k / 8=0 by omega,show k % 8=k by omega];rfl
  ·rw [za3 (by simp [xK];omega)];have:(xK c).length=8:=rfl;rw [this,IC l (k-8),show k / 8=(k-8) / 8+1 by omega,show k % 8=(k-8) % 8 by omega];rfl
def Dn {bit mask:Int}(h0:0<=mask)(b:mask<=65535)(l:List By)(k:Nat)(hk:k<8*l.length):(yS (X4 l (rD bit mask l)))[k]?=some (agF bit mask k):=by
 rw [IC];have hi:k / 8<l.length:=V
 have:(X4 l (rD bit mask l))[k / 8]?=some (vS bit mask (k / 8)):=by
  unfold X4 rD;rw [List.getElem?_zipWith,zbd,zab hi];simp only [zaj]
  congr 1
  rw [<-zbA,zcP,BitVec.zero_xor]
 rw [this,zaj,aam h0 b _ _ V]
 congr 2
 omega
def QN {n:Nat}{bit mask:Int}:aT n bit mask=true↔∃k:Nat,k<8*n/\agF bit mask k=true:=by
 unfold aT;rw [zcG];constructor
 ·rintro⟨i,hi,h⟩;rw [zaZ] at hi;simp only [zah,decide_eq_true_eq] at h;obtain⟨⟨a,b⟩,c⟩:=h;refine⟨(bit+i).toNat,V,?_⟩;unfold agF;have e:(((bit+i).toNat:Nat):Int)-bit=i:=V
  rw [e];simp only [zah,decide_eq_true_eq];refine⟨⟨V,V⟩,?_⟩;rw [zar,zdr];rw [zcE] at a
  simpa using a
 ·rintro⟨k,hk,h⟩;unfold agF at h;simp only [zah,decide_eq_true_eq] at h;obtain⟨⟨a,b⟩,c⟩:=h;refine⟨((k:Int)-bit).toNat,zaZ.2 V,?_⟩;simp only [zah,decide_eq_true_eq];refine⟨⟨?_,V⟩,V⟩;rw [zdr] at c;rw [zcE]
  simpa using c
def X6 {bit mask:Int}(h0:0<=mask)(d:mask<=65535){l:List By}(h:aT l.length bit mask=false):rD bit mask l=l:=by
 have e:l.length=(rD bit mask l).length:=(jw _ _ _).symm;refine(IB e λb hb=>?_).symm;obtain⟨k,hk,rfl⟩:=zc4.1 hb;have b:k<8*l.length:=by
  rw [sJ] at hk;unfold X4 at hk;rw [List.length_zipWith] at hk;omega
 have:=Dn (bit:=bit) h0 d l k b;rw [zab hk,zaa] at this;rw [this];cases g:agF bit mask k with
 |false=>rfl
 |true=>
  have:=QN.2 ⟨k,b,g⟩;rw [h] at this;cases this
def Uj {bit mask:Int}(h0:0<=mask)(g:mask<=65535){x y:List By}(h:aT (jV x).length bit mask=true):rD bit mask (jV x)≠jV y:=by
 intro e;have j:(jV x).length=(jV y).length:=by rw [<-e,jw]
 have hs:=Uh (a:=bit) j λk hk=>by
  rw [<-e] at hk;have d:k<8*(jV x).length:=by
   have b:=(zaf.1 hk).1;rw [sJ] at b;unfold X4 at b;rw [List.length_zipWith] at b;omega
  rw [Dn h0 g _ k d] at hk;simp only [zaa] at hk;unfold agF at hk;simp only [zah,decide_eq_true_eq] at hk;omega
 obtain⟨k,hk,m⟩:=QN.1 h;have:=Dn (bit:=bit) h0 g (jV x) k hk;rw [e,<-hs,m,IC] at this;have o:∀l:List By,X4 l l=l.map λ_=>0#8:=by
  intro l
  induction l with
  |nil=>rfl
  |cons c l p=>
   show(c ^^^ c)::X4 l l=_;rw [p,zcP];rfl
 rw [o,zaH] at this;cases i:(jV x)[k / 8]? with
 |none=>rw [i] at this;cases this
 |some c=>rw [i] at this;simp at this
def by8(n:Int):By:=BitVec.ofInt 8 n
def rU(n:Int):List By:=[by8 (n.fdiv (2 ^ 56)),by8 (n.fdiv (2 ^ 48)),by8 (n.fdiv (2 ^ 40)),by8 (n.fdiv (2 ^ 32)),by8 (n.fdiv (2 ^ 24)),by8 (n.fdiv (2 ^ 16)),by8 (n.fdiv (2 ^ 8)),by8 (n.fdiv (2 ^ 0))]
def fM(p:Pkt):List By:=[by8 p.aS,by8 p.src,by8 p.dst,by8 (p.id.fdiv 256),by8 p.id,by8 p.aj,by8 (p.ptr+1),by8 p.aW,by8 (if p.flag then 1 else 0),by8 p.data.length]++p.data.flatMap rU
def tK(p:Pkt):List By:=jV (fM p)
def jS(n:Int):(rU n).length=8:=rfl
def sK(p:Pkt):(tK p).length=p.bytes:=by
 unfold tK jV fM Pkt.bytes;rw [zaq,zaq,dJ NC];simp;omega
where
 NC:∀n,(rU n).length=8:=λ_=>rfl
 dJ {α β:Type} {f:α->List β} {m:Nat} (h:∀a,(f a).length=m):∀{l:List α},(l.flatMap f).length=l.length*m:=by
  intro l
  induction l with
  |nil=>simp
  |cons a l b=>rw [zaD,zaq,h,b,zam,zbM];omega
section
variable {P:Program}{t:TypeId}{k k':IntKind}{a b n:Int}
def aao(h:0<=n):qm P .shl t (.s (.int k a)) (.s (.int k' n))=some (.s (.int k (k.wrap (a*2 ^ (min n.toNat k.bits))))):=by
 have:¬n<0:=V
 simp [qm,AV.val?,eqGuard,binOp,Op.shift,dD,this]
def Uk(h:0<=n):qm P .shr t (.s (.int k a)) (.s (.int k' n))=some (.s (.int k (a.fdiv (2 ^ (min n.toNat k.bits))))):=by
 have:¬n<0:=V
 simp [qm,AV.val?,eqGuard,binOp,Op.shift,dD,this]
def aiI:qm P .xor t (.s (.int k a)) (.s (.int k b))=some (.s (.int k (k.wrap (BitVec.ofInt k.bits a ^^^ BitVec.ofInt k.bits b).toNat))):=by
 simp [qm,AV.val?,eqGuard,binOp,Op.intBits,dD]
def agG:qm P .or t (.s (.int k a)) (.s (.int k b))=some (.s (.int k (k.wrap (BitVec.ofInt k.bits a ||| BitVec.ofInt k.bits b).toNat))):=by
 simp [qm,AV.val?,eqGuard,binOp,Op.intBits,dD]
end
def U(k:IntKind)(v:BitVec k.bits):AV:=.s (.int k (v.toNat:Int))
abbrev Y(c:By):AV:=U .u8 c
abbrev U16(s:S16):AV:=U .u16 s
abbrev U32(s:BitVec 32):AV:=U .u32 s
abbrev U64(s:BitVec 64):AV:=U .u64 s
def agH {k:IntKind}(hk:k.signed=false)(z:Int):k.wrap z=z % (2 ^ k.bits:Int):=by simp [IntKind.wrap,hk]
def Bj {k:IntKind}(hk:k.signed=false)(m:Nat):k.wrap (m:Int)=((BitVec.ofNat k.bits m).toNat:Int):=by
 rw [agH hk,zcs]
 norm_cast
def rE {w:Nat}(v:BitVec w):BitVec.ofInt w (v.toNat:Int)=v:=by
 rw [zdx,zdI,BitVec.setWidth_eq]
def VT {k:IntKind}(hk:k.signed=false)(v:BitVec k.bits):k.wrap (v.toNat:Int)=(v.toNat:Int):=by
 rw [Bj hk,zdI,BitVec.setWidth_eq]
section
variable {P:Program}{t:TypeId}{k k':IntKind}
def aiJ(hk:k.signed=false)(x y:BitVec k.bits):qm P .xor t (U k x) (U k y)=some (U k (x ^^^ y)):=by
 unfold U;rw [aiI,rE,rE,VT hk]
def atJ(hk:k.signed=false)(x y:BitVec k.bits):qm P .or t (U k x) (U k y)=some (U k (x ||| y)):=by
 unfold U;rw [agG,rE,rE,VT hk]
def aap(hk:k.signed=false)(x:BitVec k.bits)(n:Int)(h0:0<=n)(h:n<=k.bits):qm P .shl t (U k x) (.s (.int k' n))=some (U k (x <<< n.toNat)):=by
 unfold U;rw [aao h0,show min n.toNat k.bits=n.toNat by omega];have:((x.toNat:Int)*2 ^ n.toNat)=((x.toNat*2 ^ n.toNat:Nat):Int):=by norm_cast
 rw [this,Bj hk,zcs,BitVec.toNat_shiftLeft,zds]
def aiK(x:BitVec k.bits)(n:Int)(h0:0<=n)(h:n<=k.bits):qm P .shr t (U k x) (.s (.int k' n))=some (U k (x >>> n.toNat)):=by
 unfold U;rw [Uk h0,show min n.toNat k.bits=n.toNat by omega,BitVec.toNat_ushiftRight,zcE];have:(2:Int) ^ n.toNat=((2 ^ n.toNat:Nat):Int):=by norm_cast
 rw [this,zb7 _ (Int.natCast_nonneg _)]
 norm_cast
def aqO(hk:k.signed=false)(x y:BitVec k.bits):qm P .mul t (U k x) (U k y)=some (U k (x*y)):=by
 unfold U;rw [jg];have:((x.toNat:Int)*y.toNat)=((x.toNat*y.toNat:Nat):Int):=by norm_cast
 rw [this,Bj hk,zcs,BitVec.toNat_mul]
def alZ(hk:k'.signed=false)(x:BitVec k.bits):(AV.s (.int k' (k'.wrap (x.toNat:Int))))=U k' (x.setWidth k'.bits):=by
 unfold U;rw [Bj hk,zdI]
end
def aeb(l:List By):(l.map Y).all AV.aP=true:=by
 rw [za2];intro x b;obtain⟨c,_,rfl⟩:=zaJ.1 b;rfl
def yOf:AV->Option By
 |.s (.int .u8 n)=>if 0<=n/\n<256 then some (BitVec.ofInt 8 n) else none
 |_=>none
def IE(x:AV)(H:ah):Option (List By):=
 match x with
 |.sl r g off b n _ _=>match H.get r with
  |.blk g' _ cells=>if b=1/\g'=g/\off+n<=cells.length/\0<n/\n<=800 then((cells.drop off).take n).mapM yOf else none
  |_=>none
 |_=>none
structure Pkt.fit(p:Pkt):Prop where
 ok:p.ok=true
 num:∀v∈p.data,I64 v
open Classical in
def Dq(args:List AV)(H:ah):Option (AV × ah):=
 match args with
 |[x]=>match IE x H with
  |some l=>if h:∃p:Pkt,p.fit/\tK p=l then some (.tup [.agg (Classical.choose h).av,I 0],H)
   else if(∀y,l≠jV y) then some (.tup [.agg Pkt.zero.av,I 2],H) else none
  |none=>none
 |_=>none
def aiL:List Nat:=[
 55,
 138,
 97,
 92,
 180,
 69,
 67,
 65,
 66,
 107,
 109,
 110,
 86,
 131,
 111,
 112,
 20,
 57,
 21,
 29,
 26,
 31,
 68,
 7,
 8,
 147,
 99,
 148,
 100,
 54,
 17,
 34,
 231,
 236,
 133,
 119,
 132,
 135,
 87,
 90,
 91,
 167,
 18,
 35,
 52,
 47,
 181,
 126,
 122,
 134,
 155,
 127,
 50,
 171,
 48,
 123,
 78,
 176,
 137,
 187,
 165,
 166,
 60,
 56,
 19,
 25,
 24,
 0]
def Ep:List Nat:=[
 186,
 0]
def KU:List Nat:=[
 0]
def aqP:Pol:=⟨λ_=>false,λ_=>none⟩
def cl0:aC:=callω Tryz.prog aqP
def aiM:List (Nat × (List AV->ah->Option (AV × ah))):=[
 (163,CY Ep KU),
 (120,cl0 120),
 (94,Dq),
 (93,cl0 93),
 (95,cl0 95),
 (0,λ_ _=>none)]
def pol:Pol:=⟨λf=>aiL.contains f,λf=>aiM.lookup f⟩
def cl:aC:=callω Tryz.prog pol
def VU(f:FuncId)(p:List AV->ah->Option (AV × ah)):Prop:=
 rQ Tryz.prog (λg b H=>if g=f then p b H else none)/\∀b H v H',p b H=some (v,H')->Keeps H H'
def aiN(f:FuncId):VU f (cl0 f):=by
 have hc:=callω_ok (P:=Tryz.prog) (L:=aqP) (λf p h=>by cases h) J;refine⟨λg args H v H' h=>?_,λargs H v H' h=>hc.2 f args H v H' h⟩;simp only at h;split at h
 ·rename_i e;subst e;exact hc.1 _ args H v H' h
 ·cases h
def iU {f:FuncId}{args:List AV}{H:ah}{r:AV × ah}(h:Ad Tryz.prog cl0 f args H=some r):cl0 f args H=some r:=afL rfl rfl h
def bC {f:FuncId}{args:List AV}{H:ah}{r:AV × ah}(b:pol.adi f=none)(d:pol.pure f=false)(h:Ad Tryz.prog cl f args H=some r):cl f args H=some r:=afL b d h
def iM {f:FuncId}{args:List AV}{H H1:ah}{v v':AV}(b:pol.adi f=none)(d:pol.pure f=true)(h:Ad Tryz.prog cl f args H.guard=some (v,H1))(e:bW H1 H.next 9 v=some v'):cl f args H=some (v',H):=aip b d h e
def kS {f:FuncId}{args:List AV}{H:ah}{v:AV}{Q:ah->Prop}{sh:Option (AV × ah)}(b:pol.adi f=none)(d:pol.pure f=false)(rn:∀{r},sh=some r->Ad Tryz.prog cl f args H=some r)(h:∃H',sh=some (v,H')/\Q H'):∃H',cl f args H=some (v,H')/\Q H':=by
 obtain⟨H',e,q⟩:=h;exact⟨H',bC b d (rn e),q⟩
def dw {f:FuncId}{args:List AV}{H:ah}{v:AV}{sh:Option (AV × ah)}(b:pol.adi f=none)(d:pol.pure f=true)(rn:∀{r},sh=some r->Ad Tryz.prog cl f args H.guard=some r)(h:sh.map Prod.fst=some v)(e:Frz 9 v):cl f args H=some (v,H):=by
 cases hs:sh with
 |none=>rw [hs] at h;cases h
 |some r=>
  rw [hs] at h;simp only [zaj,zaa] at h;subst h;exact iM b d (rn hs) (e _ _)
open Go.RowKit
structure Cho where
 do_:Int
 at_:Int
 bit:Int
 mask:Int
def Cho.av(c:Cho):List AV:=[I c.do_,I c.at_,I c.bit,.s (.int .u16 c.mask)]
end
end Go.Proofs.YtljogojaihgdlaaGreat
