/-
  Own work: an interpreter over named blocks, its soundness, and what the functions of this seat compute (part 3 of 11).
  Conditions: those of the statement alone.
-/
import Derived.Test.YtljogojaihgdlaaGreatProg
import Derived.KernelRfl
import Derived.ProofKit
import Derived.Below
import Derived.Test.YtljogojaihgdlaaGreatFb
set_option linter.all false
set_option linter.unusedSectionVars false
set_option linter.unusedVariables false
set_option linter.unusedSimpArgs false
namespace Go.Proofs.YtljogojaihgdlaaGreat
def Z{p:Prop}(h:p:=by kernel_rfl):p:=h
def ZD{p:Prop}(h:p:=by kernel_rfl):p:=h
def J{p:Prop}(h:p:=by decide):p:=h
def ZS{p:Prop}(h:p:=by decide):p:=h
noncomputable section
abbrev bi(op:BinOp)(t:TypeId)(x y:AV):Option AV:=qo Tryz.prog op t x y
abbrev un(op:UnOp)(x:AV):Option AV:=unA Tryz.prog op x
abbrev cv(s d:TypeId)(x:AV):AM AV:=jW Tryz.prog s d x
def stk:AM AV:=λ_=>none
abbrev bd(t:TypeId)(ps:List (Nat × AV)):Option AV:=iM Tryz.prog t ps
abbrev bs(t:TypeId)(n:Nat)(ps:List (Nat × AV)):AM AV:=dZ Tryz.prog t n ps
def Rn0(f:FuncId)(s:aC->ah->OA):Prop:=∀C H {r:AV × ah},s C H=some r->zq Tryz.prog C f [] H=some r
def Rn1(f:FuncId)(s:aC->AV->ah->OA):Prop:=∀C a0 H {r:AV × ah},s C a0 H=some r->zq Tryz.prog C f [a0] H=some r
def Rn2(f:FuncId)(s:aC->AV->AV->ah->OA):Prop:=∀C a0 a1 H {r:AV × ah},s C a0 a1 H=some r->zq Tryz.prog C f [a0,a1] H=some r
def Rn3(f:FuncId)(s:aC->AV->AV->AV->ah->OA):Prop:=∀C a0 a1 a2 H {r:AV × ah},s C a0 a1 a2 H=some r->zq Tryz.prog C f [a0,a1,a2] H=some r
def Rn4(f:FuncId)(s:aC->AV->AV->AV->AV->ah->OA):Prop:=∀C a0 a1 a2 a3 H {r:AV × ah},s C a0 a1 a2 a3 H=some r->zq Tryz.prog C f [a0,a1,a2,a3] H=some r
def Rn5(f:FuncId)(s:aC->AV->AV->AV->AV->AV->ah->OA):Prop:=∀C a0 a1 a2 a3 a4 H {r:AV × ah},s C a0 a1 a2 a3 a4 H=some r->zq Tryz.prog C f [a0,a1,a2,a3,a4] H=some r
def BJ {n:Nat}{ps:List (Nat × AV)}{H:ah}(h:n*1<=16777216):dZ Tryz.prog 22 n ps H=bsl 3 1 [zI] n ps H:=yA Z Z Z rfl h
def agY {n:Nat}{ps:List (Nat × AV)}{H:ah}(h:n*3<=16777216):dZ Tryz.prog 28 n ps H=bsl 53 3 [zI,zI,zI] n ps H:=yA Z Z Z rfl h
def ajj {n:Nat}{ps:List (Nat × AV)}{H:ah}(h:n*4<=16777216):dZ Tryz.prog 86 n ps H=bsl 85 4 [zI,zI,zB,zI] n ps H:=yA Z Z Z rfl h
def anZ {n:Nat}{ps:List (Nat × AV)}{H:ah}(h:n*4<=16777216):dZ Tryz.prog 91 n ps H=bsl 101 4 [zP,zP,zP,zP] n ps H:=yA Z Z Z rfl h
def ajk {n:Nat}{ps:List (Nat × AV)}{H:ah}(h:n*2<=16777216):dZ Tryz.prog 124 n ps H=bsl 99 2 [zP,zP] n ps H:=yA Z Z Z rfl h
def aez {n:Nat}{ps:List (Nat × AV)}{H:ah}(h:n*9<=16777216):dZ Tryz.prog 136 n ps H=bsl 112 9 [zI,zI,zI,zI,zI,zI,zI,zB,zN] n ps H:=yA Z Z Z rfl h
def aeA {n:Nat}{ps:List (Nat × AV)}{H:ah}(h:n*6<=16777216):dZ Tryz.prog 141 n ps H=bsl 166 6 [zI,zI,zI,zI,zB,zN] n ps H:=yA Z Z Z rfl h
def UM {n:Nat}{ps:List (Nat × AV)}{H:ah}(h:n*1<=16777216):dZ Tryz.prog 172 n ps H=bsl 5 1 [.s (.int .u8 0)] n ps H:=yA Z Z Z rfl h
def aeB {n:Nat}{ps:List (Nat × AV)}{H:ah}(h:n*2<=16777216):dZ Tryz.prog 256 n ps H=bsl 258 2 [zI,zI] n ps H:=yA Z Z Z rfl h
def ajl {n:Nat}{ps:List (Nat × AV)}{H:ah}(h:n*1<=16777216):dZ Tryz.prog 286 n ps H=bsl 172 1 [zN] n ps H:=yA Z Z Z rfl h
def agZ:Nat->Option (Nat × Nat)
 |0=>some (0,1)
 |1=>some (1,1)
 |2=>some (2,1)
 |3=>some (3,1)
 |4=>some (4,1)
 |5=>some (5,1)
 |6=>some (6,1)
 |7=>some (7,1)
 |_=>none
def ajm {ps:List (Nat × AV)}:iM Tryz.prog 26 ps=kG agZ [zI,zI,zI,zI,zI,zI,zI,zN] ps:=kS Z Tryz.underlying26 Z (by funext i;rcases i with _|_|_|_|_|_|_|_|i <;> kernel_rfl)
def ajn:Nat->Option (Nat × Nat)
 |0=>some (0,1)
 |_=>none
def an1 {ps:List (Nat × AV)}:iM Tryz.prog 42 ps=kG ajn [zP] ps:=kS Z Tryz.underlying42 Z (by funext i;rcases i with _|i <;> kernel_rfl)
def ajo:Nat->Option (Nat × Nat)
 |0=>some (0,1)
 |1=>some (1,1)
 |2=>some (2,1)
 |3=>some (3,1)
 |4=>some (4,1)
 |5=>some (5,1)
 |6=>some (6,1)
 |7=>some (7,1)
 |8=>some (8,1)
 |_=>none
def WH {ps:List (Nat × AV)}:iM Tryz.prog 44 ps=kG ajo [zI,zI,zI,zI,zI,zI,zN,zI,zI] ps:=kS Z Tryz.underlying44 Z (by funext i;rcases i with _|_|_|_|_|_|_|_|_|i <;> kernel_rfl)
def ajp:Nat->Option (Nat × Nat)
 |0=>some (0,1)
 |1=>some (1,1)
 |2=>some (2,8)
 |3=>some (10,1)
 |4=>some (11,1)
 |5=>some (12,9)
 |6=>some (21,1)
 |_=>none
def an2 {ps:List (Nat × AV)}:iM Tryz.prog 46 ps=kG ajp [zP,zP,zI,zI,zI,zI,zI,zI,zI,zN,zI,zP,zI,zI,zI,zI,zI,zI,zN,zI,zI,zI] ps:=kS Z Tryz.underlying46 Z (by funext i;rcases i with _|_|_|_|_|_|_|i <;> kernel_rfl)
def YM:Nat->Option (Nat × Nat)
 |0=>some (0,1)
 |1=>some (1,1)
 |2=>some (2,1)
 |_=>none
def YN {ps:List (Nat × AV)}:iM Tryz.prog 53 ps=kG YM [zI,zI,zI] ps:=kS Z Tryz.underlying53 Z (by funext i;rcases i with _|_|_|i <;> kernel_rfl)
def ag0:Nat->Option (Nat × Nat)
 |0=>some (0,1)
 |1=>some (1,1)
 |2=>some (2,1)
 |3=>some (3,1)
 |_=>none
def ajq {ps:List (Nat × AV)}:iM Tryz.prog 85 ps=kG ag0 [zI,zI,zB,zI] ps:=kS Z Tryz.underlying85 Z (by funext i;rcases i with _|_|_|_|i <;> kernel_rfl)
def an3:Nat->Option (Nat × Nat)
 |0=>some (0,1)
 |_=>none
def an4 {ps:List (Nat × AV)}:iM Tryz.prog 93 ps=kG an3 [zN] ps:=kS Z Tryz.underlying93 Z (by funext i;rcases i with _|i <;> kernel_rfl)
def ajr:Nat->Option (Nat × Nat)
 |0=>some (0,1)
 |1=>some (1,1)
 |_=>none
def ajs {ps:List (Nat × AV)}:iM Tryz.prog 99 ps=kG ajr [zP,zP] ps:=kS Z Tryz.underlying99 Z (by funext i;rcases i with _|_|i <;> kernel_rfl)
def aeC:Nat->Option (Nat × Nat)
 |0=>some (0,2)
 |1=>some (2,2)
 |_=>none
def ajt {ps:List (Nat × AV)}:iM Tryz.prog 101 ps=kG aeC [zP,zP,zP,zP] ps:=kS Z Tryz.underlying101 Z (by funext i;rcases i with _|_|i <;> kernel_rfl)
def aeD:Nat->Option (Nat × Nat)
 |0=>some (0,1)
 |_=>none
def aju {ps:List (Nat × AV)}:iM Tryz.prog 103 ps=kG aeD [zN] ps:=kS Z Tryz.underlying103 Z (by funext i;rcases i with _|i <;> kernel_rfl)
def aeE:Nat->Option (Nat × Nat)
 |0=>some (0,1)
 |1=>some (1,1)
 |2=>some (2,1)
 |_=>none
def ajv {ps:List (Nat × AV)}:iM Tryz.prog 108 ps=kG aeE [zN,zN,zB] ps:=kS Z Tryz.underlying108 Z (by funext i;rcases i with _|_|_|i <;> kernel_rfl)
def Gh:Nat->Option (Nat × Nat)
 |0=>some (0,1)
 |1=>some (1,1)
 |2=>some (2,1)
 |3=>some (3,1)
 |4=>some (4,1)
 |5=>some (5,1)
 |6=>some (6,1)
 |7=>some (7,1)
 |8=>some (8,1)
 |_=>none
def qB {ps:List (Nat × AV)}:iM Tryz.prog 112 ps=kG Gh [zI,zI,zI,zI,zI,zI,zI,zB,zN] ps:=kS Z Tryz.underlying112 Z (by funext i;rcases i with _|_|_|_|_|_|_|_|_|i <;> kernel_rfl)
def aeF:Nat->Option (Nat × Nat)
 |0=>some (0,1)
 |1=>some (1,1)
 |_=>none
def ajw {ps:List (Nat × AV)}:iM Tryz.prog 138 ps=kG aeF [zN,zI] ps:=kS Z Tryz.underlying138 Z (by funext i;rcases i with _|_|i <;> kernel_rfl)
def aeG:Nat->Option (Nat × Nat)
 |0=>some (0,1)
 |1=>some (1,1)
 |_=>none
def ajx {ps:List (Nat × AV)}:iM Tryz.prog 140 ps=kG aeG [zN,zI] ps:=kS Z Tryz.underlying140 Z (by funext i;rcases i with _|_|i <;> kernel_rfl)
def aeH:Nat->Option (Nat × Nat)
 |0=>some (0,1)
 |1=>some (1,1)
 |2=>some (2,1)
 |3=>some (3,1)
 |_=>none
def ajy {ps:List (Nat × AV)}:iM Tryz.prog 143 ps=kG aeH [zN,zI,zI,zI] ps:=kS Z Tryz.underlying143 Z (by funext i;rcases i with _|_|_|_|i <;> kernel_rfl)
def aeI:Nat->Option (Nat × Nat)
 |0=>some (0,1)
 |1=>some (1,1)
 |2=>some (2,8)
 |3=>some (10,1)
 |_=>none
def ajz {ps:List (Nat × AV)}:iM Tryz.prog 150 ps=kG aeI [zP,zP,zI,zI,zI,zI,zI,zI,zI,zN,zI] ps:=kS Z Tryz.underlying150 Z (by funext i;rcases i with _|_|_|_|i <;> kernel_rfl)
def aeJ:Nat->Option (Nat × Nat)
 |0=>some (0,1)
 |1=>some (1,1)
 |_=>none
def ajA {ps:List (Nat × AV)}:iM Tryz.prog 164 ps=kG aeJ [zI,zI] ps:=kS Z Tryz.underlying164 Z (by funext i;rcases i with _|_|i <;> kernel_rfl)
def aeK:Nat->Option (Nat × Nat)
 |0=>some (0,2)
 |1=>some (2,1)
 |2=>some (3,1)
 |3=>some (4,1)
 |4=>some (5,1)
 |_=>none
def aeL {ps:List (Nat × AV)}:iM Tryz.prog 166 ps=kG aeK [zI,zI,zI,zI,zB,zN] ps:=kS Z Tryz.underlying166 Z (by funext i;rcases i with _|_|_|_|_|i <;> kernel_rfl)
def aeM:Nat->Option (Nat × Nat)
 |0=>some (0,8)
 |1=>some (8,1)
 |_=>none
def ajB {ps:List (Nat × AV)}:iM Tryz.prog 196 ps=kG aeM [zI,zI,zI,zI,zI,zI,zI,zN,zM] ps:=kS Z Tryz.underlying196 Z (by funext i;rcases i with _|_|i <;> kernel_rfl)
def aeN:Nat->Option (Nat × Nat)
 |0=>some (0,1)
 |1=>some (1,1)
 |2=>some (2,1)
 |_=>none
def ajC {ps:List (Nat × AV)}:iM Tryz.prog 199 ps=kG aeN [zI,zI,zN] ps:=kS Z Tryz.underlying199 Z (by funext i;rcases i with _|_|_|i <;> kernel_rfl)
def aeO:Nat->Option (Nat × Nat)
 |0=>some (0,1)
 |1=>some (1,1)
 |_=>none
def ajD {ps:List (Nat × AV)}:iM Tryz.prog 203 ps=kG aeO [zM,zM] ps:=kS Z Tryz.underlying203 Z (by funext i;rcases i with _|_|i <;> kernel_rfl)
def aeP:Nat->Option (Nat × Nat)
 |0=>some (0,1)
 |1=>some (1,1)
 |_=>none
def ajE {ps:List (Nat × AV)}:iM Tryz.prog 258 ps=kG aeP [zI,zI] ps:=kS Z Tryz.underlying258 Z (by funext i;rcases i with _|_|i <;> kernel_rfl)
def aeQ {k:IntKind}{n:Int}{H:ah}:jW Tryz.prog 3 5 (.s (.int k n)) H=some (.s (.int .u8 (IntKind.wrap .u8 n)),H):=Dy Z Tryz.underlying3 Tryz.underlying5
def ajF {k:IntKind}{n:Int}{H:ah}:jW Tryz.prog 5 3 (.s (.int k n)) H=some (.s (.int .i64 (IntKind.wrap .i64 n)),H):=Dy Z Tryz.underlying5 Tryz.underlying3
def ag1 {k:IntKind}{n:Int}{H:ah}:jW Tryz.prog 5 50 (.s (.int k n)) H=some (.s (.int .u16 (IntKind.wrap .u16 n)),H):=Dy Z Tryz.underlying5 Tryz.underlying50
def acA {k:IntKind}{n:Int}{H:ah}:jW Tryz.prog 5 268 (.s (.int k n)) H=some (.s (.int .u64 (IntKind.wrap .u64 n)),H):=Dy Z Tryz.underlying5 Tryz.underlying268
def YO {k:IntKind}{n:Int}{H:ah}:jW Tryz.prog 50 5 (.s (.int k n)) H=some (.s (.int .u8 (IntKind.wrap .u8 n)),H):=Dy Z Tryz.underlying50 Tryz.underlying5
def YP {k:IntKind}{n:Int}{H:ah}:jW Tryz.prog 50 234 (.s (.int k n)) H=some (.s (.int .u32 (IntKind.wrap .u32 n)),H):=Dy Z Tryz.underlying50 Tryz.underlying234
def acB {k:IntKind}{n:Int}{H:ah}:jW Tryz.prog 234 5 (.s (.int k n)) H=some (.s (.int .u8 (IntKind.wrap .u8 n)),H):=Dy Z Tryz.underlying234 Tryz.underlying5
def acC {k:IntKind}{n:Int}{H:ah}:jW Tryz.prog 268 3 (.s (.int k n)) H=some (.s (.int .i64 (IntKind.wrap .i64 n)),H):=Dy Z Tryz.underlying268 Tryz.underlying3
inductive Cell where
 |av (x:AV)
 |seq (m:Nat) (cells:List AV)
 |map (k:IntKind) (es:List (Int × AV))
 |maps (k:IntKind) (m:Nat) (es:List (Int × List AV))
 |aeR (w m:Nat) (ls:List (List AV))
abbrev Tag:=Nat × Nat × Nat × Int
section
variable (b:Nat)(H:ah)(τ:Nat->Option Tag)
def OS(T:Tag)(x:AV)(m:Nat)(cells:List AV):Prop:=
 (x=zN/\cells=[])∨∃r g off n d ex e all,x=.sl r g off m n d ex/\τ r=some T/\b<=r/\r<H.next/\n<=d/\H.get r=.blk g e all/\off+d*m<=all.length/\all.all AV.aQ=true/\cells=(all.drop off).take (n*m)
def OM(T:Tag)(x:AV)(k:IntKind)(es:List (Int × AV)):Prop:=∃r,x=.mp r/\τ r=some T/\b<=r/\r<H.next/\H.get r=.map k es
def CR(q i:Nat):Cell->AV->Prop
 |.av x,y=>y=x
 |.seq m cells,y=>OS b H τ (q,i+1,0,0) y m cells
 |.map k e,y=>OM b H τ (q,i+1,0,0) y k e
 |.maps k m e,y=>∃d:List (Int × AV),OM b H τ (q,i+1,0,0) y k d/\d.map (·.1)=e.map (·.1)/\∀(j:Nat) n cells x,e[j]?=some (n,cells)->d[j]?=some (n,x)->OS b H τ (q,i+1,1,n) x m cells
 |.aeR w m ls,y=>∃xs:List AV,OS b H τ (q,i+1,0,0) y w xs/\xs.length=ls.length/\∀(j:Nat) cells x,ls[j]?=some cells->xs[j]?=some x->OS b H τ (q,i+1,1,(j:Int)) x m cells
structure aiO(q:Nat)(cs:List Cell):Prop where
 tag:τ q=some (q,0,0,0)
 lo:b<=q
 hi:q<H.next
 tyl:∀gg ty xs,H.get q=.blk gg ty xs->ty<gY
 blk:∃ty xs,H.get q=.blk 0 ty xs/\xs.length=cs.length/\xs.all AV.aQ=true/\∀(i:Nat) c x,cs[i]?=some c->xs[i]?=some x->CR b H τ q i c x
end
abbrev bF:=Nat->Option (List Cell)
def Good(b:Nat)(H:ah)(g:bF):Prop:=b<=H.next/\∃τ,∀q cs,g q=some cs->aiO b H τ q cs
def upd(g:bF)(q:Nat)(cs:List Cell):bF:=λx=>if x=q then some cs else g x
section
variable {b:Nat}{H H':ah}{g:bF}{q:Nat}{cs:List Cell}
def aW:upd g q cs q=some cs:=by simp [upd]
def bJ {x:Nat}(h:x≠q):upd g q cs x=g x:=by simp [upd,h]
def pz {b:List Cell}:upd (upd g q cs) q b=upd g q b:=by funext x;simp only [upd];split <;> rfl
def fK(h:g q=some cs):upd g q cs=g:=by
 funext x
 simp only [upd];split
 ·rename_i e;rw [e,h]
 ·rfl
def OS.keep {τ τ':Nat->Option Tag}{T:Tag}{x:AV}{m:Nat}{cells:List AV}(h:OS b H τ T x m cells)(z:H.next<=H'.next)(e:∀r,r<H.next->τ r=some T->τ' r=some T/\H'.get r=H.get r):OS b H' τ' T x m cells:=by
 rcases h with h|⟨r,g,off,n,d,ex,i,all,rfl,j,k,o,p,q,u,v,w⟩
 ·exact .inl h
 ·obtain⟨k1,y⟩:=e r o j;exact .inr ⟨r,g,off,n,d,ex,i,all,rfl,k1,k,V,p,by rw [y];exact q,u,v,w⟩
def OM.keep {τ τ':Nat->Option Tag}{T:Tag}{x:AV}{k:IntKind}{es:List (Int × AV)}(h:OM b H τ T x k es)(o:H.next<=H'.next)(d:∀r,r<H.next->τ r=some T->τ' r=some T/\H'.get r=H.get r):OM b H' τ' T x k es:=by
 obtain⟨r,rfl,e,g,i,j⟩:=h;obtain⟨k1,m⟩:=d r i e;exact⟨r,rfl,k1,g,V,by rw [m];exact j⟩
def CR.keep {τ τ':Nat->Option Tag}{i:Nat}:∀{c:Cell} {x:AV},CR b H τ q i c x->H.next<=H'.next->(∀r s t,r<H.next->τ r=some (q,i+1,s,t)->τ' r=some (q,i+1,s,t)/\H'.get r=H.get r)->CR b H' τ' q i c x
 |.av _,_,h,_,_=>h
 |.seq _ _,_,h,g,k=>OS.keep h g λr d e=>k r 0 0 d e
 |.map _ _,_,h,g,k=>OM.keep h g λr d e=>k r 0 0 d e
 |.maps _ _ _,_,⟨m,d,e,o⟩,g,k=>⟨m,d.keep g λr d e=>k r 0 0 d e,e,λj n cells x p u=>(o j n cells x p u).keep g λr d e=>k r 1 n d e⟩
 |.aeR _ _ _,_,⟨xs,d,e,o⟩,g,k=>⟨xs,d.keep g λr d e=>k r 0 0 d e,e,λj cells x p u=>(o j cells x p u).keep g λr d e=>k r 1 j d e⟩
def wH {ty:Nat}{xs:List AV}(h:H.get q=.blk 0 ty xs)(d:ty<gY):∀gg ty' b,H.get q=.blk gg ty' b->ty'<gY:=λ_ _ _ e=>by
 rw [h] at e;cases e;exact d
def aiO.keep {τ τ':Nat->Option Tag}(h:aiO b H τ q cs)(j:H.next<=H'.next)(e:∀r i s t,r<H.next->τ r=some (q,i,s,t)->τ' r=some (q,i,s,t)/\H'.get r=H.get r):aiO b H' τ' q cs:=by
 obtain⟨k1,g⟩:=e q 0 0 0 h.hi h.tag;obtain⟨k,xs,d,m,o,p⟩:=h.blk;exact⟨k1,h.lo,by have:=h.hi;omega,wH (by rw [g];exact d) (h.tyl _ _ _ d),k,xs,by rw [g];exact d,m,o,λi c x u v=>(p i c x u v).keep j λr s t w y=>e r (i+1) s t w y⟩
def Good.lt(G:Good b H g)(h:g q=some cs):q<H.next:=(G.2.choose_spec q cs h).hi
def Good.le(G:Good b H g)(h:g q=some cs):b<=q:=(G.2.choose_spec q cs h).lo
def Good.isNone(G:Good b H g)(h:H.next<=q):g q=none:=by
 cases d:g q with
 |none=>rfl
 |some cs=>have:=G.lt d;omega
def Good.ne(G:Good b H g)(h:g q=some cs):q≠H.next:=by have:=G.lt h;omega
def Good.ext(G:Good b H g)(d:H.next<=H'.next)(e:∀r,r<H.next->H'.get r=H.get r):Good b H' g:=by
 obtain⟨o,τ,h⟩:=G;exact⟨V,τ,λq cs j=>(h q cs j).keep d λr i s t k m=>⟨m,e r k⟩⟩
def Good.new(G:Good b H g)(o:fZ):Good b (H.new o) g:=G.ext (za0 _) λr d=>by rw [jh,if_neg V]
def Good.guard(G:Good b H g):Good b H.guard g:=G.ext (zac _) λ_ _=>rfl
def Good.sub(G:Good b H g){g':bF}(h:∀q cs,g' q=some cs->g q=some cs):Good b H g':=by
 obtain⟨d,τ,e⟩:=G;exact⟨d,τ,λq cs i=>e q cs (h q cs i)⟩
def Good.empty(H:ah):Good H.next H λ_=>none:=⟨zac _,λ_=>none,λ_ _ h=>by cases h⟩
def Good.empty' {b:Nat}(h:b<=H.next):Good b H λ_=>none:=⟨h,λ_=>none,λ_ _ h=>by cases h⟩
def Good.weak(G:Good b H g){e:Nat}(h:e<=b):Good e H g:=by
 obtain⟨h0,τ,L⟩:=G;have os:∀{T x m cells},OS b H τ T x m cells->OS e H τ T x m cells:=by
  intro T x m cells o;rcases o with o|⟨r,g,off,n,p,ex,u,all,v,w,M,y⟩
  ·exact .inl o
  ·exact .inr ⟨r,g,off,n,p,ex,u,all,v,w,V,y⟩
 have K:∀{T x k z},OM b H τ T x k z->OM e H τ T x k z:=by
  intro T x k z ⟨r,v,w,M,y⟩;exact⟨r,v,w,V,y⟩
 refine⟨V,τ,λq cs Q=>?_⟩;have R:=L q cs Q;obtain⟨u,xs,k1,W,X,k4⟩:=R.blk;refine⟨R.tag,by have:=R.lo;omega,R.hi,R.tyl,u,xs,k1,W,X,λi c x hc d=>?_⟩;have:=k4 i c x hc d;cases c with
 |av _=>exact this
 |seq _ _=>exact os this
 |map _ _=>exact K this
 |maps _ _ _=>
  obtain⟨A,C,D,E⟩:=this;exact⟨A,K C,D,λj n cells x F d=>os (E j n cells x F d)⟩
 |aeR _ _ _=>
  obtain⟨ys,C,D,E⟩:=this;exact⟨ys,os C,D,λj cells x F d=>os (E j cells x F d)⟩
structure Step(b:Nat)(H H':ah):Prop where
 base:H'.base=H.base
 next:H.next<=H'.next
 low:∀r,r<b->H'.get r=H.get r
def Step.refl(b:Nat)(H:ah):Step b H H:=⟨rfl,zac _,λ_ _=>rfl⟩
def Step.trans {b:Nat}{H H' H'':ah}(s:Step b H H')(t:Step b H' H''):Step b H H'':=⟨t.base.trans s.base,zax s.next t.next,λr hr=>by rw [t.low r hr,s.low r hr]⟩
def Step.new {b:Nat}{H:ah}(o:fZ)(h:b<=H.next):Step b H (H.new o):=⟨rfl,za0 _,λr hr=>by rw [jh,if_neg V]⟩
def Step.put {b:Nat}{H:ah}{r:Nat}(o:fZ)(h:b<=r):Step b H (H.put r o):=⟨rfl,zac _,λx d=>by rw [dM,if_neg V]⟩
def Good.newObj(G:Good b H g){ty:TypeId}{xs:List AV}(hc:xs.all AV.aQ=true)(ht:ty<gY:=by decide):Good b (H.new (.blk 0 ty xs)) (upd g H.next (xs.map .av)):=by
 obtain⟨h0,τ,h⟩:=G;refine⟨by rw [Es];omega,λr=>if r=H.next then some (r,0,0,0) else τ r,λq cs hq=>?_⟩;by_cases hqn:q=H.next
 ·subst hqn;rw [aW] at hq;cases hq;refine⟨O,h0,by rw [Es];omega,wH (xs:=xs) (by simp [jh]) ht,ty,xs,by simp [jh],O,hc,λi c x hci hx=>?_⟩;rw [zaI,hx] at hci;simp only [zak,zaa] at hci;subst hci;exact rfl
 ·rw [bJ hqn] at hq;have R:=h q cs hq;exact R.keep (H':=H.new (.blk 0 ty xs)) (za0 _) λr i s t hr ht=>⟨by rw [if_neg V];exact ht,by rw [jh,if_neg V]⟩
def fD {r off g:Nat}{ty:TypeId}{xs:List AV}(h:H.get r=.blk g ty xs):ld (.ref r g off) H=(xs[off]?).map λv=>(v,H):=by
 simp only [ld,ku,bT,zak,ldO,h,if_true]
def gJ {r off g n:Nat}{ty:TypeId}{xs:List AV}(h:H.get r=.blk g ty xs)(b:off+n<=xs.length):lda n (.ref r g off) H=some (.agg ((xs.drop off).take n),H):=by
 simp only [lda,ku,bT,zak,anu,h,if_true,b]
def ajG {cells:List AV}:ld (.ip cells) H=(cells[0]?).map λv=>(v,H):=by simp only [ld,ku,ldO]
def ajH {cells:List AV}{n:Nat}(h:n<=cells.length):lda n (.ip cells) H=some (.agg (cells.take n),H):=by
 simp only [lda,ku,anu,zaW,h,if_true,zaQ,zak]
def Good.load(G:Good b H g)(h:g q=some cs){i:Nat}{x:AV}(hi:cs[i]?=some (.av x)):ld (.ref q 0 i) H=some (x,H):=by
 obtain⟨_,τ,hR⟩:=G;obtain⟨ty,xs,h1,h2,h3,h4⟩:=(hR q cs h).blk;rw [fD h1];have hlt:i<xs.length:=by rw [h2];exact(zai.1 hi).1
 have hx:xs[i]?=some (xs[i]'hlt):=zab hlt;have:=h4 i _ _ hi hx;simp only [CR] at this;rw [hx,this];rfl
def Good.loads(G:Good b H g)(h:g q=some cs){i n:Nat}{xs:List AV}(hi:(cs.drop i).take n=xs.map .av)(hn:xs.length=n)(hp:0<n):lda n (.ref q 0 i) H=some (.agg xs,H):=by
 obtain⟨_,τ,hR⟩:=G;obtain⟨ty,ys,h1,h2,h3,h4⟩:=(hR q cs h).blk;have hl:=congrArg List.length hi;simp only [zat,zaO,zaB] at hl
 ·rw [gJ h1 V]
  congr 2
  congr 1
  apply zbd
  intro j;rcases zaT j n with hj|hj
  ·have hx:xs[j]?=some (xs[j]' V):=zab _;have hc:cs[i+j]?=some (.av (xs[j]' V)):=by
    have:=congrArg (λl=>l[j]?) hi;simp only [zaC,hj,if_true,zaF,zaI,hx,zak] at this;exact this
   have hlt:i+j<ys.length:=V
   have hy:ys[i+j]?=some (ys[i+j]'hlt):=zab hlt;have:=h4 _ _ _ hc hy;simp only [CR] at this;rw [zaC,if_pos hj,zaF,hy,this,hx]
  ·rw [zaC,if_neg V,zaH V]
end
def aN(H:ah)(x:AV)(m n:Nat)(cells:List AV):Prop:=
 cells.length=n*m/\
 match x with
 |.sl r g off d len e _=>d=m/\len=n/\(r<H.next/\len<=e)/\∃h all,H.get r=.blk g h all/\off+n*m<=all.length/\cells=(all.drop off).take (n*m)
 |.vs k d cs=>d=m/\k=n/\cs=cells
 |.s (.slice none a b)=>a=0/\b=0/\n=0
 |_=>False
def eG(x:AV)(i:Nat):AV:=
 match x with
 |.sl r g off b _ _ _=>.ref r g (off+i*b)
 |.vs _ b cs=>.ip (cs.drop (i*b))
 |_=>bf
section
variable {P:Program}{H:ah}{x:AV}{m n:Nat}{cells:List AV}
def aN.aQ(h:aN H x m n cells):x.aQ=true:=by
 obtain⟨_,h⟩:=h;cases x with
 |s v=>cases v <;> first|rfl|exact h.elim
 |_=>first|rfl|exact h.elim
def aN.len(h:aN H x m n cells){t e:TypeId}(d:zx P t=some e):aiV P t x H=some (.s (.int .i64 n),H):=by
 obtain⟨_,h⟩:=h;unfold zx at d;split at d <;> first|(cases d;done)|skip
 rename_i p i;unfold aiV ku anm;cases x with
 |sl r g off j len o ex=>simp only [i];rw [h.2.1];rfl
 |vs k j cs=>simp only [i];rw [h.2.1];rfl
 |s v=>
  cases v with
  |slice a b c=>
   cases a with
   |none=>simp only [i];rw [h.2.2,h.1];rfl
   |some a=>exact h.elim
  |_=>exact h.elim
 |_=>exact h.elim
def aN.wI(h:aN H x m n cells):jV x=some n/\cO H x=some cells:=by
 obtain⟨p,h⟩:=h;cases x with
 |sl r g off d len e ex=>
  obtain⟨rfl,rfl,_,q,all,i,j,o⟩:=h;refine⟨rfl,?_⟩;simp only [cO,i];rw [if_pos ⟨trivial,j⟩,o]
 |vs k d cs=>obtain⟨rfl,rfl,rfl⟩:=h;exact⟨rfl,rfl⟩
 |s v=>
  cases v with
  |slice a b c=>
   cases a with
   |none=>
    obtain⟨rfl,rfl,rfl⟩:=h;refine⟨rfl,?_⟩;have:cells=[]:=zas V;rw [this];rfl
   |some a=>exact h.elim
  |_=>exact h.elim
 |_=>exact h.elim
def aN.index(h:aN H x m n cells){t e:TypeId}(d:zx P t=some e)(hm:szT P e=some m){k:IntKind}{i:Int}(h0:0<=i)(u:i<n):
  sO P t x (.s (.int k i)) H=some (eG x i.toNat,H):=by
 obtain⟨_,h⟩:=h;unfold zx at d;split at d <;> first|(cases d;done)|skip
 rename_i w o;simp only [zaa] at d;subst d;unfold sO ku Bo;cases x with
 |sl r g off j len p ex=>
  obtain⟨rfl,rfl,_,y,all,q,z,A⟩:=h;simp only [o,bT,zak,q,aiU,fZ.gen,hm,true_and];rw [if_pos ⟨h0,V⟩];rfl
 |vs k' j cs=>
  obtain⟨rfl,rfl,rfl⟩:=h;simp only [o,hm,true_and];rw [if_pos ⟨h0,V⟩];rfl
 |s v=>
  cases v with
  |slice a b c=>
   cases a with
   |none=>obtain⟨rfl,rfl,rfl⟩:=h;omega
   |some a=>exact h.elim
  |_=>exact h.elim
 |_=>exact h.elim
def gG:AV->Option Nat
 |.sl r _ _ _ _ _ _=>some r
 |_=>none
def aN.qC {H':ah}(h:aN H x m n cells)(e:H.next<=H'.next)(i:∀r,gG x=some r->r<H.next->H'.get r=H.get r):aN H' x m n cells:=by
 obtain⟨j,h⟩:=h;refine⟨j,?_⟩;cases x with
 |sl r g off k len o ex=>
  obtain⟨p,q,d,u,all,w,y,z⟩:=h;exact⟨p,q,⟨zaz d.1 e,d.2⟩,u,all,by rw [i r rfl d.1];exact w,y,z⟩
 |s v=>
  cases v with
  |slice a b c=>cases a <;> exact h
  |_=>exact h
 |_=>exact h
def aN.new(h:aN H x m n cells)(o:fZ):aN (H.new o) x m n cells:=
 h.qC (za0 _) λr _ b=>by rw [jh,if_neg V]
def aN.put(h:aN H x m n cells){r:Nat}(b:gG x≠some r)(o:fZ):aN (H.put r o) x m n cells:=
 h.qC (zac _) λr' d _=>by rw [dM,if_neg (λe=>b (by rw [d,e]))]
def aN.guard(h:aN H x m n cells):aN H.guard x m n cells:=h
def aN.nil {m:Nat}:aN H (.s (.slice none 0 0)) m 0 []:=⟨O,rfl,rfl,rfl⟩
def aN.vs {m n:Nat}{cs:List AV}(h:cs.length=n*m):aN H (.vs n m cs) m n cs:=⟨h,rfl,rfl,rfl⟩
end
def Sm {α:Type}{enc:α->List AV}{m:Nat}(b:∀a,(enc a).length=m)(l:List α):(l.flatMap enc).length=l.length*m:=by
 induction l with
 |nil=>simp
 |cons a l d=>simp only [zaE,zan,b,d,zal,zbA];omega
def uK {α:Type}{enc:α->List AV}{m:Nat}(d:∀a,(enc a).length=m):∀(l:List α) (i:Nat) (a:α),l[i]?=some a->((l.flatMap enc).drop (i*m)).take m=enc a
 |[],i,a,h=>by simp at h
 |b::l,0,a,h=>by
  simp only [zaP,zaa] at h;subst h;rw [zbm,zaQ,zaE,zbR (by rw [d];omega),zaw (by rw [d];omega)]
 |b::l,i+1,a,h=>by
  simp only [zbb] at h;have e:(enc b).drop ((i+1)*m)=[]:=zaS (by rw [d,zbA];omega);have g:(i+1)*m-(enc b).length=i*m:=by rw [d,zbA];omega
  rw [zaE,zdh,e,g,zaL];exact uK d l i a h
section
variable {b:Nat}{H H':ah}{g:bF}{q:Nat}{cs:List Cell}
def xE {τ τ':Nat->Option Tag}{cs':List Cell}(h0:b<=H.next)(h:∀q cs,g q=some cs->aiO b H τ q cs)(hn:H.next<=H'.next)
  (hk:∀r,r<H.next->(∀i s t,τ r≠some (q,i,s,t))->τ' r=τ r/\H'.get r=H.get r) (hR:aiO b H' τ' q cs'):Good b H' (upd g q cs'):=by
 refine⟨V,τ',λq2 cs2 hq2=>?_⟩;by_cases e:q2=q
 ·subst e;rw [aW] at hq2;cases hq2;exact hR
 ·rw [bJ e] at hq2;refine(h q2 cs2 hq2).keep hn λr i s t hr ht=>?_;obtain⟨k1,k2⟩:=hk r hr λi' s' t' h'=>by rw [ht] at h';cases h';exact e rfl
  exact⟨by rw [k1];exact ht,k2⟩
def nG {α:Type}{l:List α}{i j:Nat}{a x:α}(h:(l.set i a)[j]?=some x):(j=i/\x=a)∨(j≠i/\l[j]?=some x):=by
 by_cases e:i=j
 ·subst e;have hl:i<l.length:=by
   have:=(zai.1 h).1
   simpa using this
  rw [za7 hl] at h;cases h;exact .inl ⟨rfl,rfl⟩
 ·rw [zbe e] at h;exact .inr ⟨λe'=>e e'.symm,h⟩
def YQ {l:List AV}(h:l.all AV.aQ=true){v:AV}(d:v.aQ=true)(i:Nat):(l.set i v).all AV.aQ=true:=by
 rw [zaX] at h ⊢;intro x b;rcases zbC b with b|rfl
 ·exact h x b
 ·exact d
def O8 {l:List AV}{i:Nat}{v:AV}(hi:i<l.length):aV l i [v]=l.set i v:=by
 rw [zda];simp only [aV,hi,if_true,zal,zam];rfl
def One(v:AV):Prop:=v.cells=[v]/\v.aQ=true
def dN {k:IntKind}{n:Int}:One (.s (.int k n)):=⟨rfl,rfl⟩
def Et {x:Bool}:One (.s (.bool x)):=⟨rfl,rfl⟩
def vO {r g off b len cap:Nat}{ex:Bool}:One (.sl r g off b len cap ex):=⟨rfl,rfl⟩
def aeS {n b:Nat}{cells:List AV}:One (.vs n b cells):=⟨rfl,rfl⟩
def qE:One zN:=⟨rfl,rfl⟩
def O9 {r gg off:Nat}{v:AV}{ty:TypeId}{xs:List AV}(b:One v)(h:H.get r=.blk gg ty xs)(hb:H.base<=r)(d:off<xs.length):st 1 (.ref r gg off) v H=some (bf,H.put r (.blk gg ty (xs.set off v))):=by
 show(match H.get r with
  |.blk g' ty cells=>if g'=gg/\H.base<=r/\some 1=some v.cells.length/\v.cells.all AV.aQ=true/\off+v.cells.length<=cells.length then some (bf,H.put r (.blk gg ty (aV cells off v.cells))) else none
  |.map ..=>none)=_
 rw [h];simp only;rw [if_pos ⟨trivial,hb,by rw [b.1];rfl,by rw [b.1];simp [b.2],by rw [b.1];exact d⟩,b.1,O8 d]
def UN {r gg off n:Nat}{vs:List AV}{ty:TypeId}{xs:List AV}(b:vs.all AV.aQ=true)(d:vs.length=n)(h:H.get r=.blk gg ty xs)(hb:H.base<=r)(e:off+n<=xs.length):st n (.ref r gg off) (.agg vs) H=some (bf,H.put r (.blk gg ty (aV xs off vs))):=by
 show(match H.get r with
  |.blk g' ty cells=>if g'=gg/\H.base<=r/\some n=some (AV.agg vs).cells.length/\(AV.agg vs).cells.all AV.aQ=true/\off+(AV.agg vs).cells.length<=cells.length then some (bf,H.put r (.blk gg ty (aV cells off (AV.agg vs).cells))) else none
  |.map ..=>none)=_
 rw [h];simp only [gu];rw [if_pos ⟨trivial,hb,by rw [d],b,V⟩]
def Good.store(G:Good b H g)(hb:H.base<=b)(h:g q=some cs){i:Nat}(hi:i<cs.length){v:AV}(p:One v):
  ∃H',st 1 (.ref q 0 i) v H=some (bf,H')/\Good b H' (upd g q (cs.set i (.av v)))/\Step b H H'/\H'.next=H.next:=by
 obtain⟨y,τ,u⟩:=G;have R:=u q cs h;obtain⟨z,xs,w,A,C,D⟩:=R.blk;have lo:=R.lo;refine⟨_,O9 p w V V,?_,Step.put _ lo,rfl⟩;refine xE (τ':=τ) y u (zac _) (λr E d=>⟨rfl,?_⟩) ⟨R.tag,R.lo,R.hi,wH (xs:=xs.set i v) (by rw [dM,if_pos rfl]) (R.tyl _ _ _ w),z,xs.set i v,by rw [dM,if_pos rfl],by simp [A],YQ C p.2 i,λj c x m k=>?_⟩
 ·rw [dM,if_neg];intro e;subst e;exact d 0 0 0 R.tag
 ·rcases nG m with⟨rfl,rfl⟩|⟨o,m⟩
  ·rcases nG k with⟨_,rfl⟩|⟨o,_⟩
   ·exact rfl
   ·exact absurd rfl o
  ·rcases nG k with⟨rfl,_⟩|⟨_,k⟩
   ·exact absurd rfl o
   ·refine(D j c x m k).keep (zac _) λr s t E d=>⟨d,?_⟩
    rw [dM,if_neg];intro e;subst e;rw [R.tag] at d;cases d
def nP(cs:List Cell)(i:Nat)(vs:List AV):List Cell:=cs.take i++(vs.map .av++cs.drop (i+vs.length))
def nH {l:List AV}{i:Nat}{vs:List AV}(h:i+vs.length<=l.length)(j:Nat):(aV l i vs)[j]?=if i<=j/\j<i+vs.length then vs[j-i]? else l[j]?:=by
 unfold aV;rcases zaT j i with b|b
 ·rw [zaV (by rw [zat];omega),zaC,if_pos b,if_neg V]
 ·have e:(l.take i).length=i:=by rw [zat];omega
  rw [zaZ V,e];rcases zaT j (i+vs.length) with d|d
  ·rw [if_pos ⟨b,d⟩,zaV V]
  ·rw [if_neg V,zaZ V,zaF]
   congr 1;omega
def WI {i:Nat}{vs:List AV}(h:i+vs.length<=cs.length)(j:Nat):(nP cs i vs)[j]?=if i<=j/\j<i+vs.length then(vs[j-i]?).map .av else cs[j]?:=by
 unfold nP;rcases zaT j i with b|b
 ·rw [zaV (by rw [zat];omega),zaC,if_pos b,if_neg V]
 ·have e:(cs.take i).length=i:=by rw [zat];omega
  rw [zaZ V,e];rcases zaT j (i+vs.length) with d|d
  ·rw [if_pos ⟨b,d⟩,zaV (by rw [zaB];omega),zaI]
  ·rw [if_neg V,zaZ (by rw [zaB];omega),zaB,zaF]
   congr 1;omega
def oz {l:List AV}{i:Nat}{vs:List AV}(h:i+vs.length<=l.length):(aV l i vs).length=l.length:=by
 simp only [aV,zan,zat,zaO];omega
def Lp {i:Nat}{vs:List AV}(h:i+vs.length<=cs.length):(nP cs i vs).length=cs.length:=by
 simp only [nP,zan,zat,zaO,zaB];omega
def wJ {l vs:List AV}(h:l.all AV.aQ=true)(d:vs.all AV.aQ=true)(i:Nat):(aV l i vs).all AV.aQ=true:=by
 rw [zaX] at h d ⊢;intro x b;simp only [aV,zaM] at b;rcases b with b|b|b
 ·exact h x (zcx b)
 ·exact d x b
 ·exact h x (List.mem_of_mem_drop b)
def Good.stores(G:Good b H g)(hb:H.base<=b)(h:g q=some cs){i n:Nat}{vs:List AV}(hi:i+n<=cs.length)(w:vs.length=n)(p:vs.all AV.aQ=true):
  ∃H',st n (.ref q 0 i) (.agg vs) H=some (bf,H')/\Good b H' (upd g q (nP cs i vs))/\Step b H H'/\H'.next=H.next:=by
 obtain⟨y,τ,u⟩:=G;have R:=u q cs h;obtain⟨z,xs,v,A,C,D⟩:=R.blk;have lo:=R.lo;refine⟨_,UN p w v V V,?_,Step.put _ lo,rfl⟩;refine xE (τ':=τ) y u (zac _) (λr E k=>⟨rfl,?_⟩) ⟨R.tag,R.lo,R.hi,wH (xs:=aV xs i vs) (by rw [dM,if_pos rfl]) (R.tyl _ _ _ v),z,aV xs i vs,by rw [dM,if_pos rfl],by rw [oz V,Lp V,A],wJ C p i,λj c x d m=>?_⟩
 ·rw [dM,if_neg];intro e;subst e;exact k 0 0 0 R.tag
 ·rw [WI V] at d;rw [nH V] at m;split at d
  ·rename_i o;rw [if_pos o] at m;rw [m] at d;simp only [zak,zaa] at d;subst d;exact rfl
  ·rename_i o;rw [if_neg o] at m;refine(D j c x d m).keep (zac _) λr s t E k=>⟨k,?_⟩
   rw [dM,if_neg];intro e;subst e;rw [R.tag] at k;cases k
structure Cur(b:Nat)(H:ah)(q i:Nat)(x:AV)(m:Nat)(l:List AV):Prop where
 at_:∃ty xs,H.get q=.blk 0 ty xs/\xs[i]?=some x
 own:(x=zN/\l=[])∨∃r g off n cap ex ty all,x=.sl r g off m n cap ex/\r≠q/\b<=r/\r<H.next/\n<=cap/\H.get r=.blk g ty all/\off+cap*m<=all.length/\all.all AV.aQ=true/\l=(all.drop off).take (n*m)
 lt:q<H.next
def Good.seq(G:Good b H g)(h:g q=some cs){i m:Nat}{l:List AV}(hi:cs[i]?=some (.seq m l)):∃x,ld (.ref q 0 i) H=some (x,H)/\Cur b H q i x m l:=by
 obtain⟨_,τ,hR⟩:=G;have R:=hR q cs h;obtain⟨ty,xs,h1,h2,h3,h4⟩:=R.blk;have hlt:i<xs.length:=by rw [h2];exact(zai.1 hi).1
 have hx:xs[i]?=some (xs[i]'hlt):=zab hlt;refine⟨xs[i]'hlt,by rw [fD h1,hx];rfl,⟨ty,xs,h1,hx⟩,?_,R.hi⟩;have:=h4 i _ _ hi hx;simp only [CR] at this;rcases this with h5|⟨r,gg,off,n,cap,ex,ty,all,h5,h6,h7⟩
 ·exact .inl h5
 ·refine .inr ⟨r,gg,off,n,cap,ex,ty,all,h5,?_,h7⟩;intro e;subst e;rw [R.tag] at h6;cases h6
def Cur.load {i m:Nat}{x:AV}{l:List AV}(c:Cur b H q i x m l):ld (.ref q 0 i) H=some (x,H):=by
 obtain⟨g,xs,d,e⟩:=c.at_;rw [fD d,e];rfl
def Cur.ext {i m:Nat}{x:AV}{l:List AV}(c:Cur b H q i x m l)(z:H.next<=H'.next)(j:∀r,r<H.next->H'.get r=H.get r):Cur b H' q i x m l:=by
 obtain⟨d,xs,k,o⟩:=c.at_;refine⟨⟨d,xs,by rw [j q c.lt];exact k,o⟩,?_,by have:=c.lt;omega⟩;rcases c.own with h|⟨r,g,off,n,e,ex,d,all,p,k1,u,v,k4,w,y⟩
 ·exact .inl h
 ·exact .inr ⟨r,g,off,n,e,ex,d,all,p,k1,u,V,k4,by rw [j r v];exact w,y⟩
def Cur.new {i m:Nat}{x:AV}{l:List AV}(c:Cur b H q i x m l)(o:fZ):Cur b (H.new o) q i x m l:=c.ext (za0 _) λr d=>by rw [jh,if_neg V]
def Cur.one {i m:Nat}{x:AV}{l:List AV}(c:Cur b H q i x m l):One x:=by
 rcases c.own with⟨rfl,_⟩|⟨r,g,off,n,d,ex,e,all,rfl,_⟩
 ·exact qE
 ·exact vO
def Cur.is {i m n:Nat}{x:AV}{l:List AV}(c:Cur b H q i x m l)(hm:0<m)(d:l.length=n*m):aN H x m n l:=by
 refine⟨d,?_⟩;rcases c.own with⟨rfl,rfl⟩|⟨r,g,off,n',e,ex,j,all,rfl,k1,p,k,k4,o,u,v,rfl⟩
 ·refine⟨rfl,rfl,?_⟩;simp only [zam] at d;rcases zc2.1 d.symm with h|h <;> omega
 ·have w:n'*m<=e*m:=zaD _ k4;rw [zat,zaO,zbj V] at d;have:n'=n:=zbN hm d;subst this;exact⟨rfl,rfl,⟨k,k4⟩,j,all,o,V,rfl⟩
def Cur.low {i m r:Nat}{x:AV}{l:List AV}(c:Cur b H q i x m l)(h:r<b):gG x≠some r:=by
 rcases c.own with⟨rfl,_⟩|⟨r',g,off,n,d,ex,j,all,rfl,k1,k,_⟩
 ·intro e;cases e
 ·intro e;simp only [gG,zaa] at e;omega
def Fit(H H1:ah)(d x:AV)(m:Nat)(l:List AV):Prop:=
 (x=zN/\l=[])∨∃r g off n b ex e all,x=.sl r g off m n b ex/\(gG d=some r∨H.next<=r)/\r<H1.next/\n<=b/\H1.get r=.blk g e all/\off+b*m<=all.length/\all.all AV.aQ=true/\l=(all.drop off).take (n*m)
def Good.seat(G:Good b H g)(h:g q=some cs){i m:Nat}{l0:List AV}(hi:cs[i]?=some (.seq m l0)){x0:AV}(c:Cur b H q i x0 m l0){H1:ah}(hn:H.next<=H1.next)(hb:H1.base<=b)
  (hk:∀r,r<H.next->gG x0≠some r->H1.get r=H.get r) {x:AV} {m':Nat} {l:List AV} (hx:Fit H H1 x0 x m' l):
  ∃H',st 1 (.ref q 0 i) x H1=some (bf,H')/\Good b H' (upd g q (cs.set i (.seq m' l)))/\Step b H1 H'/\H'.next=H1.next:=by
 obtain⟨h0,τ,hR⟩:=G;have R:=hR q cs h;obtain⟨ty,xs,h1,h2,h3,h4⟩:=R.blk;have lo:=R.lo;have hi':=R.hi;have il:i<cs.length:=(zai.1 hi).1;have hx0:xs[i]?=some x0:=by
  obtain⟨ty',xs',e1,e2⟩:=c.at_;rw [h1] at e1;cases e1;exact e2
 have htag:∀r,gG x0=some r->τ r=some (q,i+1,0,0)/\b<=r:=by
  intro r hr;have:=h4 i _ _ hi hx0;simp only [CR] at this;rcases this with⟨rfl,_⟩|⟨r',gg,off,n,cap,ex,ty',all,rfl,k1,k2,_⟩
  ·cases hr
  ·simp only [gG,zaa] at hr;subst hr;exact⟨k1,k2⟩
 have hqx:gG x0≠some q:=λe=>by have:=(htag q e).1;rw [R.tag] at this;cases this
 have hq1:H1.get q=.blk 0 ty xs:=by rw [hk q hi' hqx];exact h1
 have hone:One x:=by
  rcases hx with⟨rfl,_⟩|⟨r,gg,off,n,cap,ex,ty',all,rfl,_⟩
  ·exact qE
  ·exact vO
 refine⟨_,O9 hone hq1 (by omega) (by omega),?_,Step.put _ lo,rfl⟩;refine xE (τ':=λr=>if H.next<=r then some (q,i+1,0,0) else τ r) h0 hR (show H.next<=H1.next from hn) (λr hr ht=>⟨by rw [if_neg (by omega)],?_⟩)
  ⟨by rw [if_neg (by omega)];exact R.tag,R.lo,show q<H1.next by omega,wH (xs:=xs.set i x) (by rw [dM,if_pos rfl]) (R.tyl _ _ _ h1),ty,xs.set i x,by rw [dM,if_pos rfl],by simp [h2],YQ h3 hone.2 i,λj cc y hc hy=>?_⟩
 ·rw [dM,if_neg (by intro e;subst e;exact ht 0 0 0 R.tag)];exact hk r hr λe=>ht (i+1) 0 0 (htag r e).1
 ·rcases nG hc with⟨rfl,rfl⟩|⟨hj,hc⟩
  ·rcases nG hy with⟨_,rfl⟩|⟨hj,_⟩
   ·rcases hx with hx|⟨r,gg,off,n,cap,ex,ty',all,rfl,k1,k2,k3,k4,k5⟩
    ·exact .inl hx
    ·have hrq:r≠q:=by
      rcases k1 with k1|k1
      ·intro e;subst e;exact hqx k1
      ·omega
     refine .inr ⟨r,gg,off,n,cap,ex,ty',all,rfl,?_,?_,k2,k3,by rw [dM,if_neg hrq];exact k4,k5⟩
     ·show(if H.next<=r then some (q,j+1,0,0) else τ r)=some (q,j+1,0,0);split
      ·rfl
      ·rcases k1 with k1|k1
       ·exact(htag r k1).1
       ·omega
     ·rcases k1 with k1|k1
      ·exact(htag r k1).2
      ·omega
   ·exact absurd rfl hj
  ·rcases nG hy with⟨rfl,_⟩|⟨_,hy⟩
   ·exact absurd rfl hj
   ·refine(h4 j cc y hc hy).keep (show H.next<=H1.next from hn) λr s t hr ht=>⟨by rw [if_neg (by omega)];exact ht,?_⟩
    rw [dM,if_neg (by intro e;subst e;rw [R.tag] at ht;cases ht)];refine hk r hr λe=>?_;have:=(htag r e).1;rw [this] at ht;simp only [zaa,zad,zb8] at ht;exact hj ht.2.1.symm
end
section
variable {b:Nat}{H H':ah}{g:bF}{q:Nat}{cs:List Cell}
def aN.lnS {x:AV}{m n:Nat}{cells:List AV}(h:aN H x m n cells):lnS x H=some (I n,H):=by
 obtain⟨_,h⟩:=h;unfold Go.Proofs.YtljogojaihgdlaaGreat.lnS ku anX;cases x with
 |sl r g off d len e ex=>simp only;rw [h.2.1];rfl
 |vs k d cs=>simp only;rw [h.2.1];rfl
 |s v=>
  cases v with
  |slice a b c=>
   cases a with
   |none=>simp only;rw [h.2.2,h.1];rfl
   |some a=>exact h.elim
  |_=>exact h.elim
 |_=>exact h.elim
def aN.ix {x:AV}{m n:Nat}{cells:List AV}(h:aN H x m n cells){k:IntKind}{i:Int}(h0:0<=i)(o:i<n):ix m x (.s (.int k i)) H=some (eG x i.toNat,H):=by
 obtain⟨_,h⟩:=h;unfold Go.Proofs.YtljogojaihgdlaaGreat.ix ku ixO;cases x with
 |sl r g off d len e ex=>
  obtain⟨rfl,rfl,_,p,all,j,q,u⟩:=h;simp only [bT,zak,j,aiU,fZ.gen,true_and];rw [if_pos ⟨h0,V⟩];rfl
 |vs k' d cs=>
  obtain⟨rfl,rfl,rfl⟩:=h;simp only [true_and];rw [if_pos ⟨h0,V⟩];rfl
 |s v=>
  cases v with
  |slice a b c=>
   cases a with
   |none=>obtain⟨rfl,rfl,rfl⟩:=h;omega
   |some a=>exact h.elim
  |_=>exact h.elim
 |_=>exact h.elim
def aN.ld {x:AV}{n:Nat}{cells:List AV}(h:aN H x 1 n cells){i:Nat}(hi:i<n):ld (eG x i) H=(cells[i]?).map λv=>(v,H):=by
 obtain⟨_,h⟩:=h;cases x with
 |sl r g off d len e ex=>
  obtain⟨rfl,rfl,_,m,all,j,o,k⟩:=h;simp only [eG];rw [fD j,k,zaC,if_pos V,zaF,zbH]
 |vs k' d cs=>
  obtain⟨rfl,rfl,rfl⟩:=h;simp only [eG];rw [ajG,zaF,zbH,zbM]
 |s v=>
  cases v with
  |slice a b c=>
   cases a with
   |none=>obtain⟨rfl,rfl,rfl⟩:=h;omega
   |some a=>exact h.elim
  |_=>exact h.elim
 |_=>exact h.elim
def aN.ajI {x:AV}{m n:Nat}{cells:List AV}(h:aN H x m n cells){i o:Nat}(hi:i<n)(u:o<m):(au (eG x i) o).bind (λp=>Go.Proofs.YtljogojaihgdlaaGreat.ld p H)=(cells[i*m+o]?).map λv=>(v,H):=by
 obtain⟨w,h⟩:=h;have e:i*m+m<=n*m:=by
  have:(i+1)*m<=n*m:=zaD _ hi
  rwa [zbA] at this
 cases x with
 |sl r g off d len j ex=>
  obtain⟨rfl,rfl,_,y,all,k,z,q⟩:=h;simp only [eG,rC,za6];rw [fD k,q,zaC,if_pos V,zaF,zb3]
 |vs k' d cs=>
  obtain⟨rfl,rfl,rfl⟩:=h;simp only [eG,yQ,za6];rw [ajG,zbE,zaF,zbM]
 |s v=>
  cases v with
  |slice a b c=>
   cases a with
   |none=>obtain⟨rfl,rfl,rfl⟩:=h;omega
   |some a=>exact h.elim
  |_=>exact h.elim
 |_=>exact h.elim
def aN.lda {x:AV}{m n:Nat}{cells:List AV}(h:aN H x m n cells){i:Nat}(hi:i<n):lda m (eG x i) H=some (.agg ((cells.drop (i*m)).take m),H):=by
 obtain⟨p,h⟩:=h;have e:i*m+m<=n*m:=by
  have:(i+1)*m<=n*m:=zaD _ hi
  rwa [zbA] at this
 cases x with
 |sl r g off d len j ex=>
  obtain⟨rfl,rfl,_,q,all,k,u,o⟩:=h;simp only [eG];rw [gJ k V,o,zcj,zbX,zbE,zbj V]
 |vs k' d cs=>
  obtain⟨rfl,rfl,rfl⟩:=h;simp only [eG];rw [ajH (by rw [zaO];omega)]
 |s v=>
  cases v with
  |slice a b c=>
   cases a with
   |none=>obtain⟨rfl,rfl,rfl⟩:=h;omega
   |some a=>exact h.elim
  |_=>exact h.elim
 |_=>exact h.elim
def Gj {all new:List AV}{off n:Nat}(h:off+n+new.length<=all.length):((aV all (off+n) new).drop off).take (n+new.length)=(all.drop off).take n++new:=by
 have e:(aV all (off+n) new).length=all.length:=oz V
 apply zbd
 intro j;rcases zaT j n with b|b
 ·rw [zaC,if_pos V,zaF,nH V,if_neg V,zaV (by rw [zat,zaO];omega),zaC,if_pos b,zaF]
 ·rcases zaT j (n+new.length) with d|d
  ·rw [zaC,if_pos d,zaF,nH V,if_pos V,zaZ (by rw [zat,zaO];omega),zat,zaO]
   congr 1;omega
  ·rw [zaC,if_neg V,zaZ (by rw [zat,zaO];omega),zat,zaO,zaH V]
def all_append {l b:List AV}(h:l.all AV.aQ=true)(d:b.all AV.aQ=true):(l++b).all AV.aQ=true:=by rw [zb7,h,d];rfl
def Eu {l:List AV}(h:l.all AV.aQ=true)(n:Nat):(l.take n).all AV.aQ=true:=by
 rw [zaX] at h ⊢;exact λx b=>h x (zcx b)
def zO {l:List AV}(h:l.all AV.aQ=true)(n:Nat):(l.drop n).all AV.aQ=true:=by
 rw [zaX] at h ⊢;exact λx b=>h x (List.mem_of_mem_drop b)
def Own(b:Nat)(H:ah)(x:AV)(m:Nat)(l:List AV):Prop:=
 (x=zN/\l=[])∨∃r g off n d ex e all,x=.sl r g off m n d ex/\b<=r/\r<H.next/\n<=d/\H.get r=.blk g e all/\off+d*m<=all.length/\all.all AV.aQ=true/\l=(all.drop off).take (n*m)
def Own.app {m n k:Nat}{x y:AV}{l new:List AV}(c:Own b H x m l)(hb:H.base<=b)(hm:0<m)(hl:l.length=n*m)(hy:aN H y m k new)(hc:new.all AV.aQ=true){e:TypeId}{by_:Nat}(h1:n+k<=most)(h2:(n+k)*by_<=most):
  ∃x' H1,app e m by_ x y H=some (x',H1)/\Fit H H1 x x' m (l++new)/\H.next<=H1.next/\H1.base=H.base/\∀r,r<H.next->gG x≠some r->H1.get r=H.get r:=by
 obtain⟨c1,c2⟩:=hy.wI;have c3:=hy.1;have key:Go.Proofs.YtljogojaihgdlaaGreat.app e m by_ x y H=eu e m by_ x k new H:=by simp only [Go.Proofs.YtljogojaihgdlaaGreat.app,c1,c2]
 rw [key];unfold eu;rw [if_pos ⟨c3,hc⟩];rcases c with⟨rfl,rfl⟩|⟨r,gg,off,n',cap,ex,ty,all,rfl,k2,k3,k4,k5,k6,k7,rfl⟩
 ·simp only [zam] at hl;have hn:n=0:=by rcases zc2.1 hl.symm with h|h <;> omega
  subst hn;rw [zaW] at h1 h2;by_cases hk:k=0
  ·subst hk;rw [zbm] at c3;have:new=[]:=zas c3;subst this;exact⟨zN,H,by simp only [if_true],.inl ⟨rfl,rfl⟩,zac _,rfl,λ_ _ _=>rfl⟩
  ·refine⟨.sl H.next 0 0 m k k false,H.new (.blk 0 (e+gY) new),by simp only [hk,h1,h2,and_self,if_true,if_false],.inr ⟨H.next,0,0,k,k,false,e+gY,new,rfl,.inr (zac _),by rw [Es];omega,zac _,by simp [jh],by omega,hc,?_⟩,za0 _,rfl,λr hr _=>by rw [jh,if_neg (by omega)]⟩;rw [zaL,zaQ,zaw (by omega)]
 ·have hcm:n'*m<=cap*m:=zaD _ k4;rw [zat,zaO,zbj (by omega)] at hl;have hn:n'=n:=zbN hm hl;subst hn;simp only [k5];rw [if_pos ⟨trivial,trivial,by omega⟩];by_cases hk:k=0
  ·subst hk;rw [zbm] at c3;have:new=[]:=zas c3;subst this;exact⟨_,H,by rw [if_pos rfl],.inr ⟨r,gg,off,n',cap,ex,ty,all,rfl,.inl rfl,k3,k4,k5,k6,k7,by rw [za8]⟩,zac _,rfl,λ_ _ _=>rfl⟩
  ·rw [if_neg hk];by_cases hf:n'+k<=cap
   ·have hfm:(n'+k)*m<=cap*m:=zaD _ hf;rw [if_pos hf,if_pos ⟨by omega,by omega⟩];refine⟨_,_,rfl,.inr ⟨r,gg,off,n'+k,cap,ex,ty,aV all (off+n'*m) new,rfl,.inl rfl,k3,hf,by rw [dM,if_pos rfl],?_,wJ k7 hc _,?_⟩,zac _,rfl,λr' hr hne=>?_⟩
    ·rw [zbx] at hfm;rw [oz (by omega)];exact k6
    ·rw [zbx] at hfm ⊢;rw [<-c3,Gj (by omega)]
    ·rw [dM,if_neg];intro e';subst e';exact hne rfl
   ·rw [if_neg hf,if_pos ⟨h1,h2⟩];have e1:((all.drop off).take (n'*m)).length=n'*m:=by rw [zat,zaO];omega
    have e2:((all.drop off).take (n'*m)++new).length=(n'+k)*m:=by rw [zan,e1,c3,zbx]
    cases ex with
    |true=>
     simp only [if_true];refine⟨_,_,rfl,.inr ⟨H.next,0,0,n'+k,n'+k,false,e+gY,(all.drop off).take (n'*m)++new,rfl,.inr (zac _),by rw [Es];omega,zac _,by simp only [jh,if_true],by rw [e2,zaW];exact zac _,all_append (Eu (zO k7 _) _) hc,?_⟩,za0 _,rfl,λr' hr _=>by rw [jh,if_neg (by omega)]⟩;rw [zaQ,zaw (Nat.le_of_eq e2)]
    |false=>
     simp only [zae,if_false];rw [if_pos (by omega)];refine⟨_,_,rfl,.inr ⟨r,gg+1,0,n'+k,n'+k,false,grT e ty off,(all.drop off).take (n'*m)++new,rfl,.inl rfl,k3,zac _,by simp only [dM,if_true],by rw [e2,zaW];exact zac _,all_append (Eu (zO k7 _) _) hc,?_⟩,zac _,rfl,λr' hr hne=>?_⟩
     ·rw [zaQ,zaw (Nat.le_of_eq e2)]
     ·rw [dM,if_neg];intro e';subst e';exact hne rfl
def Cur.an5 {i m:Nat}{x:AV}{l:List AV}(c:Cur b H q i x m l):Own b H x m l:=by
 rcases c.own with h|⟨r,gg,off,n',d,ex,e,all,g,k1,j⟩
 ·exact .inl h
 ·exact .inr ⟨r,gg,off,n',d,ex,e,all,g,j⟩
def Cur.app {i m n k:Nat}{x y:AV}{l new:List AV}(c:Cur b H q i x m l)(hb:H.base<=b)(hm:0<m)(g:l.length=n*m)(h:aN H y m k new)(j:new.all AV.aQ=true){e:TypeId}{by_:Nat}(o:n+k<=most)(p:(n+k)*by_<=most):
  ∃d H1,app e m by_ x y H=some (d,H1)/\Fit H H1 x d m (l++new)/\H.next<=H1.next/\H1.base=H.base/\∀r,r<H.next->gG x≠some r->H1.get r=H.get r:=
 c.an5.app hb hm g h j o p
def Own.step {m n k:Nat}{x y:AV}{l new:List AV}(c:Own b H x m l)(p:b<=H.next)(hb:H.base<=b)(hm:0<m)(q:l.length=n*m)(u:aN H y m k new)(v:new.all AV.aQ=true){e:TypeId}{by_:Nat}(w:n+k<=most)(z:(n+k)*by_<=most):
  ∃h H1,Go.Proofs.YtljogojaihgdlaaGreat.app e m by_ x y H=some (h,H1)/\Own b H1 h m (l++new)/\Step b H H1:=by
 obtain⟨h,H1,A,f,n1,C,k1⟩:=c.app hb hm q u v (e:=e) (by_:=by_) w z;have j:∀r,gG x=some r->b<=r:=λr i=>by
  rcases c with⟨rfl,_⟩|⟨r',g,off,n',d,ex,o,all,rfl,F,_⟩
  ·cases i
  ·simp only [gG,zaa] at i;omega
 refine⟨h,H1,A,?_,C,n1,λr i=>k1 r V λe=>by have:=j r e;omega⟩;rcases f with f|⟨r,g,off,n',d,ex,o,all,rfl,D,E⟩
 ·exact .inl f
 ·exact .inr ⟨r,g,off,n',d,ex,o,all,rfl,D.elim (j r) λf1=>V,E⟩
def Own.is {m n:Nat}{x:AV}{l:List AV}(c:Own b H x m l)(hm:0<m)(d:l.length=n*m):aN H x m n l:=by
 refine⟨d,?_⟩;rcases c with⟨rfl,rfl⟩|⟨r,g,off,n',e,ex,i,all,rfl,q,j,k4,k,u,v,rfl⟩
 ·refine⟨rfl,rfl,?_⟩;simp only [zam] at d;rcases zc2.1 d.symm with h|h <;> omega
 ·have o:n'*m<=e*m:=zaD _ k4;rw [zat,zaO,zbj V] at d;have p:n'=n:=zbN hm d;subst p;exact⟨rfl,rfl,⟨j,k4⟩,i,all,k,V,rfl⟩
def Own.ext {m:Nat}{x:AV}{l:List AV}(c:Own b H x m l)(u:H.next<=H'.next)(e:∀r,r<H.next->H'.get r=H.get r):Own b H' x m l:=by
 rcases c with h|⟨r,g,off,n,d,ex,i,all,j,k,o,k4,p,q⟩
 ·exact .inl h
 ·exact .inr ⟨r,g,off,n,d,ex,i,all,j,k,V,k4,by rw [e r o];exact p,q⟩
def Own.new {m:Nat}{x:AV}{l:List AV}(c:Own b H x m l)(o:fZ):Own b (H.new o) x m l:=c.ext (za0 _) λr d=>by rw [jh,if_neg V]
def Good.append(G:Good b H g)(hb:H.base<=b)(h:g q=some cs){i m n k:Nat}{l new:List AV}(hi:cs[i]?=some (.seq m l))(hm:0<m)(o:l.length=n*m){x y:AV}(c:Cur b H q i x m l)(p:aN H y m k new)(u:new.all AV.aQ=true){e:TypeId}{by_:Nat}(v:n+k<=most)(w:(n+k)*by_<=most):
  ∃j H1 d,app e m by_ x y H=some (j,H1)/\st 1 (.ref q 0 i) j H1=some (bf,d)/\Good b d (upd g q (cs.set i (.seq m (l++new))))/\Step b H d:=by
 obtain⟨j,H1,z,f,n1,A,k1⟩:=c.app hb hm o p u (e:=e) (by_:=by_) v w;obtain⟨d,C,D,E,L⟩:=G.seat h hi c n1 V k1 f;have F:=G.1;exact⟨j,H1,d,z,C,D,Step.trans ⟨A,n1,λr K=>k1 r V (c.low K)⟩ E⟩
def Good.elem(G:Good b H g)(hb:H.base<=b)(h:g q=some cs){i m n:Nat}{l:List AV}(hi:cs[i]?=some (.seq m l))(hm:0<m)(K:l.length=n*m){x:AV}(c:Cur b H q i x m l){j:Nat}(hj:j<n):
  ∃r gg off,eG x j=.ref r gg off/\∀(w o:Nat) (v:AV),v.cells.length=w->v.cells.all AV.aQ=true->o+w<=m->
   ∃H',st w (.ref r gg (off+o)) v H=some (bf,H')/\Good b H' (upd g q (cs.set i (.seq m (aV l (j*m+o) v.cells))))/\Step b H H'/\H'.next=H.next:=by
 have ab:j*m+m<=n*m:=by
  have:(j+1)*m<=n*m:=zaD _ hj
  rwa [zbA] at this
 rcases c.own with⟨rfl,rfl⟩|⟨r,gg,off,n',u,ex,E,all,rfl,k1,W,k3,k4,k5,k6,k7,rfl⟩
 ·simp only [zam] at K;omega
 ·have ad:n'*m<=u*m:=zaD _ k4;rw [zat,zaO,zbj V] at K;have hn:n'=n:=zbN hm K;subst hn;refine⟨r,gg,off+j*m,rfl,λw o v hw X ho=>?_⟩;obtain⟨h0,τ,hR⟩:=G;have R:=hR q cs h;obtain⟨L,xs,F,h2,h3,h4⟩:=R.blk;have C:xs[i]?=some (.sl r gg off m n' u ex):=by
   obtain⟨ae,af,e1,e2⟩:=c.at_;rw [F] at e1;cases e1;exact e2
  have d:τ r=some (q,i+1,0,0):=by
   have:=h4 i _ _ hi C;simp only [CR] at this;rcases this with⟨h,_⟩|⟨_,_,_,_,_,_,_,_,h,k,_⟩
   ·cases h
   ·cases h;exact k
  refine⟨H.put r (.blk gg E (aV all (off+j*m+o) v.cells)),?_,?_,Step.put _ W,rfl⟩
  ·show(match H.get r with
    |.blk g' E cells=>if g'=gg/\H.base<=r/\some w=some v.cells.length/\v.cells.all AV.aQ=true/\off+j*m+o+v.cells.length<=cells.length then some (bf,H.put r (.blk gg E (aV cells (off+j*m+o) v.cells))) else none
    |.map ..=>none)=_
   rw [k5];simp only;rw [if_pos ⟨trivial,V,by rw [hw],X,V⟩]
  ·refine xE (τ':=τ) h0 hR (zac _) (λr' hr A=>⟨rfl,?_⟩) ⟨R.tag,R.lo,R.hi,wH (xs:=xs) (by rw [dM,if_neg (λe=>k1 e.symm)];exact F) (R.tyl _ _ _ F),L,xs,by rw [dM,if_neg (λe=>k1 e.symm)];exact F,by simp [h2],h3,λj' cc y z M=>?_⟩
   ·rw [dM,if_neg];intro e;subst e;exact A _ _ _ d
   ·rcases nG z with⟨rfl,rfl⟩|⟨Q,z⟩
    ·rw [C] at M;cases M;refine .inr ⟨r,gg,off,n',u,ex,E,_,rfl,d,W,k3,k4,by rw [dM,if_pos rfl],by rw [oz V];exact k6,wJ k7 X _,?_⟩
     apply zbd
     intro p;have aa:((all.drop off).take (n'*m)).length=n'*m:=by rw [zat,zaO];omega
     rw [nH V];rcases zaT p (n'*m) with T|T
     ·rw [zaC,if_pos T,zaF,zaC,if_pos T,zaF,nH V];by_cases D:j*m+o<=p/\p<j*m+o+v.cells.length
      ·rw [if_pos D,if_pos V];congr 1;omega
      ·rw [if_neg D,if_neg V]
     ·rw [zaC,if_neg V,zaC,if_neg V,if_neg V]
    ·refine(h4 j' cc y z M).keep (zac _) λr' s t hr A=>⟨A,?_⟩
     rw [dM,if_neg];intro e;subst e;rw [d] at A;simp only [zaa,zad,zb8] at A;exact Q A.2.1.symm
def Good.map(G:Good b H g)(h:g q=some cs){i:Nat}{k:IntKind}{es:List (Int × AV)}(hi:cs[i]?=some (.map k es)):
  ∃r,ld (.ref q 0 i) H=some (.mp r,H)/\(∀z n ok,lk k z (.mp r) (.s (.int k n)) ok H=some ((match qp es n with
   |some v=>if ok then .tup [v,.s (.bool true)] else v
   |none=>if ok then .tup [.s z,.s (.bool false)] else .s z),H))/\lnM (.mp r) H=some (I es.length,H)/\(H.base<=b->
   (∀n v,∃H',mup k (.mp r) (.s (.int k n)) v H=some (bf,H')/\Good b H' (upd g q (cs.set i (.map k (KC es n v))))/\Step b H H'/\H'.next=H.next)/\
   (∀n,∃H',del k (.mp r) (.s (.int k n)) H=some (.tup [],H')/\Good b H' (upd g q (cs.set i (.map k (zA es n))))/\Step b H H'/\H'.next=H.next)):=by
 obtain⟨h0,τ,hR⟩:=G;have R:=hR q cs h;obtain⟨ty,xs,h1,h2,h3,h4⟩:=R.blk;have hlt:i<xs.length:=by rw [h2];exact(zai.1 hi).1
 have hx:xs[i]?=some (xs[i]'hlt):=zab hlt;have:=h4 i _ _ hi hx;simp only [CR] at this;obtain⟨r,e,t1,t2,t3,t4⟩:=this;rw [e] at hx;have hrq:q≠r:=by intro e;subst e;rw [R.tag] at t1;cases t1
 have put:∀es',Good b (H.put r (.map k es')) (upd g q (cs.set i (.map k es'))):=by
  intro es';refine xE (τ':=τ) h0 hR (zac _) (λr' hr ht=>⟨rfl,?_⟩) ⟨R.tag,R.lo,R.hi,wH (xs:=xs) (by rw [dM,if_neg hrq];exact h1) (R.tyl _ _ _ h1),ty,xs,by rw [dM,if_neg hrq];exact h1,by simp [h2],h3,λj c y hc hy=>?_⟩
  ·rw [dM,if_neg];intro e;subst e;exact ht _ _ _ t1
  ·rcases nG hc with⟨rfl,rfl⟩|⟨hj,hc⟩
   ·rw [hx] at hy;cases hy;exact⟨r,rfl,t1,t2,t3,by rw [dM,if_pos rfl]⟩
   ·refine(h4 j c y hc hy).keep (zac _) λr' s t hr ht=>⟨ht,?_⟩
    rw [dM,if_neg];intro e;subst e;rw [t1] at ht;simp only [zaa,zad,zb8] at ht;exact hj ht.2.1.symm
 refine⟨r,by rw [fD h1,hx];rfl,λz n ok=>?_,?_,λhb=>⟨λn v=>⟨H.put r (.map k (KC es n v)),?_,put _,Step.put _ t2,rfl⟩,λn=>⟨H.put r (.map k (zA es n)),?_,put _,Step.put _ t2,rfl⟩⟩⟩
 ·simp only [lk,ku,bT,zak,lkO,t4,and_self,if_true];cases qp es n <;> rfl
 ·simp only [lnM,ku,bT,zak,anY,t4]
 ·simp only [mup,t4];rw [if_pos ⟨trivial,trivial,V⟩]
 ·simp only [del,t4];rw [if_pos ⟨trivial,trivial,V⟩]
end
abbrev w64(n:Int):Int:=IntKind.wrap .i64 n
structure Cfg where
 aH:Int
 aY:Int
 bn:Int
 sets:Int
 ways:Int
 out:Int
 inn:Int
 init:List Int
structure Pkt where
 aO:Int
 src:Int
 dst:Int
 id:Int
 aj:Int
 ptr:Int
 aU:Int
 flag:Bool
 data:List Int
 deriving DecidableEq
structure Opn where
 aO:Int
 addr:Int
 value:Int
 deriving DecidableEq
structure Evn where
 bD:Int
 index:Int
 done:Bool
 value:Int
 deriving DecidableEq
structure Ent where
 fwd:Int
 back:Int
 aj:Int
 used:Int
 bZ:Bool
 data:List Int
 deriving DecidableEq
structure Row where
 aU:Int
 head:Int
 data:List Int
 deriving DecidableEq
structure bP where
 aO:Int
 aj:Int
 id:Int
 step:Int
 aU:Int
 head:Int
 data:List Int
 next:Int
 told:Int
 deriving DecidableEq
structure Pck where
 deliver:Bool
 at_:Int
 bit:Int
 mask:Int
def vsl {α:Type}(m:Nat)(enc:α->List AV)(l:List α):AV:=if l=[] then zN else .vs l.length m (l.flatMap enc)
def Rh(n:Int):List AV:=[I n]
def dat(l:List Int):AV:=vsl 1 Rh l
def Cfg.av(c:Cfg):List AV:=[I c.aH,I c.aY,I c.bn,I c.sets,I c.ways,I c.out,I c.inn,dat c.init]
def Pkt.av(p:Pkt):List AV:=[I p.aO,I p.src,I p.dst,I p.id,I p.aj,I p.ptr,I p.aU,B p.flag,dat p.data]
def Opn.av(o:Opn):List AV:=[I o.aO,I o.addr,I o.value]
def Evn.av(e:Evn):List AV:=[I e.bD,I e.index,B e.done,I e.value]
def Ent.av(e:Ent):List AV:=[I e.fwd,I e.back,I e.aj,I e.used,B e.bZ,dat e.data]
def Row.av(r:Row):List AV:=[I r.aU,I r.head,dat r.data]
def bP.av(d:bP):List AV:=[I d.aO,I d.aj,I d.id,I d.step,I d.aU,I d.head,dat d.data,I d.next,I d.told]
def Pck.av(p:Pck):List AV:=[B p.deliver,I p.at_,I p.bit,.s (.int .u16 p.mask)]
def Pkt.zero:Pkt:=⟨0,0,0,0,0,0,0,false,[]⟩
def Opn.zero:Opn:=⟨0,0,0⟩
def Ent.zero:Ent:=⟨0,0,0,0,false,[]⟩
def Row.zero:Row:=⟨0,0,[]⟩
def bP.zero:bP:=⟨0,0,0,0,0,0,[],0,0⟩
def dI {α:Type}{enc:α->List AV}{m:Nat}(b:∀a,(enc a).length=m)(l:List α):(l.flatMap enc).length=l.length*m:=Sm b l
def zQ {α:Type}{enc:α->List AV}{m:Nat}(b:∀a,(enc a).length=m)(H:ah)(l:List α):aN H (vsl m enc l) m l.length (l.flatMap enc):=by
 unfold vsl;split
 ·rename_i h;subst h;exact aN.nil
 ·exact aN.vs (dI b l)
def gK {α:Type}{enc:α->List AV}{m:Nat}:vsl m enc ([]:List α)=zN:=by simp [vsl]
def Ew {α:Type}{enc:α->List AV}{m:Nat}{l:List α}(h:l≠[]):vsl m enc l=.vs l.length m (l.flatMap enc):=by simp [vsl,h]
def Sr {α:Type}{enc:α->List AV}{m:Nat}{l:List α}:One (vsl m enc l):=by
 unfold vsl;split
 ·exact qE
 ·exact aeS
def rY {l:List Int}:One (dat l):=Sr
def acD(n:Int):(Rh n).length=1:=rfl
def zS(l:List Int):l.flatMap Rh=l.map I:=by
 induction l with
 |nil=>rfl
 |cons a l b=>rw [zaE,b];rfl
def kT(H:ah)(l:List Int):aN H (dat l) 1 l.length (l.map I):=by
 have:=zQ acD H l;rw [zS] at this;exact this
def bV(p:Pkt):p.av.length=9:=rfl
def eU(p:Opn):p.av.length=3:=rfl
def BK(p:Evn):p.av.length=4:=rfl
def dV(p:Ent):p.av.length=6:=rfl
def Jv(p:Row):p.av.length=3:=rfl
def Jw(p:Cfg):p.av.length=8:=rfl
def Gl(p:bP):p.av.length=9:=rfl
def Jy(p:Pck):p.av.length=4:=rfl
def aeT(p:Cfg):p.av.take 8=p.av:=rfl
def Pg(p:Pkt):p.av.take 9=p.av:=rfl
def aeU(p:Opn):p.av.take 3=p.av:=rfl
def aeV(p:Evn):p.av.take 4=p.av:=rfl
def aeW(p:Ent):p.av.take 6=p.av:=rfl
def aeX(p:Row):p.av.take 3=p.av:=rfl
def YR(p:bP):p.av.take 9=p.av:=rfl
def aeY(p:Pck):p.av.take 4=p.av:=rfl
def Ph {l:List Int}:(dat l).cells=[dat l]:=rY.1
def oC {l:List Int}:(dat l).aQ=true:=rY.2
def Gm {α:Type}{enc:α->List AV}{m:Nat}{l:List α}:(vsl m enc l).cells=[vsl m enc l]:=Sr.1
def Jz {α:Type}{enc:α->List AV}{m:Nat}{l:List α}:(vsl m enc l).aQ=true:=Sr.2
def kZ(c:Cfg):c.av.all AV.aQ=true:=by simp [Cfg.av,iV,oC]
def aT(p:Pkt):p.av.all AV.aQ=true:=by simp [Pkt.av,iV,kF,oC]
def rZ(p:Opn):p.av.all AV.aQ=true:=by simp [Opn.av,iV]
def Gn(p:Evn):p.av.all AV.aQ=true:=by simp [Evn.av,iV,kF]
def lg(p:Ent):p.av.all AV.aQ=true:=by simp [Ent.av,iV,kF,oC]
def YS(p:Row):p.av.all AV.aQ=true:=by simp [Row.av,iV,oC]
def bH(p:bP):p.av.all AV.aQ=true:=by simp [bP.av,iV,oC]
def Gp(p:Pck):p.av.all AV.aQ=true:=by simp [Pck.av,iV,kF]
def UO {α:Type}{enc:α->List AV}(h:∀a,(enc a).all AV.aQ=true)(l:List α):(l.flatMap enc).all AV.aQ=true:=by
 rw [zaX];intro x b;obtain⟨a,_,d⟩:=za1.1 b;exact zaX.1 (h a) x d
def iG {H:ah}{n d:Nat}:∀(l:List AV),(∀x∈l,bQ H n d x=some x)->l.mapM (bQ H n d)=some l
 |[],_=>rfl
 |x::l,h=>by
  rw [zbn,iG l λy b=>h y (by simp [b]),h x O];rfl
def jr {H:ah}{n d:Nat}{v:Value}:bQ H n (d+1) (.s v)=some (.s v):=by rw [bQ]
def YT {H:ah}{n d k m:Nat}{l:List AV}(h:∀x∈l,bQ H n d x=some x):bQ H n (d+1) (.vs k m l)=some (.vs k m l):=by
 rw [bQ];simp only [iG l h,zak]
def JA {H:ah}{n d:Nat}{l:List AV}(h:∀x∈l,bQ H n d x=some x):bQ H n (d+1) (.agg l)=some (.agg l):=by
 rw [bQ];simp only [iG l h,zak]
def JB {H:ah}{n d:Nat}{l:List AV}(h:∀x∈l,bQ H n d x=some x):bQ H n (d+1) (.tup l)=some (.tup l):=by
 rw [bQ];simp only [iG l h,zak]
def jM {H:ah}{n d r g off b len cap:Nat}{ex:Bool}{l:List AV}(e:n<=r){cells:List AV}(h:cO H (.sl r g off b len cap ex)=some cells)(i:cells.mapM (bQ H n d)=some l):bQ H n (d+1) (.sl r g off b len cap ex)=some (.vs len b l):=by
 rw [bQ];simp only [if_neg (zdJ.2 e),h,i,zak]
def Frz(d:Nat)(x:AV):Prop:=∀H n,bQ H n d x=some x
def jc {v:Value}{d:Nat}:Frz (d+1) (.s v):=λ_ _=>jr
def aeZ {d k m:Nat}{l:List AV}(h:∀x∈l,Frz d x):Frz (d+1) (.vs k m l):=λH n=>YT λx b=>h x b H n
def nI {d:Nat}{l:List AV}(h:∀x∈l,Frz d x):Frz (d+1) (.agg l):=λH n=>JA λx b=>h x b H n
def uM {d:Nat}{l:List AV}(h:∀x∈l,Frz d x):Frz (d+1) (.tup l):=λH n=>JB λx b=>h x b H n
def ag2 {α:Type}{enc:α->List AV}{m d:Nat}{l:List α}(h:∀a,∀x∈enc a,Frz (d+1) x):Frz (d+2) (vsl m enc l):=by
 unfold vsl;split
 ·exact jc
 ·refine aeZ λx b=>?_;obtain⟨a,_,e⟩:=za1.1 b;exact h a x e
def uN {l:List Int}{d:Nat}:Frz (d+2) (dat l):=ag2 λa x b=>by
 simp only [Rh,zaN] at b;subst b;exact jc
section
variable {β:Type}{x:Option (AV × ah)}{H:ah}{k:AV->ah->Option β}
def ajJ:gdA (some (.s (.bool true))) true x H k=bnd x k:=rfl
def ajK:gdA (some (.s (.bool true))) false x H k=k bf H:=rfl
def ajL:gdA (some (.s (.bool false))) true x H k=k bf H:=rfl
def ajM:gdA (some (.s (.bool false))) false x H k=bnd x k:=rfl
def aqb {a b:AV}:dR (.s (.bool true)) a b=some a:=rfl
def aqc {a b:AV}:dR (.s (.bool false)) a b=some b:=rfl
end
def YU {r g o:Nat}:aA (.ref r g o)=some (.ref r g o):=rfl
def ae0 {l:List AV}:aA (.ip l)=some (.ip l):=rfl
def ae1 {f:FuncId}{a c:List AV}:aA (.fn (.func f) a c)=some (.fn (.func f) a c):=rfl
def ae2 {l:List AV}{i:Nat}:aK (.tup l) i=l[i]?:=rfl
def ae3 {l:List AV}{o:Nat}:fl (.agg l) o=l[o]?:=rfl
def ae4 {r g off:Nat}{H:ah}:ld (.ref r g off) H=match H.get r with
  |.blk g' _ cells=>if g'=g then(cells[off]?).map λv=>(v,H) else none
  |.map ..=>none:=by
 simp only [ld,ku,bT,zak,ldO];cases H.get r with
 |map k b=>rfl
 |blk g' d cells=>simp only;split <;> rfl
def SA {r g off n:Nat}{H:ah}:lda n (.ref r g off) H=match H.get r with
  |.blk g' _ cells=>if g'=g then(if off+n<=cells.length then some (.agg ((cells.drop off).take n),H) else none) else none
  |.map ..=>none:=by
 simp only [lda,ku,bT,zak,anu];cases H.get r with
 |map k b=>rfl
 |blk g' d cells=>
  simp only;split
  ·split <;> rfl
  ·rfl
def aF {t:TypeId}{l:List AV}{H:ah}(h:l.all AV.aQ=true)(b:t<1000000000):jw t (.agg l) H=some (.ref H.next 0 0,H.new (.blk 0 t l)):=YA h b
def ae5 {t:TypeId}{z:List AV}{H:ah}:alc t z H=some (.ref H.next 0 0,H.new (.blk 0 t z)):=rfl
def ae6 {k:IntKind}{H:ah}:mkm k H=some (.mp H.next,H.new (.map k [])):=rfl
def leS {a b:Nat}(h:a<=b):a<=b+1:=V
def ltS {a b:Nat}(h:a<b):a<b+1:=V
def fE {H:ah}{o:fZ}:(H.new o).next=H.next+1:=Eq.trans rfl rfl
def aqd {H:ah}{r:Nat}{o:fZ}:(H.put r o).next=H.next:=Eq.trans rfl rfl
def ji {H:ah}{o:fZ}:(H.new o).base=H.base:=Eq.trans rfl rfl
def aqe {H:ah}{r:Nat}{o:fZ}:(H.put r o).base=H.base:=Eq.trans rfl rfl
def SB {H:ah}:H.guard.next=H.next:=Eq.trans rfl rfl
def an6 {H:ah}:H.guard.base=H.next:=Eq.trans rfl rfl
def qF {H:ah}{o:fZ}:(H.new o).get H.next=o:=by rw [jh,if_pos rfl]
def bC {H:ah}{o:fZ}{r:Nat}(h:r=H.next):(H.new o).get r=o:=by rw [jh,if_pos h]
def dS {H:ah}{o:fZ}{r:Nat}(h:r<H.next):(H.new o).get r=H.get r:=by rw [jh,if_neg (by omega)]
def Gq {H:ah}{o:fZ}{r:Nat}:(H.put r o).get r=o:=by rw [dM,if_pos rfl]
def Ls {n r off:Nat}{v:AV}{H:ah}:st n (.ref r 0 off) v H=match H.get r with
  |.blk g' ty cells=>if g'=0/\H.base<=r/\n=v.cells.length/\v.cells.all AV.aQ=true/\off+v.cells.length<=cells.length then some (bf,H.put r (.blk 0 ty (aV cells off v.cells))) else none
  |.map ..=>none:=by
 unfold st;simp only [zaa];cases H.get r <;> rfl
def ae7 {H:ah}{r off:Nat}{ty:TypeId}{cells:List AV}(h:r=H.next):ld (.ref r 0 off) (H.new (.blk 0 ty cells))=(cells[off]?).map λv=>(v,H.new (.blk 0 ty cells)):=fD (bC h)
def YV {H:ah}{r off n:Nat}{ty:TypeId}{cells:List AV}(h:r=H.next):lda n (.ref r 0 off) (H.new (.blk 0 ty cells))=if off+n<=cells.length then some (.agg ((cells.drop off).take n),H.new (.blk 0 ty cells)) else none:=by
 split
 ·rename_i b;exact gJ (bC h) b
 ·rename_i b;rw [SA,bC h];simp only [if_true,b,if_false]
def Dz {H:ah}{r off:Nat}{o:fZ}(h:r<H.next):ld (.ref r 0 off) (H.new o)=(ld (.ref r 0 off) H).map λp=>(p.1,H.new o):=by
 rw [ae4,ae4,dS h];cases H.get r with
 |map k es=>rfl
 |blk g ty cells=>simp only;split <;> first|rfl|(cases cells[off]? <;> rfl)
def YW {H:ah}{r off n:Nat}{o:fZ}(h:r<H.next):lda n (.ref r 0 off) (H.new o)=(lda n (.ref r 0 off) H).map λp=>(p.1,H.new o):=by
 rw [SA,SA,dS h];cases H.get r with
 |map k es=>rfl
 |blk g ty cells=>simp only;split <;> first|rfl|(split <;> rfl)
def SC {H:ah}{a b:fZ}:(H.new a).put H.next b=H.new b:=by
 unfold ah.put ah.new;simp only
 congr 1
 funext x
 split <;> rfl
def ajN {H:ah}{r:Nat}{a b:fZ}(h:r<H.next):(H.new a).put r b=(H.put r b).new a:=by
 unfold ah.put ah.new;simp only
 congr 1
 funext x
 split <;> split <;> first|rfl|(exfalso;omega)
def Pj {n:Nat}{H:ah}{r off:Nat}{v:AV}{ty:TypeId}{cells:List AV}(h:r=H.next):st n (.ref r 0 off) v (H.new (.blk 0 ty cells))=if H.base<=r/\n=v.cells.length/\v.cells.all AV.aQ=true/\off+v.cells.length<=cells.length then some (bf,H.new (.blk 0 ty (aV cells off v.cells))) else none:=by
 subst h;rw [Ls,bC rfl];simp only [true_and,ji,SC]
def Pm {n:Nat}{H:ah}{r off:Nat}{v:AV}{o:fZ}(h:r<H.next):st n (.ref r 0 off) v (H.new o)=(st n (.ref r 0 off) v H).map λp=>(p.1,p.2.new o):=by
 rw [Ls,Ls,dS h];cases H.get r with
 |map k es=>rfl
 |blk g ty cells=>
  simp only [ji];split
  ·simp only [zak,ajN h]
  ·rfl
def ae8 {r off n:Nat}{v:AV}{ty:TypeId}{xs:List AV}{H:ah}(h:H.get r=.blk 0 ty xs)(hb:H.base<=r)(b:v.cells.all AV.aQ=true)(d:v.cells.length=n)(e:off+n<=xs.length):st n (.ref r 0 off) v H=some (bf,H.put r (.blk 0 ty (aV xs off v.cells))):=by
 show(match H.get r with
  |.blk g' ty cells=>if g'=0/\H.base<=r/\some n=some v.cells.length/\v.cells.all AV.aQ=true/\off+v.cells.length<=cells.length then some (bf,H.put r (.blk 0 ty (aV cells off v.cells))) else none
  |.map ..=>none)=_
 rw [h];simp only;rw [if_pos ⟨trivial,hb,by rw [d],b,V⟩]
def eF {b:Nat->Option (Nat × Nat)}{z:List AV}:gZ b z []=some z:=rfl
def Gs {b:Nat->Option (Nat × Nat)}{z:List AV}{i off:Nat}{v:AV}{ps:List (Nat × AV)}(d:b i=some (off,1))(e:v.cells=[v])(g:off<z.length):gZ b z ((i,v)::ps)=gZ b (z.set off v) ps:=by
 rw [gZ];simp only [d,e,zal,zam];rw [if_pos ⟨trivial,V⟩,O8 g]
def yT {e m:Nat}{z:List AV}{H:ah}:bsl e m z 0 [] H=some (.sl H.next 0 0 m 0 0 true,H.new (.blk 0 e [])):=rfl
def jS {e m:Nat}{z:List AV}{v:AV}{H:ah}(b:z.length=m)(d:v.cells.length=m)(g:v.cells.all AV.aQ=true):bsl e m z 1 [(0,v)] H=some (.sl H.next 0 0 m 1 1 true,H.new (.blk 0 e v.cells)):=by
 have h:(dY z 1).length=m:=by simp [dY,b]
 unfold bsl;rw [gZ];simp only [zbm,d,h,zaW,zac,and_self,if_true,gZ];have:aV (dY z 1) 0 v.cells=v.cells:=by
  simp only [aV,zdz,zaL,zaW];rw [zaS V,za8]
 rw [this,if_pos g]
def mO {e m n:Nat}{l:List AV}{H:ah}{ex:Bool}(h:l.length=n*m):aN (H.new (.blk 0 e l)) (.sl H.next 0 0 m n n ex) m n l:=
 ⟨h,rfl,rfl,⟨by rw [fE];omega,zac _⟩,e,l,by simp [jh],V,by rw [zaQ,zaw V]⟩
def sZ {e m by_ r n ty:Nat}{y:AV}{cells:List AV}{H:ah}(d:H.get r=.blk 0 ty [])(b:aN H y m n cells)(g:cells.all AV.aQ=true)(h:n≠0)(o:n<=most)(i:n*by_<=most):
  app e m by_ (.sl r 0 0 m 0 0 true) y H=some (.sl H.next 0 0 m n n false,H.new (.blk 0 (e+gY) cells)):=by
 obtain⟨j,k⟩:=b.wI;simp only [app,j,k];unfold eu;rw [if_pos ⟨b.1,g⟩];simp only [d];rw [if_pos ⟨trivial,trivial,O⟩,if_neg h,if_neg V,if_pos ⟨V,by rw [zaW];exact i⟩];simp
def SE {e m by_ n:Nat}{y:AV}{cells:List AV}{H:ah}(b:aN H y m n cells)(d:cells.all AV.aQ=true)(g:n≠0)(h:n<=most)(i:n*by_<=most):
  app e m by_ zN y H=some (.sl H.next 0 0 m n n false,H.new (.blk 0 (e+gY) cells)):=by
 obtain⟨j,k⟩:=b.wI;simp only [app,j,k];unfold eu;rw [if_pos ⟨b.1,d⟩];simp only;rw [if_neg g,if_pos ⟨h,i⟩]
def tq {P:Program}{t e:TypeId}{n m:Nat}{l:List AV}(h:P.underlying t=some (.slice e)):qo P .eql t (.vs n m l) (.s (.slice none 0 0))=some (B false):=by
 simp [qo,AV.val?,Oa,h]
def BL {P:Program}{t e:TypeId}{r g o m n c:Nat}{ex:Bool}(h:P.underlying t=some (.slice e)):qo P .eql t (.sl r g o m n c ex) (.s (.slice none 0 0))=some (B false):=by
 simp [qo,AV.val?,Oa,h]
def Pn {P:Program}{C:aC}{f:FuncId}{a c args:List AV}{H:ah}(h:qw P f=true):yJ P C (.fn (.func f) a c) args H=C f (a++args++c) H:=acr h
def wrap_i64 {a:Int}(b:-9223372036854775808<=a)(d:a<=9223372036854775807):IntKind.wrap .i64 a=a:=aja b d
def xq_:(type_of% @aey)/\(type_of% @aji)/\(type_of% @Uy)/\(type_of% @YL)/\(type_of% @Ju)/\(type_of% @Gg)/\(type_of% @OT)/\(type_of% @decide_true)/\
 (type_of% @decide_false)/\(type_of% @ajJ)/\(type_of% @ajK)/\(type_of% @ajL)/\(type_of% @ajM)/\(type_of% @UD)/\
 (type_of% @OV)/\(type_of% @UA)/\(type_of% @Option.map_some.{0,0})/\(type_of% @Option.bind_some.{0,0})/\(type_of% @rC)/\(type_of% @yQ)/\
 (type_of% @YU)/\(type_of% @ae0)/\(type_of% @ae1)/\(type_of% @ae2)/\(type_of% @ae3)/\(type_of% @List.getElem?_cons_zero.{0})/\
 (type_of% @List.getElem?_cons_succ.{0})/\(type_of% @Nat.zero_add)/\(type_of% @Nat.add_zero)/\(type_of% @aqb)/\(type_of% @aqc)/\(type_of% @Yv)/\
 (type_of% @Yw)/\(type_of% @RX)/\(type_of% @Lh)/\(type_of% @Yx)/\(type_of% @Yy)/\(type_of% @UC)/\
 (type_of% @beq_self_eq_true.{0})/\(type_of% @if_true.{1})/\(type_of% @Bool.false_eq_true)/\(type_of% @if_false.{1})/\(type_of% @List.nil_append.{0})/\(type_of% @List.cons_append.{0})/\
 (type_of% @List.append_nil.{0})/\(type_of% @ae5)/\(type_of% @ae6)/\(type_of% @fE)/\(type_of% @aqd)/\(type_of% @ji)/\
 (type_of% @aqe)/\(type_of% @SB)/\(type_of% @an6):=
 ⟨@aey,@aji,@Uy,@YL,@Ju,@Gg,@OT,@decide_true,@decide_false,@ajJ,@ajK,@ajL,@ajM,@UD,@OV,@UA,@Option.map_some.{0,0},@Option.bind_some.{0,0},@rC,@yQ,@YU,@ae0,@ae1,@ae2,@ae3,@List.getElem?_cons_zero.{0},@List.getElem?_cons_succ.{0},@Nat.zero_add,@Nat.add_zero,@aqb,@aqc,@Yv,@Yw,@RX,@Lh,@Yx,@Yy,@UC,@beq_self_eq_true.{0},@if_true.{1},@Bool.false_eq_true,@if_false.{1},@List.nil_append.{0},@List.cons_append.{0},@List.append_nil.{0},@ae5,@ae6,@fE,@aqd,@ji,@aqe,@SB,@an6⟩
def hq_:(type_of% @ae7)/\(type_of% @Dz)/\(type_of% @YV)/\(type_of% @YW)/\(type_of% @Pj)/\(type_of% @Pm)/\
 (type_of% @Nat.lt_add_one)/\(type_of% @ne_eq.{1})/\(type_of% @nx1)/\(type_of% @nx2)/\(type_of% @nx3)/\(type_of% @ny1)/\
 (type_of% @ny2)/\(type_of% @ny3)/\(type_of% @not_false_eq_true)/\(type_of% @List.length_cons.{0})/\(type_of% @List.length_nil.{0})/\(type_of% @List.take_succ_cons.{0})/\
 (type_of% @List.take_zero.{0})/\(type_of% @List.drop_succ_cons.{0})/\(type_of% @List.drop_zero.{0})/\(type_of% @Ph)/\(type_of% @OW)/\(type_of% @Jm)/\
 (type_of% @gu)/\(type_of% @List.all_cons.{0})/\(type_of% @List.all_nil.{0})/\(type_of% @iV)/\(type_of% @kF)/\(type_of% @oC)/\
 (type_of% @Jo)/\(type_of% @Jp)/\(type_of% @Jz)/\(type_of% @Gm)/\(type_of% @Jw)/\(type_of% @bV)/\
 (type_of% @eU)/\(type_of% @BK)/\(type_of% @dV)/\(type_of% @Jv)/\(type_of% @Gl)/\(type_of% @Jy)/\
 (type_of% @aeT)/\(type_of% @Pg)/\(type_of% @aeU)/\(type_of% @aeV)/\(type_of% @aeW)/\(type_of% @aeX)/\
 (type_of% @YR)/\(type_of% @aeY)/\(type_of% @kZ)/\(type_of% @aT)/\(type_of% @rZ)/\(type_of% @Gn)/\
 (type_of% @lg)/\(type_of% @YS)/\(type_of% @bH)/\(type_of% @Gp)/\(type_of% @List.drop_nil.{0})/\(type_of% @Bool.and_true)/\
 (type_of% @Bool.and_self)/\(type_of% @and_self)/\(type_of% @Nat.le_refl)/\(type_of% @true_and)/\(type_of% @and_true)/\(type_of% @Nat.le_add_right)/\
 (type_of% @leS)/\(type_of% @ltS):=
 ⟨@ae7,@Dz,@YV,@YW,@Pj,@Pm,@Nat.lt_add_one,@ne_eq.{1},@nx1,@nx2,@nx3,@ny1,@ny2,@ny3,@not_false_eq_true,@List.length_cons.{0},@List.length_nil.{0},@List.take_succ_cons.{0},@List.take_zero.{0},@List.drop_succ_cons.{0},@List.drop_zero.{0},@Ph,@OW,@Jm,@gu,@List.all_cons.{0},@List.all_nil.{0},@iV,@kF,@oC,@Jo,@Jp,@Jz,@Gm,@Jw,@bV,@eU,@BK,@dV,@Jv,@Gl,@Jy,@aeT,@Pg,@aeU,@aeV,@aeW,@aeX,@YR,@aeY,@kZ,@aT,@rZ,@Gn,@lg,@YS,@bH,@Gp,@List.drop_nil.{0},@Bool.and_true,@Bool.and_self,@and_self,@Nat.le_refl,@true_and,@and_true,@Nat.le_add_right,@leS,@ltS⟩
def su(g g':bF):Prop:=∀q cs,g q=some cs->g' q=some cs
def su.refl(g:bF):su g g:=λ_ _ h=>h
def su.more {g g':bF}(h:su g g'){n:Nat}(d:g n=none)(c:List Cell):su g (upd g' n c):=λq cs b=>by
 rw [bJ (λe=>by rw [e,d] at b;cases b)];exact h q cs b
def su.both {g g':bF}(h:su g g')(n:Nat)(c:List Cell):su (upd g n c) (upd g' n c):=λq cs b=>by
 by_cases e:q=n
 ·subst e;rw [aW] at b ⊢;exact b
 ·rw [bJ e] at b ⊢;exact h q cs b
def zT {g:bF}{q n:Nat}{c:List Cell}(h:g n=none)(b:n≠q):upd g q c n=none:=by rw [bJ b];exact h
section
variable {b:Nat}{H H':ah}{g:bF}{q:Nat}{cs:List Cell}
def Cur.length {i m n:Nat}{x:AV}{l:List AV}(c:Cur b H q i x m l)(hm:0<m)(d:l.length=n*m):(x=zN/\n=0)∨∃r g off cap ex ty all,x=.sl r g off m n cap ex/\r≠q/\b<=r/\r<H.next/\n<=cap/\H.get r=.blk g ty all/\off+cap*m<=all.length/\all.all AV.aQ=true/\l=(all.drop off).take (n*m):=by
 rcases c.own with⟨rfl,rfl⟩|⟨r,g,off,n',cap,ex,ty,all,rfl,k1,e,j,k4,k,o,p,rfl⟩
 ·left;simp only [zam] at d;refine⟨rfl,?_⟩;rcases zc2.1 d.symm with h|h <;> omega
 ·right;have u:n'*m<=cap*m:=zaD _ k4;rw [zat,zaO,zbj V] at d;have:n'=n:=zbN hm d;subst this;exact⟨r,g,off,cap,ex,ty,all,rfl,k1,e,j,k4,k,o,p,rfl⟩
def ajO {r gg off m len cap:Nat}{ex:Bool}{k1 k2:IntKind}{lo hi:Int}(h0:0<=lo)(d:lo<=hi)(e:hi<=cap):slS m (.sl r gg off m len cap ex) (some (.s (.int k1 lo))) (some (.s (.int k2 hi))) none=some (.sl r gg (off+lo.toNat*m) m (hi.toNat-lo.toNat) (cap-lo.toNat) ex):=by
 have b:0<=hi:=V
 simp only [slS,iW,h0,b,if_true,isNone,zah,Bool.or_false];rw [if_pos ⟨trivial,V,V,V,O⟩]
def UQ {r gg off m len cap:Nat}{ex:Bool}{k2:IntKind}{hi:Int}(h0:0<=hi)(b:hi<=cap):slS m (.sl r gg off m len cap ex) none (some (.s (.int k2 hi))) none=some (.sl r gg off m hi.toNat cap ex):=by
 simp only [slS,iW,h0,if_true,isNone,zah,Bool.or_false];rw [if_pos ⟨trivial,V,V,V,O⟩];simp
def Ey {r gg off m len cap:Nat}{ex:Bool}{k1:IntKind}{lo:Int}(h0:0<=lo)(b:lo<=len)(d:len<=cap):slS m (.sl r gg off m len cap ex) (some (.s (.int k1 lo))) none none=some (.sl r gg (off+lo.toNat*m) m (len-lo.toNat) (cap-lo.toNat) ex):=by
 simp only [slS,iW,h0,if_true,isNone,zah,Bool.or_false];rw [if_pos ⟨trivial,V,V,V,O⟩]
def ag3 {r gg off m len cap:Nat}{ex:Bool}{k1 k2 d:IntKind}{lo hi b:Int}(h0:0<=lo)(h:lo<=hi)(i:hi<=b)(j:b<=cap):slS m (.sl r gg off m len cap ex) (some (.s (.int k1 lo))) (some (.s (.int k2 hi))) (some (.s (.int d b)))=some (.sl r gg (off+lo.toNat*m) m (hi.toNat-lo.toNat) (b.toNat-lo.toNat) true):=by
 have e:0<=hi:=V
 have g:0<=b:=V
 simp only [slS,iW,h0,e,g,if_true,isNone,zaq,Bool.or_true];rw [if_pos ⟨trivial,V,V,V,O⟩]
def BM {z:List AV}(h:z.all AV.aQ=true):∀n,(dY z n).all AV.aQ=true
 |0=>rfl
 |n+1=>by rw [dY,zb7,h,BM h n];rfl
def UR {i m n:Nat}{x:AV}{l z:List AV}(c:Cur b H q i x m l)(hb:H.base<=b)(hm:0<m)(hl:l.length=n*m)(hn:n<1000000000){j:Nat}(hj:j<n)(Q:z.length=m)(o:z.all AV.aQ=true){e:TypeId}{by_:Nat}(aa:by_<1000):
  ∃y R T C H1 W u,slS m x (some (I j)) (some (I (j+1))) (some (I n))=some y/\slS m x none (some (I j)) none=some R/\slS m x (some (I (j+1))) none none=some T/\app e m by_ R T H=some (C,H1)/\
   lnS C H1=some (I ((n:Int)-1),H1)/\slS m C (some (I ((n:Int)-1))) (some (I n)) none=some W/\clr m z W H1=some (.tup [],u)/\
   Fit H u x C m (l.take (j*m)++l.drop ((j+1)*m))/\u.next=H.next/\u.base=H.base/\∀r,gG x≠some r->u.get r=H.get r:=by
 rcases c.length hm hl with⟨_,D⟩|⟨r,gg,off,cap,ex,k,all,rfl,k1,k2,k3,k4,E,k6,F,rfl⟩
 ·omega
 have ab:(j+1)*m<=n*m:=zaD _ hj;have ad:n*m<=cap*m:=zaD _ k4;have ae:(j+1)*m=j*m+m:=zbA j m;have af:(n-(j+1))*m=n*m-(j+1)*m:=Nat.sub_mul n (j+1) m;have ag:(n-1)*m=n*m-m:=by rw [Nat.sub_mul,zbt]
 let new:=(all.drop (off+(j+1)*m)).take ((n-(j+1))*m);have h:new.length=(n-(j+1))*m:=by simp only [new];rw [zat,zaO];omega
 let d:=aV all (off+j*m) new;have v:d.length=all.length:=oz V;let g:=aV d (off+(n-1)*m) (dY z 1);have ai:(dY z 1).length=m:=by simp [dY,Q]
 have al:g.length=all.length:=by rw [oz V];exact v
 have G:d.all AV.aQ=true:=wJ F (Eu (zO F _) _) _;have K:g.all AV.aQ=true:=wJ G (BM o 1) _;have w:app e m by_ (.sl r gg off m j cap ex) (.sl r gg (off+(j+1)*m) m (n-(j+1)) (cap-(j+1)) ex) H=some (.sl r gg off m (n-1) cap ex,H.put r (.blk gg k d)):=by
  have hs:cO H (.sl r gg (off+(j+1)*m) m (n-(j+1)) (cap-(j+1)) ex)=some new:=by
   simp only [cO,E];rw [if_pos ⟨trivial,V⟩]
  simp only [app,jV,hs];unfold eu;rw [if_pos ⟨h,Eu (zO F _) _⟩];simp only [E];rw [if_pos ⟨trivial,trivial,V⟩];by_cases D:n-(j+1)=0
  ·rw [if_pos D];have L:new=[]:=zas (by rw [h,D,zbm]);have:d=all:=by
    simp only [d,L,aV,zaL,zam,zbM,zcS]
   rw [this,show j=n-1 by omega]
   congr 2
   ·unfold ah.put;have:(λx=>if x=r then fZ.blk gg k all else H.get x)=H.get:=by
     funext x
     split
     ·rename_i e;rw [e,E]
     ·rfl
    rw [this]
  ·rw [if_neg D,if_pos V,if_pos ⟨V,by
    have:(j+(n-(j+1)))*m<=cap*m:=zaD _ V;omega⟩]
   rw [show j+(n-(j+1))=n-1 by omega]
 refine⟨_,.sl r gg off m j cap ex,.sl r gg (off+(j+1)*m) m (n-(j+1)) (cap-(j+1)) ex,.sl r gg off m (n-1) cap ex,H.put r (.blk gg k d),.sl r gg (off+(n-1)*m) m 1 (cap-(n-1)) ex,(H.put r (.blk gg k d)).put r (.blk gg k g),ag3 V V V V,?_,?_,w,?_,?_,?_,.inr ⟨r,gg,off,n-1,cap,ex,k,g,rfl,.inl rfl,k3,V,by simp [dM],V,K,?_⟩,rfl,rfl,?_⟩
 ·exact UQ V V
 ·have:=Ey (r:=r) (gg:=gg) (off:=off) (m:=m) (len:=n) (cap:=cap) (ex:=ex) (k1:=.i64) (lo:=(j:Int)+1) V V  k4;rw [show((j:Int)+1).toNat=j+1 by omega] at this;exact this
 ·simp only [lnS,ku,anX,zak]
  congr 5
  omega
 ·have:=ajO (r:=r) (gg:=gg) (off:=off) (m:=m) (len:=n-1) (cap:=cap) (ex:=ex) (k1:=.i64) (k2:=.i64) (lo:=(n:Int)-1) (hi:=n) V V V;rw [show((n:Int)-1).toNat=n-1 by omega,show(n:Int).toNat=n by omega,show n-(n-1)=1 by omega] at this;exact this
 ·simp only [clr,Nat.one_ne_zero,if_false,dM,if_true];rw [if_pos ⟨trivial,trivial,by rw [acs];omega,Q,o,by rw [v];omega⟩]
 ·-- what is there then
  apply zbd
  intro p;have A:((all.drop off).take (n*m)).length=n*m:=by rw [zat,zaO];omega
  rcases zaT p (j*m) with X|X
  ·rw [zaV (by rw [zat];omega),zaC,if_pos X,zaC,if_pos V,zaC,if_pos V,zaF,zaF];rw [nH V,if_neg V,nH V,if_neg V]
  ·rw [zaZ (by rw [zat];omega),zat,A,zbj V,zaF];rcases zaT p ((n-1)*m) with h2|h2
   ·rw [zaC,if_pos V,zaF,zaC,if_pos h2,zaF];rw [nH V,if_neg V,nH V,if_pos V];simp only [new];rw [zaC,if_pos V,zaF]
    congr 1;omega
   ·rw [zaH (by rw [A];omega),zaH (by rw [zat,zaO];omega)]
 ·intro r' M;have:r'≠r:=λe=>M (by rw [e];rfl);rw [dM,if_neg this,dM,if_neg this]
def ae9 {e m by_:Nat}{z:List AV}{n:Int}{H:ah}(b:z.length=m)(d:z.all AV.aQ=true)(h0:0<=n)(g:n<=1000000)(hb:by_<=1000):mks e m by_ z (I n) (I n) H=some (.sl H.next 0 0 m n.toNat n.toNat true,H.new (.blk 0 e (dY z n.toNat))):=by
 have h:(by_:Int)*n<=140737488355328:=by
  have:(by_:Int)*n<=1000*1000000:=zck V g h0 V;omega
 simp only [mks];rw [if_pos ⟨b,d,h0,zbr _,V,h⟩]
def kM {v:AV}:∀n,dY [v] n=List.replicate n v
 |0=>rfl
 |n+1=>by rw [dY,kM n];rfl
def aN.from_ {x:AV}{m n:Nat}{cells:List AV}(h:aN H x m n cells){k:IntKind}{lo:Int}(h0:0<=lo)(o:lo<=n):∃y,slS m x (some (.s (.int k lo))) none none=some y/\aN H y m (n-lo.toNat) (cells.drop (lo.toNat*m)):=by
 obtain⟨i,h⟩:=h;have p:lo.toNat*m<=n*m:=zaD _ V;have d:(n-lo.toNat)*m=n*m-lo.toNat*m:=Nat.sub_mul n lo.toNat m;cases x with
 |sl r g off e len q ex=>
  obtain⟨rfl,rfl,⟨u,w⟩,z,all,A,j,C⟩:=h;refine⟨_,Ey h0 o w,by rw [zaO,i,d],rfl,rfl,⟨u,V⟩,z,all,A,by rw [d];omega,?_⟩;rw [C,zcj,zbE,d]
 |vs k' e cs=>
  obtain⟨rfl,rfl,rfl⟩:=h;refine⟨.vs (k'-lo.toNat) e ((cs.drop (lo.toNat*e)).take ((k'-lo.toNat)*e)),?_,by rw [zaO,i,d],rfl,rfl,?_⟩
  ·simp only [slS,iW,h0,if_true];rw [if_pos ⟨trivial,V,V⟩]
  ·rw [zaw (by rw [zaO,i,d];exact zac _)]
 |s v=>
  cases v with
  |slice a b c=>
   cases a with
   |none=>
    obtain⟨rfl,rfl,rfl⟩:=h;have j:lo=0:=V
    subst j;refine⟨zN,by simp [slS,iW],?_,rfl,rfl,rfl⟩
    simpa using i
   |some a=>exact h.elim
  |_=>exact h.elim
 |_=>exact h.elim
def ajQ {r g off m len cap ty n:Nat}{ex:Bool}{cells new:List AV}{y:AV}(hx:H.get r=.blk g ty cells)(hb:H.base<=r)(hl:off+len*m<=cells.length)(hy:aN H y m n new)(hc:new.all AV.aQ=true):
  ∃H',cpy m (.sl r g off m len cap ex) y H=some (I ((min n len:Nat):Int),H')/\H'.get r=.blk g ty (aV cells off (new.take (min n len*m)))/\(∀r',r'≠r->H'.get r'=H.get r')/\H'.next=H.next/\H'.base=H.base:=by
 obtain⟨c1,c2⟩:=hy.wI;have c3:=hy.1;have s1:jV (AV.sl r g off m len cap ex)=some len:=rfl;simp only [cpy,s1,c1,c2];rw [if_pos ⟨c3,hc⟩];by_cases hk:min n len=0
 ·refine⟨H,by rw [if_pos hk,hk];rfl,?_,λ_ _=>rfl,rfl,rfl⟩;rw [hx,hk,zbm,zdz];simp only [aV,zaL,zam,zbM,zcS]
 ·rw [if_neg hk];simp only [hx];rw [if_pos ⟨trivial,trivial,hb,hl⟩];exact⟨_,rfl,by rw [dM,if_pos rfl],λr' hr=>by rw [dM,if_neg hr],rfl,rfl⟩
end
def jl {α:Type}:List (Int × α)->Int->Option α
 |[],_=>none
 |(k,v)::l,n=>if k=n then some v else jl l n
def lT {α:Type}:List (Int × α)->Int->α->List (Int × α)
 |[],n,x=>[(n,x)]
 |(k,v)::l,n,x=>if k=n then(n,x)::l else(k,v)::lT l n x
def x9 {α:Type}:List (Int × α)->Int->List (Int × α)
 |[],_=>[]
 |(k,v)::l,n=>if k=n then l else(k,v)::x9 l n
section
variable {α:Type}(f:α->AV)
def YX(l:List (Int × α)):List (Int × AV):=l.map λe=>(e.1,f e.2)
def xF:∀(l:List (Int × α)) (n:Int),qp (YX f l) n=(jl l n).map f
 |[],_=>rfl
 |(k,v)::l,n=>by
  simp only [YX,zaA,qp,jl];by_cases h:k=n
  ·simp [h]
  ·simp only [h,if_false];exact xF l n
def Gt:∀(l:List (Int × α)) (n:Int) (x:α),KC (YX f l) n (f x)=YX f (lT l n x)
 |[],_,_=>rfl
 |(k,v)::l,n,x=>by
  simp only [YX,zaA,KC,lT];by_cases h:k=n
  ·simp [h]
  ·simp only [h,if_false,zaA,zbG,true_and];exact Gt l n x
def UU:∀(l:List (Int × α)) (n:Int),zA (YX f l) n=YX f (x9 l n)
 |[],_=>rfl
 |(k,v)::l,n=>by
  simp only [YX,zaA,zA,x9];by_cases h:k=n
  ·simp [h]
  ·simp only [h,if_false,zaA,zbG,true_and];exact UU l n
end
abbrev Gu(n most:Int):Bool:=decide (1<=n) && decide (n<=most)
def Cfg.ok(c:Cfg):Bool:=
 Gu c.aH 6 && Gu c.aY 8 && Gu c.bn 4 && Gu c.sets 4 && Gu c.ways 3 && Gu c.out 8 && Gu c.inn 8 && decide ((c.init.length:Int)<=c.aY*c.bn)
def yB(aj by_:Int):Int:=if aj<0 then -1 else aj % by_
def Cfg.bg(c:Cfg)(aj:Int):Int:=yB aj c.aH
def Cfg.kC(c:Cfg):Int:=c.aY*c.bn
def Cfg.bU(c:Cfg)(a:Int):Int:=if a<0∨c.kC<=a then -1 else a / c.bn
def Cfg.dh(c:Cfg)(a:Int):Int:=if a<0∨c.kC<=a then 0 else a % c.bn
def Cfg.first(c:Cfg)(aj:Int):List Int:=
 if aj<0∨c.aY<=aj then [] else(List.range c.bn.toNat).map λi=>c.init.getD ((aj*c.bn).toNat+i) 0
def Cfg.right(c:Cfg)(o:Opn):Bool:=decide (1<=o.aO) && decide (o.aO<=4) && decide (c.bU o.addr≠-1) && (decide (o.value=0) || decide (o.aO=2) || decide (o.aO=3))
def Cfg.WJ(c:Cfg)(ps:List (List Opn)):Bool:=(ps.all λl=>decide (l.length<=24) && l.all c.right) && decide ((ps.length:Int)=c.aH)
def pV(k:Int):Bool:=decide (1<=k) && decide (k<=6)
def BN(k:Int):Int:=if k=1 then 7 else if k=2∨k=4∨k=5 then 8 else if k=3∨k=6 then 9 else 0
def Pkt.ok(p:Pkt):Bool:=
 decide (0<=p.src) && decide (p.src<6) && decide (0<=p.dst) && decide (p.dst<6) && decide (0<=p.id) && decide (p.id<4096) && decide (1<=p.aO) && decide (p.aO<10) && decide (0<=p.aj) && decide (p.aj<8) &&
 decide (-1<=p.ptr) && decide (p.ptr<6) && decide (0<=p.aU) && decide (p.aU<3) && decide (p.data.length<=4)
structure Cache where
 l:List Ent
 sets:Int
 ways:Int
 bW:Int
def Cache.at_(c:Cache)(aj:Int):Option Nat:=c.l.findIdx? λe=>decide (e.aj=aj)
def Cache.oD(c:Cache)(aj:Int):List Ent:=c.l.filter λe=>decide (0<=aj) && decide (e.aj.tmod c.sets=aj.tmod c.sets)
def Cache.find(c:Cache)(aj:Int):Option Ent:=c.l.find? λe=>decide (e.aj=aj)
def Cache.full(c:Cache)(aj:Int):Bool:=(c.find aj).isNone && decide (c.ways<=(c.oD aj).length)
def Cache.put(c:Cache)(e:Ent):Cache × Int:=
 if e.aj<0 then(c,1) else
 match c.at_ e.aj with
 |some i=>({ c with l:=c.l.set i { e with used:=(c.l.getD i .zero).used } },0)
 |none=>if c.full e.aj then(c,5) else({ c with l:=c.l++[{ e with used:=c.bW+1 }],bW:=c.bW+1 },0)
def Cache.drop(c:Cache)(aj:Int):Cache:=
 match c.at_ aj with
 |some i=>{ c with l:=c.l.eraseIdx i }
 |none=>c
def Cache.touch(c:Cache)(aj:Int):Cache:=
 match c.at_ aj with
 |some i=>{ c with l:=c.l.set i { c.l.getD i .zero with used:=c.bW+1 },bW:=c.bW+1 }
 |none=>c
def nJ:List Ent->Option Ent
 |[]=>none
 |e::l=>some (l.foldl (λm x=>if x.used<m.used then x else m) e)
def Cache.nR(c:Cache)(aj:Int):Option Int:=(nJ (c.oD aj)).map (·.aj)
structure Turns where
 fV:List (Int × Int)
 wait:List (Int × List (Int × Int))
def Turns.owner(t:Turns)(aj:Int):Int:=(jl t.fV aj).getD (-1)
def Turns.owned(t:Turns)(aj:Int):Bool:=(jl t.fV aj).isSome
def Turns.ws(t:Turns)(aj:Int):List (Int × Int):=(jl t.wait aj).getD []
def Turns.ask(t:Turns)(aj who id:Int):Turns × Bool:=
 if who<0 then(t,false) else
 if t.owned aj || !(t.ws aj).isEmpty then({ t with wait:=lT t.wait aj (t.ws aj++[(who,id)]) },false)
 else({ t with fV:=lT t.fV aj who },true)
def Turns.release(t:Turns)(aj who:Int):Turns × Int:=
 if jl t.fV aj=some who then({ t with fV:=x9 t.fV aj },0) else(t,6)
def Turns.next(t:Turns)(aj:Int):Turns × Option (Int × Int):=
 if t.owned aj then(t,none) else
 match t.ws aj with
 |[]=>(t,none)
 |w::ws=>({ fV:=lT t.fV aj w.1,wait:=lT t.wait aj ws },some w)
def Turns.ready(t:Turns)(b:List Int):List Int:=b.filter λaj=>!t.owned aj && !(t.ws aj).isEmpty
abbrev Rows:=List (Int × Row)
def iD(c:Cfg)(dD:Rows)(aj aU head:Int)(data:List Int):Rows × Int:=
 match jl dD aj with
 |none=>(dD,3)
 |some r=>
  if aU<0∨2<aU∨head < -1∨c.aH<=head then(dD,1)
  else if(decide (head=-1) !=decide (aU=0)) || (decide (data≠[]) && decide ((data.length:Int)≠c.bn)) then(dD,1)
  else(lT dD aj ⟨aU,head,if data=[] then r.data else data⟩,0)
structure Home where
 dD:Rows
 aP:Turns
def jd(dD:Rows)(aj:Int):Row:=(jl dD aj).getD .zero
def granted(dD:Rows)(bD aj who id:Int):Pkt:=⟨7,bD,who,id,aj,(jd dD aj).head,(jd dD aj).aU,false,(jd dD aj).data⟩
def Home.unlock(c:Cfg)(h:Home)(p:Pkt):Home × Int:=
 if h.aP.owner p.aj≠p.src then(h,6) else
 let r:=iD c h.dD p.aj p.aU p.ptr (if p.flag then p.data else [])
 if r.2=0 then(⟨r.1,(h.aP.release p.aj p.src).1⟩,(h.aP.release p.aj p.src).2) else(h,r.2)
def Home.handle(c:Cfg)(bD:Int)(h:Home)(p:Pkt):Home × Pkt × Bool × Int:=
 if !(p.ok && decide (p.dst=bD) && decide (p.src<c.aH)) || (decide (p.aO≠1) && decide (p.aO≠2)) then(h,.zero,false,1)
 else if c.bg p.aj≠bD∨c.aY<=p.aj then(h,.zero,false,3)
 else if p.aO=1 then
  let a:=h.aP.ask p.aj p.src p.id
  if a.2=true then({ h with aP:=a.1 },granted h.dD bD p.aj p.src p.id,true,0) else({ h with aP:=a.1 },.zero,false,0)
 else
  let u:=h.unlock c p
  if u.2=0 then(u.1,⟨8,bD,p.src,p.id,p.aj,0,0,false,[]⟩,true,0) else(u.1,.zero,false,u.2)
def fM(c:Cache)(p:Pkt):Cache × Pkt × Int:=
 if !p.ok || decide (p.aO<3) || decide (6<p.aO) then(c,.zero,1) else
 match c.find p.aj with
 |none=>(c,.zero,2+1)
 |some e=>
  let out:Pkt:=⟨BN p.aO,p.dst,p.src,p.id,p.aj,0,0,false,[]⟩
  if p.aO=3 then let r:=c.put { e with bZ:=false,back:=p.ptr };(r.1,{ out with data:=e.data,flag:=e.bZ },r.2)
  else if p.aO=4 then let r:=c.put { e with fwd:=p.ptr };(r.1,out,r.2)
  else if p.aO=5 then let r:=c.put { e with back:=p.ptr };(r.1,out,r.2)
  else(c.drop p.aj,{ out with data:=e.data,flag:=e.bZ,ptr:=e.fwd },0)
def bP.begin(aO aj id:Int):bP:=⟨aO,aj,id,1,0,-1,[],-1,-1⟩
def zU(step:Int):Int:=if step=1 then 1 else if step=2 then 3 else if step=3 then 6 else if step=4 then 4 else if step=5 then 5 else if step=6 then 2 else 0
def bP.ask(d:bP)(bD home:Int):Pkt:=
 if d.step=1 then⟨1,bD,home,d.id,d.aj,0,0,false,[]⟩
 else if d.step=2 then⟨3,bD,d.head,d.id,d.aj,bD,0,false,[]⟩
 else if d.step=3 then⟨6,bD,d.next,d.id,d.aj,0,0,false,[]⟩
 else if d.step=4 then⟨4,bD,d.head,d.id,d.aj,d.next,0,false,[]⟩
 else if d.step=5 then⟨5,bD,d.next,d.id,d.aj,d.head,0,false,[]⟩
 else if d.step=6 then⟨2,bD,home,d.id,d.aj,d.head,d.aU,decide (d.data≠[]),d.data⟩
 else .zero
def bP.fits(d:bP)(p:Pkt):Bool:=
 decide (BN (zU d.step)≠0) && decide (p.aO=BN (zU d.step)) && decide (p.id=d.id) && decide (p.aj=d.aj)
abbrev Nxt:=Cache × bP × Bool
def vT(c:Cache):Nxt:=(c,.zero,false)
def dW(d:bP)(bD:Int)(c:Cache)(p:Pkt):Nxt:=
 if d.aO≠1∨d.fits p=false then vT c
 else if d.step=1 then
  if p.aU≠0 then(c,{ d with aU:=p.aU,head:=p.ptr,told:=p.ptr,data:=p.data,step:=2 },true)
  else((c.put ⟨-1,-1,d.aj,0,false,p.data⟩).1,{ d with told:=p.ptr,step:=6,aU:=1,head:=bD,data:=[] },true)
 else if d.step=2 then
  ((c.put ⟨d.head,-1,d.aj,0,false,p.data⟩).1,{ d with step:=6,aU:=1,head:=bD,data:=if p.flag then p.data else [] },true)
 else if d.step=6 then(c,{ d with step:=0 },true)
 else vT c
def dn(d:bP)(bD:Int)(c:Cache):Cache × bP:=
 let d:bP:=match c.find d.aj with
  |some own=>if d.next=bD then { d with next:=own.fwd } else d
  |none=>d
 if d.next≠-1 then(c,{ d with step:=3 })
 else((c.put ⟨-1,-1,d.aj,0,true,d.data⟩).1,{ d with step:=6,aU:=2,head:=bD,data:=[] })
def dX(d:bP)(bD:Int)(c:Cache)(p:Pkt):Nxt:=
 if d.aO≠2∨d.fits p=false then vT c
 else if d.step=1 then
  let r:=dn { d with aU:=p.aU,head:=p.ptr,told:=p.ptr,data:=(match c.find d.aj with|some own=>own.data|none=>p.data),next:=p.ptr } bD c
  (r.1,r.2,true)
 else if d.step=3 then
  let r:=dn { d with data:=(match c.find d.aj with|some _=>d.data|none=>p.data),next:=p.ptr } bD c
  (r.1,r.2,true)
 else if d.step=6 then(c,{ d with step:=0 },true)
 else vT c
def gQ(d:bP)(c:Cache)(head:Int):Nxt:=(c.drop d.aj,{ d with step:=6,aU:=1,head:=head,data:=[] },true)
def eH(d:bP)(c:Cache)(p:Pkt):Nxt:=
 if d.aO≠3∨d.fits p=false then vT c
 else if d.step=1 then
  let d:bP:={ d with aU:=p.aU,head:=p.ptr,told:=p.ptr,data:=[],step:=6 }
  match c.find d.aj with
  |none=>(c,d,true)
  |some e=>
   if e.back=-1/\e.fwd=-1 then(c.drop d.aj,{ d with aU:=0,head:=-1,data:=if e.bZ then e.data else [] },true)
   else if e.back=-1 then(c,{ d with head:=-1,next:=e.fwd,step:=5 },true)
   else(c,{ d with head:=e.back,next:=e.fwd,step:=4 },true)
 else if d.step=4 then
  if d.next=-1 then gQ d c d.told else(c,{ d with step:=5 },true)
 else if d.step=5 then
  if d.head=-1 then gQ d c d.next else gQ d c d.told
 else if d.step=6 then(c,{ d with step:=0 },true)
 else vT c
structure Proc where
 ops:List Opn
 aZ:List Int
 dU:Bool
def Proc.cur(p:Proc):Option Opn:=p.ops[p.aZ.length]?
def Proc.left(p:Proc):Int:=(p.ops.length:Int)-p.aZ.length
structure Port where
 rq:List Pkt
 rin:List Pkt
 an:List Pkt
 ain:List Pkt
def Port.sort(p:Port)(req:Bool):List Pkt:=if req then p.rq else p.an
def Port.pF(p:Port)(req:Bool):List Pkt:=if req then p.rin else p.ain
def Port.jX(p:Port)(req:Bool)(l:List Pkt):Port:=if req then { p with rq:=l } else { p with an:=l }
def Port.kN(p:Port)(req:Bool)(l:List Pkt):Port:=if req then { p with rin:=l } else { p with ain:=l }
def Port.zero:Port:=⟨[],[],[],[]⟩
structure Fab where
 out:Int
 inn:Int
 l:List Port
def Fab.is(f:Fab)(bD:Int):Bool:=decide (0<=bD) && decide (bD<f.l.length)
def Fab.port(f:Fab)(bD:Int):Port:=f.l.getD bD.toNat .zero
def Fab.room(f:Fab)(req:Bool):Int:=if req then f.inn else 1
def Fab.put(f:Fab)(bD:Int)(p:Port):Fab:={ f with l:=f.l.set bD.toNat p }
def Fab.send(f:Fab)(p:Pkt):Fab × Int:=
 if !p.ok || !f.is p.src || !f.is p.dst then(f,1) else
 if(f.out:Int)<=((f.port p.src).sort (pV p.aO)).length then(f,5)
 else(f.put p.src ((f.port p.src).jX (pV p.aO) ((f.port p.src).sort (pV p.aO)++[p])),0)
def Fab.jm(f:Fab):List (List Pkt):=f.l.flatMap λp=>[p.rq,p.an]
def Fab.all(f:Fab):List Pkt:=f.l.flatMap λp=>p.rq++p.an
def Fab.under(f:Fab):Nat:=f.all.length
def zV:List Port->Nat->Nat->Option (Nat × Bool × Nat)
 |[],_,_=>none
 |p::l,i,k=>if k<p.rq.length then some (i,true,k) else if k<p.rq.length+p.an.length then some (i,false,k-p.rq.length) else zV l (i+1) (k-(p.rq.length+p.an.length))
def Fab.take(f:Fab)(bD:Int)(req:Bool):Fab × Option Pkt:=
 if f.is bD then
  match(f.port bD).pF req with
  |[]=>(f,none)
  |p::l=>(f.put bD ((f.port bD).kN req l),some p)
 else(f,none)
def Fab.waiting(f:Fab)(bD:Int)(req:Bool):Nat:=if f.is bD then((f.port bD).pF req).length else 0
def Fab.roomOf(f:Fab)(bD:Int)(req:Bool):Int:=if f.is bD then f.out-((f.port bD).sort req).length else 0
open Go.ChangeShapes Go.WideShapes Go.ChangeAt Go.RowKit
abbrev ρ0:Ren:=λ_=>none
abbrev G0:Nat->Nat:=λ_=>0
def YZ {w:World}(d:abO ρ0 w):Rel ρ0 ah.empty w:=⟨λr _=>⟨rfl,rfl⟩,λr b e h=>(by cases h),λr r' b e g h=>(by cases h),d⟩
def Y0 {P:Program}{L:Pol}(i:WB P L)(hm:P.follows .mixedOrders=true){k:FuncId}{xs:List AV}{b:Bool}{H':ah}(h:callω P L k xs ah.empty=some (.s (.bool b),H')){W:World}{args:Array Value}(j:abO ρ0 W)(m:RVs ρ0 G0 W xs args.toList):
  Calls P k args W λe o=>e=.returned (.bool b)/\Below W.heap.size W o:=by
 refine((callω_ok i hm).1 k xs _ _ H' h ρ0 W args (YZ j) m).mono λe w' p=>?_;obtain⟨cv,ρ',rfl,_,g,d⟩:=p;simp only [RV] at g;subst g;exact⟨rfl,d.os,d.tape,d.output,d.size,λk q=>d.frame k q λr u h=>(by cases h)⟩
section
variable {H:Type}{enc:TypeId × Value->H}{P:Program}
def zW(m:laidOutB P=true){W o:World}(hb:Below W.heap.size W o):∀{g:List TypeId} {vs:List Value} {i:List (DataW H)} {ps:List MemPlace},g.all (λt=>P.readableRec t && decide (t<P.types.size))=true->
  DataW.TrodAll enc P W 0 (λ_=>true) true g vs i ps->(∀x∈ps,x.block<W.heap.size)->DataW.TrodAll enc P o 0 (λb=>decide (b<W.heap.size)) true g vs i ps
 |[],vs,i,ps,_,h,_=>by
  obtain⟨rfl,rfl,rfl⟩:=trodAll_nil h;exact trodAll_mk0
 |t::g,vs,i,ps,j,h,e=>by
  simp only [zcX,zaf,decide_eq_true_eq] at j;obtain⟨v,u,d,w,p,q,rfl,rfl,rfl,y,z⟩:=trodAll_cons h;exact⟨p,q,Below.trod m j.1.1 j.1.2 y hb λx k=>e x (by simp [k]),zW m hb (by simpa using j.2) z λx k=>e x (by simp [k]),rfl⟩
def Y1 {f:Func}{s:ChangeSpec}{W j:World}{args:Array Value}{d u:List (DataW H)}{b:List MemPlace}{k:TypeId}(v:laidOutB P=true)
  (w:f.params.toList.all (λt=>P.readableRec t && decide (t<P.types.size))=true) (y:f.resultTypes=#[k]) (hb:P.underlying k=some .bool)
  (g:DataW.Whole enc P f.params.toList s.vars false W args.toList d u b) (m:s.vars=[])
  (z:(s.fn H d).results=[.lit (.bool true)]) (A:(s.fn H d).args=d) (C:(s.fn H d).vars=[]) (B:Below W.heap.size W j):
  s.post enc P f false true false false W args (.bool true) j:=by
 have e:∀x∈b,x.block<W.heap.size:=λx D=>g.lt x D;have i:=g;obtain⟨p,q,E,o,rfl,_,_⟩:=g;rw [m] at o;obtain⟨rfl,rfl⟩:=trodVars_none o;rw [za8] at e;refine⟨d,[],p++[],[],p,[],i,?_,?_,?_,B.frame _,λh=>by cases h⟩
 ·rw [za8,z,y];exact trodAll_mk1 (shut_bool hb true)
 ·rw [za8,A];exact zW v B w E e
 ·rw [za8,C,m];exact rfl
def DC {W:World}{k:IntKind}{n:Int}:RV ρ0 G0 W (.s (.int k n)) (.int k n):=by simp [RV]
def BO {W:World}{x:AV}{v:Value}{xs:List AV}{vs:List Value}(h:RV ρ0 G0 W x v)(b:RVs ρ0 G0 W xs vs):RVs ρ0 G0 W (x::xs) (v::vs):=by
 simp only [RVs];exact⟨v,vs,rfl,h,b⟩
def aqf {W:World}:RVs ρ0 G0 W [] []:=by simp only [RVs]
def ints(ks:List IntKind)(zs:List Int):List AV:=List.zipWith (λk z=>.s (.int k z)) ks zs
def Y2(ks:List IntKind)(zs:List Int):List Value:=List.zipWith (λk z=>.int k z) ks zs
def ajR(P:Program)(e:TypeId)(ks:List IntKind):Prop:=
 ∀{H:Type} {enc:TypeId × Value->H} {W:World} {base:Nat} {g:Nat->Bool} {b:Bool} {n:Nat} {cs:List Value} {y:DataW H × List MemPlace},DataW.trod enc P W base g b n e cs=some y->
  ∃d:List Int,d.length=ks.length/\cs=Y2 ks d/\∀(i:Nat) (k:IntKind) (z:Int),ks[i]?=some k->d[i]?=some z->(Lit.int k z).wf=true
def acE {e:TypeId}{k:IntKind}(j:P.underlying e=some (.int k)):ajR P e [k]:=by
 intro H enc W base o d n cs y h;obtain⟨z,rfl,rfl,m⟩:=DataW.trod_int j h;refine⟨[z],rfl,rfl,λi k' p b g=>?_⟩;cases i with
 |zero=>simp at b g;subst b;subst g;exact m
 |succ i=>simp at b
def yU {ks:List IntKind}{zs:List Int}(h:zs.length=ks.length):(ints ks zs).length=ks.length:=by
 simp [ints,h]
def UW {W:World}:∀(ks:List IntKind) (zs:List Int),RVs ρ0 G0 W (ints ks zs) (Y2 ks zs)
 |[],zs=>by simp [ints,Y2,RVs]
 |k::ks,[]=>by simp [ints,Y2,RVs]
 |k::ks,z::zs=>by
  simp only [ints,Y2,List.zipWith_cons_cons,RVs];exact⟨_,_,rfl,DC,UW ks zs⟩
structure Y3(ks:List IntKind)(av:AV)(l:List (List Int)):Prop where
 is:aN ah.empty av ks.length l.length (l.flatMap (ints ks))
 len:∀zs∈l,zs.length=ks.length
 wf:∀zs∈l,∀(i:Nat) (k:IntKind) (z:Int),ks[i]?=some k->zs[i]?=some z->(Lit.int k z).wf=true
def yV {ks:List IntKind}:∀{l:List (List Int)},(∀zs∈l,zs.length=ks.length)->(l.flatMap (ints ks)).length=l.length*ks.length
 |[],_=>by simp
 |zs::l,h=>by
  rw [zaE,zan,yU (h zs O),yV λz b=>h z (by simp [b]),zal,zbA];omega
def Y4 {t e:TypeId}{ks:List IntKind}(ht:P.underlying t=some (.slice e))(hc:P.cellsOf e=ks.length)(hF:ajR P e ks){W:World}{r:Reach}{b0 base:Nat}{sp:Nat->Bool}{C:Bool}{v:Value}{D:Nat}{y:DataW H × List MemPlace}
  (q:Cell.okWide P W r b0 t v) (h:DataW.trod enc P W base sp C D t [v]=some y):∃(av:AV) (l:List (List Int)),RV ρ0 G0 W av v/\Y3 ks av l/\av.aQ=true:=by
 rcases DataW.trod_slice ht h with⟨L,_⟩|⟨a,len,E,M,rest,n,_,Q,_,hb,hl,hm,ad,R,_,_⟩
 ·have L:v=.slice none 0 0:=by simpa using L
  subst L;exact⟨.s (.slice none 0 0),[],by simp [RV],⟨⟨O,rfl,rfl,rfl⟩,O,O⟩,rfl⟩
 ·have Q:v=.slice (some a) len E:=by simpa using Q
  subst Q;simp only [Cell.okWide,ht,Cell.ok] at q;obtain⟨_,_,_,d,row,cells,T,_⟩:=q;obtain⟨b,o,ae⟩:=a;simp only at d;subst d;have F:∀i,∃g:List Int,i<len->g.length=ks.length/\(∀(j:Nat) (k:IntKind) (z:Int),ks[j]?=some k->g[j]?=some z->(Lit.int k z).wf=true)/\RVc ρ0 G0 W (ints ks g) b (o+i*ks.length):=by
   intro i;by_cases hi:i<len
   ·have:=R i hi;rw [zab V] at this;obtain⟨cs,X,aa⟩:=Option.bind_eq_some_iff.1 this;obtain⟨g,z1,z2,z3⟩:=hF aa;refine⟨g,λ_=>⟨z1,z3,ql λj x hx=>?_⟩⟩;obtain⟨_,c1,c2⟩:=World.cells?_some X;have hj:j<ks.length:=by
     have:=(zai.1 hx).1
     rwa [yU z1] at this
    have G:=c2 j (by rw [hc];exact hj);obtain⟨u,hu,ab⟩:=jF (UW (W:=W) ks g) hx;refine⟨u,?_,ab⟩;rw [z2,hu] at G;rw [<-G,hc]
    congr 1
    unfold Addr.add;by_cases h1:i*ks.length=0
    ·rw [if_pos h1,h1];by_cases w:j=0
     ·rw [if_pos w,w];rfl
     ·rw [if_neg w];rfl
    ·rw [if_neg h1];by_cases w:j=0
     ·rw [if_pos w,w];rfl
     ·rw [if_neg w]
   ·exact⟨[],λh=>absurd h hi⟩
  obtain⟨f,K⟩:=Classical.axiomOfChoice F;have A:∀g∈(List.range len).map f,g.length=ks.length:=by
   intro g hz;obtain⟨i,hi,rfl⟩:=zaG.1 hz;exact(K i (za9.1 hi)).1
  have p:∀m s,s+m<=len->RVc ρ0 G0 W (((List.range' s m).map f).flatMap (ints ks)) b (o+s*ks.length):=by
   intro m
   induction m with
   |zero=>intro s _;simp [RVc]
   |succ m ih=>
    intro s hs;rw [zdg,zaA,zaE];refine V5 (K s V).2.2 ?_;rw [yU (K s V).1];have:=ih (s+1) V
    rwa [zbA,<-zb3] at this
  refine⟨.vs len ks.length (((List.range len).map f).flatMap (ints ks)),(List.range len).map f,?_,⟨?_,A,λzs hz=>?_⟩,rfl⟩
  ·simp only [RV];refine⟨b,o,E,rfl,hl,?_,Fz T,λr sh h=>(by cases h),?_⟩
   ·rw [yV A];simp
   ·have:=p len 0 V;rw [zcV]
    simpa using this
  ·have:=aN.vs (H:=ah.empty) (m:=ks.length) (n:=len) (cs:=((List.range len).map f).flatMap (ints ks)) (by rw [yV A];simp)
   simpa using this
  ·obtain⟨i,hi,rfl⟩:=zaG.1 hz;exact(K i (za9.1 hi)).2.1
def SG {t:TypeId}{m:Array Field}{b:List TypeId}(T:P.underlying t=some (.struct m))(M:P.cellTypes P.depth t=some b)(q:m.toList.map (λ(f:Field)=>(f.type,f.offset))=b.zipIdx)
  (hc:∀u∈b,P.cellsOf u=1) (w:P.cellsOf t=b.length) {W:World} {r:Reach} {X base:Nat} {Q:Nat->Bool} {e:Bool} {v:Value} {d:DataW H} {ps:List MemPlace}
  (g:Value.okWide P W r X t v) (h:DataW.Trod enc P W base Q e t v d ps):
  ∃cs:Array Value,v=.agg cs/\cs.size=b.length/\∀(i:Nat) (u:TypeId),b[i]?=some u->∃(c:Value) (n:Nat) (y:DataW H × List MemPlace),cs[i]?=some c/\Cell.okWide P W r X u c/\DataW.trod enc P W base Q e n u [c]=some y:=by
 unfold Value.okWide at g;rw [T] at g;obtain⟨cs,rfl,hsz,ab,z,_,A⟩:=g;rw [M] at z;cases z;obtain⟨aa,hf⟩:=h;obtain⟨xs,n,_,_,hl,hx,hr⟩:=DataW.trod_struct T hf;have ad:m.size=b.length:=by
  have:=congrArg List.length q
  simpa using this
 have C:∀(i:Nat) (u:TypeId),b[i]?=some u->∃f:Field,m[i]?=some f/\f.type=u/\f.offset=i:=by
  intro i u k;have hi:i<b.length:=(zai.1 k).1;have D:m[i]?=some (m[i]' V):=zbP _;have o:(m.toList.map (λ(f:Field)=>(f.type,f.offset)))[i]?=some ((m[i]' V).type,(m[i]' V).offset):=by
   rw [zaI];simp [D]
  rw [q,List.getElem?_zipIdx,k] at o;simp at o;exact⟨_,D,o.1.symm,o.2.symm⟩
 have E:∀(i:Nat) (u:TypeId),b[i]?=some u->∃c y,cs[i]?=some c/\DataW.trod enc P W base Q e n u [c]=some y:=by
  intro i u k;obtain⟨f,o,R,L⟩:=C i u k;have hi:i<b.length:=(zai.1 k).1;have:=hr i f o;rw [R,L,hc u (zau k),zab (show i<xs.length by omega)] at this;have F:i<cs.size:=by rw [hsz,w];exact hi
  cases j:cs[i]? with
  |none=>rw [zbP F] at j;cases j
  |some c=>
   have G:i<cs.size:=by
    rcases zaT i cs.size with K|K
    ·exact K
    ·rw [zcN K] at j;cases j
   have K:(((Value.agg cs).cells.toList.drop i).take 1)=[c]:=by
    have p:cs.toList[i]?=some c:=by simpa using j
    show(cs.toList.drop i).take 1=[c]
    rw [zbl (by simpa using G)];rw [zab (by simpa using G)] at p;simp at p;simp [p]
   rw [K] at this;exact⟨c,_,rfl,this⟩
 refine⟨cs,rfl,?_,λi u k=>?_⟩
 ·rw [hsz,w]
 ·obtain⟨c,y,o,R⟩:=E i u k;obtain⟨u',L,h4⟩:=A i c o;have hi:i<b.length:=(zai.1 k).1;rw [zch hi,k] at L;cases L;exact⟨c,n,y,o,h4,R⟩
structure Gv(k:IntKind)(av:AV)(zs:List Int):Prop where
 is:aN ah.empty av 1 zs.length (zs.map λz=>.s (.int k z))
 wf:∀z∈zs,(Lit.int k z).wf=true
 cell:av.aQ=true
def Po {k:IntKind}:∀(l:List (List Int)),(∀zs∈l,zs.length=1)->l.flatMap (ints [k])=(l.map (λzs=>zs.headD 0)).map λz=>.s (.int k z)
 |[],_=>rfl
 |zs::l,h=>by
  have b:=h zs O;rw [zaE,Po l λz d=>h z (by simp [d])];cases zs with
  |nil=>simp at b
  |cons z zs=>
   cases zs with
   |nil=>rfl
   |cons _ _=>simp at b
def Y3.ints {k:IntKind}{av:AV}{l:List (List Int)}(h:Y3 [k] av l)(d:av.aQ=true):Gv k av (l.map λzs=>zs.headD 0):=by
 refine⟨?_,λz e=>?_,d⟩
 ·have:=h.is;rw [Po l h.len] at this
  simpa using this
 ·obtain⟨zs,b,rfl⟩:=zaG.1 e;have g:=h.len zs b;cases zs with
  |nil=>simp at g
  |cons z zs=>exact h.wf _ b 0 k z rfl rfl
structure mP where
 aH:Int
 aY:Int
 bn:Int
 sets:Int
 ways:Int
 out:Int
 inn:Int
 init:AV
 who:AV
 kinds:AV
 kC:AV
 aZ:AV
def mP.cells(s:mP):List AV:=
 [.s (.int .i64 s.aH),.s (.int .i64 s.aY),.s (.int .i64 s.bn),.s (.int .i64 s.sets),.s (.int .i64 s.ways),.s (.int .i64 s.out),.s (.int .i64 s.inn),s.init,s.who,s.kinds,s.kC,s.aZ]
abbrev vX(z:Int):Prop:=-9223372036854775808<=z/\z<=9223372036854775807
def an7 {z:Int}(h:(Lit.int .i64 z).wf=true):vX z:=by
 simp [Lit.wf,IntKind.min,IntKind.max,IntKind.signed,IntKind.bits] at h;exact⟨V,V⟩
structure mP.Ok(s:mP)(zi zw zk za zv:List Int):Prop where
 aH:vX s.aH
 aY:vX s.aY
 bn:vX s.bn
 sets:vX s.sets
 ways:vX s.ways
 out:vX s.out
 inn:vX s.inn
 init:Gv .i64 s.init zi
 who:Gv .i64 s.who zw
 kinds:Gv .i64 s.kinds zk
 kC:Gv .i64 s.kC za
 aZ:Gv .i64 s.aZ zv
def WL {t b sl e:TypeId}{fs:Array Field}(ht:P.underlying t=some (.struct fs))(p:P.cellTypes P.depth t=some [b,b,b,b,b,b,b,sl,sl,sl,sl,sl])
  (q:fs.toList.map (λ(f:Field)=>(f.type,f.offset))=[b,b,b,b,b,b,b,sl,sl,sl,sl,sl].zipIdx) (u:P.cellsOf t=12) (w:P.underlying b=some (.int .i64)) (ae:P.cellsOf b=1)
  (A:P.underlying sl=some (.slice e)) (j:P.cellsOf sl=1) (C:P.underlying e=some (.int .i64)) (D:P.cellsOf e=1)
  {W:World} {r:Reach} {b0 base:Nat} {sp:Nat->Bool} {k:Bool} {v:Value} {d:DataW H} {ps:List MemPlace} (m:Value.okWide P W r b0 t v) (h:DataW.Trod enc P W base sp k t v d ps):
  ∃(s:mP) (zi zw zk za zv:List Int),RV ρ0 G0 W (.agg s.cells) v/\s.Ok zi zw zk za zv:=by
 obtain⟨cs,rfl,hsz,g⟩:=SG ht p q (λu hu=>by
  simp only [zaj,zay,or_false] at hu;rcases hu with rfl|rfl|rfl|rfl|rfl|rfl|rfl|rfl|rfl|rfl|rfl|rfl <;> assumption) u m h
 have num:∀i:Nat,[b,b,b,b,b,b,b,sl,sl,sl,sl,sl][i]?=some b->∃z,cs[i]?=some (.int .i64 z)/\vX z:=by
  intro i hi;obtain⟨c,n,y,o,_,E⟩:=g i b hi;obtain⟨z,hz,_,hw⟩:=DataW.trod_int w E;simp at hz;subst hz;exact⟨z,o,an7 hw⟩
 have row:∀i:Nat,[b,b,b,b,b,b,b,sl,sl,sl,sl,sl][i]?=some sl->∃c av zs,cs[i]?=some c/\RV ρ0 G0 W av c/\Gv .i64 av zs:=by
  intro i hi;obtain⟨c,n,y,o,h2,E⟩:=g i sl hi;obtain⟨av,l,r1,r2,r3⟩:=Y4 A (ks:=[.i64]) D (acE C) h2 E;exact⟨c,av,_,o,r1,r2.ints r3⟩
 obtain⟨z0,a0,w0⟩:=num 0 rfl;obtain⟨z1,a1,w1⟩:=num 1 rfl;obtain⟨z2,a2,w2⟩:=num 2 rfl;obtain⟨z3,a3,w3⟩:=num 3 rfl;obtain⟨z4,a4,w4⟩:=num 4 rfl;obtain⟨z5,a5,w5⟩:=num 5 rfl;obtain⟨z6,a6,w6⟩:=num 6 rfl;obtain⟨c7,v7,l7,a7,r7,o7⟩:=row 7 rfl;obtain⟨c8,v8,l8,a8,r8,o8⟩:=row 8 rfl;obtain⟨c9,v9,l9,a9,r9,o9⟩:=row 9 rfl;obtain⟨F,G,K,L,M,Q⟩:=row 10 rfl;obtain⟨R,T,X,aa,ab,ad⟩:=row 11 rfl;have j:cs.toList=[.int .i64 z0,.int .i64 z1,.int .i64 z2,.int .i64 z3,.int .i64 z4,.int .i64 z5,.int .i64 z6,c7,c8,c9,F,R]:=by
  apply zbd
  intro i;rcases zaT i 12 with hi|hi
  ·have:i=0∨i=1∨i=2∨i=3∨i=4∨i=5∨i=6∨i=7∨i=8∨i=9∨i=10∨i=11:=V
   rcases this with rfl|rfl|rfl|rfl|rfl|rfl|rfl|rfl|rfl|rfl|rfl|rfl <;> simp [a0,a1,a2,a3,a4,a5,a6,a7,a8,a9,L,aa]
  ·have o:cs.toList.length=12:=by simpa using hsz
   rw [zaH V,zaH (by simpa using hi)]
 refine⟨⟨z0,z1,z2,z3,z4,z5,z6,v7,v8,v9,G,T⟩,l7,l8,l9,K,X,?_,⟨w0,w1,w2,w3,w4,w5,w6,o7,o8,o9,Q,ad⟩⟩;simp only [RV,mP.cells];refine⟨cs,rfl,?_⟩;rw [j];exact BO DC (BO DC (BO DC (BO DC (BO DC (BO DC (BO DC (BO r7 (BO r8 (BO r9 (BO M (BO ab aqf)))))))))))
end
open Go.RowKit
variable {P:Program}{ρ:Ren}{H:ah}{w w':World}
def JC {f:FuncId}{p:List AV->ah->Option (AV × ah)}
  (h:∀args H v H',p args H=some (v,H')->∀(ρ:Ren) (w:World) (b:Array Value),Rel ρ H w->RVs ρ H.gen w args b.toList->
   Calls P f b w λe w'=>∃cv ρ',e=.returned cv/\Rel ρ' H' w'/\RV ρ' H'.gen w' v cv/\Ext ρ H w ρ' H' w'):qR P (λg args H=>if g=f then p args H else none):=by
 intro g args H v H' d ρ w b R i;simp only at d;split at d
 ·rename_i e;subst e;exact h args H v H' d ρ w b R i
 ·cases d
def Gw(R:Rel ρ H w)(B:Below w.heap.size w w'):Rel ρ H w'/\Ext ρ H w ρ H w':=by
 have E:Ext ρ H w ρ H w':=⟨zac _,λ_=>zac _,λ_ _ h _=>h,λ_ _ h=>h,λ_ _ d h=>.inr ⟨d,h⟩,B.size,λb hb _=>B.block b hb,λb hb=>by rw [fF,fF,B.block b hb],B.os,B.tape,B.output⟩
 exact⟨⟨R.out,λr b d h=>yI.mono E.toMono (B.block b (R.block h)) (R.obj r b d h),R.inj,R.gl.ext E⟩,E⟩
def Pq(R:Rel ρ H w){b:Nat}(hb:w.heap.size<=b):Imm ρ b:=λr d h=>by
 have:=R.block h;omega
def SH {G:Nat->Nat}{x:AV}{b:Array Value}(h:RVs ρ G w [x] b.toList):∃c,b=#[c]/\RV ρ G w x c:=by
 obtain⟨d,l,e,g,i⟩:=(by simpa only [RVs] using h)
 subst i;exact⟨d,zcg.1 (by simpa using e),g⟩
def ajS:AV:=.s (.slice none 0 0)
def Y5(ks:List Int):AV:=if ks=[] then ajS else .vs ks.length 1 ((ks.mergeSort λx y=>decide (x<=y)).map λn=>.s (.int .i64 n))
def BP(h i:List Nat)(args:List AV)(H:ah):Option (AV × ah):=
 match args with
 |[.fn (.func f) [] [.ref r g 0]]=>
  match H.get r with
  |.blk g' d [.mp m]=>match H.get m with
   |.map .i64 b=>if g'=g/\d<gY/\f≠0/\f∈h/\(b.map (·.1)).Nodup/\(b.all λe=>(Lit.int .i64 e.1).wf)=true/\b.length<=1000000 then some (Y5 (b.map (·.1)),H) else none
   |_=>none
  |.blk g' d [.s (.slice none 0 0)]=>if g'=g/\d<gY/\f≠0/\f∈i then some (ajS,H) else none
  |_=>none
 |_=>none
structure Node where
 aG:Cache
 bG:Proc
 home:Home
 aI:bP
 num:Int
structure cZ where
 c:Cfg
 aH:List Node
 fab:Fab
 trace:List Evn
def Cfg.nS(c:Cfg)(me:Int):Nat->Rows
 |0=>[]
 |n+1=>if c.bg n=me then lT (c.nS me n) n ⟨0,-1,c.first n⟩ else c.nS me n
def Home.new(c:Cfg)(me:Int):Home:=⟨c.nS me c.aY.toNat,⟨[],[]⟩⟩
def Node.new(c:Cfg)(me:Int)(l:List Opn):Node:=⟨⟨[],c.sets,c.ways,0⟩,⟨l,[],false⟩,.new c me,.zero,0⟩
def Fab.new(c:Cfg):Fab:=⟨c.out,c.inn,List.replicate c.aH.toNat .zero⟩
def cZ.new(c:Cfg)(ps:List (List Opn)):cZ:=⟨c,ps.mapIdx λi l=>.new c i l,.new c,[]⟩
structure iw where
 owner:List (Int × Int)
 wait:List (Int × Int × Int)
structure iO where
 dD:List Row
 aP:iw
structure jO where
 aG:Cache
 homes:iO
 ops:List Opn
 dU:Bool
 aZ:List Int
 has:Bool
 aI:bP
 num:Int
structure kP where
 c:Cfg
 fab:List Port
 aH:List jO
 ev:List Evn
def iO.new(c:Cfg):iO:=⟨(List.range c.aY.toNat).map λ(i:Nat)=>(⟨0,-1,c.first (i:Int)⟩:Row),⟨[],[]⟩⟩
def jO.new(c:Cfg)(l:List Opn):jO:=⟨⟨[],c.sets,c.ways,0⟩,.new c,l,false,[],false,.zero,0⟩
def kP.new(c:Cfg)(ps:List (List Opn)):kP:=⟨c,List.replicate c.aH.toNat .zero,ps.map (.new c),[]⟩
inductive zX {α:Type} (R:α->List AV->Prop):List α->List AV->Prop
 |nil:zX R [] []
 |cons {a:α} {l:List α} {cs cells:List AV}:R a cs->zX R l cells->zX R (a::l) (cs++cells)
section
variable {α:Type}{R:α->List AV->Prop}{l:List α}{cells:List AV}
def zX.length {m:Nat}(hm:∀a cs,R a cs->cs.length=m)(h:zX R l cells):cells.length=l.length*m:=by
 induction h with
 |nil=>simp
 |cons b _ d=>rw [zan,hm _ _ b,d,zal,zbA,Nat.add_comm]
def zX.all(hm:∀a cs,R a cs->cs.all AV.aQ=true)(h:zX R l cells):cells.all AV.aQ=true:=by
 induction h with
 |nil=>rfl
 |cons b _ d=>rw [zb7,hm _ _ b,d];rfl
def zX.append {b:List α}{cells':List AV}(h:zX R l cells)(d:zX R b cells'):zX R (l++b) (cells++cells'):=by
 induction h with
 |nil=>exact d
 |cons e _ g=>rw [za5,za4];exact .cons e g
def zX.one {a:α}{cs:List AV}(h:R a cs):zX R [a] cs:=by
 have:=zX.cons h (zX.nil (R:=R))
 rwa [za8] at this
def zX.mono {b:α->List AV->Prop}(d:∀a cs,a∈l->R a cs->b a cs)(h:zX R l cells):zX b l cells:=by
 induction h with
 |nil=>exact .nil
 |cons e _ g=>exact .cons (d _ _ O e) (g λa cs i=>d a cs (by simp [i]))
def zX.get {m:Nat}(hm:∀a cs,R a cs->cs.length=m)(h:zX R l cells):∀{i:Nat} {a:α},l[i]?=some a->R a ((cells.drop (i*m)).take m):=by
 induction h with
 |nil=>intro i a hi;simp at hi
 |cons b _ d=>
  intro i a hi;have e:=hm _ _ b;cases i with
  |zero=>
   simp only [zaP,zaa] at hi;subst hi;rw [zbm,zaQ,zbR V,zaw V];exact b
  |succ i=>
   rw [zbA,zdh,zaS V,zaL,e,Nat.add_sub_cancel];exact d (by simpa using hi)
def zX.plain {enc:α->List AV}:∀l:List α,zX (λa cs=>cs=enc a) l (l.flatMap enc)
 |[]=>.nil
 |a::l=>.cons rfl (zX.plain l)
def zX.of {enc:α->List AV}(b:∀a,a∈l->R a (enc a)):zX R l (l.flatMap enc):=
 (zX.plain (enc:=enc) l).mono λa cs ha (h:cs=enc a)=>by rw [h];exact b a ha
end
def Pkt.avx(p:Pkt)(x:AV):List AV:=[I p.aO,I p.src,I p.dst,I p.id,I p.aj,I p.ptr,I p.aU,B p.flag,x]
def Ent.avx(e:Ent)(x:AV):List AV:=[I e.fwd,I e.back,I e.aj,I e.used,B e.bZ,x]
def Row.avx(r:Row)(x:AV):List AV:=[I r.aU,I r.head,x]
def bP.avx(d:bP)(x:AV):List AV:=[I d.aO,I d.aj,I d.id,I d.step,I d.aU,I d.head,x,I d.next,I d.told]
def tu(g:bF)(x:AV)(l:List Int):Prop:=x=dat l∨∃q ex,l≠[]/\x=.sl q 0 0 1 l.length l.length ex/\g q=some (l.map λn=>.av (I n))
def ag4(cs:List Cell):Prop:=∃c∈cs,∀n,c≠.av (I n)
section
variable {b:Nat}{H:ah}{g g':bF}{x:AV}{l:List Int}
def tu.dat:tu g (dat l) l:=.inl rfl
def tu.one(h:tu g x l):One x:=by
 rcases h with rfl|⟨q,ex,_,rfl,_⟩
 ·exact rY
 ·exact vO
def tu.sub(h:tu g x l)(b:∀q cs,g q=some cs->¬ag4 cs->g' q=some cs):tu g' x l:=by
 rcases h with rfl|⟨q,ex,d,rfl,h⟩
 ·exact .inl rfl
 ·refine .inr ⟨q,ex,d,rfl,b _ _ h λ⟨c,e,i⟩=>?_⟩;obtain⟨n,_,rfl⟩:=zaG.1 e;exact i n rfl
def tu.upd {q:Nat}{cs cs':List Cell}(h:tu g x l)(d:g q=some cs)(i:ag4 cs):tu (upd g q cs') x l:=
 h.sub λq' k b j=>by
  rw [bJ];exact b;intro e;subst e;rw [d] at b;cases b;exact j i
def tu.nil(h:tu g x l)(h0:l=[]):x=zN:=by
 rcases h with rfl|⟨q,ex,b,_⟩
 ·rw [h0,Proofs.YtljogojaihgdlaaGreat.dat,gK]
 ·exact absurd h0 b
def tu.is(G:Good b H g)(h:tu g x l):aN H x 1 l.length (l.map I):=by
 rcases h with rfl|⟨q,ex,_,rfl,h⟩
 ·exact kT H l
 ·obtain⟨_,τ,j⟩:=G;have R:=j q _ h;obtain⟨k,xs,m,d,p,o⟩:=R.blk;have:xs=l.map I:=by
   apply zbd
   intro i;rcases zaT i l.length with hi|hi
   ·have e:xs[i]?=some (xs[i]'(by simp at d;omega)):=zab _;have:=o i (.av (I l[i])) _ (by simp [hi]) e;simp only [CR] at this;rw [e,this];simp [hi]
   ·rw [zaH (by simp at d;omega),zaH (by simp;omega)]
  subst this;exact⟨O,rfl,rfl,⟨R.hi,zac _⟩,k,_,m,O,by simp [zaw]⟩
end
def aqF(g:bF)(p:Pkt)(cs:List AV):Prop:=∃x,tu g x p.data/\cs=p.avx x
def aqG(g:bF)(e:Ent)(cs:List AV):Prop:=∃x,tu g x e.data/\cs=e.avx x
def aqH(g:bF)(r:Row)(cs:List AV):Prop:=∃x,tu g x r.data/\cs=r.avx x
def an8(g:bF)(d:bP)(cs:List AV):Prop:=∃x,tu g x d.data/\cs=d.avx x
def Y6(c:Cache)(cells:List AV):List Cell:=[.av (I c.sets),.av (I c.ways),.av (I c.bW),.seq 6 cells]
def Y7(c:Cfg)(me:Int)(dD:List AV)(t:iw):List Cell:=c.av.map .av++[.av (I me),.seq 3 dD,.seq 2 (t.owner.flatMap λe=>[I e.1,I e.2]),.seq 3 (t.wait.flatMap λe=>[I e.1,I e.2.1,I e.2.2])]
def afa(a:Nat->Nat)(c:Cfg)(me:Int)(n:jO)(d:List AV):List Cell:=
 c.av.map .av++[.av (I me),.av (.ref (a 1) 0 0),.av (.ref (a 2) 0 0),.seq 3 (n.ops.flatMap Opn.av),.av (B n.dU),.seq 1 (n.aZ.map I),.av (B n.has)]++d.map .av++[.av (I n.num)]
def an9(c:Cfg)(ls:List (List AV)):List Cell:=c.av.map .av++[.aeR 4 9 ls]
def ajT(f:Nat)(N:Nat->Nat->Nat)(c:Cfg)(n:Nat)(ev:List Evn):List Cell:=c.av.map .av++[.av (.ref f 0 0),.seq 1 ((List.range n).map λi=>.ref (N i 0) 0 0),.seq 4 (ev.flatMap Evn.av)]
structure BQ(g:bF)(a:Nat->Nat)(c:Cfg)(me:Int)(n:jO):Prop where
 bD:∃d,an8 g n.aI d/\g (a 0)=some (afa a c me n d)
 aG:∃cells,zX (aqG g) n.aG.l cells/\g (a 1)=some (Y6 n.aG cells)
 homes:∃dD,zX (aqH g) n.homes.dD dD/\g (a 2)=some (Y7 c me dD n.homes.aP)
def aqI(N:Nat->Nat->Nat)(n:Nat):Prop:=∀i j s t,i<n->j<n->s<3->t<3->N i s=N j t->i=j/\s=t
def ajU(p:Port):List (List Pkt):=[p.rq,p.an,p.rin,p.ain]
structure SI(g:bF)(q f:Nat)(N:Nat->Nat->Nat)(m:kP):Prop where
 zY:g q=some (ajT f N m.c m.aH.length m.ev)
 fab:∃ls:List (List AV),g f=some (an9 m.c ls)/\ls.length=4*m.fab.length/\∀(i:Nat) l cells,(m.fab.flatMap ajU)[i]?=some l->ls[i]?=some cells->zX (aqF g) l cells
 bD:∀(i:Nat) n,m.aH[i]?=some n->BQ g (N i) m.c i n
 inj:aqI N m.aH.length
def DF(x:Int):List Int->List Int
 |[]=>[x]
 |y::rp=>if x<y then y::DF x rp else x::y::rp
def srt:List Int->List Int->List Int
 |b,[]=>b.reverse
 |b,x::l=>srt (DF x b) l
def Ent.word(e:Ent)(w:Int):Int:=if 0<=w/\w<e.data.length then e.data.getD w.toNat 0 else 0
def Ent.write(e:Ent)(w v:Int):Ent:=if e.bZ=true/\0<=w/\w<e.data.length then { e with data:=e.data.set w.toNat v } else e
def Home.ready(h:Home):List Int:=h.aP.ready (srt [] (h.aP.wait.map (·.1)))
def Home.grant(bD:Int)(h:Home):Home × Pkt × Bool:=
 match h.ready with
 |[]=>(h,.zero,false)
 |aj::_=>match h.aP.next aj with
  |(t,some w)=>({ h with aP:=t },granted h.dD bD aj w.1 w.2,true)
  |(_,none)=>(h,.zero,false)
def Proc.idx(p:Proc):Int:=match p.cur with
 |some _=>p.aZ.length
 |none=>0
def Proc.op(p:Proc):Opn:=p.cur.getD .zero
def Proc.yC(p:Proc)(v:Int):Proc:=if p.dU then⟨p.ops,p.aZ++[v],false⟩ else p
def Proc.zZ(p:Proc):Proc:=if p.dU=true∨p.cur=none then p else { p with dU:=true }
abbrev NT:=Node × List Evn
def Node.done(me:Int)(n:Node)(t:List Evn)(v:Int):NT:=({ n with bG:=n.bG.yC v },t++[⟨me,n.bG.idx,true,v⟩])
def eP(e:Ent)(o:Opn)(w:Int):Ent:=if o.aO=2 then e.write w o.value else if o.aO=3 then e.write w (w64 (e.word w+o.value)) else e
def Node.effect(c:Cfg)(me:Int)(n:Node)(t:List Evn):NT:=
 let o:=n.bG.op;let e:=(n.aG.find (c.bU o.addr)).getD .zero;let n':={ n with aG:=(n.aG.put (eP e o (c.dh o.addr))).1 }
 n'.done me t (if o.aO=2 then 0 else e.word (c.dh o.addr))
def Node.acF(c:Cfg)(me:Int)(n:Node)(f:Fab):Fab:=(f.send (n.aI.ask me (c.bg n.aI.aj))).1
def Node.after(me:Int)(n:Node)(p:Pkt):Nxt:=
 if n.aI.aO=1 then dW n.aI me n.aG p else if n.aI.aO=2 then dX n.aI me n.aG p else if n.aI.aO=3 then eH n.aI n.aG p else vT n.aG
abbrev NFT:=Node × Fab × List Evn
def Node.answered(c:Cfg)(me:Int)(n:Node)(f:Fab)(t:List Evn)(p:Pkt):NFT:=
 match n.after me p with
 |(ca,d,ok)=>
  if ok=false then({ n with aG:=ca },f,t) else
  let n:={ n with aG:=ca,aI:=d }
  if d.step=0 then(if d.aO=3/\n.bG.op.aO=4 then((n.done me t 0).1,f,(n.done me t 0).2) else(n,f,t))
  else
   let b:=if d.step=6/\d.aO≠3 then n.effect c me t else(n,t)
   (b.1,b.1.acF c me f,b.2)
def Node.begin_(c:Cfg)(me:Int)(n:Node)(f:Fab)(aO aj:Int):Node × Fab:=
 let n:={ n with aI:=.begin aO aj n.num,num:=(n.num+1).tmod 4096 }
 (n,n.acF c me f)
def Node.asked(c:Cfg)(me:Int)(n:Node)(f:Fab)(p:Pkt):Node × Fab:=
 if p.aO=1∨p.aO=2 then
  match n.home.handle c me p with
  |(h,out,ok,e)=>({ n with home:=h },if ok=true/\e=0 then(f.send out).1 else f)
 else
  match fM n.aG p with
  |(ca,out,e)=>({ n with aG:=ca },if e=0 then(f.send out).1 else f)
def Node.work(c:Cfg)(me:Int)(n:Node)(f:Fab)(t:List Evn)(o:Opn):NFT:=
 let t:=if n.bG.dU then t else t++[⟨me,n.bG.aZ.length,false,0⟩]
 let n:={ n with bG:={ n.bG with dU:=true } }
 let aj:=c.bU o.addr;let e:=n.aG.find aj
 if o.aO=4/\e=none then((n.done me t 0).1,f,(n.done me t 0).2)
 else if o.aO=4 then((n.begin_ c me f 3 aj).1,(n.begin_ c me f 3 aj).2,t)
 else if e.isSome=true/\(o.aO=1∨(e.getD .zero).bZ=true) then
  let n:={ n with aG:=n.aG.touch aj }
  ((n.effect c me t).1,f,(n.effect c me t).2)
 else if n.aG.full aj=true then((n.begin_ c me f 3 ((n.aG.nR aj).getD 0)).1,(n.begin_ c me f 3 ((n.aG.nR aj).getD 0)).2,t)
 else if o.aO=1 then((n.begin_ c me f 1 aj).1,(n.begin_ c me f 1 aj).2,t)
 else((n.begin_ c me f 2 aj).1,(n.begin_ c me f 2 aj).2,t)
def Node.step(c:Cfg)(me:Int)(n:Node)(f:Fab)(t:List Evn):NFT × Int:=
 match f.take me false with
 |(b,some p)=>(n.answered c me b t p,1)
 |(_,none)=>
  if n.home.ready≠[]/\f.roomOf me false≠0 then
   (({ n with home:=(n.home.grant me).1 },(f.send (n.home.grant me).2.1).1,t),2)
  else
   match(if f.roomOf me false=0 then(f,none) else f.take me true) with
   |(b,some p)=>(((n.asked c me b p).1,(n.asked c me b p).2,t),3)
   |(_,none)=>
    match n.bG.cur with
    |some o=>if n.aI.step=0 then(n.work c me f t o,4) else((n,f,t),0)
    |none=>((n,f,t),0)
def cZ.bD(m:cZ)(i:Int):Option Node:=if 0<=i then m.aH[i.toNat]? else none
def cZ.step(m:cZ)(i:Int):cZ × Int:=
 match m.bD i with
 |none=>(m,0)
 |some n=>match n.step m.c i m.fab m.trace with
  |((n',f,t),k)=>({ m with aH:=m.aH.set i.toNat n',fab:=f,trace:=t },k)
def aP(bytes:Nat)(bit mask:Int):Bool:=(List.range 16).any λi=>decide ((mask.toNat >>> (15-i)) % 2=1) && decide (0<=bit+i) && decide (bit+i<8*bytes)
def Pkt.bytes(p:Pkt):Nat:=12+8*p.data.length
def Port.drop(p:Port)(req:Bool)(k:Nat):Port:=p.jX req ((p.sort req).eraseIdx k)
def Fab.remove(f:Fab)(at_:Nat):Fab:=match zV f.l 0 at_ with
 |some (i,req,k)=>f.put i ((f.port i).drop req k)
 |none=>f
def Fab.deliver(f:Fab)(at_ bit mask:Int):Fab × Int:=
 if at_<0 then(f,3) else
 match f.all[at_.toNat]? with
 |none=>(f,3)
 |some p=>
  if aP p.bytes bit mask=true then(f,2) else
  if f.room (pV p.aO)<=((f.port p.dst).pF (pV p.aO)).length then(f,5) else
  ((f.put p.dst ((f.port p.dst).kN (pV p.aO) ((f.port p.dst).pF (pV p.aO)++[p]))).remove at_.toNat,0)
def cZ.deliver(m:cZ)(at_ bit mask:Int):cZ × Int:=({ m with fab:=(m.fab.deliver at_ bit mask).1 },(m.fab.deliver at_ bit mask).2)
def cZ.do_(m:cZ)(p:Pck):cZ × Bool:=
 if p.deliver then((m.deliver p.at_ p.bit p.mask).1,decide ((m.deliver p.at_ p.bit p.mask).2=0))
 else((m.step p.at_).1,decide ((m.step p.at_).2≠0))
def yX(e:Ent):List Ent->List Ent
 |[]=>[e]
 |x::l=>if e.aj<x.aj then e::x::l else x::yX e l
def Cache.XT(c:Cache)(e:Ent):Cache × Int:=
 if e.aj<0 then(c,1) else
 match c.at_ e.aj with
 |some i=>({ c with l:=c.l.set i { e with used:=(c.l.getD i .zero).used } },0)
 |none=>if c.ways<=(c.oD e.aj).length then(c,5) else({ c with l:=yX { e with used:=c.bW+1 } c.l,bW:=c.bW+1 },0)
def Cache.Lu(c:Cache)(aj:Int):Int:=((nJ (c.oD aj)).map (·.aj)).getD (-1)
def iw.iT(t:iw)(aj:Int):Int:=((t.owner.find? λo=>decide (o.1=aj)).map (·.2)).getD (-1)
def iw.waits(t:iw)(aj:Int):List (Int × Int):=(t.wait.filter λw=>decide (w.1=aj)).map (·.2)
def iw.ask(t:iw)(aj who id:Int):iw × Bool:=
 if who<0 then(t,false) else
 if t.iT aj=-1/\t.waits aj=[] then({ t with owner:=t.owner++[(aj,who)] },true)
 else({ t with wait:=t.wait++[(aj,who,id)] },false)
def lU {α:Type}(p:α->Bool):List α->List α
 |[]=>[]
 |x::l=>if p x then l else x::lU p l
def iw.release(t:iw)(aj who:Int):iw × Bool:=
 if(t.owner.any λo=>decide (o.1=aj) && decide (o.2=who))=true then({ t with owner:=lU (λo=>decide (o.1=aj) && decide (o.2=who)) t.owner },true) else(t,false)
def iw.next(t:iw)(aj:Int):iw × Option (Int × Int):=
 if t.iT aj≠-1 then(t,none) else
 match t.wait.find? λw=>decide (w.1=aj) with
 |some w=>(⟨t.owner++[(aj,w.2.1)],lU (λw=>decide (w.1=aj)) t.wait⟩,some w.2)
 |none=>(t,none)
def lV(x:Int):List Int->List Int
 |[]=>[x]
 |y::l=>if y<x then y::lV x l else if y=x then y::l else x::y::l
def iw.ready(t:iw):List Int:=t.wait.foldl (λout w=>if t.iT w.1≠-1 then out else lV w.1 out) []
def kQ(c:Cfg)(me aj:Int):Bool:=decide (0<=aj) && decide (aj<c.aY) && decide (aj % c.aH=me)
def iO.row(h:iO)(aj:Int):Row:=h.dD.getD aj.toNat .zero
def iO.oD(c:Cfg)(me:Int)(h:iO)(aj aU head:Int)(data:List Int):iO × Int:=
 if kQ c me aj=false then(h,3) else
 if aU<0∨2<aU∨head < -1∨c.aH<=head∨¬(aU=0↔head=-1)∨(data≠[]/\(data.length:Int)≠c.bn) then(h,1) else
 ({ h with dD:=h.dD.set aj.toNat ⟨aU,head,if data=[] then(h.row aj).data else data⟩ },0)
def iO.granted(me:Int)(h:iO)(aj who id:Int):Pkt:=⟨7,me,who,id,aj,(h.row aj).head,(h.row aj).aU,false,(h.row aj).data⟩
def iO.handle(c:Cfg)(me:Int)(h:iO)(p:Pkt):iO × Pkt × Bool × Int:=
 if p.ok=false∨p.dst≠me∨c.aH<=p.src∨(p.aO≠1/\p.aO≠2) then(h,.zero,false,1)
 else if kQ c me p.aj=false then(h,.zero,false,3)
 else if p.aO=1 then
  let a:=h.aP.ask p.aj p.src p.id
  if a.2=true then({ h with aP:=a.1 },h.granted me p.aj p.src p.id,true,0) else({ h with aP:=a.1 },.zero,false,0)
 else if h.aP.iT p.aj≠p.src then(h,.zero,false,6)
 else
  let r:=h.oD c me p.aj p.aU p.ptr (if p.flag then p.data else [])
  if r.2=0 then({ r.1 with aP:=(r.1.aP.release p.aj p.src).1 },⟨8,me,p.src,p.id,p.aj,0,0,false,[]⟩,true,0) else(h,.zero,false,r.2)
def iO.grant(me:Int)(h:iO):iO × Pkt × Bool:=
 match h.aP.ready with
 |[]=>(h,.zero,false)
 |aj::_=>match h.aP.next aj with
  |(t,w)=>({ h with aP:=t },h.granted me aj (w.getD (0,0)).1 (w.getD (0,0)).2,true)
def ag5(c:Cache)(p:Pkt):Cache × Pkt × Int:=
 if p.ok=false∨p.aO<3∨6<p.aO then(c,.zero,1) else
 match c.find p.aj with
 |none=>(c,.zero,3)
 |some e=>
  let out:Pkt:=⟨BN p.aO,p.dst,p.src,p.id,p.aj,0,0,false,[]⟩
  if p.aO=3 then((c.XT { e with bZ:=false,back:=p.ptr }).1,{ out with data:=e.data,flag:=e.bZ },0)
  else if p.aO=4 then((c.XT { e with fwd:=p.ptr }).1,out,0)
  else if p.aO=5 then((c.XT { e with back:=p.ptr }).1,out,0)
  else(c.drop p.aj,{ out with data:=e.data,flag:=e.bZ,ptr:=e.fwd },0)
def aoa(d:bP)(bD:Int)(c:Cache)(p:Pkt):Nxt:=
 if d.step=1/\d.aU=0 then((c.XT ⟨-1,-1,d.aj,0,false,d.data⟩).1,{ d with step:=6,aU:=1,head:=bD,data:=[] },true)
 else if d.step=1 then(c,{ d with step:=2 },true)
 else if d.step=2 then((c.XT ⟨d.head,-1,d.aj,0,false,p.data⟩).1,{ d with step:=6,aU:=1,head:=bD,data:=if p.flag then p.data else [] },true)
 else vT c
def ajV(d:bP)(bD:Int)(c:Cache):Nxt:=
 let d:bP:=match c.find d.aj with
  |some own=>if d.next=bD then { d with next:=own.fwd } else d
  |none=>d
 if d.next≠-1 then(c,{ d with step:=3 },true)
 else((c.XT ⟨-1,-1,d.aj,0,true,d.data⟩).1,{ d with step:=6,aU:=2,head:=bD,data:=[] },true)
def ajW(d:bP)(bD:Int)(c:Cache)(p:Pkt):Nxt:=
 if d.step=1 then ajV { d with data:=(match c.find d.aj with|some own=>own.data|none=>d.data),next:=d.head } bD c
 else if d.step=3 then ajV { d with data:=(match c.find d.aj with|some _=>d.data|none=>p.data),next:=p.ptr } bD c
 else vT c
def LC(d:bP)(c:Cache)(head:Int):Nxt:=(c.drop d.aj,{ d with step:=6,aU:=1,head:=head,data:=[] },true)
def aob(d:bP)(c:Cache):Nxt:=
 if d.step=1 then
  match c.find d.aj with
  |none=>(c,{ d with step:=6,data:=[] },true)
  |some e=>
   if e.back=-1/\e.fwd=-1 then(c.drop d.aj,{ d with step:=6,aU:=0,head:=-1,data:=if e.bZ then e.data else [] },true)
   else if e.back=-1 then(c,{ d with data:=[],head:=-1,next:=e.fwd,step:=5 },true)
   else(c,{ d with data:=[],head:=e.back,next:=e.fwd,step:=4 },true)
 else if d.step=4 then
  if d.next≠-1 then(c,{ d with step:=5 },true) else LC d c d.told
 else if d.step=5 then
  if d.head=-1 then LC d c d.next else LC d c d.told
 else vT c
def aoc(d:bP)(bD:Int)(c:Cache)(p:Pkt):Nxt:=
 if d.fits p=false∨d.aO<1∨3<d.aO then vT c else
 if d.step=6 then(c,{ d with step:=0 },true) else
 let d:=if d.step=1 then { d with aU:=p.aU,head:=p.ptr,told:=p.ptr,data:=p.data } else d
 if d.aO=1 then aoa d bD c p else if d.aO=2 then ajW d bD c p else aob d c
abbrev RNT:=jO × List Evn
def jO.done(me:Int)(n:jO)(t:List Evn)(v:Int):RNT:=({ n with aZ:=n.aZ++[v],dU:=false },t++[⟨me,n.aZ.length,true,v⟩])
def ag6(e:Ent)(o:Opn)(w:Nat):Ent:=
 if o.aO=2 then { e with data:=e.data.set w o.value } else if o.aO=3 then { e with data:=e.data.set w (w64 (e.data.getD w 0+o.value)) } else e
def jO.effect(c:Cfg)(n:jO)(o:Opn):jO × Int:=
 let i:=(n.aG.at_ (o.addr.tdiv c.bn)).getD 0;let e:=n.aG.l.getD i .zero;let w:=(o.addr.tmod c.bn).toNat
 ({ n with aG:={ n.aG with l:=n.aG.l.set i (ag6 e o w) } },if o.aO=2 then 0 else e.data.getD w 0)
def jO.acF(c:Cfg)(me:Int)(n:jO)(f:Fab):Fab:=(f.send (n.aI.ask me (n.aI.aj.tmod c.aH))).1
def jO.begin_(c:Cfg)(me:Int)(n:jO)(f:Fab)(aO aj:Int):jO × Fab:=
 let n:={ n with has:=true,aI:=.begin aO aj n.num,num:=(n.num+1).tmod 4096 }
 (n,n.acF c me f)
abbrev aod:=jO × Fab × List Evn
def jO.answered(c:Cfg)(me:Int)(n:jO)(f:Fab)(t:List Evn)(p:Pkt):aod:=
 if n.has=false then(n,f,t) else
 match aoc n.aI me n.aG p with
 |(ca,d,ok)=>
  if ok=false then({ n with aG:=ca },f,t) else
  let n:={ n with aG:=ca,aI:=d }
  if d.step=0 then
   let n:={ n with has:=false,aI:=.zero }
   match n.ops[n.aZ.length]? with
   |some o=>if n.dU=true/\o.aO=4 then((n.done me t 0).1,f,(n.done me t 0).2) else(n,f,t)
   |none=>(n,f,t)
  else
   let b:=if d.step=6/\d.aO≠3 then let ev:=n.effect c (n.ops.getD n.aZ.length .zero);ev.1.done me t ev.2 else(n,t)
   (b.1,b.1.acF c me f,b.2)
def jO.work(c:Cfg)(me:Int)(n:jO)(f:Fab)(t:List Evn)(o:Opn):aod:=
 let t:=if n.dU then t else t++[⟨me,n.aZ.length,false,0⟩]
 let n:={ n with dU:=true }
 let aj:=o.addr.tdiv c.bn;let e:=n.aG.find aj
 if o.aO=4/\e=none then((n.done me t 0).1,f,(n.done me t 0).2)
 else if o.aO=4 then((n.begin_ c me f 3 aj).1,(n.begin_ c me f 3 aj).2,t)
 else if e.isSome=true/\(o.aO=1∨(e.getD .zero).bZ=true) then
  let n:={ n with aG:=n.aG.touch aj }
  let ev:=n.effect c o
  ((ev.1.done me t ev.2).1,f,(ev.1.done me t ev.2).2)
 else if e=none/\0<=aj/\n.aG.ways<=(n.aG.oD aj).length then((n.begin_ c me f 3 (n.aG.Lu aj)).1,(n.begin_ c me f 3 (n.aG.Lu aj)).2,t)
 else if o.aO=1 then((n.begin_ c me f 1 aj).1,(n.begin_ c me f 1 aj).2,t)
 else((n.begin_ c me f 2 aj).1,(n.begin_ c me f 2 aj).2,t)
def jO.asked(c:Cfg)(me:Int)(n:jO)(f:Fab)(p:Pkt):jO × Fab:=
 if p.aO=1∨p.aO=2 then
  match n.homes.handle c me p with
  |(h,out,ok,e)=>({ n with homes:=h },if ok=true/\e=0 then(f.send out).1 else f)
 else
  match ag5 n.aG p with
  |(ca,out,e)=>({ n with aG:=ca },if e=0 then(f.send out).1 else f)
def jO.step(c:Cfg)(me:Int)(n:jO)(f:Fab)(t:List Evn):aod × Int:=
 match f.take me false with
 |(b,some p)=>(n.answered c me b t p,1)
 |(_,none)=>
  if 0<f.roomOf me false/\n.homes.aP.ready≠[] then
   (({ n with homes:=(n.homes.grant me).1 },(f.send (n.homes.grant me).2.1).1,t),2)
  else if 0<f.roomOf me false/\0<f.waiting me true then
   match f.take me true with
   |(b,p)=>(((n.asked c me b (p.getD .zero)).1,(n.asked c me b (p.getD .zero)).2,t),3)
  else
   match n.ops[n.aZ.length]? with
   |some o=>if n.has=false then(n.work c me f t o,4) else((n,f,t),0)
   |none=>((n,f,t),0)
def kP.aoe(m:kP):Fab:=⟨m.c.out,m.c.inn,m.fab⟩
def kP.all(m:kP):List Pkt:=m.fab.flatMap λp=>p.rq++p.an
def kP.left(m:kP):Int:=(m.aH.map λn=>(n.ops.length:Int)-n.aZ.length).sum
def kP.busy(m:kP)(i:Nat):Bool:=match m.aH[i]?,m.fab[i]? with
 |some n,some p=>n.dU || n.has || decide (0<p.rin.length) || decide (0<p.ain.length)
 |_,_=>false
def kP.quiet(m:kP):Bool:=decide (m.all.length=0) && (List.range m.aH.length).all λi=>!m.busy i
def kP.step(m:kP)(i:Int):kP × Int:=
 match(if 0<=i then m.aH[i.toNat]? else none) with
 |none=>(m,0)
 |some n=>match n.step m.c i m.aoe m.ev with
  |((n',f,t),k)=>({ m with aH:=m.aH.set i.toNat n',fab:=f.l,ev:=t },k)
def kP.deliver(m:kP)(at_ bit mask:Int):kP × Int:=({ m with fab:=(m.aoe.deliver at_ bit mask).1.l },(m.aoe.deliver at_ bit mask).2)
def kP.do_(m:kP)(p:Pck):kP × Bool:=
 if p.deliver then((m.deliver p.at_ p.bit p.mask).1,decide ((m.deliver p.at_ p.bit p.mask).2=0))
 else((m.step p.at_).1,decide ((m.step p.at_).2≠0))
structure anw(c:Cfg)(me:Int)(n:Node)(r:jO):Prop where
 ops:r.ops=n.bG.ops
 aZ:r.aZ=n.bG.aZ
 dU:r.dU=n.bG.dU
 has:r.has=!decide (n.aI.step=0)
 aI:r.aI=if n.aI.step=0 then .zero else n.aI
 num:r.num=n.num
 sets:r.aG.sets=n.aG.sets
 ways:r.aG.ways=n.aG.ways
 bW:r.aG.bW=n.aG.bW
 sorted:r.aG.l.Pairwise λa b=>a.aj<b.aj
 perm:n.aG.l.Perm r.aG.l
 dD:∀aj,kQ c me aj=true->∃row,jl n.home.dD aj=some row/\r.homes.dD[aj.toNat]?=some row
 none:∀aj,kQ c me aj=false->jl n.home.dD aj=none
 owner:∀aj,n.home.aP.owner aj=r.homes.aP.iT aj
 waits:∀aj,n.home.aP.ws aj=r.homes.aP.waits aj
structure Sim(m:cZ)(r:kP):Prop where
 c:r.c=m.c
 len:r.aH.length=m.aH.length
 fab:r.fab=m.fab.l
 ev:r.ev=m.trace
 bD:∀(i:Nat) n rn,m.aH[i]?=some n->r.aH[i]?=some rn->anw m.c i n rn
structure BR(c r:Cache):Prop where
 sets:r.sets=c.sets
 ways:r.ways=c.ways
 bW:r.bW=c.bW
 sorted:r.l.Pairwise λa b=>a.aj<b.aj
 perm:c.l.Perm r.l
def Lines(l:List Ent):Prop:=l.Pairwise λa b=>a.aj≠b.aj
def wK {l:List Ent}(h:l.Pairwise λa b=>a.aj<b.aj):Lines l:=h.imp λh=>by omega
def Lines.perm {l b:List Ent}(h:Lines l)(p:l.Perm b):Lines b:=(p.pairwise_iff (λh=>Ne.symm h)).1 h
def BR.aY {c r:Cache}(S:BR c r):Lines c.l:=(wK S.sorted).perm S.perm.symm
def BR.UY {c r:Cache}(S:BR c r):Lines r.l:=wK S.sorted
def Lines.inj:∀{l:List Ent},Lines l->∀{a b:Ent},a∈l->b∈l->a.aj=b.aj->a=b
 |[],_,a,_,i,_,_=>by cases i
 |x::l,h,a,b,i,hb,e=>by
  have j:=zbg.1 h;rcases zaj.1 i with g|g
  ·rcases zaj.1 hb with d|d
   ·rw [g,d]
   ·rw [g] at e;exact absurd e (j.1 b d)
  ·rcases zaj.1 hb with d|d
   ·rw [d] at e;exact absurd e.symm (j.1 a g)
   ·exact Lines.inj j.2 g d e
def iC {l:List Ent}(h:Lines l){aj:Int}{e:Ent}:(l.find? λx=>decide (x.aj=aj))=some e↔e∈l/\e.aj=aj:=by
 constructor
 ·intro b;exact⟨zbc b,by simpa using zb1 b⟩
 ·rintro⟨d,g⟩;cases b:l.find? λx=>decide (x.aj=aj) with
  |none=>
   have:=zbJ.1 b e d;simp [g] at this
  |some x=>
   have i:=zbc b;have j:x.aj=aj:=by simpa using zb1 b
   rw [h.inj i d (by rw [j,g])]
def tC {l:List Ent}{aj:Int}:(l.find? λx=>decide (x.aj=aj))=none↔∀e∈l,e.aj≠aj:=by
 rw [zbJ];simp
def BR.find {c r:Cache}(S:BR c r)(aj:Int):r.find aj=c.find aj:=by
 unfold Cache.find;cases b:c.l.find? λx=>decide (x.aj=aj) with
 |none=>
  rw [tC] at b ⊢;exact λe d=>b e (S.perm.mem_iff.2 d)
 |some e=>
  rw [iC S.aY] at b;rw [iC S.UY];exact⟨S.perm.mem_iff.1 b.1,b.2⟩
def BR.count {c r:Cache}(S:BR c r)(aj:Int):(r.oD aj).length=(c.oD aj).length:=by
 unfold Cache.oD;rw [S.sets];exact(S.perm.filter _).length_eq.symm
def BR.full {c r:Cache}(S:BR c r)(aj:Int):r.full aj=c.full aj:=by
 unfold Cache.full;rw [S.find,S.count,S.ways]
def yY {c:Cache}{aj:Int}:c.at_ aj=none↔c.find aj=none:=by
 unfold Cache.at_ Cache.find;rw [List.findIdx?_eq_none_iff,zbJ];simp
def BU {c:Cache}{aj:Int}{i:Nat}(h:c.at_ aj=some i):∃e,c.l[i]?=some e/\c.find aj=some e/\e.aj=aj:=by
 unfold Cache.at_ at h;have hi:=List.findIdx?_eq_some_iff_getElem.1 h;obtain⟨b,d,g⟩:=hi;refine⟨c.l[i],zab b,?_,by simpa using d⟩;unfold Cache.find;rw [List.find?_eq_some_iff_getElem];exact⟨d,i,b,rfl,λj k=>by simpa using g j k⟩
def xG {c:Cache}{aj:Int}{e:Ent}(h:c.find aj=some e):∃i,c.at_ aj=some i/\c.l[i]?=some e:=by
 cases b:c.at_ aj with
 |none=>rw [yY.1 b] at h;cases h
 |some i=>
  obtain⟨j,g,d,_⟩:=BU b;rw [h] at d;cases d;exact⟨i,rfl,g⟩
def LD:∀{l:List Ent},Lines l->∀{i:Nat} {e v:Ent},l[i]?=some e->l.set i v=l.map λx=>if x.aj=e.aj then v else x
 |[],_,i,e,v,h=>by simp at h
 |x::l,d,i,e,v,h=>by
  have b:=zbg.1 d;cases i with
  |zero=>
   simp only [zaP,zaa] at h;subst h;simp only [zbU,zaA,if_true]
   congr 1
   have:∀y∈l,(if y.aj=x.aj then v else y)=y:=λy g=>if_neg (Ne.symm (b.1 y g));rw [zbq this];simp
  |succ i=>
   simp only [zbb] at h;have j:x.aj≠e.aj:=b.1 e (zau h);simp only [zb6,zaA,if_neg j];rw [LD b.2 h]
def DI:∀{l:List Ent},Lines l->∀{i:Nat} {e:Ent},l[i]?=some e->l.eraseIdx i=l.filter λx=>decide (x.aj≠e.aj)
 |[],_,i,e,h=>by simp at h
 |x::l,d,i,e,h=>by
  have b:=zbg.1 d;cases i with
  |zero=>
   simp only [zaP,zaa] at h;subst h;simp only [List.eraseIdx_cons_zero,zbT,ne_eq,not_true,decide_false,zae,if_false];rw [zc0.2];intro y g;have:=b.1 y g;simp only [decide_eq_true_eq];exact λe=>this e.symm
  |succ i=>
   simp only [zbb] at h;have j:x.aj≠e.aj:=b.1 e (zau h);simp only [zc6,zbT,j,ne_eq,not_false_eq_true,decide_true,if_true];rw [DI b.2 h]
def wL(e:Ent):∀l,(yX e l).Perm (e::l)
 |[]=>.refl _
 |x::l=>by
  rw [yX];split
  ·exact .refl _
  ·exact((wL e l).cons x).trans (.swap e x l)
def yD(e:Ent):∀l:List Ent,(l.Pairwise λa b=>a.aj<b.aj)->(∀x∈l,x.aj≠e.aj)->(yX e l).Pairwise λa b=>a.aj<b.aj
 |[],_,_=>by simp [yX]
 |x::l,h,j=>by
  have i:=zbg.1 h;rw [yX];split
  ·rename_i g;refine zbg.2 ⟨λy d=>?_,h⟩;rcases zaj.1 d with rfl|d
   ·exact g
   ·have:=i.1 y d;omega
  ·rename_i g;refine zbg.2 ⟨λy d=>?_,yD e l i.2 λy d=>j y (by simp [d])⟩;rcases zaj.1 ((wL e l).mem_iff.1 d) with rfl|d
   ·have:=j x O;omega
   ·exact i.1 y d
def acG {l:List Ent}{f:Ent->Ent}(hf:∀x∈l,(f x).aj=x.aj)(h:l.Pairwise λa b=>a.aj<b.aj):(l.map f).Pairwise λa b=>a.aj<b.aj:=by
 rw [zct];exact h.imp_of_mem λha hb hab=>by rw [hf _ ha,hf _ hb];exact hab
def BR.mapped {c r:Cache}(S:BR c r){f:Ent->Ent}(b:∀x∈c.l,(f x).aj=x.aj)(k:Int):BR { c with l:=c.l.map f,bW:=k } { r with l:=r.l.map f,bW:=k }:=
 ⟨S.sets,S.ways,rfl,acG (λx d=>b x (S.perm.mem_iff.2 d)) S.sorted,S.perm.map f⟩
def lH {c:Cache}(g:Lines c.l){e x:Ent}(h0:0<=e.aj)(h:c.find e.aj=some x):c.put e=({ c with l:=c.l.map λy=>if y.aj=e.aj then { e with used:=x.used } else y },0):=by
 obtain⟨i,d,b⟩:=xG h;have j:x.aj=e.aj:=by
  obtain⟨y,k1,_,k⟩:=BU d;rw [b] at k1;cases k1;exact k
 unfold Cache.put;rw [if_neg V,d];simp only;rw [zao,b,zav,LD g b,j]
def WM {c:Cache}(g:Lines c.l){e x:Ent}(h0:0<=e.aj)(h:c.find e.aj=some x):c.XT e=({ c with l:=c.l.map λy=>if y.aj=e.aj then { e with used:=x.used } else y },0):=by
 obtain⟨i,d,b⟩:=xG h;have j:x.aj=e.aj:=by
  obtain⟨y,k1,_,k⟩:=BU d;rw [b] at k1;cases k1;exact k
 unfold Cache.XT;rw [if_neg V,d];simp only;rw [zao,b,zav,LD g b,j]
def BR.put {c r:Cache}(S:BR c r)(e:Ent):BR (c.put e).1 (r.XT e).1/\(r.XT e).2=(c.put e).2:=by
 by_cases d:e.aj<0
 ·unfold Cache.put Cache.XT;rw [if_pos d,if_pos d];exact⟨S,rfl⟩
 cases b:c.find e.aj with
 |some x=>
  rw [lH S.aY V b,WM S.UY V (by rw [S.find,b])];refine⟨?_,rfl⟩;have:=S.mapped (f:=λy=>if y.aj=e.aj then { e with used:=x.used } else y) (λy _=>by
   try simp only
   split
   ·rename_i h;exact h.symm
   ·rfl) c.bW
  rw [<-S.bW] at this;have g:({ c with l:=c.l.map λy=>if y.aj=e.aj then { e with used:=x.used } else y }:Cache)={ c with l:=c.l.map λy=>if y.aj=e.aj then { e with used:=x.used } else y,bW:=r.bW }:=by rw [S.bW]
  rw [g];exact this
 |none=>
  have i:=yY.2 b;have j:r.at_ e.aj=none:=yY.2 (by rw [S.find,b]);unfold Cache.put Cache.XT;rw [if_neg d,if_neg d,i,j];have k:(r.ways<=((r.oD e.aj).length:Int))=(c.full e.aj=true):=by
   simp only [Cache.full,b,zcL,zbs,S.count,S.ways,decide_eq_true_eq]
  simp only [k];split
  ·exact⟨S,rfl⟩
  ·refine⟨⟨S.sets,S.ways,by simp only [S.bW],?_,?_⟩,rfl⟩
   ·simp only [S.bW];refine yD _ _ S.sorted λx m=>?_;have:=tC.1 (show(c.l.find? λx=>decide (x.aj=e.aj))=none from b);exact this x (S.perm.mem_iff.2 m)
   ·simp only [S.bW];refine(zdm.trans ?_).trans (wL _ _).symm;exact S.perm.cons _
def Gx {c:Cache}(d:Lines c.l)(aj:Int):c.drop aj={ c with l:=c.l.filter λx=>decide (x.aj≠aj) }:=by
 unfold Cache.drop;cases b:c.at_ aj with
 |none=>
  have:=tC.1 (show(c.l.find? λx=>decide (x.aj=aj))=none from yY.1 b);simp only;rw [zc0.2 λx g=>by simpa using this x g]
 |some i=>
  obtain⟨e,h,_,j⟩:=BU b;simp only;rw [DI d h,j]
def BR.drop {c r:Cache}(S:BR c r)(aj:Int):BR (c.drop aj) (r.drop aj):=by
 rw [Gx S.aY,Gx S.UY];exact⟨S.sets,S.ways,S.bW,S.sorted.filter _,S.perm.filter _⟩
def xH {c:Cache}(g:Lines c.l){aj:Int}{e:Ent}(h:c.find aj=some e):c.touch aj={ c with l:=c.l.map λx=>if x.aj=aj then { e with used:=c.bW+1 } else x,bW:=c.bW+1 }:=by
 obtain⟨i,d,b⟩:=xG h;obtain⟨y,k1,_,j⟩:=BU d;rw [b] at k1;cases k1;unfold Cache.touch;rw [d];simp only;rw [zao,b,zav,LD g b,j]
def BR.touch {c r:Cache}(S:BR c r){aj:Int}{e:Ent}(h:c.find aj=some e):BR (c.touch aj) (r.touch aj):=by
 have b:e.aj=aj:=by
  obtain⟨i,d,g⟩:=xG h;obtain⟨y,k1,_,j⟩:=BU d;rw [g] at k1;cases k1;exact j
 rw [xH S.aY h,xH S.UY (by rw [S.find,h]),S.bW];exact S.mapped (λx _=>by
  try simp only
  split
  ·rename_i k;rw [k];exact b
  ·rfl) _
def Gy:∀(l:List Ent) (m:Ent),(l.foldl (λm x=>if x.used<m.used then x else m) m)∈m::l/\∀x∈m::l,(l.foldl (λm x=>if x.used<m.used then x else m) m).used<=x.used
 |[],m=>by simp
 |x::l,m=>by
  rw [zbQ];obtain⟨i,e⟩:=Gy l (if x.used<m.used then x else m);refine⟨?_,λy b=>?_⟩
  ·rcases zaj.1 i with h|h
   ·rw [h];split <;> simp
   ·simp [h]
  ·have d:(if x.used<m.used then x else m).used<=x.used/\(if x.used<m.used then x else m).used<=m.used:=by
    split
    ·omega
    ·omega
   have g:=e _ (List.mem_cons_self ..);rcases zaj.1 b with b|b
   ·rw [b];exact Int.le_trans g d.2
   ·rcases zaj.1 b with b|b
    ·rw [b];exact Int.le_trans g d.1
    ·exact e y (by simp [b])
def rD {l:List Ent}{e:Ent}(h:nJ l=some e):e∈l/\∀x∈l,e.used<=x.used:=by
 cases l with
 |nil=>cases h
 |cons m l=>
  simp only [nJ,zaa] at h;subst h;exact Gy l m
def Gz(l:List Ent):Prop:=l.Pairwise λa b=>a.used≠b.used
def Gz.inj:∀{l:List Ent},Gz l->∀{a b:Ent},a∈l->b∈l->a.used=b.used->a=b
 |[],_,a,_,i,_,_=>by cases i
 |x::l,h,a,b,i,hb,e=>by
  have j:=zbg.1 h;rcases zaj.1 i with g|g
  ·rcases zaj.1 hb with d|d
   ·rw [g,d]
   ·rw [g] at e;exact absurd e (j.1 b d)
  ·rcases zaj.1 hb with d|d
   ·rw [d] at e;exact absurd e.symm (j.1 a g)
   ·exact Gz.inj j.2 g d e
def Pv {l d:List Ent}(p:l.Perm d)(h:Gz l):nJ d=nJ l:=by
 cases i:nJ l with
 |none=>
  cases l with
  |nil=>rw [List.nil_perm.1 p];rfl
  |cons m l=>cases i
 |some e=>
  obtain⟨g,k⟩:=rD i;cases b:nJ d with
  |none=>
   cases d with
   |nil=>rw [List.perm_nil.1 p] at g;cases g
   |cons m l=>cases b
  |some o=>
   obtain⟨j,q⟩:=rD b;have u:=k o (p.mem_iff.2 j);have v:=q e (p.mem_iff.1 g);rw [h.inj g (p.mem_iff.2 j) V]
def BR.nR {c r:Cache}(S:BR c r)(h:Gz c.l)(aj:Int):r.Lu aj=(c.nR aj).getD (-1):=by
 unfold Cache.Lu Cache.nR;have:nJ (r.oD aj)=nJ (c.oD aj):=by
  unfold Cache.oD;rw [S.sets];exact Pv (S.perm.filter _) (h.filter _)
 rw [this]
def yZ(x:Int):∀l,(DF x l).Perm (x::l)
 |[]=>List.Perm.refl _
 |y::l=>by
  simp only [DF];split
  ·exact((yZ x l).cons y).trans (List.Perm.swap x y l)
  ·exact List.Perm.refl _
def Aa(x:Int):∀l,l.Pairwise (· ≥ ·)->(DF x l).Pairwise (· ≥ ·)
 |[],_=>by simp [DF]
 |y::l,h=>by
  simp only [DF];rw [zbg] at h;split
  ·rename_i d;refine zbg.2 ⟨λz b=>?_,Aa x l h.2⟩;rcases zaj.1 ((yZ x l).mem_iff.1 b) with rfl|b
   ·omega
   ·exact h.1 z b
  ·rename_i d;refine zbg.2 ⟨λz b=>?_,zbg.2 h⟩;rcases zaj.1 b with rfl|b
   ·omega
   ·have:=h.1 z b;omega
def uO:∀(l b:List Int),b.Pairwise (· ≥ ·)->(srt b l).Perm (b++l)/\(srt b l).Pairwise (· <= ·)
 |[],b,h=>by
  simp only [srt,za8];exact⟨List.reverse_perm b,List.pairwise_reverse.2 (h.imp λh=>h)⟩
 |x::l,b,h=>by
  have:=uO l (DF x b) (Aa x b h);simp only [srt];refine⟨this.1.trans ?_,this.2⟩;refine((yZ x b).append_right l).trans ?_;rw [za5];exact(zdi (a:=x) (l₁:=b) (l₂:=l)).symm
def ajX {l d:List Int}(h:l.Perm d)(hs:d.Pairwise (· <= ·)):srt [] l=d:=by
 obtain⟨e,g⟩:=uO l [] List.Pairwise.nil;exact(e.trans h).eq_of_pairwise (λa b _ _ e g=>Int.le_antisymm e g) g hs
def iy {α:Type}:∀(l:List (Int × α)) (n m:Int) (x:α),jl (lT l n x) m=if n=m then some x else jl l m
 |[],n,m,x=>by simp [lT,jl]
 |(k,v)::l,n,m,x=>by
  simp only [lT];by_cases h:k=n
  ·subst h;simp only [if_true,jl];by_cases b:k=m <;> simp [b]
  ·simp only [h,if_false,jl];rw [iy l n m x];by_cases b:k=m
   ·subst b;simp only [if_true];rw [if_neg (λe=>h e.symm)]
   ·simp [b]
def BX {α:Type}:∀(l:List (Int × α)) (n:Int),(x9 l n).map (·.1)=(l.map (·.1)).erase n
 |[],n=>rfl
 |(k,v)::l,n=>by
  simp only [x9,zaA,List.erase_cons];by_cases h:k=n
  ·simp [h]
  ·simp [h,BX l n]
def Px {α:Type}:∀(l:List (Int × α)) (n:Int) (x:α),(lT l n x).map (·.1)=if n∈l.map (·.1) then l.map (·.1) else l.map (·.1)++[n]
 |[],n,x=>by simp [lT]
 |(k,v)::l,n,x=>by
  simp only [lT,zaA,zaj];by_cases h:k=n
  ·simp [h]
  ·have b:¬n=k:=λe=>h e.symm;simp only [h,if_false,zaA,b,false_or,Px l n x];split <;> simp
def mQ {α:Type}{l:List (Int × α)}(h:(l.map (·.1)).Nodup)(n:Int)(x:α):((lT l n x).map (·.1)).Nodup:=by
 rw [Px];split
 ·exact h
 ·rename_i d;rw [zbZ];refine⟨h,O,λa g b hb=>?_⟩;simp only [zaN] at hb;subst hb;intro e;subst e;exact d g
def BZ {α:Type}:∀{l:List (Int × α)},(l.map (·.1)).Nodup->∀(n m:Int),jl (x9 l n) m=if n=m then none else jl l m
 |[],_,n,m=>by simp [x9,jl]
 |(k,v)::l,h,n,m=>by
  rw [zaA,zaU] at h;simp only [x9];by_cases hk:k=n
  ·subst hk;simp only [if_true,jl];by_cases h2:k=m
   ·subst h2;simp only [if_true];exact JD.2 h.1
   ·simp [h2]
  ·simp only [hk,if_false,jl];rw [BZ h.2 n m];by_cases h2:k=m
   ·subst h2;simp only [if_true];rw [if_neg λe=>hk e.symm]
   ·simp [h2]
where
 JD {α:Type}:∀{es:List (Int × α)} {n:Int},jl es n=none↔n∉es.map (·.1)
 |[],n=>by simp [jl]
 |(k,v)::l,n=>by
  simp only [jl,zaA,zaj,not_or];by_cases h:k=n
  ·simp [h]
  ·simp only [h,if_false];rw [JD (es:=l)];exact⟨λh'=>⟨λe=>h e.symm,h'⟩,λh'=>h'.2⟩
def lW {α:Type}:∀{l:List (Int × α)} {n:Int} {x:α},jl l n=some x->(n,x)∈l
 |[],n,x,h=>by cases h
 |(k,v)::l,n,x,h=>by
  simp only [jl] at h;split at h
  ·rename_i e;cases h;subst e;simp
  ·simp [lW h]
def lX {α:Type}:∀{l:List (Int × α)} {n:Int} {x:α} {e:Int × α},e∈lT l n x->e=(n,x)∨e∈l
 |[],n,x,e,h=>by simp [lT] at h;exact .inl h
 |(k,v)::l,n,x,e,h=>by
  simp only [lT] at h;split at h
  ·rcases zaj.1 h with h|h
   ·exact .inl h
   ·exact .inr (by simp [h])
  ·rcases zaj.1 h with h|h
   ·exact .inr (by simp [h])
   ·rcases lX h with h|h
    ·exact .inl h
    ·exact .inr (by simp [h])
def GH {α:Type}:∀{l:List (Int × α)} {n:Int} {e:Int × α},e∈x9 l n->e∈l
 |[],n,e,h=>by cases h
 |(k,v)::l,n,e,h=>by
  simp only [x9] at h;split at h
  ·simp [h]
  ·rcases zaj.1 h with h|h
   ·simp [h]
   ·simp [GH h]
structure GI(t:Turns):Prop where
 ok:(t.fV.map (·.1)).Nodup
 oge:∀e∈t.fV,0<=e.2
 wk:(t.wait.map (·.1)).Nodup
 wge:∀e∈t.wait,∀w∈e.2,0<=w.1
structure SK(t:Turns)(r:iw):Prop where
 owner:∀aj,t.owner aj=r.iT aj
 waits:∀aj,t.ws aj=r.waits aj
 rok:(r.owner.map (·.1)).Nodup
 rge:∀o∈r.owner,0<=o.2
def GI.owned {t:Turns}(h:GI t)(aj:Int):t.owned aj=true↔t.owner aj≠-1:=by
 unfold Turns.owned Turns.owner;cases b:jl t.fV aj with
 |none=>simp
 |some v=>
  have:=h.oge _ (lW b);simp only [zaK,zav,true_iff];simp only at this;omega
def yE {l:List (Int × Int)}{aj who m:Int}(b:∀o∈l,o.1≠aj):(((l++[(aj,who)]).find? λo=>decide (o.1=m)).map (·.2)).getD (-1)=if m=aj then who else((l.find? λo=>decide (o.1=m)).map (·.2)).getD (-1):=by
 rw [zdH];by_cases h:m=aj
 ·subst h;have:(l.find? λo=>decide (o.1=m))=none:=by
   rw [zbJ];intro o d;simpa using b o d
  rw [this];simp
 ·rw [if_neg h];cases i:l.find? λo=>decide (o.1=m) with
  |some o=>simp
  |none=>
   have g:¬aj=m:=λe=>h e.symm;simp [g]
def SK.free {t:Turns}{r:iw}(S:SK t r){aj:Int}(h:r.iT aj=-1):∀o∈r.owner,o.1≠aj:=by
 intro o d e;unfold iw.iT at h;cases b:r.owner.find? λo=>decide (o.1=aj) with
 |none=>
  have:=zbJ.1 b o d;simp [e] at this
 |some g=>
  rw [b] at h;have:=S.rge g (zbc b);simp only [zak,zav] at h;omega
def JE {l:List (Int × Int)}(h:(l.map (·.1)).Nodup){aj who:Int}(d:∀o∈l,o.1≠aj):((l++[(aj,who)]).map (·.1)).Nodup:=by
 rw [zbo,zbZ];refine⟨h,O,λa e b hb=>?_⟩;obtain⟨o,g,rfl⟩:=zaG.1 e;simp only [zaA,zbS,zaN] at hb;subst hb;exact d o g
def SK.ask {t:Turns}{r:iw}(S:SK t r)(h:GI t)(aj who id:Int):SK (t.ask aj who id).1 (r.ask aj who id).1/\(r.ask aj who id).2=(t.ask aj who id).2/\GI (t.ask aj who id).1:=by
 unfold Turns.ask iw.ask;by_cases q:who<0
 ·rw [if_pos q,if_pos q];exact⟨S,rfl,h⟩
 rw [if_neg q,if_neg q];have g:=h.owned aj;by_cases b:(t.owned aj || !(t.ws aj).isEmpty)=true
 ·have p:¬(r.iT aj=-1/\r.waits aj=[]):=by
   rintro⟨v,y⟩;simp only [zbh,za3] at b;rcases b with b|b
   ·exact g.1 b (by rw [S.owner,v])
   ·rw [S.waits,y] at b;cases b
  rw [if_pos b,if_neg p];refine⟨⟨S.owner,λm=>?_,S.rok,S.rge⟩,rfl,⟨h.ok,h.oge,mQ h.wk _ _,λe i w d=>?_⟩⟩
  ·show(jl (lT t.wait aj (t.ws aj++[(who,id)])) m).getD []=((r.wait++[(aj,who,id)]).filter λw=>decide (w.1=m)).map (·.2);have hm:=S.waits m;unfold Turns.ws iw.waits at hm;rw [iy,zb5,zbo,<-hm];by_cases k:aj=m
   ·subst k;simp [Turns.ws]
   ·simp [k]
  ·rcases lX i with rfl|i
   ·rcases zaM.1 d with d|d
    ·unfold Turns.ws at d;cases u:jl t.wait aj with
     |none=>rw [u] at d;cases d
     |some ws=>rw [u] at d;exact h.wge _ (lW u) w d
    ·simp only [zaN] at d;subst d;simp only;omega
   ·exact h.wge e i w d
 ·have j:t.owned aj=false/\t.ws aj=[]:=by
   simp only [zbh,za3,not_or,zdf,zcu,List.isEmpty_iff] at b;exact b
  have p:r.iT aj=-1/\r.waits aj=[]:=by
   refine⟨?_,by rw [<-S.waits];exact j.2⟩;rw [<-S.owner];rcases Classical.em (t.owner aj=-1) with e|e
   ·exact e
   ·rw [g.2 e] at j;cases j.1
  rw [if_neg b,if_pos p];refine⟨⟨λm=>?_,S.waits,JE S.rok (S.free p.1),λo g=>?_⟩,rfl,⟨mQ h.ok _ _,λe i=>?_,h.wk,h.wge⟩⟩
  ·show(jl (lT t.fV aj who) m).getD (-1)=(((r.owner++[(aj,who)]).find? λo=>decide (o.1=m)).map (·.2)).getD (-1);rw [yE (S.free p.1),iy];by_cases k:aj=m
   ·subst k;simp
   ·rw [if_neg k,if_neg λe=>k e.symm];exact S.owner m
  ·rcases zaM.1 g with g|g
   ·exact S.rge o g
   ·simp only [zaN] at g;subst g;simp only;omega
  ·rcases lX i with rfl|i
   ·simp only;omega
   ·exact h.oge e i
def Ac:∀{l:List (Int × Int)},(l.map (·.1)).Nodup->∀{aj who:Int},(aj,who)∈l->∀m,(((lU (λo=>decide (o.1=aj) && decide (o.2=who)) l).find? λo=>decide (o.1=m)).map (·.2)).getD (-1)=if m=aj then -1 else((l.find? λo=>decide (o.1=m)).map (·.2)).getD (-1)
 |[],_,aj,who,h,m=>by cases h
 |(k,v)::l,b,aj,who,h,m=>by
  rw [zaA,zaU] at b;simp only [lU];by_cases d:k=aj
  ·subst d;have g:v=who:=by
    rcases zaj.1 h with e|e
    ·cases e;rfl
    ·exact absurd (zaG.2 ⟨_,e,rfl⟩) b.1
   subst g;simp only [decide_true,zcq,if_true,List.find?_cons];by_cases hm:m=k
   ·subst hm;have:(l.find? λo=>decide (o.1=m))=none:=by
     rw [zbJ];intro o i;simp only [decide_eq_true_eq];intro e;exact b.1 (zaG.2 ⟨o,i,e⟩)
    rw [this];simp
   ·have:¬k=m:=λe=>hm e.symm;simp [hm,this]
  ·have j:(aj,who)∈l:=by
    rcases zaj.1 h with e|e
    ·cases e;exact absurd rfl d
    ·exact e
   simp only [d,decide_false,zbF,zae,if_false,List.find?_cons];by_cases hm:k=m
   ·subst hm;simp [d]
   ·simp only [hm,decide_false];exact Ac b.2 j m
def wM {α:Type}(p:α->Bool):∀l:List α,(lU p l).Sublist l
 |[]=>.slnil
 |x::l=>by
  simp only [lU];split
  ·exact List.sublist_cons_self x l
  ·exact(wM p l).cons_cons x
def SK.release {t:Turns}{r:iw}(S:SK t r)(h:GI t){aj who:Int}(b:t.owner aj=who)(h0:0<=who):SK (t.release aj who).1 (r.release aj who).1/\(t.release aj who).2=0/\GI (t.release aj who).1:=by
 have i:jl t.fV aj=some who:=by
  unfold Turns.owner at b;cases e:jl t.fV aj with
  |none=>rw [e] at b;simp at b;omega
  |some v=>rw [e] at b;simp at b;rw [b]
 have hm:(aj,who)∈r.owner:=by
  have:=S.owner aj;rw [b] at this;unfold iw.iT at this;cases e:r.owner.find? λo=>decide (o.1=aj) with
  |none=>rw [e] at this;simp at this;omega
  |some o=>
   rw [e] at this;have j:=zbc e;have k:o.1=aj:=by simpa using zb1 e
   simp at this;have:o=(aj,who):=by rw [Prod.ext_iff];exact⟨k,this.symm⟩
   rw [<-this];exact j
 have d:(r.owner.any λo=>decide (o.1=aj) && decide (o.2=who))=true:=zde.2 ⟨_,hm,O⟩;unfold Turns.release iw.release;rw [if_pos i,if_pos d];refine⟨⟨λm=>?_,S.waits,(S.rok.sublist ((wM _ _).map _)),λo p=>S.rge o ((wM _ _).subset p)⟩,rfl,⟨?_,λe q=>h.oge e (GH q),h.wk,h.wge⟩⟩
 ·show(jl (x9 t.fV aj) m).getD (-1)=_;rw [BZ h.ok];show _=(((lU (λo=>decide (o.1=aj) && decide (o.2=who)) r.owner).find? λo=>decide (o.1=m)).map (·.2)).getD (-1);rw [Ac S.rok hm];by_cases g:aj=m
  ·subst g;simp
  ·rw [if_neg g,if_neg λe=>g e.symm];exact S.owner m
 ·show((x9 t.fV aj).map (·.1)).Nodup;rw [BX];exact h.ok.erase _
def y7:∀(l:List (Int × Int × Int)) (aj m:Int),((lU (λw=>decide (w.1=aj)) l).filter λw=>decide (w.1=m))=if m=aj then(l.filter λw=>decide (w.1=m)).tail else l.filter λw=>decide (w.1=m)
 |[],aj,m=>by simp [lU]
 |w::l,aj,m=>by
  simp only [lU];by_cases d:w.1=aj
  ·simp only [d,decide_true,if_true,zbT];by_cases hm:m=aj
   ·subst hm;simp
   ·have:¬aj=m:=λe=>hm e.symm;simp [hm,this]
  ·simp only [d,decide_false,zae,if_false,zbT];by_cases hm:w.1=m
   ·have b:¬m=aj:=λe=>d (by rw [hm,e]);simp only [hm,decide_true,if_true,b,if_false];rw [y7 l aj m,if_neg b]
   ·simp only [hm,decide_false,zae,if_false];exact y7 l aj m
def SK.next {t:Turns}{r:iw}(S:SK t r)(h:GI t)(aj:Int):SK (t.next aj).1 (r.next aj).1/\(r.next aj).2=(t.next aj).2/\GI (t.next aj).1:=by
 unfold Turns.next iw.next
 by_cases g:t.owned aj=true
 ·rw [if_pos g,if_pos (by rw [<-S.owner];exact(h.owned aj).1 g)];exact⟨S,rfl,h⟩
 ·have z:r.iT aj=-1:=by
   rw [<-S.owner];rcases Classical.em (t.owner aj=-1) with e|e
   ·exact e
   ·exact absurd ((h.owned aj).2 e) g
  rw [if_neg g,if_neg (by rw [z];simp)];have d:=S.waits aj;unfold iw.waits at d;cases A:r.wait.find? λw=>decide (w.1=aj) with
  |none=>
   have:(r.wait.filter λw=>decide (w.1=aj))=[]:=by
    rw [List.filter_eq_nil_iff];exact λw d=>zbJ.1 A w d
   rw [this] at d;rw [d];exact⟨S,rfl,h⟩
  |some w=>
   have p:(r.wait.filter λw=>decide (w.1=aj))=w::(r.wait.filter λw=>decide (w.1=aj)).tail:=by
    have y:(r.wait.filter λw=>decide (w.1=aj)).head?=some w:=by rw [List.head?_filter];exact A
    cases i:r.wait.filter λw=>decide (w.1=aj) with
    |nil=>rw [i] at y;cases y
    |cons a b=>rw [i] at y;cases y;rfl
   rw [p,zaA] at d;rw [d];have E:w.1=aj:=by simpa using zb1 A
   have q:∃ws,jl t.wait aj=some ws/\ws=w.2::(r.wait.filter λw=>decide (w.1=aj)).tail.map (·.2):=by
    unfold Turns.ws at d;cases e:jl t.wait aj with
    |none=>rw [e] at d;cases d
    |some ws=>rw [e] at d;exact⟨ws,rfl,d⟩
   obtain⟨ws,C,j⟩:=q;have u:∀x∈ws,0<=x.1:=h.wge _ (lW C);have v:0<=w.2.1:=u w.2 (by rw [j];simp);refine⟨⟨λm=>?_,λm=>?_,JE S.rok (S.free z),λo g=>?_⟩,rfl,⟨mQ h.ok _ _,λe k=>?_,mQ h.wk _ _,λe k x D=>?_⟩⟩
   ·show(jl (lT t.fV aj w.2.1) m).getD (-1)=(((r.owner++[(aj,w.2.1)]).find? λo=>decide (o.1=m)).map (·.2)).getD (-1);rw [yE (S.free z),iy];by_cases i:aj=m
    ·subst i;simp
    ·rw [if_neg i,if_neg λe=>i e.symm];exact S.owner m
   ·show(jl (lT t.wait aj _) m).getD []=((lU (λw=>decide (w.1=aj)) r.wait).filter λw=>decide (w.1=m)).map (·.2);rw [iy,y7];by_cases i:aj=m
    ·subst i;simp
    ·rw [if_neg i,if_neg λe=>i e.symm];exact S.waits m
   ·rcases zaM.1 g with g|g
    ·exact S.rge o g
    ·simp only [zaN] at g;subst g;exact v
   ·rcases lX k with rfl|k
    ·exact v
    ·exact h.oge e k
   ·rcases lX k with rfl|k
    ·exact u x (by rw [j];exact zba _ D)
    ·exact h.wge e k x D
def wO {x y:Int}:∀{l:List Int},y∈lV x l↔y=x∨y∈l
 |[]=>by simp [lV]
 |z::l=>by
  simp only [lV];split
  ·rw [zaj,wO (l:=l),zaj];constructor
   ·rintro(h|h|h) <;> simp [h]
   ·rintro(h|h|h) <;> simp [h]
  ·split
   ·rename_i h;subst h;simp
   ·simp
def wP {x:Int}:∀{l:List Int},l.Pairwise (· < ·)->(lV x l).Pairwise (· < ·)
 |[],_=>by simp [lV]
 |z::l,h=>by
  have d:=zbg.1 h;simp only [lV];split
  ·rename_i e;refine zbg.2 ⟨λy b=>?_,wP d.2⟩;rcases wO.1 b with rfl|b
   ·exact e
   ·exact d.1 y b
  ·split
   ·exact h
   ·refine zbg.2 ⟨λy b=>?_,h⟩;rcases zaj.1 b with rfl|b
    ·omega
    ·have:=d.1 y b;omega
def Cb(t:iw):∀(l:List (Int × Int × Int)) (out:List Int),out.Pairwise (· < ·)->
  (l.foldl (λout w=>if t.iT w.1≠-1 then out else lV w.1 out) out).Pairwise (· < ·)/\
  ∀x,x∈l.foldl (λout w=>if t.iT w.1≠-1 then out else lV w.1 out) out↔x∈out∨(t.iT x=-1/\∃w∈l,w.1=x)
 |[],out,h=>⟨h,λx=>O⟩
 |w::l,out,h=>by
  rw [zbQ];by_cases d:t.iT w.1≠-1
  ·rw [if_pos d];obtain⟨g,i⟩:=Cb t l out h;refine⟨g,λx=>?_⟩;rw [i x];constructor
   ·rintro(h|⟨h,w',b,e⟩)
    ·exact .inl h
    ·exact .inr ⟨h,w',by simp [b],e⟩
   ·rintro(h|⟨h,w',b,e⟩)
    ·exact .inl h
    ·rcases zaj.1 b with j|b
     ·rw [<-e,j] at h;exact absurd h d
     ·exact .inr ⟨h,w',b,e⟩
  ·rw [if_neg d];obtain⟨g,i⟩:=Cb t l (lV w.1 out) (wP h);refine⟨g,λx=>?_⟩;rw [i x,wO];have d:t.iT w.1=-1:=by
    rcases Classical.em (t.iT w.1=-1) with e|e
    ·exact e
    ·exact absurd e d
   constructor
   ·rintro((h|h)|⟨h,w',b,e⟩)
    ·exact .inr ⟨by rw [h];exact d,w,O,h.symm⟩
    ·exact .inl h
    ·exact .inr ⟨h,w',by simp [b],e⟩
   ·rintro(h|⟨h,w',b,e⟩)
    ·exact .inl (.inr h)
    ·rcases zaj.1 b with j|b
     ·exact .inl (.inl (by rw [<-e,j]))
     ·exact .inr ⟨h,w',b,e⟩
def WO {l d:List Int}(h:l.Pairwise (· < ·))(e:d.Pairwise (· < ·))(hm:∀x,x∈l↔x∈d):l=d:=by
 have n1:l.Nodup:=h.imp λh=>by omega
 have g:d.Nodup:=e.imp λh=>by omega
 exact((List.perm_ext_iff_of_nodup n1 g).2 hm).eq_of_pairwise (λa b _ _ i j=>V) h e
def ajY {l:List Int}(h:l.Nodup):(srt [] l).Pairwise (· < ·)/\∀x,x∈srt [] l↔x∈l:=by
 obtain⟨d,e⟩:=uO l [] List.Pairwise.nil;rw [zaL] at d;have n:(srt [] l).Nodup:=d.nodup_iff.2 h;exact⟨e.imp₂ (λa b d e=>V) n,λx=>d.mem_iff⟩
def SK.ready {t:Turns}{r:iw}(S:SK t r)(h:GI t):r.ready=t.ready (srt [] (t.wait.map (·.1))):=by
 obtain⟨o,p⟩:=Cb r r.wait [] List.Pairwise.nil;obtain⟨k1,q⟩:=ajY h.wk;refine WO o (k1.filter _) λx=>?_;show x∈r.wait.foldl (λout w=>if r.iT w.1≠-1 then out else lV w.1 out) []↔x∈(srt [] (t.wait.map (·.1))).filter λaj=>!t.owned aj && !(t.ws aj).isEmpty;rw [p x,zbk,q];have i:t.owned x=false↔r.iT x=-1:=by
  rw [<-S.owner];have:=h.owned x;cases j:t.owned x
  ·simp only [j,zae,false_iff,ne_eq,Decidable.not_not] at this;simp [this]
  ·simp only [j,true_iff] at this;simp [this]
 have g:(t.ws x).isEmpty=false↔∃w∈r.wait,w.1=x:=by
  rw [S.waits];unfold iw.waits;constructor
  ·intro k;cases e:r.wait.filter λw=>decide (w.1=x) with
   |nil=>rw [e] at k;cases k
   |cons a l=>
    have:a∈r.wait.filter λw=>decide (w.1=x):=by rw [e];simp
    rw [zbk] at this;exact⟨a,this.1,by simpa using this.2⟩
  ·rintro⟨w,d,b⟩;have:w∈r.wait.filter λw=>decide (w.1=x):=zbk.2 ⟨d,by simp [b]⟩;cases e:r.wait.filter λw=>decide (w.1=x) with
   |nil=>rw [e] at this;cases this
   |cons a l=>rfl
 simp only [zay,false_or,zaf,za3];constructor
 ·rintro⟨d,b⟩;refine⟨?_,i.2 d,g.2 b⟩;have:=g.2 b;unfold Turns.ws at this;cases m:jl t.wait x with
  |none=>rw [m] at this;cases this
  |some v=>exact zaG.2 ⟨_,lW m,rfl⟩
 ·rintro⟨_,d,b⟩;exact⟨i.1 d,g.1 b⟩
structure JF(c:Cfg)(me:Int)(h:Home)(r:iO):Prop where
 dD:∀aj,kQ c me aj=true->∃row,jl h.dD aj=some row/\r.dD[aj.toNat]?=some row
 none:∀aj,kQ c me aj=false->jl h.dD aj=none
 aP:SK h.aP r.aP
structure XU(c:Cfg)(me:Int)(h:Home):Prop where
 aP:GI h.aP
 here:∀e∈h.aP.wait,kQ c me e.1=true
def JF.row {c:Cfg}{me:Int}{h:Home}{r:iO}(S:JF c me h r){aj:Int}(b:kQ c me aj=true):r.row aj=jd h.dD aj:=by
 obtain⟨row,d,e⟩:=S.dD aj b;unfold iO.row jd;rw [d,zao,e];first|done|rfl
def JF.granted {c:Cfg}{me:Int}{h:Home}{r:iO}(S:JF c me h r){aj:Int}(b:kQ c me aj=true)(who id:Int):r.granted me aj who id=Proofs.YtljogojaihgdlaaGreat.granted h.dD me aj who id:=by
 unfold iO.granted Proofs.YtljogojaihgdlaaGreat.granted;rw [S.row b]
def JF.GK {c:Cfg}{me:Int}{h:Home}{r:iO}(S:JF c me h r){t:Turns}{b:iw}(T:SK t b):JF c me { h with aP:=t } { r with aP:=b }:=⟨S.dD,S.none,T⟩
def UZ {t:Turns}{aj who id:Int}{e:Int × List (Int × Int)}(h:e∈(t.ask aj who id).1.wait):e.1=aj∨e∈t.wait:=by
 unfold Turns.ask at h;split at h
 ·exact .inr h
 ·split at h
  ·rcases lX h with rfl|h
   ·exact .inl rfl
   ·exact .inr h
  ·exact .inr h
def DJ {t:Turns}{aj who:Int}:(t.release aj who).1.wait=t.wait:=by
 unfold Turns.release;split <;> rfl
def Py {t:Turns}{aj:Int}{e:Int × List (Int × Int)}(h:e∈(t.next aj).1.wait):e∈t.wait∨(e.1=aj/\t.ws aj≠[]):=by
 unfold Turns.next at h
 split at h
 ·exact .inl h
 ·split at h
  ·exact .inl h
  ·rename_i w ws b;rcases lX h with rfl|h
   ·exact .inr ⟨rfl,by rw [b];simp⟩
   ·exact .inl h
def Ad {c:Cfg}(d:c.ok=true){me aj:Int}(h0:0<=aj):(c.bg aj≠me∨c.aY<=aj)↔kQ c me aj=false:=by
 have b:c.bg aj=aj % c.aH:=by unfold Cfg.bg yB;rw [if_neg V]
 unfold kQ;rw [b];constructor
 ·rintro(h|h)
  ·simp [h]
  ·have:¬aj<c.aY:=V
   simp [this]
 ·intro h;simp only [zcT,decide_eq_false_iff_not] at h;rcases h with(h|h)|h
  ·omega
  ·right;omega
  ·exact .inl h
def JF.set {c:Cfg}{me:Int}{h:Home}{r:iO}(S:JF c me h r)(aj aU head:Int)(data:List Int):
  (r.oD c me aj aU head data).2=(iD c h.dD aj aU head data).2/\JF c me { h with dD:=(iD c h.dD aj aU head data).1 } (r.oD c me aj aU head data).1/\(r.oD c me aj aU head data).1.aP=r.aP:=by
 unfold iO.oD iD;by_cases b:kQ c me aj=true
 ·obtain⟨row,q,k⟩:=S.dD aj b;rw [if_neg (by rw [b];simp),q];simp only;by_cases d:aU<0∨2<aU∨head < -1∨c.aH<=head
  ·rw [if_pos (by rcases d with h|h|h|h <;> simp [h]),if_pos d];exact⟨rfl,S,rfl⟩
  ·rw [if_neg d];have o:(aU<0∨2<aU∨head < -1∨c.aH<=head∨¬(aU=0↔head=-1)∨(data≠[]/\(data.length:Int)≠c.bn))↔((decide (head=-1) !=decide (aU=0)) || (decide (data≠[]) && decide ((data.length:Int)≠c.bn)))=true:=by
    simp only [not_or] at d;simp only [d.1,d.2.1,d.2.2.1,d.2.2.2,false_or,zbh,zaf,decide_eq_true_eq,bne_iff_ne,ne_eq,decide_eq_decide];constructor
    ·rintro(h|h)
     ·exact .inl λe=>h e.symm
     ·exact .inr h
    ·rintro(h|h)
     ·exact .inl λe=>h e.symm
     ·exact .inr h
   by_cases i:((decide (head=-1) !=decide (aU=0)) || (decide (data≠[]) && decide ((data.length:Int)≠c.bn)))=true
   ·rw [if_pos (o.2 i),if_pos i];exact⟨rfl,S,rfl⟩
   ·rw [if_neg λe=>i (o.1 e),if_neg i];refine⟨rfl,⟨λm hm=>?_,λm hm=>?_,S.aP⟩,rfl⟩
    ·obtain⟨g,k1,u⟩:=S.dD m hm;have w:0<=aj:=by simp only [kQ,zaf,decide_eq_true_eq] at b;exact b.1.1
     have v:0<=m:=by simp only [kQ,zaf,decide_eq_true_eq] at hm;exact hm.1.1
     simp only;rw [iy];by_cases p:aj=m
     ·subst p;rw [if_pos rfl];refine⟨_,rfl,?_⟩;have j:=(zai.1 k).1;rw [za7 j];have:r.row aj=row:=by unfold iO.row;rw [zao,k];rfl
      rw [this]
     ·rw [if_neg p,zbe V];exact⟨g,k1,u⟩
    ·simp only;rw [iy,if_neg λe=>by subst e;rw [b] at hm;cases hm];exact S.none m hm
 ·have b:kQ c me aj=false:=by simpa using b
  rw [if_pos b,S.none aj b];exact⟨rfl,S,rfl⟩
def JF.handle {c:Cfg}(v:c.ok=true){me:Int}{h:Home}{r:iO}(S:JF c me h r)(I:XU c me h)(p:Pkt):
  JF c me (h.handle c me p).1 (r.handle c me p).1/\(r.handle c me p).2=(h.handle c me p).2/\XU c me (h.handle c me p).1:=by
 unfold Home.handle iO.handle;by_cases d:p.ok=false∨p.dst≠me∨c.aH<=p.src∨(p.aO≠1/\p.aO≠2)
 ·rw [if_pos d,if_pos (by
   rcases d with h|h|h|h
   ·simp [h]
   ·simp [h]
   ·have:¬p.src<c.aH:=V
    simp [this]
   ·simp [h])]
  exact⟨S,rfl,I⟩
 rw [if_neg d,if_neg (by
  simp only [not_or] at d;obtain⟨o,w,Q,D⟩:=d;have E:p.src<c.aH:=V
  have o:p.ok=true:=by simpa using o
  simp only [ne_eq,Decidable.not_not] at w;simp only [o,w,E,decide_true,zcq,zah,zcG,zaf,decide_eq_true_eq];exact D)]
 simp only [not_or] at d;have i:p.ok=true:=by simpa using d.1
 have j:0<=p.aj:=by
  simp only [Pkt.ok,zaf,decide_eq_true_eq] at i;omega
 have q:0<=p.src:=by
  simp only [Pkt.ok,zaf,decide_eq_true_eq] at i;omega
 by_cases b:kQ c me p.aj=false
 ·rw [if_pos b,if_pos ((Ad v j).2 b)];exact⟨S,rfl,I⟩
 rw [if_neg b,if_neg λe=>b ((Ad v j).1 e)];have b:kQ c me p.aj=true:=by simpa using b
 by_cases k:p.aO=1
 ·rw [if_pos k,if_pos k];obtain⟨y,F,z⟩:=S.aP.ask I.aP p.aj p.src p.id;have A:∀e∈(h.aP.ask p.aj p.src p.id).1.wait,kQ c me e.1=true:=λe m=>by
   rcases UZ m with h|h
   ·rw [h];exact b
   ·exact I.here e h
  simp only [F];split
  ·exact⟨S.GK y,by simp only;rw [S.granted b],⟨z,A⟩⟩
  ·exact⟨S.GK y,rfl,⟨z,A⟩⟩
 rw [if_neg k,if_neg k];unfold Home.unlock;generalize (if p.flag=true then p.data else [])=dat;by_cases g:h.aP.owner p.aj≠p.src
 ·simp only [if_pos g,if_pos (show r.aP.iT p.aj≠p.src by rw [<-S.aP.owner];exact g)];exact⟨S,rfl,I⟩
 ·simp only [if_neg g,if_neg (show¬r.aP.iT p.aj≠p.src by rw [<-S.aP.owner];exact g)];have g:h.aP.owner p.aj=p.src:=by simpa using g
  obtain⟨G,C,H⟩:=S.set p.aj p.aU p.ptr dat;obtain⟨K,L,M⟩:=S.aP.release I.aP g q;have u:(h.aP.release p.aj p.src).1.wait=h.aP.wait:=DJ;rw [G];by_cases m:(iD c h.dD p.aj p.aU p.ptr dat).2=0
  ·simp only [if_pos m,L,if_true];refine⟨⟨C.dD,C.none,?_⟩,by first|trivial|rfl,⟨M,by rw [u];exact I.here⟩⟩;simp only;rw [H];exact K
  ·simp only [if_neg m];exact⟨S,by first|trivial|rfl,I⟩
def JF.ready {c:Cfg}{me:Int}{h:Home}{r:iO}(S:JF c me h r)(I:XU c me h):r.aP.ready=h.ready:=S.aP.ready I.aP
def wQ {h:Home}{aj:Int}{l:List Int}(d:h.ready=aj::l):h.aP.owned aj=false/\h.aP.ws aj≠[]/\aj∈h.aP.wait.map (·.1):=by
 have:aj∈h.ready:=by rw [d];simp
 unfold Home.ready Turns.ready at this;rw [zbk] at this;obtain⟨g,b⟩:=this;simp only [zaf,za3] at b;refine⟨b.1,λe=>by rw [e] at b;exact absurd b.2 O,?_⟩;have:=(uO (h.aP.wait.map (·.1)) [] List.Pairwise.nil).1;rw [zaL] at this;exact this.mem_iff.1 g
def JF.grant {c:Cfg}{me:Int}{h:Home}{r:iO}(S:JF c me h r)(I:XU c me h):
  JF c me (h.grant me).1 (r.grant me).1/\(r.grant me).2.1=(h.grant me).2.1/\XU c me (h.grant me).1:=by
 unfold Home.grant iO.grant;rw [S.ready I];cases hr:h.ready with
 |nil=>exact⟨S,rfl,I⟩
 |cons aj l=>
  obtain⟨m1,m2,m3⟩:=wQ hr;obtain⟨t1,t2,t3⟩:=S.aP.next I.aP aj
  have hh:kQ c me aj=true:=by
   obtain⟨e,he,rfl⟩:=zaG.1 m3;exact I.here e he
  have LG:∀e∈(h.aP.next aj).1.wait,kQ c me e.1=true:=λe he=>by
   rcases Py he with h|h
   ·exact I.here e h
   ·rw [h.1];exact hh
  obtain⟨w,hw⟩:∃w,(h.aP.next aj).2=some w:=by
   unfold Turns.next
   rw [if_neg (by rw [m1];simp)];cases hws:h.aP.ws aj with
   |nil=>exact absurd hws m2
   |cons w ws=>exact⟨w,rfl⟩
  simp only;cases ha:h.aP.next aj with
  |mk t o=>
   cases hb:r.aP.next aj with
   |mk rt ro=>
    rw [ha,hb] at t1 t2;rw [ha] at t3 LG hw;simp only at t1 t2 t3 LG hw;subst t2;subst hw;simp only [zav];exact⟨S.GK t1,S.granted hh _ _,⟨t3,LG⟩⟩
def DK(d:bP)(bD:Int)(c:Cache)(p:Pkt):Nxt:=
 if d.aO=1 then dW d bD c p else if d.aO=2 then dX d bD c p else if d.aO=3 then eH d c p else vT c
def I64(z:Int):Prop:=-9223372036854775808<=z/\z<=9223372036854775807
def ajZ(z:Int):I64 (w64 z):=by
 show -9223372036854775808<=IntKind.wrap .i64 z/\IntKind.wrap .i64 z<=9223372036854775807;simp only [IntKind.wrap,IntKind.bits,IntKind.signed];simp;split <;> constructor <;> omega
def pG(c:Cfg)(d:List Int):Prop:=(d.length:Int)=c.bn/\∀v∈d,I64 v
structure yc(c:Cfg)(p:Pkt):Prop where
 ok:p.ok=true
 dat:p.aO=7∨p.aO=9->pG c p.data
 num:∀v∈p.data,I64 v
structure JG(c:Cfg)(p:Port):Prop where
 rq:(p.rq.length:Int)<=c.out
 an:(p.an.length:Int)<=c.out
 rin:(p.rin.length:Int)<=c.inn
 ain:(p.ain.length:Int)<=1
 pkt:∀q,q∈p.rq∨q∈p.an∨q∈p.rin∨q∈p.ain->yc c q
structure vU(c:Cfg)(f:Fab):Prop where
 out:f.out=c.out
 inn:f.inn=c.inn
 len:(f.l.length:Int)=c.aH
 port:∀p∈f.l,JG c p
def lI {c:Cfg}(h:c.ok=true):(1<=c.aH/\c.aH<=6)/\(1<=c.aY/\c.aY<=8)/\(1<=c.bn/\c.bn<=4)/\(1<=c.sets/\c.sets<=4)/\(1<=c.ways/\c.ways<=3)/\(1<=c.out/\c.out<=8)/\(1<=c.inn/\c.inn<=8):=by
 unfold Cfg.ok at h;simp only [zaf,decide_eq_true_eq] at h;omega
def vU.get {c:Cfg}{f:Fab}(F:vU c f){i:Int}(h:f.is i=true):JG c (f.port i):=by
 unfold Fab.is at h;simp only [zaf,decide_eq_true_eq] at h;have hi:i.toNat<f.l.length:=V
 unfold Fab.port;rw [zao,zab hi,zav];exact F.port _ (List.getElem_mem hi)
def vU.put {c:Cfg}{f:Fab}(F:vU c f)(i:Int){p:Port}(h:JG c p):vU c (f.put i p):=by
 refine⟨F.out,F.inn,by simp only [Fab.put,zbp];exact F.len,λq b=>?_⟩;simp only [Fab.put] at b;rcases zbC b with b|b
 ·exact F.port q b
 ·rw [b];exact h
def vU.send {c:Cfg}{f:Fab}(F:vU c f){p:Pkt}(g:p.ok=true->yc c p):vU c (f.send p).1:=by
 unfold Fab.send;split
 ·exact F
 ·rename_i h;simp only [zbh,za3,not_or,zcu] at h;obtain⟨⟨i,j⟩,k⟩:=h;have P:=F.get j;have Q:=g i;split
  ·exact F
  ·rename_i d;refine F.put _ ?_;rw [F.out] at d;cases e:pV p.aO with
   |true=>
    rw [e] at d;simp only [Port.sort,if_true] at d;refine⟨?_,P.an,P.rin,P.ain,λq b=>?_⟩
    ·simp only [Port.jX,Port.sort,if_true,zan,zal,zam];omega
    ·simp only [Port.jX,Port.sort,if_true,zaM,zaN] at b;rcases b with(b|b)|b
     ·exact P.pkt q (.inl b)
     ·rw [b];exact Q
     ·exact P.pkt q (.inr b)
   |false=>
    rw [e] at d;simp only [Port.sort,zae,if_false] at d;refine⟨P.rq,?_,P.rin,P.ain,λq b=>?_⟩
    ·simp only [Port.jX,Port.sort,zae,if_false,zan,zal,zam];omega
    ·simp only [Port.jX,Port.sort,zae,if_false,zaM,zaN] at b;rcases b with b|(b|b)|b
     ·exact P.pkt q (.inl b)
     ·exact P.pkt q (.inr (.inl b))
     ·rw [b];exact Q
     ·exact P.pkt q (.inr (.inr b))
def vU.take {c:Cfg}{f:Fab}(F:vU c f)(i:Int)(req:Bool):vU c (f.take i req).1/\∀p,(f.take i req).2=some p->yc c p:=by
 unfold Fab.take;split
 ·rename_i h;have P:=F.get h;cases d:(f.port i).pF req with
  |nil=>exact⟨F,λp e=>by cases e⟩
  |cons p l=>
   simp only;cases req with
   |true=>
    simp only [Port.pF,if_true] at d;have g:=P.rin;rw [d] at g;simp only [zal] at g;refine⟨F.put _ ⟨P.rq,P.an,?_,P.ain,λq b=>?_⟩,λp' e=>?_⟩
    ·simp only [Port.kN,if_true];omega
    ·simp only [Port.kN,if_true] at b;rcases b with b|b|b|b
     ·exact P.pkt q (.inl b)
     ·exact P.pkt q (.inr (.inl b))
     ·exact P.pkt q (.inr (.inr (.inl (by rw [d];simp [b]))))
     ·exact P.pkt q (.inr (.inr (.inr b)))
    ·cases e;exact P.pkt _ (.inr (.inr (.inl (by rw [d];simp))))
   |false=>
    simp only [Port.pF,zae,if_false] at d;have g:=P.ain;rw [d] at g;simp only [zal] at g;refine⟨F.put _ ⟨P.rq,P.an,P.rin,?_,λq b=>?_⟩,λp' e=>?_⟩
    ·simp only [Port.kN,zae,if_false];omega
    ·simp only [Port.kN,zae,if_false] at b;rcases b with b|b|b|b
     ·exact P.pkt q (.inl b)
     ·exact P.pkt q (.inr (.inl b))
     ·exact P.pkt q (.inr (.inr (.inl b)))
     ·exact P.pkt q (.inr (.inr (.inr (by rw [d];simp [b]))))
    ·cases e;exact P.pkt _ (.inr (.inr (.inr (by rw [d];simp))))
 ·exact⟨F,λp e=>by cases e⟩
def vU.room {c:Cfg}{f:Fab}(F:vU c f)(i:Int)(req:Bool):0<=f.roomOf i req:=by
 unfold Fab.roomOf;split
 ·rename_i h;have P:=F.get h;have b:=P.rq;have d:=P.an;rw [F.out];cases req <;> simp only [Port.sort,if_true,zae,if_false] <;> omega
 ·exact zbr _
def Ae {α:Type}{l:List α}{i:Nat}{a:α}(h:a∈l.eraseIdx i):a∈l:=(zcR l i).subset h
def JG.drop {c:Cfg}{p:Port}(P:JG c p)(req:Bool)(k:Nat):JG c (p.drop req k):=by
 have d:∀(l:List Pkt),((l.eraseIdx k).length:Int)<=l.length:=λl=>by
  have:=(zcR l k).length_le;omega
 cases req with
 |true=>
  refine⟨?_,P.an,P.rin,P.ain,λq b=>?_⟩
  ·have:=d p.rq;have:=P.rq;simp only [Port.drop,Port.jX,Port.sort,if_true];omega
  ·simp only [Port.drop,Port.jX,Port.sort,if_true] at b;rcases b with b|b
   ·exact P.pkt q (.inl (Ae b))
   ·exact P.pkt q (.inr b)
 |false=>
  refine⟨P.rq,?_,P.rin,P.ain,λq b=>?_⟩
  ·have:=d p.an;have:=P.an;simp only [Port.drop,Port.jX,Port.sort,zae,if_false];omega
  ·simp only [Port.drop,Port.jX,Port.sort,zae,if_false] at b;rcases b with b|b|b
   ·exact P.pkt q (.inl b)
   ·exact P.pkt q (.inr (.inl (Ae b)))
   ·exact P.pkt q (.inr (.inr b))
def Pz:∀(l:List Port) (i k:Nat) {j:Nat} {req:Bool} {k':Nat},zV l i k=some (j,req,k')->i<=j/\j<i+l.length
 |[],i,k,j,req,k',h=>by cases h
 |p::l,i,k,j,req,k',h=>by
  simp only [zV] at h;split at h
  ·cases h;simp
  ·split at h
   ·cases h;simp
   ·have:=Pz l (i+1) _ h;simp only [zal];omega
def vU.remove {c:Cfg}{f:Fab}(F:vU c f)(k:Nat):vU c (f.remove k):=by
 unfold Fab.remove;split
 ·rename_i i req k' h;have hi:=Pz _ _ _ h;refine F.put _ ((F.get ?_).drop _ _);unfold Fab.is;simp only [zaf,decide_eq_true_eq];omega
 ·exact F
def vU.pkt {c:Cfg}{f:Fab}(F:vU c f){p:Pkt}(h:p∈f.all):yc c p:=by
 unfold Fab.all at h;obtain⟨q,d,b⟩:=za1.1 h;rcases zaM.1 b with b|b
 ·exact(F.port q d).pkt p (.inl b)
 ·exact(F.port q d).pkt p (.inr (.inl b))
def vU.deliver {c:Cfg}{f:Fab}(F:vU c f)(at_ bit mask:Int):vU c (f.deliver at_ bit mask).1:=by
 unfold Fab.deliver;split
 ·exact F
 split
 ·exact F
 ·rename_i p i;have Q:=F.pkt (zau i);split
  ·exact F
  split
  ·exact F
  ·rename_i d;refine vU.remove ?_ _;by_cases h:f.is p.dst=true
   ·have P:=F.get h;refine F.put _ ?_;cases g:pV p.aO with
    |true=>
     rw [g] at d;simp only [Fab.room,Port.pF,if_true,F.inn] at d;refine⟨P.rq,P.an,?_,P.ain,λq b=>?_⟩
     ·simp only [Port.kN,Port.pF,if_true,zan,zal,zam];omega
     ·simp only [Port.kN,Port.pF,if_true,zaM,zaN] at b;rcases b with b|b|(b|b)|b
      ·exact P.pkt q (.inl b)
      ·exact P.pkt q (.inr (.inl b))
      ·exact P.pkt q (.inr (.inr (.inl b)))
      ·rw [b];exact Q
      ·exact P.pkt q (.inr (.inr (.inr b)))
    |false=>
     rw [g] at d;simp only [Fab.room,Port.pF,zae,if_false] at d;refine⟨P.rq,P.an,P.rin,?_,λq b=>?_⟩
     ·simp only [Port.kN,Port.pF,zae,if_false,zan,zal,zam];omega
     ·simp only [Port.kN,Port.pF,zae,if_false,zaM,zaN] at b;rcases b with b|b|b|(b|b)
      ·exact P.pkt q (.inl b)
      ·exact P.pkt q (.inr (.inl b))
      ·exact P.pkt q (.inr (.inr (.inl b)))
      ·exact P.pkt q (.inr (.inr (.inr b)))
      ·rw [b];exact Q
   ·-- no such bD:nothing is put
    have j:f.l.length<=p.dst.toNat:=by
     have e:=Q.ok;simp only [Pkt.ok,zaf,decide_eq_true_eq] at e;simp only [Fab.is,zaf,decide_eq_true_eq] at h;omega
    unfold Fab.put;rw [List.set_eq_of_length_le j];exact⟨F.out,F.inn,F.len,F.port⟩
structure aof(c:Cfg)(k:Int)(e:Ent):Prop where
 lo:0<=e.aj
 hi:e.aj<c.aY
 used:e.used<=k
 u0:0<=e.used
 dat:pG c e.data
structure Ez(c:Cfg)(ca:Cache):Prop where
 sets:ca.sets=c.sets
 ways:ca.ways=c.ways
 aY:Lines ca.l
 acH:Gz ca.l
 ent:∀e∈ca.l,aof c ca.bW e
 room:∀aj,((ca.oD aj).length:Int)<=ca.ways
 ag7:0<=ca.bW
structure aj0(c:Cfg)(n:Node):Prop where
 dU:n.bG.dU=true
 op:∃o,n.bG.cur=some o/\c.bU o.addr=n.aI.aj/\(n.aI.aO=1->o.aO=1)/\(n.aI.aO=2->o.aO=2∨o.aO=3)
 full:n.aG.full n.aI.aj=false
structure afb(c:Cfg)(n:Node):Prop where
 lo:0<=n.aI.aj
 hi:n.aI.aj<c.aY
 aO:1<=n.aI.aO/\n.aI.aO<=3
 dat:n.aI.data=[]∨pG c n.aI.data
 ag8:n.aI.aO=2->n.aI.step=3->pG c n.aI.data
 roll:n.aI.aO=3->n.bG.dU=true
 work:n.aI.aO≠3->n.aI.step≠6->aj0 c n
 rest:n.aI.aO≠3->n.aI.step=6->n.bG.dU=false
structure ag9(c:Cfg)(p:Proc):Prop where
 most:p.ops.length<=24
 right:∀o∈p.ops,c.right o=true/\I64 o.value
 vals:p.aZ.length<=p.ops.length
 dU:p.dU=true->p.aZ.length<p.ops.length
structure WQ(c:Cfg)(me:Int)(n:Node):Prop where
 bG:ag9 c n.bG
 aG:Ez c n.aG
 dD:∀e∈n.home.dD,pG c e.2.data
 home:XU c me n.home
 aI:n.aI.step≠0->afb c n
 clk:n.aG.bW<=n.bG.aZ.length
def Y8 {l:List Ent}{f:Ent->Ent}(h:Gz l)(hf:∀x∈l,(f x).used=x.used):Gz (l.map f):=by
 unfold Gz;rw [zct];exact h.imp_of_mem λha hb hab=>by rw [hf _ ha,hf _ hb];exact hab
def Af {l:List Ent}{f:Ent->Ent}(h:Lines l)(hf:∀x∈l,(f x).aj=x.aj):Lines (l.map f):=by
 unfold Lines;rw [zct];exact h.imp_of_mem λha hb hab=>by rw [hf _ ha,hf _ hb];exact hab
def Ah(ca:Cache)(aj:Int){q:Ent->Bool}:(({ ca with l:=ca.l.filter q }:Cache).oD aj).length<=(ca.oD aj).length:=by
 unfold Cache.oD;rw [zdB];have:(ca.l.filter λe=>(decide (0<=aj) && decide (e.aj.tmod ca.sets=aj.tmod ca.sets)) && q e)=((ca.l.filter λe=>decide (0<=aj) && decide (e.aj.tmod ca.sets=aj.tmod ca.sets))).filter q:=by
  rw [zdB]
  apply zc8
  intro x _;rw [Bool.and_comm]
 rw [this];exact zco _ _
def GL(ca:Cache)(aj k:Int){f:Ent->Ent}(b:∀x∈ca.l,(f x).aj=x.aj):(({ ca with l:=ca.l.map f,bW:=k }:Cache).oD aj).length=(ca.oD aj).length:=by
 unfold Cache.oD;rw [List.filter_map,zaB]
 congr 1
 apply zc8
 intro y d;simp only [Function.comp,b y d]
def Ez.put {c:Cfg}{ca:Cache}(I:Ez c ca){e:Ent}(h0:0<=e.aj)(j:e.aj<c.aY)(hd:pG c e.data):Ez c (ca.put e).1:=by
 cases i:ca.find e.aj with
 |some x=>
  obtain⟨k,m⟩:=(iC I.aY).1 i;rw [lH I.aY h0 i];refine⟨I.sets,I.ways,Af I.aY λy _=>?_,Y8 I.acH λy g=>?_,λy g=>?_,λaj=>?_,I.ag7⟩
  ·split
   ·rename_i h;exact h.symm
   ·rfl
  ·split
   ·rename_i h;rw [I.aY.inj g k (by rw [h,m])]
   ·rfl
  ·obtain⟨z,u,rfl⟩:=zaG.1 g;split
   ·exact⟨h0,j,(I.ent x k).used,(I.ent x k).u0,hd⟩
   ·exact I.ent z u
  ·have:=GL ca aj ca.bW (f:=λy=>if y.aj=e.aj then { e with used:=x.used } else y) (λy _=>by
    split
    ·rename_i h;exact h.symm
    ·rfl)
   have p:=I.room aj;rw [<-this] at p;exact p
 |none=>
  unfold Cache.put;rw [if_neg V,yY.2 i];simp only;split
  ·exact I
  ·rename_i d;have v:=tC.1 (show(ca.l.find? λx=>decide (x.aj=e.aj))=none from i);refine⟨I.sets,I.ways,?_,?_,λy g=>?_,λaj=>?_,by have:=I.ag7;simp only;omega⟩
   ·unfold Lines;rw [List.pairwise_append];exact⟨I.aY,O,λa o b hb=>by rw [zaN.1 hb];exact v a o⟩
   ·unfold Gz;rw [List.pairwise_append];refine⟨I.acH,O,λa o b hb=>?_⟩;rw [zaN.1 hb];have:=(I.ent a o).used;simp only;omega
   ·rcases zaM.1 g with g|g
    ·have:=I.ent y g;exact⟨this.lo,this.hi,by have:=this.used;simp only;omega,this.u0,this.dat⟩
    ·rw [zaN.1 g];exact⟨h0,j,by simp only;omega,by have:=I.ag7;simp only;omega,hd⟩
   ·simp only [Cache.full,i,zcL,zbs,decide_eq_true_eq] at d;have q:=I.room aj;unfold Cache.oD at d q ⊢;simp only [zb5,zan];by_cases hs:(decide (0<=aj) && decide (e.aj.tmod ca.sets=aj.tmod ca.sets))=true
    ·simp only [zaf,decide_eq_true_eq] at hs;have:(ca.l.filter λx=>decide (0<=aj) && decide (x.aj.tmod ca.sets=aj.tmod ca.sets))=ca.l.filter λx=>decide (0<=e.aj) && decide (x.aj.tmod ca.sets=e.aj.tmod ca.sets):=by
      apply zc8
      intro x _;rw [hs.2];simp [hs.1,h0]
     rw [this];have j:(([({ e with used:=ca.bW+1 }:Ent)].filter λx=>decide (0<=aj) && decide (x.aj.tmod ca.sets=aj.tmod ca.sets)).length)<=1:=zco _ _;omega
    ·have:([({ e with used:=ca.bW+1 }:Ent)].filter λx=>decide (0<=aj) && decide (x.aj.tmod ca.sets=aj.tmod ca.sets))=[]:=by
      simp only [zbT,List.filter_nil];rw [if_neg hs]
     rw [this];simp only [zam,zbM];exact q
def Ez.drop {c:Cfg}{ca:Cache}(I:Ez c ca)(b:Int):Ez c (ca.drop b):=by
 rw [Gx I.aY];refine⟨I.sets,I.ways,I.aY.filter _,I.acH.filter _,λe d=>I.ent e (zbk.1 d).1,λaj=>?_,I.ag7⟩;have:=I.room aj;have g:(({ ca with l:=ca.l.filter λx=>decide (x.aj≠b) }:Cache).oD aj).length<=(ca.oD aj).length:=Ah _ _;simp only at g ⊢;omega
def Ez.touch {c:Cfg}{ca:Cache}(I:Ez c ca){aj:Int}{e:Ent}(h:ca.find aj=some e):Ez c (ca.touch aj):=by
 obtain⟨he,hl⟩:=(iC I.aY).1 h;rw [xH I.aY h];refine⟨I.sets,I.ways,Af I.aY λy _=>?_,?_,λy hy=>?_,λline'=>?_,by have:=I.ag7;simp only;omega⟩
 ·split
  ·rename_i h;rw [h];exact hl
  ·rfl
 ·unfold Gz;rw [zct];refine(I.aY.and I.acH).imp_of_mem λ{a b} ha hb hab=>?_;have ua:=(I.ent a ha).used;have ub:=(I.ent b hb).used;split <;> split
  ·rename_i h1 h2;exact absurd (by rw [h1,h2]) hab.1
  ·simp only;omega
  ·simp only;omega
  ·exact hab.2
 ·obtain⟨z,hz,rfl⟩:=zaG.1 hy;split
  ·have:=I.ent e he;exact⟨this.lo,this.hi,by simp only;omega,by have:=I.ag7;simp only;omega,this.dat⟩
  ·have:=I.ent z hz;exact⟨this.lo,this.hi,by have:=this.used;simp only;omega,this.u0,this.dat⟩
 ·have:=GL ca line' (ca.bW+1) (f:=λx=>if x.aj=aj then { e with used:=ca.bW+1 } else x) (λy _=>by
   split
   ·rename_i h;rw [h];exact hl
   ·rfl)
  have h2:=I.room line';rw [<-this] at h2;exact h2
def acI {ca:Cache}(hl:Lines ca.l){e x:Ent}(h0:0<=e.aj)(hf:ca.find e.aj=some x)(aj:Int):(ca.put e).1.full aj=ca.full aj:=by
 obtain⟨hx,hxl⟩:=(iC hl).1 hf;rw [lH hl h0 hf];have hm:∀y∈ca.l,(if y.aj=e.aj then { e with used:=x.used } else y).aj=y.aj:=λy _=>by
  split
  ·rename_i h;exact h.symm
  ·rfl
 have h1:({ ca with l:=ca.l.map λy=>if y.aj=e.aj then { e with used:=x.used } else y }:Cache).find aj=none↔ca.find aj=none:=by
  unfold Cache.find;rw [tC,tC];constructor
  ·intro h y hy;have:=h _ (zaG.2 ⟨y,hy,rfl⟩)
   rwa [hm y hy] at this
  ·intro h y hy;obtain⟨z,hz,rfl⟩:=zaG.1 hy;rw [hm z hz];exact h z hz
 have h2:(({ ca with l:=ca.l.map λy=>if y.aj=e.aj then { e with used:=x.used } else y }:Cache).oD aj).length=(ca.oD aj).length:=by
  unfold Cache.oD;rw [List.filter_map,zaB]
  congr 1
  apply zc8
  intro y hy;simp only [Function.comp,hm y hy]
 unfold Cache.full;rw [h2]
 congr 1
 cases ha:ca.find aj with
 |none=>rw [h1.2 ha]
 |some u=>
  cases hb:({ ca with l:=ca.l.map λy=>if y.aj=e.aj then { e with used:=x.used } else y }:Cache).find aj with
  |none=>rw [h1.1 hb] at ha;cases ha
  |some v=>rfl
def Ai {α:Type}{p q:α->Bool}:∀{l:List α},(∀x∈l,q x=true->p x=true)->∀{a:α},a∈l->p a=true->q a=false->(l.filter q).length<(l.filter p).length
 |[],_,a,h,_,_=>by cases h
 |x::l,hs,a,h,j,k=>by
  have d:∀{l:List α},(∀x∈l,q x=true->p x=true)->(l.filter q).length<=(l.filter p).length:=by
   intro l hs
   induction l with
   |nil=>simp
   |cons y l g=>
    have:=g λz b=>hs z (by simp [b]);simp only [zbT];cases i:q y
    ·simp only [zae,if_false];split
     ·simp only [zal];omega
     ·exact this
    ·rw [hs y O i];simp only [if_true,zal];omega
  simp only [zbT];rcases zaj.1 h with e|h
  ·subst e;rw [j,k];simp only [if_true,zae,if_false,zal];have:=d λz b=>hs z (zba _ b);omega
  ·have g:=Ai (λz b=>hs z (zba _ b)) h j k;cases i:q x
   ·simp only [zae,if_false];split
    ·simp only [zal];omega
    ·exact g
   ·rw [hs x O i];simp only [if_true,zal];omega
def Y9 {c:Cfg}(o:c.ok=true){ca:Cache}(I:Ez c ca){b aj:Int}(h:ca.full aj=false):(ca.drop b).full aj=false:=by
 rw [Gx I.aY];unfold Cache.full at h ⊢;have k:(({ ca with l:=ca.l.filter λx=>decide (x.aj≠b) }:Cache).oD aj).length<=(ca.oD aj).length:=Ah _ _;cases j:ca.find aj with
 |none=>
  rw [j] at h;simp only [zcL,zbs,decide_eq_false_iff_not] at h;simp only [zcT,decide_eq_false_iff_not];right;omega
 |some e=>
  obtain⟨d,g⟩:=(iC I.aY).1 j;by_cases i:aj=b
  ·subst i;simp only [zcT,decide_eq_false_iff_not];right;have p:=I.room aj;have q:=(I.ent e d).lo;have m:(({ ca with l:=ca.l.filter λx=>decide (x.aj≠aj) }:Cache).oD aj).length<(ca.oD aj).length:=by
    unfold Cache.oD;rw [zdB];refine Ai (λx _ h=>?_) d ?_ ?_
    ·simp only [zaf] at h ⊢;exact h.1
    ·rw [g];simp;omega
    ·simp [g]
   omega
  ·have:({ ca with l:=ca.l.filter λx=>decide (x.aj≠b) }:Cache).find aj=some e:=by
    unfold Cache.find;rw [iC (I.aY.filter _)];refine⟨zbk.2 ⟨d,?_⟩,g⟩;simp only [decide_eq_true_eq];omega
   rw [this];rfl
abbrev By:=BitVec 8
abbrev S16:=BitVec 16
def shS(s:S16):S16:=(s <<< 1) ^^^ (if s.msb then 0x1021#16 else 0#16)
def shN:Nat->S16->S16
 |0,s=>s
 |n+1,s=>shN n (shS s)
def XV(s:S16)(c:By):S16:=shN 8 (s ^^^ (c.setWidth 16 <<< 8))
def uP(s:S16)(l:List By):S16:=l.foldl XV s
def XW(s:S16):By:=(s >>> 8).setWidth 8
def XY(s:S16):By:=s.setWidth 8
def jH(l:List By):List By:=l++[XW (uP 0xffff#16 l),XY (uP 0xffff#16 l)]
def acJ:shS 0#16=0#16:=J
def Za(s t:S16):shS (s ^^^ t)=shS s ^^^ shS t:=by
 unfold shS;rw [BitVec.msb_xor,BitVec.shiftLeft_xor_distrib];cases s.msb <;> cases t.msb <;> simp
 ·rw [zbu]
 ·rw [zbu,zbu,BitVec.xor_comm (t <<< 1)]
 ·rw [zbu,<-zbu 4129#16,BitVec.xor_comm 4129#16,zbu,zcM,zdq]
def acK {s:S16}(h:shS s=0#16):s=0#16:=by
 unfold shS at h;cases hm:s.msb with
 |true=>
  rw [hm] at h;have:=congrArg (λv:S16=>v.getLsbD 0) h;simp at this
 |false=>
  rw [hm] at h;simp only [zae,if_false,zdq] at h
  apply zcc
  intro i hi;by_cases h15:i=15
  ·subst h15;have:s.getLsbD 15=s.msb:=by simp [BitVec.msb_eq_getLsbD_last]
   rw [this,hm];simp
  ·have:=congrArg (λv:S16=>v.getLsbD (i+1)) h;simp only [zb9,BitVec.getLsbD_zero] at this;have h1:i+1<16:=V
   simp [h1] at this
   simpa using this
def LH:∀n,shN n 0#16=0#16
 |0=>rfl
 |n+1=>by rw [shN,acJ,LH n]
def Zb:∀n (s t:S16),shN n (s ^^^ t)=shN n s ^^^ shN n t
 |0,_,_=>rfl
 |n+1,s,t=>by rw [shN,Za,Zb n];rfl
def LJ:∀n {s:S16},shN n s=0#16->s=0#16
 |0,_,h=>h
 |n+1,s,h=>acK (LJ n h)
def aiP(b:Bool):S16:=if b then 0x8000#16 else 0#16
def DL(s:S16)(b:Bool):S16:=shS (s ^^^ aiP b)
def SL:List Bool->S16
 |[]=>0#16
 |b::l=>aiP b ^^^ (SL l >>> 1)
def aha:∀i:Fin 16,(0x8000#16).getLsbD i.val=decide (i.val=15):=J
def acL(b:Bool){i:Nat}(h:i<16):(aiP b).getLsbD i=(b && decide (i=15)):=by
 unfold aiP;cases b
 ·simp
 ·simp only [if_true,zbs];exact aha ⟨i,h⟩
def Aj:∀(l:List Bool) (i:Nat),l.length<=16->i<16->(SL l).getLsbD i=(l[15-i]?).getD false
 |[],i,_,_=>by simp [SL]
 |b::l,i,h,hi=>by
  simp only [zal] at h;rw [SL,BitVec.getLsbD_xor,zcY,acL b hi];by_cases d:i=15
  ·subst d;have:(SL l).getLsbD (1+15)=false:=BitVec.getLsbD_of_ge _ _ V;rw [this];simp
  ·rw [Aj l (1+i) V V];have e:15-i=(15-(1+i))+1:=V
   rw [e,zbb];simp [d]
def xI:∀(l:List Bool) (s:S16),l.length<=16->l.foldl DL s=shN l.length (s ^^^ SL l)
 |[],s,_=>by simp [SL,shN]
 |b::l,s,h=>by
  simp only [zal] at h;rw [zbQ,xI l _ V];show shN l.length (DL s b ^^^ SL l)=shN l.length (shS (s ^^^ SL (b::l)))
  congr 1
  rw [SL,<-zbu,Za];unfold DL
  congr 1
  unfold shS;have hm:(SL l >>> 1).msb=false:=by simp [BitVec.msb_ushiftRight]
  rw [hm];simp only [zae,if_false,zdq];have d:(SL l).getLsbD 0=false:=by
   rw [Aj l 0 V V,zaH V];rfl
  apply zcc
  intro i hi;rw [zb9,zcY];cases i with
  |zero=>rw [d];simp
  |succ i=>
   have e:1+(i+1-1)=i+1:=V
   have g:¬(i+1<1):=V
   rw [e];simp [hi,g]
def Zc {l:List Bool}(h:l.length<=16)(h0:SL l=0#16):∀b∈l,b=false:=by
 intro b hb;obtain⟨k,d,rfl⟩:=zcW.1 hb;have:=Aj l (15-k) h V;rw [h0,show 15-(15-k)=k by omega,zab d] at this
 simpa using this.symm
def wR(c:By):List Bool:=[c.getLsbD 7,c.getLsbD 6,c.getLsbD 5,c.getLsbD 4,c.getLsbD 3,c.getLsbD 2,c.getLsbD 1,c.getLsbD 0]
def yg(l:List By):List Bool:=l.flatMap wR
def Zd(c:By):SL (wR c)=c.setWidth 16 <<< 8:=by
 apply zcc
 intro i hi;rw [Aj _ _ (by simp [wR]) hi,zb9,BitVec.getLsbD_setWidth];rcases(show i=0∨i=1∨i=2∨i=3∨i=4∨i=5∨i=6∨i=7∨i=8∨i=9∨i=10∨i=11∨i=12∨i=13∨i=14∨i=15 by omega) with h|h|h|h|h|h|h|h|h|h|h|h|h|h|h|h <;> subst h <;> simp [wR]
def Ze(s:S16)(c:By):XV s c=(wR c).foldl DL s:=by
 rw [xI _ _ (by simp [wR]),Zd];rfl
def Cc:∀(l:List By) (s:S16),uP s l=(yg l).foldl DL s
 |[],s=>rfl
 |c::l,s=>by
  show uP (XV s c) l=_;rw [Cc l,Ze];show _=(wR c++yg l).foldl DL s;rw [zc9]
def rE(l:List By):(yg l).length=8*l.length:=by
 unfold yg
 induction l with
 |nil=>rfl
 |cons c l b=>rw [zaE,zan,b];simp [wR];omega
def PD(l:List By):uP 0xffff#16 (jH l)=0#16:=by
 unfold jH;obtain⟨s,hs⟩:∃s,s=uP 0xffff#16 l:=⟨_,rfl⟩
 rw [<-hs];unfold uP at hs ⊢;rw [zc9,<-hs];show uP s [XW s,XY s]=0#16;rw [Cc,xI _ _ (by rw [rE];simp)];have:SL (yg [XW s,XY s])=s:=by
  apply zcc
  intro i hi;rw [Aj _ _ (by rw [rE];simp) hi];have e:yg [XW s,XY s]=[s.getLsbD 15,s.getLsbD 14,s.getLsbD 13,s.getLsbD 12,s.getLsbD 11,s.getLsbD 10,s.getLsbD 9,s.getLsbD 8,s.getLsbD 7,s.getLsbD 6,s.getLsbD 5,s.getLsbD 4,s.getLsbD 3,s.getLsbD 2,s.getLsbD 1,s.getLsbD 0]:=by
   simp [yg,wR,XW,XY,zaE]
  rw [e];rcases(show i=0∨i=1∨i=2∨i=3∨i=4∨i=5∨i=6∨i=7∨i=8∨i=9∨i=10∨i=11∨i=12∨i=13∨i=14∨i=15 by omega) with h|h|h|h|h|h|h|h|h|h|h|h|h|h|h|h <;> subst h <;> rfl
 rw [this,zcM,LH]
def WR(l m:List By):List By:=List.zipWith (· ^^^ ·) l m
def acM(s t:S16)(c d:By):XV (s ^^^ t) (c ^^^ d)=XV s c ^^^ XV t d:=by
 unfold XV;rw [<-Zb]
 congr 1
 rw [BitVec.setWidth_xor,BitVec.shiftLeft_xor_distrib];rw [zbu,zbu]
 congr 1
 rw [<-zbu,<-zbu,BitVec.xor_comm t]
def PE:∀(l m:List By) (s t:S16),l.length=m.length->uP (s ^^^ t) (WR l m)=uP s l ^^^ uP t m
 |[],[],s,t,_=>rfl
 |c::l,d::m,s,t,h=>by
  show uP (XV (s ^^^ t) (c ^^^ d)) (WR l m)=uP (XV s c) l ^^^ uP (XV t d) m;rw [acM,PE l m _ _ (by simpa using h)]
 |[],_::_,_,_,h=>by simp at h
 |_::_,[],_,_,h=>by simp at h
def Ce:∀(l:List Bool) (s:S16),(∀b∈l,b=false)->l.foldl DL s=shN l.length s
 |[],s,_=>rfl
 |b::l,s,h=>by
  have hb:=h b O;subst hb;rw [zbQ,Ce l _ λb hb=>h b (by simp [hb])];show shN l.length (shS (s ^^^ aiP false))=shN l.length (shS s);simp [aiP]
def WS {B:List Bool}{a:Int}(h:∀(k:Nat),B[k]?=some true->a<=k/\(k:Int)<a+16)(h0:B.foldl DL 0#16=0#16):∀b∈B,b=false:=by
 obtain⟨p,q⟩:∃p,p=a.toNat:=⟨_,rfl⟩
 have i:B=B.take p++((B.drop p).take 16++(B.drop p).drop 16):=by rw [zcS,zcS]
 have j:∀b∈B.take p,b=false:=by
  intro b hb;obtain⟨k,e,rfl⟩:=zcW.1 hb;cases d:(B.take p)[k] with
  |false=>rfl
  |true=>
   have g:k<p:=by rw [zat] at e;omega
   have:B[k]?=some true:=by
    rw [<-d,<-zab e,zaC,if_pos g]
   have:=h k this;omega
 have m:∀b∈(B.drop p).drop 16,b=false:=by
  intro b hb;obtain⟨k,e,rfl⟩:=zcW.1 hb;cases d:((B.drop p).drop 16)[k] with
  |false=>rfl
  |true=>
   have:B[p+(16+k)]?=some true:=by
    rw [<-d,<-zab e,zaF,zaF]
   have:=h _ this;omega
 rw [i,zc9,zc9,Ce _ _ j,LH,Ce _ _ m,xI _ _ (by rw [zat];omega),BitVec.zero_xor] at h0;have o:=Zc (by rw [zat];omega) (LJ _ (LJ _ h0));intro b hb;rw [i] at hb;rcases zaM.1 hb with hb|hb
 ·exact j b hb
 ·rcases zaM.1 hb with hb|hb
  ·exact o b hb
  ·exact m b hb
def acN {c d:By}(h:∀b∈wR (c ^^^ d),b=false):c=d:=by
 apply zcc
 intro i hi;have key:(c ^^^ d).getLsbD i=false:=by
  apply h
  rcases(show i=0∨i=1∨i=2∨i=3∨i=4∨i=5∨i=6∨i=7 by omega) with h|h|h|h|h|h|h|h <;> subst h <;> simp [wR]
 rw [BitVec.getLsbD_xor] at key;cases e:c.getLsbD i <;> cases g:d.getLsbD i <;> simp [e,g] at key ⊢
def GN:∀{l m:List By},l.length=m.length->(∀b∈yg (WR l m),b=false)->l=m
 |[],[],_,_=>rfl
 |c::l,d::m,h,hb=>by
  have e:yg (WR (c::l) (d::m))=wR (c ^^^ d)++yg (WR l m):=rfl;rw [e] at hb;rw [acN λb h=>hb b (zcy _ h),GN (by simpa using h) λb h=>hb b (zcn _ h)]
 |[],_::_,h,_=>by simp at h
 |_::_,[],h,_=>by simp at h
def SN {x y:List By}{a:Int}(b:(jH x).length=(jH y).length)(h:∀(k:Nat),(yg (WR (jH x) (jH y)))[k]?=some true->a<=k/\(k:Int)<a+16):jH x=jH y:=by
 refine GN b (WS h ?_);rw [<-Cc];have:=PE (jH x) (jH y) 0xffff#16 0xffff#16 b;rw [zcM,PD,PD,zcM] at this;exact this
def afc(bit mask:Int)(k:Nat):Bool:=decide (0<=(k:Int)-bit) && decide ((k:Int)-bit<16) && mask.toNat.testBit (15-((k:Int)-bit).toNat)
def uQ(bit mask:Int)(at_:Nat):By:=
 if 8*(at_:Int)-bit<=-8∨16<=8*(at_:Int)-bit then 0#8 else(((BitVec.ofNat 32 mask.toNat) <<< 8 <<< (8*(at_:Int)-bit+8).toNat) >>> 24).setWidth 8
def qG(bit mask:Int)(l:List By):List By:=l.mapIdx λi c=>c ^^^ uQ bit mask i
def SQ {m k:Nat}(hm:m<=65535)(b:16<=k):m.testBit k=false:=by
 apply Nat.testBit_lt_two_pow
 calc m<2 ^ 16:=V
  _<=2 ^ k:=Nat.pow_le_pow_right J b
def Zf {bit mask:Int}(h0:0<=mask)(w:mask<=65535)(at_ j:Nat)(g:j<8):(uQ bit mask at_).getLsbD j=afc bit mask (8*at_+(7-j)):=by
 unfold uQ afc;obtain⟨y,i⟩:∃y:Int,y=8*(at_:Int)-bit:=⟨_,rfl⟩
 have k:((8*at_+(7-j):Nat):Int)-bit=y+(7-(j:Int)):=V
 rw [<-i,k];by_cases h:y<=-8∨16<=y
 ·rw [if_pos h];simp only [BitVec.getLsbD_zero];rcases h with h|h
  ·have:¬(0<=y+(7-(j:Int))):=V
   simp [this]
  ·have:¬(y+(7-(j:Int))<16):=V
   simp [this]
 ·rw [if_neg h];simp only [not_or] at h;obtain⟨n,m⟩:∃n:Nat,n=(y+8).toNat:=⟨_,rfl⟩
  rw [<-m];rw [BitVec.getLsbD_setWidth,zcY,zb9,zb9,BitVec.getLsbD_ofNat];have o:24+j<32:=V
  have p:¬(24+j<n):=V
  have q:24+j-n<32:=V
  by_cases b:24+j-n<8
  ·have:¬(y+(7-(j:Int))<16):=V
   simp [b,this]
  ·have u:24+j-n-8<32:=V
   have v:y+(7-(j:Int))<16:=V
   by_cases d:0<=y+(7-(j:Int))
   ·have e:24+j-n-8=15-(y+(7-(j:Int))).toNat:=V
    simp only [g,o,p,q,u,b,d,v,decide_true,decide_false,zaq,zbs,zcq];rw [e]
   ·have:mask.toNat.testBit (24+j-n-8)=false:=SQ V V;simp [this,d]
def je(bit mask:Int)(l:List By):(qG bit mask l).length=l.length:=by simp [qG]
def Zg(c:By)(j:Nat)(b:j<8):(wR c)[j]?=some (c.getLsbD (7-j)):=by
 rcases(show j=0∨j=1∨j=2∨j=3∨j=4∨j=5∨j=6∨j=7 by omega) with h|h|h|h|h|h|h|h <;> subst h <;> rfl
def GR:∀(l:List By) (k:Nat),(yg l)[k]?=(l[k / 8]?).map λc=>c.getLsbD (7-k % 8)
 |[],k=>by simp [yg]
 |c::l,k=>by
  have b:yg (c::l)=wR c++yg l:=rfl;rw [b];by_cases h:k<8
  ·rw [zaV (by simp [wR];exact h),Zg c k h,show k / 8=0 by omega,show k % 8=k by omega];rfl
  ·rw [zaZ (by simp [wR];omega)];have:(wR c).length=8:=rfl;rw [this,GR l (k-8),show k / 8=(k-8) / 8+1 by omega,show k % 8=(k-8) % 8 by omega];rfl
def Ci {bit mask:Int}(h0:0<=mask)(b:mask<=65535)(l:List By)(k:Nat)(d:k<8*l.length):(yg (WR l (qG bit mask l)))[k]?=some (afc bit mask k):=by
 rw [GR];have hi:k / 8<l.length:=V
 have:(WR l (qG bit mask l))[k / 8]?=some (uQ bit mask (k / 8)):=by
  unfold WR qG;rw [List.getElem?_zipWith,zbf,zab hi];simp only [zak]
  congr 1
  rw [<-zbu,zcM,BitVec.zero_xor]
 rw [this,zak,Zf h0 b _ _ V]
 congr 2
 omega
def PG {n:Nat}{bit mask:Int}:aP n bit mask=true↔∃k:Nat,k<8*n/\afc bit mask k=true:=by
 unfold aP;rw [zde];constructor
 ·rintro⟨i,hi,h⟩;rw [za9] at hi;simp only [zaf,decide_eq_true_eq] at h;obtain⟨⟨a,b⟩,c⟩:=h;refine⟨(bit+i).toNat,V,?_⟩;unfold afc;have e:(((bit+i).toNat:Nat):Int)-bit=i:=V
  rw [e];simp only [zaf,decide_eq_true_eq];refine⟨⟨V,V⟩,?_⟩;rw [zar,zdj];rw [zcz] at a
  simpa using a
 ·rintro⟨k,d,h⟩;unfold afc at h;simp only [zaf,decide_eq_true_eq] at h;obtain⟨⟨a,b⟩,c⟩:=h;refine⟨((k:Int)-bit).toNat,za9.2 V,?_⟩;simp only [zaf,decide_eq_true_eq];refine⟨⟨?_,V⟩,V⟩;rw [zdj] at c;rw [zcz]
  simpa using c
def WT {bit mask:Int}(h0:0<=mask)(e:mask<=65535){l:List By}(h:aP l.length bit mask=false):qG bit mask l=l:=by
 have g:l.length=(qG bit mask l).length:=(je _ _ _).symm;refine(GN g λb hb=>?_).symm;obtain⟨k,d,rfl⟩:=zcW.1 hb;have b:k<8*l.length:=by
  rw [rE] at d;unfold WR at d;rw [List.length_zipWith] at d;omega
 have:=Ci (bit:=bit) h0 e l k b;rw [zab d,zaa] at this;rw [this];cases i:afc bit mask k with
 |false=>rfl
 |true=>
  have:=PG.2 ⟨k,b,i⟩;rw [h] at this;cases this
def SS {bit mask:Int}(h0:0<=mask)(i:mask<=65535){x y:List By}(h:aP (jH x).length bit mask=true):qG bit mask (jH x)≠jH y:=by
 intro e;have m:(jH x).length=(jH y).length:=by rw [<-e,je]
 have hs:=SN (a:=bit) m λk b=>by
  rw [<-e] at b;have g:k<8*(jH x).length:=by
   have d:=(zai.1 b).1;rw [rE] at d;unfold WR at d;rw [List.length_zipWith] at d;omega
  rw [Ci h0 i _ k g] at b;simp only [zaa] at b;unfold afc at b;simp only [zaf,decide_eq_true_eq] at b;omega
 obtain⟨k,b,o⟩:=PG.1 h;have:=Ci (bit:=bit) h0 i (jH x) k b;rw [e,<-hs,o,GR] at this;have p:∀l:List By,WR l l=l.map λ_=>0#8:=by
  intro l
  induction l with
  |nil=>rfl
  |cons c l q=>
   show(c ^^^ c)::WR l l=_;rw [q,zcM];rfl
 rw [p,zaI] at this;cases j:(jH x)[k / 8]? with
 |none=>rw [j] at this;cases this
 |some c=>rw [j] at this;simp at this
def by8(n:Int):By:=BitVec.ofInt 8 n
def qU(n:Int):List By:=[by8 (n.fdiv (2 ^ 56)),by8 (n.fdiv (2 ^ 48)),by8 (n.fdiv (2 ^ 40)),by8 (n.fdiv (2 ^ 32)),by8 (n.fdiv (2 ^ 24)),by8 (n.fdiv (2 ^ 16)),by8 (n.fdiv (2 ^ 8)),by8 (n.fdiv (2 ^ 0))]
def fH(p:Pkt):List By:=[by8 p.aO,by8 p.src,by8 p.dst,by8 (p.id.fdiv 256),by8 p.id,by8 p.aj,by8 (p.ptr+1),by8 p.aU,by8 (if p.flag then 1 else 0),by8 p.data.length]++p.data.flatMap qU
def sD(p:Pkt):List By:=jH (fH p)
def jD(n:Int):(qU n).length=8:=rfl
def rG(p:Pkt):(sD p).length=p.bytes:=by
 unfold sD jH fH Pkt.bytes;rw [zan,zan,dI LK];simp;omega
where
 LK:∀n,(qU n).length=8:=λ_=>rfl
 dI {α β:Type} {f:α->List β} {m:Nat} (h:∀a,(f a).length=m):∀{l:List α},(l.flatMap f).length=l.length*m:=by
  intro l
  induction l with
  |nil=>simp
  |cons a l b=>rw [zaE,zan,h,b,zal,zbA];omega
section
variable {P:Program}{t:TypeId}{k k':IntKind}{a b n:Int}
def Zh(h:0<=n):qo P .shl t (.s (.int k a)) (.s (.int k' n))=some (.s (.int k (k.wrap (a*2 ^ (min n.toNat k.bits))))):=by
 have:¬n<0:=V
 simp [qo,AV.val?,eqGuard,binOp,Op.shift,dL,this]
def SV(h:0<=n):qo P .shr t (.s (.int k a)) (.s (.int k' n))=some (.s (.int k (a.fdiv (2 ^ (min n.toNat k.bits))))):=by
 have:¬n<0:=V
 simp [qo,AV.val?,eqGuard,binOp,Op.shift,dL,this]
def ahb:qo P .xor t (.s (.int k a)) (.s (.int k b))=some (.s (.int k (k.wrap (BitVec.ofInt k.bits a ^^^ BitVec.ofInt k.bits b).toNat))):=by
 simp [qo,AV.val?,eqGuard,binOp,Op.intBits,dL]
def afd:qo P .or t (.s (.int k a)) (.s (.int k b))=some (.s (.int k (k.wrap (BitVec.ofInt k.bits a ||| BitVec.ofInt k.bits b).toNat))):=by
 simp [qo,AV.val?,eqGuard,binOp,Op.intBits,dL]
end
def U(k:IntKind)(v:BitVec k.bits):AV:=.s (.int k (v.toNat:Int))
abbrev Y(c:By):AV:=U .u8 c
abbrev U16(s:S16):AV:=U .u16 s
abbrev U32(s:BitVec 32):AV:=U .u32 s
abbrev U64(s:BitVec 64):AV:=U .u64 s
def afe {k:IntKind}(b:k.signed=false)(z:Int):k.wrap z=z % (2 ^ k.bits:Int):=by simp [IntKind.wrap,b]
def Ak {k:IntKind}(b:k.signed=false)(m:Nat):k.wrap (m:Int)=((BitVec.ofNat k.bits m).toNat:Int):=by
 rw [afe b,zcm]
 norm_cast
def qH {w:Nat}(v:BitVec w):BitVec.ofInt w (v.toNat:Int)=v:=by
 rw [zdr,zdC,BitVec.setWidth_eq]
def U0 {k:IntKind}(b:k.signed=false)(v:BitVec k.bits):k.wrap (v.toNat:Int)=(v.toNat:Int):=by
 rw [Ak b,zdC,BitVec.setWidth_eq]
section
variable {P:Program}{t:TypeId}{k k':IntKind}
def ahc(b:k.signed=false)(x y:BitVec k.bits):qo P .xor t (U k x) (U k y)=some (U k (x ^^^ y)):=by
 unfold U;rw [ahb,qH,qH,U0 b]
def aqJ(b:k.signed=false)(x y:BitVec k.bits):qo P .or t (U k x) (U k y)=some (U k (x ||| y)):=by
 unfold U;rw [afd,qH,qH,U0 b]
def Zi(b:k.signed=false)(x:BitVec k.bits)(n:Int)(h0:0<=n)(h:n<=k.bits):qo P .shl t (U k x) (.s (.int k' n))=some (U k (x <<< n.toNat)):=by
 unfold U;rw [Zh h0,show min n.toNat k.bits=n.toNat by omega];have:((x.toNat:Int)*2 ^ n.toNat)=((x.toNat*2 ^ n.toNat:Nat):Int):=by norm_cast
 rw [this,Ak b,zcm,BitVec.toNat_shiftLeft,zdk]
def ahd(x:BitVec k.bits)(n:Int)(h0:0<=n)(h:n<=k.bits):qo P .shr t (U k x) (.s (.int k' n))=some (U k (x >>> n.toNat)):=by
 unfold U;rw [SV h0,show min n.toNat k.bits=n.toNat by omega,BitVec.toNat_ushiftRight,zcz];have:(2:Int) ^ n.toNat=((2 ^ n.toNat:Nat):Int):=by norm_cast
 rw [this,zb4 _ (Int.natCast_nonneg _)]
 norm_cast
def aog(b:k.signed=false)(x y:BitVec k.bits):qo P .mul t (U k x) (U k y)=some (U k (x*y)):=by
 unfold U;rw [nD];have:((x.toNat:Int)*y.toNat)=((x.toNat*y.toNat:Nat):Int):=by norm_cast
 rw [this,Ak b,zcm,BitVec.toNat_mul]
def aj1(b:k'.signed=false)(x:BitVec k.bits):(AV.s (.int k' (k'.wrap (x.toNat:Int))))=U k' (x.setWidth k'.bits):=by
 unfold U;rw [Ak b,zdC]
end
def acO(l:List By):(l.map Y).all AV.aQ=true:=by
 rw [zaX];intro x b;obtain⟨c,_,rfl⟩:=zaG.1 b;rfl
def yOf:AV->Option By
 |.s (.int .u8 n)=>if 0<=n/\n<256 then some (BitVec.ofInt 8 n) else none
 |_=>none
def GU(x:AV)(H:ah):Option (List By):=
 match x with
 |.sl r g off b n _ _=>match H.get r with
  |.blk g' _ cells=>if b=1/\g'=g/\off+n<=cells.length/\0<n/\n<=800 then((cells.drop off).take n).mapM yOf else none
  |_=>none
 |_=>none
structure Pkt.fit(p:Pkt):Prop where
 ok:p.ok=true
 num:∀v∈p.data,I64 v
open Classical in
def Cj(args:List AV)(H:ah):Option (AV × ah):=
 match args with
 |[x]=>match GU x H with
  |some l=>if h:∃p:Pkt,p.fit/\sD p=l then some (.tup [.agg (Classical.choose h).av,I 0],H)
   else if(∀y,l≠jH y) then some (.tup [.agg Pkt.zero.av,I 2],H) else none
  |none=>none
 |_=>none
def ahe:List Nat:=[
 55,
 138,
 97,
 92,
 180,
 69,
 67,
 65,
 66,
 107,
 109,
 110,
 86,
 131,
 111,
 112,
 20,
 57,
 21,
 29,
 26,
 31,
 68,
 7,
 8,
 147,
 99,
 148,
 100,
 54,
 17,
 34,
 231,
 236,
 133,
 119,
 132,
 135,
 87,
 90,
 91,
 167,
 18,
 35,
 52,
 47,
 181,
 126,
 122,
 134,
 155,
 127,
 50,
 171,
 48,
 123,
 78,
 176,
 137,
 187,
 165,
 166,
 60,
 56,
 19,
 25,
 24,
 0]
def DN:List Nat:=[
 186,
 0]
def JH:List Nat:=[
 0]
def aoh:Pol:=⟨λ_=>false,λ_=>none⟩
def cl0:aC:=callω Tryz.prog aoh
def ahf:List (Nat × (List AV->ah->Option (AV × ah))):=[
 (163,BP DN JH),
 (120,cl0 120),
 (94,Cj),
 (93,cl0 93),
 (95,cl0 95),
 (0,λ_ _=>none)]
def pol:Pol:=⟨λf=>ahe.contains f,λf=>ahf.lookup f⟩
def cl:aC:=callω Tryz.prog pol
def U1(f:FuncId)(p:List AV->ah->Option (AV × ah)):Prop:=
 qR Tryz.prog (λg b H=>if g=f then p b H else none)/\∀b H v H',p b H=some (v,H')->Keeps H H'
def ahg(f:FuncId):U1 f (cl0 f):=by
 have hc:=callω_ok (P:=Tryz.prog) (L:=aoh) (λf p h=>by cases h) Z;refine⟨λg args H v H' h=>?_,λargs H v H' h=>hc.2 f args H v H' h⟩;simp only at h;split at h
 ·rename_i e;subst e;exact hc.1 _ args H v H' h
 ·cases h
def iH {f:FuncId}{args:List AV}{H:ah}{r:AV × ah}(h:zq Tryz.prog cl0 f args H=some r):cl0 f args H=some r:=aer rfl rfl h
def bI {f:FuncId}{args:List AV}{H:ah}{r:AV × ah}(b:pol.abQ f=none)(d:pol.pure f=false)(h:zq Tryz.prog cl f args H=some r):cl f args H=some r:=aer b d h
def iU {f:FuncId}{args:List AV}{H H1:ah}{v v':AV}(b:pol.abQ f=none)(d:pol.pure f=true)(h:zq Tryz.prog cl f args H.guard=some (v,H1))(e:bQ H1 H.next 9 v=some v'):cl f args H=some (v',H):=agR b d h e
def jY {f:FuncId}{args:List AV}{H:ah}{v:AV}{Q:ah->Prop}{sh:Option (AV × ah)}(b:pol.abQ f=none)(d:pol.pure f=false)(rn:∀{r},sh=some r->zq Tryz.prog cl f args H=some r)(h:∃H',sh=some (v,H')/\Q H'):∃H',cl f args H=some (v,H')/\Q H':=by
 obtain⟨H',e,q⟩:=h;exact⟨H',bI b d (rn e),q⟩
def dJ {f:FuncId}{args:List AV}{H:ah}{v:AV}{sh:Option (AV × ah)}(b:pol.abQ f=none)(d:pol.pure f=true)(rn:∀{r},sh=some r->zq Tryz.prog cl f args H.guard=some r)(h:sh.map Prod.fst=some v)(e:Frz 9 v):cl f args H=some (v,H):=by
 cases hs:sh with
 |none=>rw [hs] at h;cases h
 |some r=>
  rw [hs] at h;simp only [zak,zaa] at h;subst h;exact iU b d (rn hs) (e _ _)
open Go.RowKit
structure Cho where
 do_:Int
 at_:Int
 bit:Int
 mask:Int
def Cho.av(c:Cho):List AV:=[I c.do_,I c.at_,I c.bit,.s (.int .u16 c.mask)]
end
end Go.Proofs.YtljogojaihgdlaaGreat
