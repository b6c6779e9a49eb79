/-
  Own work: an interpreter over named blocks, its soundness, and what the functions of this seat compute (part 3 of 11).
  Conditions: those of the statement alone.
-/
import Derived.Test.YtljogojaihgdlaaGreatProg
import Derived.KernelRfl
import Derived.ProofKit
import Derived.Below
import Derived.Test.YtljogojaihgdlaaGreatJb
set_option linter.all false
set_option linter.unusedSectionVars false
set_option linter.unusedVariables false
set_option linter.unusedSimpArgs false
namespace Go.Proofs.YtljogojaihgdlaaGreat
noncomputable section
abbrev bi(op:BinOp)(t:TypeId)(x y:AV):Option AV:=ql Tryz.prog op t x y
abbrev un(op:UnOp)(x:AV):Option AV:=unA Tryz.prog op x
abbrev cv(s d:TypeId)(x:AV):AM AV:=jX Tryz.prog s d x
def stk:AM AV:=λ_=> none
abbrev bd(t:TypeId)(ps:List (Nat × AV)):Option AV:=iL Tryz.prog t ps
abbrev bs(t:TypeId)(n:Nat)(ps:List (Nat × AV)):AM AV:=dY Tryz.prog t n ps
def Rn0(f:FuncId)(s:aC->ah->OA):Prop:=∀C H {r:AV × ah},s C H=some r->zo Tryz.prog C f [] H=some r
def Rn1(f:FuncId)(s:aC->AV->ah->OA):Prop:=∀C a0 H {r:AV × ah},s C a0 H=some r->zo Tryz.prog C f [a0] H=some r
def Rn2(f:FuncId)(s:aC->AV->AV->ah->OA):Prop:=∀C a0 a1 H {r:AV × ah},s C a0 a1 H=some r->zo Tryz.prog C f [a0,a1] H=some r
def Rn3(f:FuncId)(s:aC->AV->AV->AV->ah->OA):Prop:=∀C a0 a1 a2 H {r:AV × ah},s C a0 a1 a2 H=some r->zo Tryz.prog C f [a0,a1,a2] H=some r
def Rn4(f:FuncId)(s:aC->AV->AV->AV->AV->ah->OA):Prop:=∀C a0 a1 a2 a3 H {r:AV × ah},s C a0 a1 a2 a3 H=some r->zo Tryz.prog C f [a0,a1,a2,a3] H=some r
def Rn5(f:FuncId)(s:aC->AV->AV->AV->AV->AV->ah->OA):Prop:=∀C a0 a1 a2 a3 a4 H {r:AV × ah},s C a0 a1 a2 a3 a4 H=some r->zo Tryz.prog C f [a0,a1,a2,a3,a4] H=some r
theorem FZ {n:Nat}{ps:List (Nat × AV)}{H:ah}(h:n*1<=16777216):dY Tryz.prog 22 n ps H=bsl 3 1 [zI] n ps H:=yu (by kernel_rfl) (by kernel_rfl) (by kernel_rfl) rfl h
theorem agC {n:Nat}{ps:List (Nat × AV)}{H:ah}(h:n*3<=16777216):dY Tryz.prog 28 n ps H=bsl 53 3 [zI,zI,zI] n ps H:=yu (by kernel_rfl) (by kernel_rfl) (by kernel_rfl) rfl h
theorem aiZ {n:Nat}{ps:List (Nat × AV)}{H:ah}(h:n*4<=16777216):dY Tryz.prog 86 n ps H=bsl 85 4 [zI,zI,zB,zI] n ps H:=yu (by kernel_rfl) (by kernel_rfl) (by kernel_rfl) rfl h
theorem anB {n:Nat}{ps:List (Nat × AV)}{H:ah}(h:n*4<=16777216):dY Tryz.prog 91 n ps H=bsl 101 4 [zP,zP,zP,zP] n ps H:=yu (by kernel_rfl) (by kernel_rfl) (by kernel_rfl) rfl h
theorem ai0 {n:Nat}{ps:List (Nat × AV)}{H:ah}(h:n*2<=16777216):dY Tryz.prog 124 n ps H=bsl 99 2 [zP,zP] n ps H:=yu (by kernel_rfl) (by kernel_rfl) (by kernel_rfl) rfl h
theorem aeb {n:Nat}{ps:List (Nat × AV)}{H:ah}(h:n*9<=16777216):dY Tryz.prog 136 n ps H=bsl 112 9 [zI,zI,zI,zI,zI,zI,zI,zB,zN] n ps H:=yu (by kernel_rfl) (by kernel_rfl) (by kernel_rfl) rfl h
theorem aec {n:Nat}{ps:List (Nat × AV)}{H:ah}(h:n*6<=16777216):dY Tryz.prog 141 n ps H=bsl 166 6 [zI,zI,zI,zI,zB,zN] n ps H:=yu (by kernel_rfl) (by kernel_rfl) (by kernel_rfl) rfl h
theorem Ux {n:Nat}{ps:List (Nat × AV)}{H:ah}(h:n*1<=16777216):dY Tryz.prog 172 n ps H=bsl 5 1 [.s (.int .u8 0)] n ps H:=yu (by kernel_rfl) (by kernel_rfl) (by kernel_rfl) rfl h
theorem aed {n:Nat}{ps:List (Nat × AV)}{H:ah}(h:n*2<=16777216):dY Tryz.prog 256 n ps H=bsl 258 2 [zI,zI] n ps H:=yu (by kernel_rfl) (by kernel_rfl) (by kernel_rfl) rfl h
theorem ai1 {n:Nat}{ps:List (Nat × AV)}{H:ah}(h:n*1<=16777216):dY Tryz.prog 286 n ps H=bsl 172 1 [zN] n ps H:=yu (by kernel_rfl) (by kernel_rfl) (by kernel_rfl) rfl h
def agD:Nat->Option (Nat × Nat)
 | 0=> some (0,1)
 | 1=> some (1,1)
 | 2=> some (2,1)
 | 3=> some (3,1)
 | 4=> some (4,1)
 | 5=> some (5,1)
 | 6=> some (6,1)
 | 7=> some (7,1)
 | _=> none
theorem ai2 {ps:List (Nat × AV)}:iL Tryz.prog 26 ps=kE agD [zI,zI,zI,zI,zI,zI,zI,zN] ps:=kQ (by kernel_rfl) Tryz.underlying26 (by kernel_rfl) (by funext i;rcases i with _ | _ | _ | _ | _ | _ | _ | _ | i <;> kernel_rfl)
def ai3:Nat->Option (Nat × Nat)
 | 0=> some (0,1)
 | _=> none
theorem anC {ps:List (Nat × AV)}:iL Tryz.prog 42 ps=kE ai3 [zP] ps:=kQ (by kernel_rfl) Tryz.underlying42 (by kernel_rfl) (by funext i;rcases i with _ | i <;> kernel_rfl)
def ai4:Nat->Option (Nat × Nat)
 | 0=> some (0,1)
 | 1=> some (1,1)
 | 2=> some (2,1)
 | 3=> some (3,1)
 | 4=> some (4,1)
 | 5=> some (5,1)
 | 6=> some (6,1)
 | 7=> some (7,1)
 | 8=> some (8,1)
 | _=> none
theorem Wn {ps:List (Nat × AV)}:iL Tryz.prog 44 ps=kE ai4 [zI,zI,zI,zI,zI,zI,zN,zI,zI] ps:=kQ (by kernel_rfl) Tryz.underlying44 (by kernel_rfl) (by funext i;rcases i with _ | _ | _ | _ | _ | _ | _ | _ | _ | i <;> kernel_rfl)
def ai5:Nat->Option (Nat × Nat)
 | 0=> some (0,1)
 | 1=> some (1,1)
 | 2=> some (2,8)
 | 3=> some (10,1)
 | 4=> some (11,1)
 | 5=> some (12,9)
 | 6=> some (21,1)
 | _=> none
theorem anD {ps:List (Nat × AV)}:iL Tryz.prog 46 ps=kE ai5 [zP,zP,zI,zI,zI,zI,zI,zI,zI,zN,zI,zP,zI,zI,zI,zI,zI,zI,zN,zI,zI,zI] ps:=kQ (by kernel_rfl) Tryz.underlying46 (by kernel_rfl) (by funext i;rcases i with _ | _ | _ | _ | _ | _ | _ | i <;> kernel_rfl)
def Yx:Nat->Option (Nat × Nat)
 | 0=> some (0,1)
 | 1=> some (1,1)
 | 2=> some (2,1)
 | _=> none
theorem Yy {ps:List (Nat × AV)}:iL Tryz.prog 53 ps=kE Yx [zI,zI,zI] ps:=kQ (by kernel_rfl) Tryz.underlying53 (by kernel_rfl) (by funext i;rcases i with _ | _ | _ | i <;> kernel_rfl)
def agE:Nat->Option (Nat × Nat)
 | 0=> some (0,1)
 | 1=> some (1,1)
 | 2=> some (2,1)
 | 3=> some (3,1)
 | _=> none
theorem ai6 {ps:List (Nat × AV)}:iL Tryz.prog 85 ps=kE agE [zI,zI,zB,zI] ps:=kQ (by kernel_rfl) Tryz.underlying85 (by kernel_rfl) (by funext i;rcases i with _ | _ | _ | _ | i <;> kernel_rfl)
def anE:Nat->Option (Nat × Nat)
 | 0=> some (0,1)
 | _=> none
theorem anF {ps:List (Nat × AV)}:iL Tryz.prog 93 ps=kE anE [zN] ps:=kQ (by kernel_rfl) Tryz.underlying93 (by kernel_rfl) (by funext i;rcases i with _ | i <;> kernel_rfl)
def ai7:Nat->Option (Nat × Nat)
 | 0=> some (0,1)
 | 1=> some (1,1)
 | _=> none
theorem ai8 {ps:List (Nat × AV)}:iL Tryz.prog 99 ps=kE ai7 [zP,zP] ps:=kQ (by kernel_rfl) Tryz.underlying99 (by kernel_rfl) (by funext i;rcases i with _ | _ | i <;> kernel_rfl)
def aee:Nat->Option (Nat × Nat)
 | 0=> some (0,2)
 | 1=> some (2,2)
 | _=> none
theorem ai9 {ps:List (Nat × AV)}:iL Tryz.prog 101 ps=kE aee [zP,zP,zP,zP] ps:=kQ (by kernel_rfl) Tryz.underlying101 (by kernel_rfl) (by funext i;rcases i with _ | _ | i <;> kernel_rfl)
def aef:Nat->Option (Nat × Nat)
 | 0=> some (0,1)
 | _=> none
theorem aja {ps:List (Nat × AV)}:iL Tryz.prog 103 ps=kE aef [zN] ps:=kQ (by kernel_rfl) Tryz.underlying103 (by kernel_rfl) (by funext i;rcases i with _ | i <;> kernel_rfl)
def aeg:Nat->Option (Nat × Nat)
 | 0=> some (0,1)
 | 1=> some (1,1)
 | 2=> some (2,1)
 | _=> none
theorem ajb {ps:List (Nat × AV)}:iL Tryz.prog 108 ps=kE aeg [zN,zN,zB] ps:=kQ (by kernel_rfl) Tryz.underlying108 (by kernel_rfl) (by funext i;rcases i with _ | _ | _ | i <;> kernel_rfl)
def F5:Nat->Option (Nat × Nat)
 | 0=> some (0,1)
 | 1=> some (1,1)
 | 2=> some (2,1)
 | 3=> some (3,1)
 | 4=> some (4,1)
 | 5=> some (5,1)
 | 6=> some (6,1)
 | 7=> some (7,1)
 | 8=> some (8,1)
 | _=> none
theorem qA {ps:List (Nat × AV)}:iL Tryz.prog 112 ps=kE F5 [zI,zI,zI,zI,zI,zI,zI,zB,zN] ps:=kQ (by kernel_rfl) Tryz.underlying112 (by kernel_rfl) (by funext i;rcases i with _ | _ | _ | _ | _ | _ | _ | _ | _ | i <;> kernel_rfl)
def aeh:Nat->Option (Nat × Nat)
 | 0=> some (0,1)
 | 1=> some (1,1)
 | _=> none
theorem ajc {ps:List (Nat × AV)}:iL Tryz.prog 138 ps=kE aeh [zN,zI] ps:=kQ (by kernel_rfl) Tryz.underlying138 (by kernel_rfl) (by funext i;rcases i with _ | _ | i <;> kernel_rfl)
def aei:Nat->Option (Nat × Nat)
 | 0=> some (0,1)
 | 1=> some (1,1)
 | _=> none
theorem ajd {ps:List (Nat × AV)}:iL Tryz.prog 140 ps=kE aei [zN,zI] ps:=kQ (by kernel_rfl) Tryz.underlying140 (by kernel_rfl) (by funext i;rcases i with _ | _ | i <;> kernel_rfl)
def aej:Nat->Option (Nat × Nat)
 | 0=> some (0,1)
 | 1=> some (1,1)
 | 2=> some (2,1)
 | 3=> some (3,1)
 | _=> none
theorem aje {ps:List (Nat × AV)}:iL Tryz.prog 143 ps=kE aej [zN,zI,zI,zI] ps:=kQ (by kernel_rfl) Tryz.underlying143 (by kernel_rfl) (by funext i;rcases i with _ | _ | _ | _ | i <;> kernel_rfl)
def aek:Nat->Option (Nat × Nat)
 | 0=> some (0,1)
 | 1=> some (1,1)
 | 2=> some (2,8)
 | 3=> some (10,1)
 | _=> none
theorem ajf {ps:List (Nat × AV)}:iL Tryz.prog 150 ps=kE aek [zP,zP,zI,zI,zI,zI,zI,zI,zI,zN,zI] ps:=kQ (by kernel_rfl) Tryz.underlying150 (by kernel_rfl) (by funext i;rcases i with _ | _ | _ | _ | i <;> kernel_rfl)
def ael:Nat->Option (Nat × Nat)
 | 0=> some (0,1)
 | 1=> some (1,1)
 | _=> none
theorem ajg {ps:List (Nat × AV)}:iL Tryz.prog 164 ps=kE ael [zI,zI] ps:=kQ (by kernel_rfl) Tryz.underlying164 (by kernel_rfl) (by funext i;rcases i with _ | _ | i <;> kernel_rfl)
def aem:Nat->Option (Nat × Nat)
 | 0=> some (0,2)
 | 1=> some (2,1)
 | 2=> some (3,1)
 | 3=> some (4,1)
 | 4=> some (5,1)
 | _=> none
theorem aen {ps:List (Nat × AV)}:iL Tryz.prog 166 ps=kE aem [zI,zI,zI,zI,zB,zN] ps:=kQ (by kernel_rfl) Tryz.underlying166 (by kernel_rfl) (by funext i;rcases i with _ | _ | _ | _ | _ | i <;> kernel_rfl)
def aeo:Nat->Option (Nat × Nat)
 | 0=> some (0,8)
 | 1=> some (8,1)
 | _=> none
theorem ajh {ps:List (Nat × AV)}:iL Tryz.prog 196 ps=kE aeo [zI,zI,zI,zI,zI,zI,zI,zN,zM] ps:=kQ (by kernel_rfl) Tryz.underlying196 (by kernel_rfl) (by funext i;rcases i with _ | _ | i <;> kernel_rfl)
def aep:Nat->Option (Nat × Nat)
 | 0=> some (0,1)
 | 1=> some (1,1)
 | 2=> some (2,1)
 | _=> none
theorem aji {ps:List (Nat × AV)}:iL Tryz.prog 199 ps=kE aep [zI,zI,zN] ps:=kQ (by kernel_rfl) Tryz.underlying199 (by kernel_rfl) (by funext i;rcases i with _ | _ | _ | i <;> kernel_rfl)
def aer:Nat->Option (Nat × Nat)
 | 0=> some (0,1)
 | 1=> some (1,1)
 | _=> none
theorem ajj {ps:List (Nat × AV)}:iL Tryz.prog 203 ps=kE aer [zM,zM] ps:=kQ (by kernel_rfl) Tryz.underlying203 (by kernel_rfl) (by funext i;rcases i with _ | _ | i <;> kernel_rfl)
def aeu:Nat->Option (Nat × Nat)
 | 0=> some (0,1)
 | 1=> some (1,1)
 | _=> none
theorem ajk {ps:List (Nat × AV)}:iL Tryz.prog 258 ps=kE aeu [zI,zI] ps:=kQ (by kernel_rfl) Tryz.underlying258 (by kernel_rfl) (by funext i;rcases i with _ | _ | i <;> kernel_rfl)
theorem aev {k:IntKind}{n:Int}{H:ah}:jX Tryz.prog 3 5 (.s (.int k n)) H=some (.s (.int .u8 (IntKind.wrap .u8 n)),H):=Dq (by kernel_rfl) Tryz.underlying3 Tryz.underlying5
theorem ajl {k:IntKind}{n:Int}{H:ah}:jX Tryz.prog 5 3 (.s (.int k n)) H=some (.s (.int .i64 (IntKind.wrap .i64 n)),H):=Dq (by kernel_rfl) Tryz.underlying5 Tryz.underlying3
theorem agF {k:IntKind}{n:Int}{H:ah}:jX Tryz.prog 5 50 (.s (.int k n)) H=some (.s (.int .u16 (IntKind.wrap .u16 n)),H):=Dq (by kernel_rfl) Tryz.underlying5 Tryz.underlying50
theorem ab3 {k:IntKind}{n:Int}{H:ah}:jX Tryz.prog 5 268 (.s (.int k n)) H=some (.s (.int .u64 (IntKind.wrap .u64 n)),H):=Dq (by kernel_rfl) Tryz.underlying5 Tryz.underlying268
theorem Yz {k:IntKind}{n:Int}{H:ah}:jX Tryz.prog 50 5 (.s (.int k n)) H=some (.s (.int .u8 (IntKind.wrap .u8 n)),H):=Dq (by kernel_rfl) Tryz.underlying50 Tryz.underlying5
theorem YA {k:IntKind}{n:Int}{H:ah}:jX Tryz.prog 50 234 (.s (.int k n)) H=some (.s (.int .u32 (IntKind.wrap .u32 n)),H):=Dq (by kernel_rfl) Tryz.underlying50 Tryz.underlying234
theorem ab4 {k:IntKind}{n:Int}{H:ah}:jX Tryz.prog 234 5 (.s (.int k n)) H=some (.s (.int .u8 (IntKind.wrap .u8 n)),H):=Dq (by kernel_rfl) Tryz.underlying234 Tryz.underlying5
theorem ab5 {k:IntKind}{n:Int}{H:ah}:jX Tryz.prog 268 3 (.s (.int k n)) H=some (.s (.int .i64 (IntKind.wrap .i64 n)),H):=Dq (by kernel_rfl) Tryz.underlying268 Tryz.underlying3
inductive Cell where
 | av (x:AV)
 | seq (m:Nat) (cells:List AV)
 | map (k:IntKind) (es:List (Int × AV))
 | maps (k:IntKind) (m:Nat) (es:List (Int × List AV))
 | aew (w m:Nat) (ls:List (List AV))
abbrev Tag:=Nat × Nat × Nat × Int
section
variable (b:Nat)(H:ah)(τ:Nat->Option Tag)
def OS(T:Tag)(x:AV)(m:Nat)(cells:List AV):Prop:=
 (x=zN/\cells=[])∨∃r g off n cap ex ty all,x=.sl r g off m n cap ex/\τ r=some T/\b<=r/\r < H.next/\n<=cap/\H.get r=.blk g ty all/\off+cap*m<=all.length/\all.all AV.aQ=true/\cells=(all.drop off).take (n*m)
def OM(T:Tag)(x:AV)(k:IntKind)(es:List (Int × AV)):Prop:=∃r,x=.mp r/\τ r=some T/\b<=r/\r < H.next/\H.get r=.map k es
def CR(q i:Nat):Cell->AV->Prop
 | .av x,y=> y=x
 | .seq m cells,y=> OS b H τ (q,i+1,0,0) y m cells
 | .map k es,y=> OM b H τ (q,i+1,0,0) y k es
 | .maps k m es,y=>∃aes:List (Int × AV),OM b H τ (q,i+1,0,0) y k aes/\aes.map (·.1)=es.map (·.1)/\∀(j:Nat) n cells x,es[j]?=some (n,cells)->aes[j]?=some (n,x)->OS b H τ (q,i+1,1,n) x m cells
 | .aew w m ls,y=>∃xs:List AV,OS b H τ (q,i+1,0,0) y w xs/\xs.length=ls.length/\∀(j:Nat) cells x,ls[j]?=some cells->xs[j]?=some x->OS b H τ (q,i+1,1,(j:Int)) x m cells
structure aiu(q:Nat)(cs:List Cell):Prop where
 tag:τ q=some (q,0,0,0)
 lo:b<=q
 hi:q < H.next
 tyl:∀gg ty xs,H.get q=.blk gg ty xs->ty < gQ
 blk:∃ty xs,H.get q=.blk 0 ty xs/\xs.length=cs.length/\xs.all AV.aQ=true/\∀(i:Nat) c x,cs[i]?=some c->xs[i]?=some x->CR b H τ q i c x
end
abbrev bD:=Nat->Option (List Cell)
def Good(b:Nat)(H:ah)(g:bD):Prop:=b<=H.next/\∃τ,∀q cs,g q=some cs->aiu b H τ q cs
def upd(g:bD)(q:Nat)(cs:List Cell):bD:=λx=> if x=q then some cs else g x
section
variable {b:Nat}{H H':ah}{g:bD}{q:Nat}{cs:List Cell}
theorem aV:upd g q cs q=some cs:=by simp [upd]
theorem bH {x:Nat}(h:x≠q):upd g q cs x=g x:=by simp [upd,h]
theorem oq {ds:List Cell}:upd (upd g q cs) q ds=upd g q ds:=by funext x;simp only [upd];split <;> rfl
theorem fJ(h:g q=some cs):upd g q cs=g:=by
 funext x
 simp only [upd];split
 ·rename_i e;rw [e,h]
 ·rfl
theorem OS.keep {τ τ':Nat->Option Tag}{T:Tag}{x:AV}{m:Nat}{cells:List AV}(h:OS b H τ T x m cells)(hn:H.next<=H'.next)(hg:∀r,r < H.next->τ r=some T->τ' r=some T/\H'.get r=H.get r):OS b H' τ' T x m cells:=by
 rcases h with h | ⟨r,g,off,n,cap,ex,ty,all,rfl,h1,h2,h3,h4,h5,h6,h7,h8⟩
 ·exact .inl h
 ·obtain⟨k1,k2⟩:=hg r h3 h1;exact .inr ⟨r,g,off,n,cap,ex,ty,all,rfl,k1,h2,by omega,h4,by rw [k2];exact h5,h6,h7,h8⟩
theorem OM.keep {τ τ':Nat->Option Tag}{T:Tag}{x:AV}{k:IntKind}{es:List (Int × AV)}(h:OM b H τ T x k es)(hn:H.next<=H'.next)(hg:∀r,r < H.next->τ r=some T->τ' r=some T/\H'.get r=H.get r):OM b H' τ' T x k es:=by
 obtain⟨r,rfl,h1,h2,h3,h4⟩:=h;obtain⟨k1,k2⟩:=hg r h3 h1;exact⟨r,rfl,k1,h2,by omega,by rw [k2];exact h4⟩
theorem CR.keep {τ τ':Nat->Option Tag}{i:Nat}:∀{c:Cell} {x:AV},CR b H τ q i c x->H.next<=H'.next->(∀r s t,r < H.next->τ r=some (q,i+1,s,t)->τ' r=some (q,i+1,s,t)/\H'.get r=H.get r)->CR b H' τ' q i c x
 | .av _,_,h,_,_=> h
 | .seq _ _,_,h,hn,hg=> OS.keep h hn λr h1 h2=> hg r 0 0 h1 h2
 | .map _ _,_,h,hn,hg=> OM.keep h hn λr h1 h2=> hg r 0 0 h1 h2
 | .maps _ _ _,_,⟨aes,h1,h2,h3⟩,hn,hg=> ⟨aes,h1.keep hn λr h1 h2=> hg r 0 0 h1 h2,h2,λj n cells x hj hx=> (h3 j n cells x hj hx).keep hn λr h1 h2=> hg r 1 n h1 h2⟩
 | .aew _ _ _,_,⟨xs,h1,h2,h3⟩,hn,hg=> ⟨xs,h1.keep hn λr h1 h2=> hg r 0 0 h1 h2,h2,λj cells x hj hx=> (h3 j cells x hj hx).keep hn λr h1 h2=> hg r 1 j h1 h2⟩
theorem wC {ty:Nat}{xs:List AV}(h:H.get q=.blk 0 ty xs)(ht:ty < gQ):∀gg ty' xs',H.get q=.blk gg ty' xs'->ty' < gQ:=λ_ _ _ e=> by
 rw [h] at e;cases e;exact ht
theorem aiu.keep {τ τ':Nat->Option Tag}(h:aiu b H τ q cs)(hn:H.next<=H'.next)(hg:∀r i s t,r < H.next->τ r=some (q,i,s,t)->τ' r=some (q,i,s,t)/\H'.get r=H.get r):aiu b H' τ' q cs:=by
 obtain⟨k1,k2⟩:=hg q 0 0 0 h.hi h.tag;obtain⟨ty,xs,h1,h2,h3,h4⟩:=h.blk;exact⟨k1,h.lo,by have:=h.hi;omega,wC (by rw [k2];exact h1) (h.tyl _ _ _ h1),ty,xs,by rw [k2];exact h1,h2,h3,λi c x hc hx=> (h4 i c x hc hx).keep hn λr s t hr ht=> hg r (i+1) s t hr ht⟩
theorem Good.lt(G:Good b H g)(h:g q=some cs):q < H.next:=(G.2.choose_spec q cs h).hi
theorem Good.le(G:Good b H g)(h:g q=some cs):b<=q:=(G.2.choose_spec q cs h).lo
theorem Good.isNone(G:Good b H g)(h:H.next<=q):g q=none:=by
 cases hq:g q with
 | none=> rfl
 | some cs=> have:=G.lt hq;omega
theorem Good.ne(G:Good b H g)(h:g q=some cs):q≠H.next:=by have:=G.lt h;omega
theorem Good.ext(G:Good b H g)(hn:H.next<=H'.next)(hg:∀r,r < H.next->H'.get r=H.get r):Good b H' g:=by
 obtain⟨h0,τ,h⟩:=G;exact⟨by omega,τ,λq cs hq=> (h q cs hq).keep hn λr i s t hr ht=> ⟨ht,hg r hr⟩⟩
theorem Good.new(G:Good b H g)(o:fV):Good b (H.new o) g:=G.ext (za3 _) λr hr=> by rw [jg,if_neg (by omega)]
theorem Good.guard(G:Good b H g):Good b H.guard g:=G.ext (zac _) λ_ _=> rfl
theorem Good.sub(G:Good b H g){g':bD}(h:∀q cs,g' q=some cs->g q=some cs):Good b H g':=by
 obtain⟨h0,τ,h1⟩:=G;exact⟨h0,τ,λq cs hq=> h1 q cs (h q cs hq)⟩
theorem Good.empty(H:ah):Good H.next H λ_=> none:=⟨zac _,λ_=> none,λ_ _ h=> by cases h⟩
theorem Good.empty' {b:Nat}(h:b<=H.next):Good b H λ_=> none:=⟨h,λ_=> none,λ_ _ h=> by cases h⟩
theorem Good.weak(G:Good b H g){b':Nat}(h:b'<=b):Good b' H g:=by
 obtain⟨h0,τ,h1⟩:=G;have os:∀{T x m cells},OS b H τ T x m cells->OS b' H τ T x m cells:=by
  intro T x m cells ho;rcases ho with ho | ⟨r,g,off,n,cap,ex,ty,all,h2,h3,h4,h5⟩
  ·exact .inl ho
  ·exact .inr ⟨r,g,off,n,cap,ex,ty,all,h2,h3,by omega,h5⟩
 have om:∀{T x k es},OM b H τ T x k es->OM b' H τ T x k es:=by
  intro T x k es ⟨r,h2,h3,h4,h5⟩;exact⟨r,h2,h3,by omega,h5⟩
 refine⟨by omega,τ,λq cs hq=> ?_⟩;have R:=h1 q cs hq;obtain⟨ty,xs,k1,k2,k3,k4⟩:=R.blk;refine⟨R.tag,by have:=R.lo;omega,R.hi,R.tyl,ty,xs,k1,k2,k3,λi c x hc hx=> ?_⟩;have:=k4 i c x hc hx;cases c with
 | av _=> exact this
 | seq _ _=> exact os this
 | map _ _=> exact om this
 | maps _ _ _=>
  obtain⟨aes,a1,a2,a3⟩:=this;exact⟨aes,om a1,a2,λj n cells x hj hx=> os (a3 j n cells x hj hx)⟩
 | aew _ _ _=>
  obtain⟨ys,a1,a2,a3⟩:=this;exact⟨ys,os a1,a2,λj cells x hj hx=> os (a3 j cells x hj hx)⟩
structure Step(b:Nat)(H H':ah):Prop where
 base:H'.base=H.base
 next:H.next<=H'.next
 low:∀r,r < b->H'.get r=H.get r
theorem Step.refl(b:Nat)(H:ah):Step b H H:=⟨rfl,zac _,λ_ _=> rfl⟩
theorem Step.trans {b:Nat}{H H' H'':ah}(s:Step b H H')(t:Step b H' H''):Step b H H'':=⟨t.base.trans s.base,zax s.next t.next,λr hr=> by rw [t.low r hr,s.low r hr]⟩
theorem Step.new {b:Nat}{H:ah}(o:fV)(h:b<=H.next):Step b H (H.new o):=⟨rfl,za3 _,λr hr=> by rw [jg,if_neg (by omega)]⟩
theorem Step.put {b:Nat}{H:ah}{r:Nat}(o:fV)(h:b<=r):Step b H (H.put r o):=⟨rfl,zac _,λx hx=> by rw [dR,if_neg (by omega)]⟩
theorem Good.newObj(G:Good b H g){ty:TypeId}{xs:List AV}(hc:xs.all AV.aQ=true)(ht:ty < gQ:=by decide):Good b (H.new (.blk 0 ty xs)) (upd g H.next (xs.map .av)):=by
 obtain⟨h0,τ,h⟩:=G;refine⟨by rw [Eh];omega,λr=> if r=H.next then some (r,0,0,0) else τ r,λq cs hq=> ?_⟩;by_cases hqn:q=H.next
 ·subst hqn;rw [aV] at hq;cases hq;refine⟨by simp,h0,by rw [Eh];omega,wC (xs:=xs) (by simp [jg]) ht,ty,xs,by simp [jg],by simp,hc,λi c x hci hx=> ?_⟩;rw [zaM,hx] at hci;simp only [zak,zaa] at hci;subst hci;exact rfl
 ·rw [bH hqn] at hq;have R:=h q cs hq;exact R.keep (H':=H.new (.blk 0 ty xs)) (za3 _) λr i s t hr ht=> ⟨by rw [if_neg (by omega)];exact ht,by rw [jg,if_neg (by omega)]⟩
theorem gu {r off g:Nat}{ty:TypeId}{xs:List AV}(h:H.get r=.blk g ty xs):ld (.ref r g off) H=(xs[off]?).map λv=> (v,H):=by
 simp only [ld,ku,bQ,zak,ldO,h,if_true]
theorem gZ {r off g n:Nat}{ty:TypeId}{xs:List AV}(h:H.get r=.blk g ty xs)(hl:off+n<=xs.length):lda n (.ref r g off) H=some (.agg ((xs.drop off).take n),H):=by
 simp only [lda,ku,bQ,zak,am3,h,if_true,hl]
theorem ajm {cells:List AV}:ld (.ip cells) H=(cells[0]?).map λv=> (v,H):=by simp only [ld,ku,ldO]
theorem ajn {cells:List AV}{n:Nat}(h:n<=cells.length):lda n (.ip cells) H=some (.agg (cells.take n),H):=by
 simp only [lda,ku,am3,zaW,h,if_true,zaP,zak]
theorem Good.load(G:Good b H g)(h:g q=some cs){i:Nat}{x:AV}(hi:cs[i]?=some (.av x)):ld (.ref q 0 i) H=some (x,H):=by
 obtain⟨_,τ,hR⟩:=G;obtain⟨ty,xs,h1,h2,h3,h4⟩:=(hR q cs h).blk;rw [gu h1];have hlt:i < xs.length:=by rw [h2];exact(zai.1 hi).1
 have hx:xs[i]?=some (xs[i]'hlt):=zab hlt;have:=h4 i _ _ hi hx;simp only [CR] at this;rw [hx,this];rfl
theorem Good.loads(G:Good b H g)(h:g q=some cs){i n:Nat}{xs:List AV}(hi:(cs.drop i).take n=xs.map .av)(hn:xs.length=n)(hp:0 < n):lda n (.ref q 0 i) H=some (.agg xs,H):=by
 obtain⟨_,τ,hR⟩:=G;obtain⟨ty,ys,h1,h2,h3,h4⟩:=(hR q cs h).blk;have hl:=congrArg List.length hi;simp only [zau,zaN,zaB] at hl
 ·rw [gZ h1 (by omega)]
  congr 2
  congr 1
  apply zbf
  intro j;rcases zaT j n with hj | hj
  ·have hx:xs[j]?=some (xs[j]'(by omega)):=zab _;have hc:cs[i+j]?=some (.av (xs[j]'(by omega))):=by
    have:=congrArg (λl=> l[j]?) hi;simp only [zaC,hj,if_true,zaF,zaM,hx,zak] at this;exact this
   have hlt:i+j < ys.length:=by omega
   have hy:ys[i+j]?=some (ys[i+j]'hlt):=zab hlt;have:=h4 _ _ _ hc hy;simp only [CR] at this;rw [zaC,if_pos hj,zaF,hy,this,hx]
  ·rw [zaC,if_neg (by omega),zaH (by omega)]
end
def aN(H:ah)(x:AV)(m n:Nat)(cells:List AV):Prop:=
 cells.length=n*m/\
 match x with
 | .sl r g off esz len cap _=> esz=m/\len=n/\(r < H.next/\len<=cap)/\∃ty all,H.get r=.blk g ty all/\off+n*m<=all.length/\cells=(all.drop off).take (n*m)
 | .vs k esz cs=> esz=m/\k=n/\cs=cells
 | .s (.slice none a b)=> a=0/\b=0/\n=0
 | _=> False
def eP(x:AV)(i:Nat):AV:=
 match x with
 | .sl r g off esz _ _ _=> .ref r g (off+i*esz)
 | .vs _ esz cs=> .ip (cs.drop (i*esz))
 | _=> aZ
section
variable {P:Program}{H:ah}{x:AV}{m n:Nat}{cells:List AV}
theorem aN.aQ(h:aN H x m n cells):x.aQ=true:=by
 obtain⟨_,h⟩:=h;cases x with
 | s v=> cases v <;> first | rfl | exact h.elim
 | _=> first | rfl | exact h.elim
theorem aN.len(h:aN H x m n cells){t e:TypeId}(ht:zq P t=some e):aiB P t x H=some (.s (.int .i64 n),H):=by
 obtain⟨_,h⟩:=h;unfold zq at ht;split at ht <;> first | (cases ht;done) | skip
 rename_i e' hu;unfold aiB ku amX;cases x with
 | sl r g off esz len cap ex=> simp only [hu];rw [h.2.1];rfl
 | vs k esz cs=> simp only [hu];rw [h.2.1];rfl
 | s v=>
  cases v with
  | slice a b c=>
   cases a with
   | none=> simp only [hu];rw [h.2.2,h.1];rfl
   | some a=> exact h.elim
  | _=> exact h.elim
 | _=> exact h.elim
theorem aN.wE(h:aN H x m n cells):jW x=some n/\cZ H x=some cells:=by
 obtain⟨hl,h⟩:=h;cases x with
 | sl r g off esz len cap ex=>
  obtain⟨rfl,rfl,_,ty,all,h1,h2,h3⟩:=h;refine⟨rfl,?_⟩;simp only [cZ,h1];rw [if_pos ⟨trivial,h2⟩,h3]
 | vs k esz cs=> obtain⟨rfl,rfl,rfl⟩:=h;exact⟨rfl,rfl⟩
 | s v=>
  cases v with
  | slice a b c=>
   cases a with
   | none=>
    obtain⟨rfl,rfl,rfl⟩:=h;refine⟨rfl,?_⟩;have:cells=[]:=zar (by omega);rw [this];rfl
   | some a=> exact h.elim
  | _=> exact h.elim
 | _=> exact h.elim
theorem aN.index(h:aN H x m n cells){t e:TypeId}(ht:zq P t=some e)(hm:szT P e=some m){k:IntKind}{i:Int}(h0:0<=i)(h1:i < n):
  sH P t x (.s (.int k i)) H=some (eP x i.toNat,H):=by
 obtain⟨_,h⟩:=h;unfold zq at ht;split at ht <;> first | (cases ht;done) | skip
 rename_i e' hu;simp only [zaa] at ht;subst ht;unfold sH ku Bj;cases x with
 | sl r g off esz len cap ex=>
  obtain⟨rfl,rfl,_,ty,all,h2,h3,h4⟩:=h;simp only [hu,bQ,zak,h2,aiA,fV.gen,hm,true_and];rw [if_pos ⟨h0,by omega⟩];rfl
 | vs k' esz cs=>
  obtain⟨rfl,rfl,rfl⟩:=h;simp only [hu,hm,true_and];rw [if_pos ⟨h0,by omega⟩];rfl
 | s v=>
  cases v with
  | slice a b c=>
   cases a with
   | none=> obtain⟨rfl,rfl,rfl⟩:=h;omega
   | some a=> exact h.elim
  | _=> exact h.elim
 | _=> exact h.elim
def iM:AV->Option Nat
 | .sl r _ _ _ _ _ _=> some r
 | _=> none
theorem aN.qB {H':ah}(h:aN H x m n cells)(hn:H.next<=H'.next)(hg:∀r,iM x=some r->r < H.next->H'.get r=H.get r):aN H' x m n cells:=by
 obtain⟨hl,h⟩:=h;refine⟨hl,?_⟩;cases x with
 | sl r g off esz len cap ex=>
  obtain⟨h0,h1,hr,ty,all,h2,h3,h4⟩:=h;exact⟨h0,h1,⟨zay hr.1 hn,hr.2⟩,ty,all,by rw [hg r rfl hr.1];exact h2,h3,h4⟩
 | s v=>
  cases v with
  | slice a b c=> cases a <;> exact h
  | _=> exact h
 | _=> exact h
theorem aN.new(h:aN H x m n cells)(o:fV):aN (H.new o) x m n cells:=
 h.qB (za3 _) λr _ hr=> by rw [jg,if_neg (by omega)]
theorem aN.put(h:aN H x m n cells){r:Nat}(hr:iM x≠some r)(o:fV):aN (H.put r o) x m n cells:=
 h.qB (zac _) λr' hx _=> by rw [dR,if_neg (λe=> hr (by rw [hx,e]))]
theorem aN.guard(h:aN H x m n cells):aN H.guard x m n cells:=h
theorem aN.nil {m:Nat}:aN H (.s (.slice none 0 0)) m 0 []:=⟨by simp,rfl,rfl,rfl⟩
theorem aN.vs {m n:Nat}{cs:List AV}(h:cs.length=n*m):aN H (.vs n m cs) m n cs:=⟨h,rfl,rfl,rfl⟩
end
theorem RG {α:Type}{enc:α->List AV}{m:Nat}(he:∀a,(enc a).length=m)(l:List α):(l.flatMap enc).length=l.length*m:=by
 induction l with
 | nil=> simp
 | cons a l ih=> simp only [zaE,zao,he,ih,zal,zbB];omega
theorem uH {α:Type}{enc:α->List AV}{m:Nat}(he:∀a,(enc a).length=m):∀(l:List α) (i:Nat) (a:α),l[i]?=some a->((l.flatMap enc).drop (i*m)).take m=enc a
 | [],i,a,h=> by simp at h
 | b::l,0,a,h=> by
  simp only [zaR,zaa] at h;subst h;rw [zbo,zaP,zaE,zbM (by rw [he];omega),zaA (by rw [he];omega)]
 | b::l,i+1,a,h=> by
  simp only [zbg] at h;have e1:(enc b).drop ((i+1)*m)=[]:=zaQ (by rw [he,zbB];omega);have e2:(i+1)*m - (enc b).length=i*m:=by rw [he,zbB];omega
  rw [zaE,zdd,e1,e2,zaK];exact uH he l i a h
section
variable {b:Nat}{H H':ah}{g:bD}{q:Nat}{cs:List Cell}
theorem xk {τ τ':Nat->Option Tag}{cs':List Cell}(h0:b<=H.next)(h:∀q cs,g q=some cs->aiu b H τ q cs)(hn:H.next<=H'.next)
  (hk:∀r,r < H.next->(∀i s t,τ r≠some (q,i,s,t))->τ' r=τ r/\H'.get r=H.get r) (hR:aiu b H' τ' q cs'):Good b H' (upd g q cs'):=by
 refine⟨by omega,τ',λq2 cs2 hq2=> ?_⟩;by_cases e:q2=q
 ·subst e;rw [aV] at hq2;cases hq2;exact hR
 ·rw [bH e] at hq2;refine(h q2 cs2 hq2).keep hn λr i s t hr ht=> ?_;obtain⟨k1,k2⟩:=hk r hr λi' s' t' h'=> by rw [ht] at h';cases h';exact e rfl
  exact⟨by rw [k1];exact ht,k2⟩
theorem ny {α:Type}{l:List α}{i j:Nat}{a x:α}(h:(l.set i a)[j]?=some x):(j=i/\x=a)∨(j≠i/\l[j]?=some x):=by
 by_cases e:i=j
 ·subst e;have hl:i < l.length:=by
   have:=(zai.1 h).1
   simpa using this
  rw [za7 hl] at h;cases h;exact .inl ⟨rfl,rfl⟩
 ·rw [zbc e] at h;exact .inr ⟨λe'=> e e'.symm,h⟩
theorem YB {l:List AV}(h:l.all AV.aQ=true){v:AV}(hv:v.aQ=true)(i:Nat):(l.set i v).all AV.aQ=true:=by
 rw [zaZ] at h ⊢;intro x hx;rcases zbL hx with hx | rfl
 ·exact h x hx
 ·exact hv
theorem OT {l:List AV}{i:Nat}{v:AV}(hi:i < l.length):aW l i [v]=l.set i v:=by
 rw [zc6];simp only [aW,hi,if_true,zal,zan];rfl
def One(v:AV):Prop:=v.cells=[v]/\v.aQ=true
theorem dO {k:IntKind}{n:Int}:One (.s (.int k n)):=⟨rfl,rfl⟩
theorem Ei {x:Bool}:One (.s (.bool x)):=⟨rfl,rfl⟩
theorem vJ {r g off esz len cap:Nat}{ex:Bool}:One (.sl r g off esz len cap ex):=⟨rfl,rfl⟩
theorem aex {n esz:Nat}{cells:List AV}:One (.vs n esz cells):=⟨rfl,rfl⟩
theorem qC:One zN:=⟨rfl,rfl⟩
theorem Uy {r gg off:Nat}{v:AV}{ty:TypeId}{xs:List AV}(hv:One v)(h:H.get r=.blk gg ty xs)(hb:H.base<=r)(hl:off < xs.length):st 1 (.ref r gg off) v H=some (aZ,H.put r (.blk gg ty (xs.set off v))):=by
 show(match H.get r with
  | .blk g' ty cells=> if g'=gg/\H.base<=r/\some 1=some v.cells.length/\v.cells.all AV.aQ=true/\off+v.cells.length<=cells.length then some (aZ,H.put r (.blk gg ty (aW cells off v.cells))) else none
  | .map ..=> none)=_
 rw [h];simp only;rw [if_pos ⟨trivial,hb,by rw [hv.1];rfl,by rw [hv.1];simp [hv.2],by rw [hv.1];exact hl⟩,hv.1,OT hl]
theorem Uz {r gg off n:Nat}{vs:List AV}{ty:TypeId}{xs:List AV}(hv:vs.all AV.aQ=true)(hn:vs.length=n)(h:H.get r=.blk gg ty xs)(hb:H.base<=r)(hl:off+n<=xs.length):st n (.ref r gg off) (.agg vs) H=some (aZ,H.put r (.blk gg ty (aW xs off vs))):=by
 show(match H.get r with
  | .blk g' ty cells=> if g'=gg/\H.base<=r/\some n=some (AV.agg vs).cells.length/\(AV.agg vs).cells.all AV.aQ=true/\off+(AV.agg vs).cells.length<=cells.length then some (aZ,H.put r (.blk gg ty (aW cells off (AV.agg vs).cells))) else none
  | .map ..=> none)=_
 rw [h];simp only [fZ];rw [if_pos ⟨trivial,hb,by rw [hn],hv,by omega⟩]
theorem Good.store(G:Good b H g)(hb:H.base<=b)(h:g q=some cs){i:Nat}(hi:i < cs.length){v:AV}(hv:One v):
  ∃H',st 1 (.ref q 0 i) v H=some (aZ,H')/\Good b H' (upd g q (cs.set i (.av v)))/\Step b H H'/\H'.next=H.next:=by
 obtain⟨h0,τ,hR⟩:=G;have R:=hR q cs h;obtain⟨ty,xs,h1,h2,h3,h4⟩:=R.blk;have lo:=R.lo;refine⟨_,Uy hv h1 (by omega) (by omega),?_,Step.put _ lo,rfl⟩;refine xk (τ':=τ) h0 hR (zac _) (λr hr ht=> ⟨rfl,?_⟩) ⟨R.tag,R.lo,R.hi,wC (xs:=xs.set i v) (by rw [dR,if_pos rfl]) (R.tyl _ _ _ h1),ty,xs.set i v,by rw [dR,if_pos rfl],by simp [h2],YB h3 hv.2 i,λj c x hc hx=> ?_⟩
 ·rw [dR,if_neg];intro e;subst e;exact ht 0 0 0 R.tag
 ·rcases ny hc with⟨rfl,rfl⟩ | ⟨hj,hc⟩
  ·rcases ny hx with⟨_,rfl⟩ | ⟨hj,_⟩
   ·exact rfl
   ·exact absurd rfl hj
  ·rcases ny hx with⟨rfl,_⟩ | ⟨_,hx⟩
   ·exact absurd rfl hj
   ·refine(h4 j c x hc hx).keep (zac _) λr s t hr ht=> ⟨ht,?_⟩
    rw [dR,if_neg];intro e;subst e;rw [R.tag] at ht;cases ht
def mF(cs:List Cell)(i:Nat)(vs:List AV):List Cell:=cs.take i++(vs.map .av++cs.drop (i+vs.length))
theorem nC {l:List AV}{i:Nat}{vs:List AV}(h:i+vs.length<=l.length)(j:Nat):(aW l i vs)[j]?=if i<=j/\j < i+vs.length then vs[j - i]? else l[j]?:=by
 unfold aW;rcases zaT j i with hj | hj
 ·rw [zaV (by rw [zau];omega),zaC,if_pos hj,if_neg (by omega)]
 ·have h1:(l.take i).length=i:=by rw [zau];omega
  rw [zaX (by omega),h1];rcases zaT j (i+vs.length) with hk | hk
  ·rw [if_pos ⟨hj,hk⟩,zaV (by omega)]
  ·rw [if_neg (by omega),zaX (by omega),zaF]
   congr 1;omega
theorem Wp {i:Nat}{vs:List AV}(h:i+vs.length<=cs.length)(j:Nat):(mF cs i vs)[j]?=if i<=j/\j < i+vs.length then(vs[j - i]?).map .av else cs[j]?:=by
 unfold mF;rcases zaT j i with hj | hj
 ·rw [zaV (by rw [zau];omega),zaC,if_pos hj,if_neg (by omega)]
 ·have h1:(cs.take i).length=i:=by rw [zau];omega
  rw [zaX (by omega),h1];rcases zaT j (i+vs.length) with hk | hk
  ·rw [if_pos ⟨hj,hk⟩,zaV (by rw [zaB];omega),zaM]
  ·rw [if_neg (by omega),zaX (by rw [zaB];omega),zaB,zaF]
   congr 1;omega
theorem oz {l:List AV}{i:Nat}{vs:List AV}(h:i+vs.length<=l.length):(aW l i vs).length=l.length:=by
 simp only [aW,zao,zau,zaN];omega
theorem Lc {i:Nat}{vs:List AV}(h:i+vs.length<=cs.length):(mF cs i vs).length=cs.length:=by
 simp only [mF,zao,zau,zaN,zaB];omega
theorem wF {l vs:List AV}(h:l.all AV.aQ=true)(hv:vs.all AV.aQ=true)(i:Nat):(aW l i vs).all AV.aQ=true:=by
 rw [zaZ] at h hv ⊢;intro x hx;simp only [aW,zaL] at hx;rcases hx with hx | hx | hx
 ·exact h x (zcu hx)
 ·exact hv x hx
 ·exact h x (List.mem_of_mem_drop hx)
theorem Good.stores(G:Good b H g)(hb:H.base<=b)(h:g q=some cs){i n:Nat}{vs:List AV}(hi:i+n<=cs.length)(hn:vs.length=n)(hv:vs.all AV.aQ=true):
  ∃H',st n (.ref q 0 i) (.agg vs) H=some (aZ,H')/\Good b H' (upd g q (mF cs i vs))/\Step b H H'/\H'.next=H.next:=by
 obtain⟨h0,τ,hR⟩:=G;have R:=hR q cs h;obtain⟨ty,xs,h1,h2,h3,h4⟩:=R.blk;have lo:=R.lo;refine⟨_,Uz hv hn h1 (by omega) (by omega),?_,Step.put _ lo,rfl⟩;refine xk (τ':=τ) h0 hR (zac _) (λr hr ht=> ⟨rfl,?_⟩) ⟨R.tag,R.lo,R.hi,wC (xs:=aW xs i vs) (by rw [dR,if_pos rfl]) (R.tyl _ _ _ h1),ty,aW xs i vs,by rw [dR,if_pos rfl],by rw [oz (by omega),Lc (by omega),h2],wF h3 hv i,λj c x hc hx=> ?_⟩
 ·rw [dR,if_neg];intro e;subst e;exact ht 0 0 0 R.tag
 ·rw [Wp (by omega)] at hc;rw [nC (by omega)] at hx;split at hc
  ·rename_i hj;rw [if_pos hj] at hx;rw [hx] at hc;simp only [zak,zaa] at hc;subst hc;exact rfl
  ·rename_i hj;rw [if_neg hj] at hx;refine(h4 j c x hc hx).keep (zac _) λr s t hr ht=> ⟨ht,?_⟩
   rw [dR,if_neg];intro e;subst e;rw [R.tag] at ht;cases ht
structure Cur(b:Nat)(H:ah)(q i:Nat)(x:AV)(m:Nat)(l:List AV):Prop where
 at_:∃ty xs,H.get q=.blk 0 ty xs/\xs[i]?=some x
 own:(x=zN/\l=[])∨∃r g off n cap ex ty all,x=.sl r g off m n cap ex/\r≠q/\b<=r/\r < H.next/\n<=cap/\H.get r=.blk g ty all/\off+cap*m<=all.length/\all.all AV.aQ=true/\l=(all.drop off).take (n*m)
 lt:q < H.next
theorem Good.seq(G:Good b H g)(h:g q=some cs){i m:Nat}{l:List AV}(hi:cs[i]?=some (.seq m l)):∃x,ld (.ref q 0 i) H=some (x,H)/\Cur b H q i x m l:=by
 obtain⟨_,τ,hR⟩:=G;have R:=hR q cs h;obtain⟨ty,xs,h1,h2,h3,h4⟩:=R.blk;have hlt:i < xs.length:=by rw [h2];exact(zai.1 hi).1
 have hx:xs[i]?=some (xs[i]'hlt):=zab hlt;refine⟨xs[i]'hlt,by rw [gu h1,hx];rfl,⟨ty,xs,h1,hx⟩,?_,R.hi⟩;have:=h4 i _ _ hi hx;simp only [CR] at this;rcases this with h5 | ⟨r,gg,off,n,cap,ex,ty,all,h5,h6,h7⟩
 ·exact .inl h5
 ·refine .inr ⟨r,gg,off,n,cap,ex,ty,all,h5,?_,h7⟩;intro e;subst e;rw [R.tag] at h6;cases h6
theorem Cur.load {i m:Nat}{x:AV}{l:List AV}(c:Cur b H q i x m l):ld (.ref q 0 i) H=some (x,H):=by
 obtain⟨ty,xs,h1,h2⟩:=c.at_;rw [gu h1,h2];rfl
theorem Cur.ext {i m:Nat}{x:AV}{l:List AV}(c:Cur b H q i x m l)(hn:H.next<=H'.next)(hg:∀r,r < H.next->H'.get r=H.get r):Cur b H' q i x m l:=by
 obtain⟨ty,xs,h1,h2⟩:=c.at_;refine⟨⟨ty,xs,by rw [hg q c.lt];exact h1,h2⟩,?_,by have:=c.lt;omega⟩;rcases c.own with h | ⟨r,g,off,n,cap,ex,ty,all,k0,k1,k2,k3,k4,k5,k6⟩
 ·exact .inl h
 ·exact .inr ⟨r,g,off,n,cap,ex,ty,all,k0,k1,k2,by omega,k4,by rw [hg r k3];exact k5,k6⟩
theorem Cur.new {i m:Nat}{x:AV}{l:List AV}(c:Cur b H q i x m l)(o:fV):Cur b (H.new o) q i x m l:=c.ext (za3 _) λr hr=> by rw [jg,if_neg (by omega)]
theorem Cur.one {i m:Nat}{x:AV}{l:List AV}(c:Cur b H q i x m l):One x:=by
 rcases c.own with⟨rfl,_⟩ | ⟨r,g,off,n,cap,ex,ty,all,rfl,_⟩
 ·exact qC
 ·exact vJ
theorem Cur.is {i m n:Nat}{x:AV}{l:List AV}(c:Cur b H q i x m l)(hm:0 < m)(hl:l.length=n*m):aN H x m n l:=by
 refine⟨hl,?_⟩;rcases c.own with⟨rfl,rfl⟩ | ⟨r,g,off,n',cap,ex,ty,all,rfl,k1,k2,k3,k4,k5,k6,k7,rfl⟩
 ·refine⟨rfl,rfl,?_⟩;simp only [zan] at hl;rcases zcY.1 hl.symm with h | h <;> omega
 ·have h1:n'*m<=cap*m:=zaD _ k4;rw [zau,zaN,zbk (by omega)] at hl;have:n'=n:=zbF hm hl;subst this;exact⟨rfl,rfl,⟨k3,k4⟩,ty,all,k5,by omega,rfl⟩
theorem Cur.low {i m r:Nat}{x:AV}{l:List AV}(c:Cur b H q i x m l)(hr:r < b):iM x≠some r:=by
 rcases c.own with⟨rfl,_⟩ | ⟨r',g,off,n,cap,ex,ty,all,rfl,k1,k2,_⟩
 ·intro e;cases e
 ·intro e;simp only [iM,zaa] at e;omega
def Fit(H H1:ah)(x0 x:AV)(m:Nat)(l:List AV):Prop:=
 (x=zN/\l=[])∨∃r g off n cap ex ty all,x=.sl r g off m n cap ex/\(iM x0=some r∨H.next<=r)/\r < H1.next/\n<=cap/\H1.get r=.blk g ty all/\off+cap*m<=all.length/\all.all AV.aQ=true/\l=(all.drop off).take (n*m)
theorem Good.seat(G:Good b H g)(h:g q=some cs){i m:Nat}{l0:List AV}(hi:cs[i]?=some (.seq m l0)){x0:AV}(c:Cur b H q i x0 m l0){H1:ah}(hn:H.next<=H1.next)(hb:H1.base<=b)
  (hk:∀r,r < H.next->iM x0≠some r->H1.get r=H.get r) {x:AV} {m':Nat} {l:List AV} (hx:Fit H H1 x0 x m' l):
  ∃H',st 1 (.ref q 0 i) x H1=some (aZ,H')/\Good b H' (upd g q (cs.set i (.seq m' l)))/\Step b H1 H'/\H'.next=H1.next:=by
 obtain⟨h0,τ,hR⟩:=G;have R:=hR q cs h;obtain⟨ty,xs,h1,h2,h3,h4⟩:=R.blk;have lo:=R.lo;have hi':=R.hi;have il:i < cs.length:=(zai.1 hi).1;have hx0:xs[i]?=some x0:=by
  obtain⟨ty',xs',e1,e2⟩:=c.at_;rw [h1] at e1;cases e1;exact e2
 have htag:∀r,iM x0=some r->τ r=some (q,i+1,0,0)/\b<=r:=by
  intro r hr;have:=h4 i _ _ hi hx0;simp only [CR] at this;rcases this with⟨rfl,_⟩ | ⟨r',gg,off,n,cap,ex,ty',all,rfl,k1,k2,_⟩
  ·cases hr
  ·simp only [iM,zaa] at hr;subst hr;exact⟨k1,k2⟩
 have hqx:iM x0≠some q:=λe=> by have:=(htag q e).1;rw [R.tag] at this;cases this
 have hq1:H1.get q=.blk 0 ty xs:=by rw [hk q hi' hqx];exact h1
 have hone:One x:=by
  rcases hx with⟨rfl,_⟩ | ⟨r,gg,off,n,cap,ex,ty',all,rfl,_⟩
  ·exact qC
  ·exact vJ
 refine⟨_,Uy hone hq1 (by omega) (by omega),?_,Step.put _ lo,rfl⟩;refine xk (τ':=λr=> if H.next<=r then some (q,i+1,0,0) else τ r) h0 hR (show H.next<=H1.next from hn) (λr hr ht=> ⟨by rw [if_neg (by omega)],?_⟩)
  ⟨by rw [if_neg (by omega)];exact R.tag,R.lo,show q < H1.next by omega,wC (xs:=xs.set i x) (by rw [dR,if_pos rfl]) (R.tyl _ _ _ h1),ty,xs.set i x,by rw [dR,if_pos rfl],by simp [h2],YB h3 hone.2 i,λj cc y hc hy=> ?_⟩
 ·rw [dR,if_neg (by intro e;subst e;exact ht 0 0 0 R.tag)];exact hk r hr λe=> ht (i+1) 0 0 (htag r e).1
 ·rcases ny hc with⟨rfl,rfl⟩ | ⟨hj,hc⟩
  ·rcases ny hy with⟨_,rfl⟩ | ⟨hj,_⟩
   ·rcases hx with hx | ⟨r,gg,off,n,cap,ex,ty',all,rfl,k1,k2,k3,k4,k5⟩
    ·exact .inl hx
    ·have hrq:r≠q:=by
      rcases k1 with k1 | k1
      ·intro e;subst e;exact hqx k1
      ·omega
     refine .inr ⟨r,gg,off,n,cap,ex,ty',all,rfl,?_,?_,k2,k3,by rw [dR,if_neg hrq];exact k4,k5⟩
     ·show(if H.next<=r then some (q,j+1,0,0) else τ r)=some (q,j+1,0,0);split
      ·rfl
      ·rcases k1 with k1 | k1
       ·exact(htag r k1).1
       ·omega
     ·rcases k1 with k1 | k1
      ·exact(htag r k1).2
      ·omega
   ·exact absurd rfl hj
  ·rcases ny hy with⟨rfl,_⟩ | ⟨_,hy⟩
   ·exact absurd rfl hj
   ·refine(h4 j cc y hc hy).keep (show H.next<=H1.next from hn) λr s t hr ht=> ⟨by rw [if_neg (by omega)];exact ht,?_⟩
    rw [dR,if_neg (by intro e;subst e;rw [R.tag] at ht;cases ht)];refine hk r hr λe=> ?_;have:=(htag r e).1;rw [this] at ht;simp only [zaa,zad,zb6] at ht;exact hj ht.2.1.symm
end
section
variable {b:Nat}{H H':ah}{g:bD}{q:Nat}{cs:List Cell}
theorem aN.lnS {x:AV}{m n:Nat}{cells:List AV}(h:aN H x m n cells):lnS x H=some (I n,H):=by
 obtain⟨_,h⟩:=h;unfold Go.Proofs.YtljogojaihgdlaaGreat.lnS ku anz;cases x with
 | sl r g off esz len cap ex=> simp only;rw [h.2.1];rfl
 | vs k esz cs=> simp only;rw [h.2.1];rfl
 | s v=>
  cases v with
  | slice a b c=>
   cases a with
   | none=> simp only;rw [h.2.2,h.1];rfl
   | some a=> exact h.elim
  | _=> exact h.elim
 | _=> exact h.elim
theorem aN.ix {x:AV}{m n:Nat}{cells:List AV}(h:aN H x m n cells){k:IntKind}{i:Int}(h0:0<=i)(h1:i < n):ix m x (.s (.int k i)) H=some (eP x i.toNat,H):=by
 obtain⟨_,h⟩:=h;unfold Go.Proofs.YtljogojaihgdlaaGreat.ix ku ixO;cases x with
 | sl r g off esz len cap ex=>
  obtain⟨rfl,rfl,_,ty,all,h2,h3,h4⟩:=h;simp only [bQ,zak,h2,aiA,fV.gen,true_and];rw [if_pos ⟨h0,by omega⟩];rfl
 | vs k' esz cs=>
  obtain⟨rfl,rfl,rfl⟩:=h;simp only [true_and];rw [if_pos ⟨h0,by omega⟩];rfl
 | s v=>
  cases v with
  | slice a b c=>
   cases a with
   | none=> obtain⟨rfl,rfl,rfl⟩:=h;omega
   | some a=> exact h.elim
  | _=> exact h.elim
 | _=> exact h.elim
theorem aN.ld {x:AV}{n:Nat}{cells:List AV}(h:aN H x 1 n cells){i:Nat}(hi:i < n):ld (eP x i) H=(cells[i]?).map λv=> (v,H):=by
 obtain⟨_,h⟩:=h;cases x with
 | sl r g off esz len cap ex=>
  obtain⟨rfl,rfl,_,ty,all,h2,h3,h4⟩:=h;simp only [eP];rw [gu h2,h4,zaC,if_pos (by omega),zaF,zbR]
 | vs k' esz cs=>
  obtain⟨rfl,rfl,rfl⟩:=h;simp only [eP];rw [ajm,zaF,zbR,zbN]
 | s v=>
  cases v with
  | slice a b c=>
   cases a with
   | none=> obtain⟨rfl,rfl,rfl⟩:=h;omega
   | some a=> exact h.elim
  | _=> exact h.elim
 | _=> exact h.elim
theorem aN.ajo {x:AV}{m n:Nat}{cells:List AV}(h:aN H x m n cells){i o:Nat}(hi:i < n)(ho:o < m):(au (eP x i) o).bind (λp=> Go.Proofs.YtljogojaihgdlaaGreat.ld p H)=(cells[i*m+o]?).map λv=> (v,H):=by
 obtain⟨hl,h⟩:=h;have him:i*m+m<=n*m:=by
  have:(i+1)*m<=n*m:=zaD _ hi
  rwa [zbB] at this
 cases x with
 | sl r g off esz len cap ex=>
  obtain⟨rfl,rfl,_,ty,all,h2,h3,h4⟩:=h;simp only [eP,qZ,za6];rw [gu h2,h4,zaC,if_pos (by omega),zaF,zb1]
 | vs k' esz cs=>
  obtain⟨rfl,rfl,rfl⟩:=h;simp only [eP,yO,za6];rw [ajm,zbA,zaF,zbN]
 | s v=>
  cases v with
  | slice a b c=>
   cases a with
   | none=> obtain⟨rfl,rfl,rfl⟩:=h;omega
   | some a=> exact h.elim
  | _=> exact h.elim
 | _=> exact h.elim
theorem aN.lda {x:AV}{m n:Nat}{cells:List AV}(h:aN H x m n cells){i:Nat}(hi:i < n):lda m (eP x i) H=some (.agg ((cells.drop (i*m)).take m),H):=by
 obtain⟨hl,h⟩:=h;have him:i*m+m<=n*m:=by
  have:(i+1)*m<=n*m:=zaD _ hi
  rwa [zbB] at this
 cases x with
 | sl r g off esz len cap ex=>
  obtain⟨rfl,rfl,_,ty,all,h2,h3,h4⟩:=h;simp only [eP];rw [gZ h2 (by omega),h4,zcj,zbT,zbA,zbk (by omega)]
 | vs k' esz cs=>
  obtain⟨rfl,rfl,rfl⟩:=h;simp only [eP];rw [ajn (by rw [zaN];omega)]
 | s v=>
  cases v with
  | slice a b c=>
   cases a with
   | none=> obtain⟨rfl,rfl,rfl⟩:=h;omega
   | some a=> exact h.elim
  | _=> exact h.elim
 | _=> exact h.elim
theorem F6 {all new:List AV}{off n:Nat}(h:off+n+new.length<=all.length):((aW all (off+n) new).drop off).take (n+new.length)=(all.drop off).take n++new:=by
 have hl:(aW all (off+n) new).length=all.length:=oz (by omega)
 apply zbf
 intro j;rcases zaT j n with h1 | h1
 ·rw [zaC,if_pos (by omega),zaF,nC (by omega),if_neg (by omega),zaV (by rw [zau,zaN];omega),zaC,if_pos h1,zaF]
 ·rcases zaT j (n+new.length) with h2 | h2
  ·rw [zaC,if_pos h2,zaF,nC (by omega),if_pos (by omega),zaX (by rw [zau,zaN];omega),zau,zaN]
   congr 1;omega
  ·rw [zaC,if_neg (by omega),zaX (by rw [zau,zaN];omega),zau,zaN,zaH (by omega)]
theorem all_append {l l':List AV}(h:l.all AV.aQ=true)(h':l'.all AV.aQ=true):(l++l').all AV.aQ=true:=by rw [zb5,h,h'];rfl
theorem Ej {l:List AV}(h:l.all AV.aQ=true)(n:Nat):(l.take n).all AV.aQ=true:=by
 rw [zaZ] at h ⊢;exact λx hx=> h x (zcu hx)
theorem zL {l:List AV}(h:l.all AV.aQ=true)(n:Nat):(l.drop n).all AV.aQ=true:=by
 rw [zaZ] at h ⊢;exact λx hx=> h x (List.mem_of_mem_drop hx)
def Own(b:Nat)(H:ah)(x:AV)(m:Nat)(l:List AV):Prop:=
 (x=zN/\l=[])∨∃r g off n cap ex ty all,x=.sl r g off m n cap ex/\b<=r/\r < H.next/\n<=cap/\H.get r=.blk g ty all/\off+cap*m<=all.length/\all.all AV.aQ=true/\l=(all.drop off).take (n*m)
theorem Own.app {m n k:Nat}{x y:AV}{l new:List AV}(c:Own b H x m l)(hb:H.base<=b)(hm:0 < m)(hl:l.length=n*m)(hy:aN H y m k new)(hc:new.all AV.aQ=true){e:TypeId}{by_:Nat}(h1:n+k<=most)(h2:(n+k)*by_<=most):
  ∃x' H1,app e m by_ x y H=some (x',H1)/\Fit H H1 x x' m (l++new)/\H.next<=H1.next/\H1.base=H.base/\∀r,r < H.next->iM x≠some r->H1.get r=H.get r:=by
 obtain⟨c1,c2⟩:=hy.wE;have c3:=hy.1;have key:Go.Proofs.YtljogojaihgdlaaGreat.app e m by_ x y H=dZ e m by_ x k new H:=by simp only [Go.Proofs.YtljogojaihgdlaaGreat.app,c1,c2]
 rw [key];unfold dZ;rw [if_pos ⟨c3,hc⟩];rcases c with⟨rfl,rfl⟩ | ⟨r,gg,off,n',cap,ex,ty,all,rfl,k2,k3,k4,k5,k6,k7,rfl⟩
 ·simp only [zan] at hl;have hn:n=0:=by rcases zcY.1 hl.symm with h | h <;> omega
  subst hn;rw [zaW] at h1 h2;by_cases hk:k=0
  ·subst hk;rw [zbo] at c3;have:new=[]:=zar c3;subst this;exact⟨zN,H,by simp only [if_true],.inl ⟨rfl,rfl⟩,zac _,rfl,λ_ _ _=> rfl⟩
  ·refine⟨.sl H.next 0 0 m k k false,H.new (.blk 0 (e+gQ) new),by simp only [hk,h1,h2,and_self,if_true,if_false],.inr ⟨H.next,0,0,k,k,false,e+gQ,new,rfl,.inr (zac _),by rw [Eh];omega,zac _,by simp [jg],by omega,hc,?_⟩,za3 _,rfl,λr hr _=> by rw [jg,if_neg (by omega)]⟩;rw [zaK,zaP,zaA (by omega)]
 ·have hcm:n'*m<=cap*m:=zaD _ k4;rw [zau,zaN,zbk (by omega)] at hl;have hn:n'=n:=zbF hm hl;subst hn;simp only [k5];rw [if_pos ⟨trivial,trivial,by omega⟩];by_cases hk:k=0
  ·subst hk;rw [zbo] at c3;have:new=[]:=zar c3;subst this;exact⟨_,H,by rw [if_pos rfl],.inr ⟨r,gg,off,n',cap,ex,ty,all,rfl,.inl rfl,k3,k4,k5,k6,k7,by rw [za8]⟩,zac _,rfl,λ_ _ _=> rfl⟩
  ·rw [if_neg hk];by_cases hf:n'+k<=cap
   ·have hfm:(n'+k)*m<=cap*m:=zaD _ hf;rw [if_pos hf,if_pos ⟨by omega,by omega⟩];refine⟨_,_,rfl,.inr ⟨r,gg,off,n'+k,cap,ex,ty,aW all (off+n'*m) new,rfl,.inl rfl,k3,hf,by rw [dR,if_pos rfl],?_,wF k7 hc _,?_⟩,zac _,rfl,λr' hr hne=> ?_⟩
    ·rw [zbt] at hfm;rw [oz (by omega)];exact k6
    ·rw [zbt] at hfm ⊢;rw [<-c3,F6 (by omega)]
    ·rw [dR,if_neg];intro e';subst e';exact hne rfl
   ·rw [if_neg hf,if_pos ⟨h1,h2⟩];have e1:((all.drop off).take (n'*m)).length=n'*m:=by rw [zau,zaN];omega
    have e2:((all.drop off).take (n'*m)++new).length=(n'+k)*m:=by rw [zao,e1,c3,zbt]
    cases ex with
    | true=>
     simp only [if_true];refine⟨_,_,rfl,.inr ⟨H.next,0,0,n'+k,n'+k,false,e+gQ,(all.drop off).take (n'*m)++new,rfl,.inr (zac _),by rw [Eh];omega,zac _,by simp only [jg,if_true],by rw [e2,zaW];exact zac _,all_append (Ej (zL k7 _) _) hc,?_⟩,za3 _,rfl,λr' hr _=> by rw [jg,if_neg (by omega)]⟩;rw [zaP,zaA (Nat.le_of_eq e2)]
    | false=>
     simp only [zaf,if_false];rw [if_pos (by omega)];refine⟨_,_,rfl,.inr ⟨r,gg+1,0,n'+k,n'+k,false,grT e ty off,(all.drop off).take (n'*m)++new,rfl,.inl rfl,k3,zac _,by simp only [dR,if_true],by rw [e2,zaW];exact zac _,all_append (Ej (zL k7 _) _) hc,?_⟩,zac _,rfl,λr' hr hne=> ?_⟩
     ·rw [zaP,zaA (Nat.le_of_eq e2)]
     ·rw [dR,if_neg];intro e';subst e';exact hne rfl
theorem Cur.anG {i m:Nat}{x:AV}{l:List AV}(c:Cur b H q i x m l):Own b H x m l:=by
 rcases c.own with h | ⟨r,gg,off,n',cap,ex,ty,all,k0,k1,k2⟩
 ·exact .inl h
 ·exact .inr ⟨r,gg,off,n',cap,ex,ty,all,k0,k2⟩
theorem Cur.app {i m n k:Nat}{x y:AV}{l new:List AV}(c:Cur b H q i x m l)(hb:H.base<=b)(hm:0 < m)(hl:l.length=n*m)(hy:aN H y m k new)(hc:new.all AV.aQ=true){e:TypeId}{by_:Nat}(h1:n+k<=most)(h2:(n+k)*by_<=most):
  ∃x' H1,app e m by_ x y H=some (x',H1)/\Fit H H1 x x' m (l++new)/\H.next<=H1.next/\H1.base=H.base/\∀r,r < H.next->iM x≠some r->H1.get r=H.get r:=
 c.anG.app hb hm hl hy hc h1 h2
theorem Own.step {m n k:Nat}{x y:AV}{l new:List AV}(c:Own b H x m l)(hbn:b<=H.next)(hb:H.base<=b)(hm:0 < m)(hl:l.length=n*m)(hy:aN H y m k new)(hc:new.all AV.aQ=true){e:TypeId}{by_:Nat}(h1:n+k<=most)(h2:(n+k)*by_<=most):
  ∃x' H1,Go.Proofs.YtljogojaihgdlaaGreat.app e m by_ x y H=some (x',H1)/\Own b H1 x' m (l++new)/\Step b H H1:=by
 obtain⟨x',H1,e1,f,n1,b1,k1⟩:=c.app hb hm hl hy hc (e:=e) (by_:=by_) h1 h2;have hx:∀r,iM x=some r->b<=r:=λr hr=> by
  rcases c with⟨rfl,_⟩ | ⟨r',g,off,n',cap,ex,ty,all,rfl,k2,_⟩
  ·cases hr
  ·simp only [iM,zaa] at hr;omega
 refine⟨x',H1,e1,?_,b1,n1,λr hr=> k1 r (by omega) λe=> by have:=hx r e;omega⟩;rcases f with f | ⟨r,g,off,n',cap,ex,ty,all,rfl,f1,f2⟩
 ·exact .inl f
 ·exact .inr ⟨r,g,off,n',cap,ex,ty,all,rfl,f1.elim (hx r) λf1=> by omega,f2⟩
theorem Own.is {m n:Nat}{x:AV}{l:List AV}(c:Own b H x m l)(hm:0 < m)(hl:l.length=n*m):aN H x m n l:=by
 refine⟨hl,?_⟩;rcases c with⟨rfl,rfl⟩ | ⟨r,g,off,n',cap,ex,ty,all,rfl,k2,k3,k4,k5,k6,k7,rfl⟩
 ·refine⟨rfl,rfl,?_⟩;simp only [zan] at hl;rcases zcY.1 hl.symm with h | h <;> omega
 ·have hcm:n'*m<=cap*m:=zaD _ k4;rw [zau,zaN,zbk (by omega)] at hl;have hn:n'=n:=zbF hm hl;subst hn;exact⟨rfl,rfl,⟨k3,k4⟩,ty,all,k5,by omega,rfl⟩
theorem Own.ext {m:Nat}{x:AV}{l:List AV}(c:Own b H x m l)(hn:H.next<=H'.next)(hg:∀r,r < H.next->H'.get r=H.get r):Own b H' x m l:=by
 rcases c with h | ⟨r,g,off,n,cap,ex,ty,all,k0,k2,k3,k4,k5,k6⟩
 ·exact .inl h
 ·exact .inr ⟨r,g,off,n,cap,ex,ty,all,k0,k2,by omega,k4,by rw [hg r k3];exact k5,k6⟩
theorem Own.new {m:Nat}{x:AV}{l:List AV}(c:Own b H x m l)(o:fV):Own b (H.new o) x m l:=c.ext (za3 _) λr hr=> by rw [jg,if_neg (by omega)]
theorem Good.append(G:Good b H g)(hb:H.base<=b)(h:g q=some cs){i m n k:Nat}{l new:List AV}(hi:cs[i]?=some (.seq m l))(hm:0 < m)(hl:l.length=n*m){x y:AV}(c:Cur b H q i x m l)(hy:aN H y m k new)(hc:new.all AV.aQ=true){e:TypeId}{by_:Nat}(h1:n+k<=most)(h2:(n+k)*by_<=most):
  ∃x' H1 H2,app e m by_ x y H=some (x',H1)/\st 1 (.ref q 0 i) x' H1=some (aZ,H2)/\Good b H2 (upd g q (cs.set i (.seq m (l++new))))/\Step b H H2:=by
 obtain⟨x',H1,e1,f,n1,b1,k1⟩:=c.app hb hm hl hy hc (e:=e) (by_:=by_) h1 h2;obtain⟨H2,e2,G2,b2,n2⟩:=G.seat h hi c n1 (by omega) k1 f;have hb0:=G.1;exact⟨x',H1,H2,e1,e2,G2,Step.trans ⟨b1,n1,λr hr=> k1 r (by omega) (c.low hr)⟩ b2⟩
theorem Good.elem(G:Good b H g)(hb:H.base<=b)(h:g q=some cs){i m n:Nat}{l:List AV}(hi:cs[i]?=some (.seq m l))(hm:0 < m)(hl:l.length=n*m){x:AV}(c:Cur b H q i x m l){j:Nat}(hj:j < n):
  ∃r gg off,eP x j=.ref r gg off/\∀(w o:Nat) (v:AV),v.cells.length=w->v.cells.all AV.aQ=true->o+w<=m->
   ∃H',st w (.ref r gg (off+o)) v H=some (aZ,H')/\Good b H' (upd g q (cs.set i (.seq m (aW l (j*m+o) v.cells))))/\Step b H H'/\H'.next=H.next:=by
 have him:j*m+m<=n*m:=by
  have:(j+1)*m<=n*m:=zaD _ hj
  rwa [zbB] at this
 rcases c.own with⟨rfl,rfl⟩ | ⟨r,gg,off,n',cap,ex,ty,all,rfl,k1,k2,k3,k4,k5,k6,k7,rfl⟩
 ·simp only [zan] at hl;omega
 ·have hcm:n'*m<=cap*m:=zaD _ k4;rw [zau,zaN,zbk (by omega)] at hl;have hn:n'=n:=zbF hm hl;subst hn;refine⟨r,gg,off+j*m,rfl,λw o v hw hv ho=> ?_⟩;obtain⟨h0,τ,hR⟩:=G;have R:=hR q cs h;obtain⟨ty',xs,h1,h2,h3,h4⟩:=R.blk;have hx0:xs[i]?=some (.sl r gg off m n' cap ex):=by
   obtain⟨aro,xs',e1,e2⟩:=c.at_;rw [h1] at e1;cases e1;exact e2
  have htag:τ r=some (q,i+1,0,0):=by
   have:=h4 i _ _ hi hx0;simp only [CR] at this;rcases this with⟨h,_⟩ | ⟨_,_,_,_,_,_,_,_,h,k,_⟩
   ·cases h
   ·cases h;exact k
  refine⟨H.put r (.blk gg ty (aW all (off+j*m+o) v.cells)),?_,?_,Step.put _ k2,rfl⟩
  ·show(match H.get r with
    | .blk g' ty cells=> if g'=gg/\H.base<=r/\some w=some v.cells.length/\v.cells.all AV.aQ=true/\off+j*m+o+v.cells.length<=cells.length then some (aZ,H.put r (.blk gg ty (aW cells (off+j*m+o) v.cells))) else none
    | .map ..=> none)=_
   rw [k5];simp only;rw [if_pos ⟨trivial,by omega,by rw [hw],hv,by omega⟩]
  ·refine xk (τ':=τ) h0 hR (zac _) (λr' hr ht=> ⟨rfl,?_⟩) ⟨R.tag,R.lo,R.hi,wC (xs:=xs) (by rw [dR,if_neg (λe=> k1 e.symm)];exact h1) (R.tyl _ _ _ h1),ty',xs,by rw [dR,if_neg (λe=> k1 e.symm)];exact h1,by simp [h2],h3,λj' cc y hcc hy=> ?_⟩
   ·rw [dR,if_neg];intro e;subst e;exact ht _ _ _ htag
   ·rcases ny hcc with⟨rfl,rfl⟩ | ⟨hj',hcc⟩
    ·rw [hx0] at hy;cases hy;refine .inr ⟨r,gg,off,n',cap,ex,ty,_,rfl,htag,k2,k3,k4,by rw [dR,if_pos rfl],by rw [oz (by omega)];exact k6,wF k7 hv _,?_⟩
     apply zbf
     intro p;have hlen:((all.drop off).take (n'*m)).length=n'*m:=by rw [zau,zaN];omega
     rw [nC (by omega)];rcases zaT p (n'*m) with hp | hp
     ·rw [zaC,if_pos hp,zaF,zaC,if_pos hp,zaF,nC (by omega)];by_cases hc1:j*m+o<=p/\p < j*m+o+v.cells.length
      ·rw [if_pos hc1,if_pos (by omega)];congr 1;omega
      ·rw [if_neg hc1,if_neg (by omega)]
     ·rw [zaC,if_neg (by omega),zaC,if_neg (by omega),if_neg (by omega)]
    ·refine(h4 j' cc y hcc hy).keep (zac _) λr' s t hr ht=> ⟨ht,?_⟩
     rw [dR,if_neg];intro e;subst e;rw [htag] at ht;simp only [zaa,zad,zb6] at ht;exact hj' ht.2.1.symm
theorem Good.map(G:Good b H g)(h:g q=some cs){i:Nat}{k:IntKind}{es:List (Int × AV)}(hi:cs[i]?=some (.map k es)):
  ∃r,ld (.ref q 0 i) H=some (.mp r,H)/\(∀z n ok,lk k z (.mp r) (.s (.int k n)) ok H=some ((match qm es n with
   | some v=> if ok then .tup [v,.s (.bool true)] else v
   | none=> if ok then .tup [.s z,.s (.bool false)] else .s z),H))/\lnM (.mp r) H=some (I es.length,H)/\(H.base<=b->
   (∀n v,∃H',mup k (.mp r) (.s (.int k n)) v H=some (aZ,H')/\Good b H' (upd g q (cs.set i (.map k (Kt es n v))))/\Step b H H'/\H'.next=H.next)/\
   (∀n,∃H',del k (.mp r) (.s (.int k n)) H=some (.tup [],H')/\Good b H' (upd g q (cs.set i (.map k (zy es n))))/\Step b H H'/\H'.next=H.next)):=by
 obtain⟨h0,τ,hR⟩:=G;have R:=hR q cs h;obtain⟨ty,xs,h1,h2,h3,h4⟩:=R.blk;have hlt:i < xs.length:=by rw [h2];exact(zai.1 hi).1
 have hx:xs[i]?=some (xs[i]'hlt):=zab hlt;have:=h4 i _ _ hi hx;simp only [CR] at this;obtain⟨r,e,t1,t2,t3,t4⟩:=this;rw [e] at hx;have hrq:q≠r:=by intro e;subst e;rw [R.tag] at t1;cases t1
 have put:∀es',Good b (H.put r (.map k es')) (upd g q (cs.set i (.map k es'))):=by
  intro es';refine xk (τ':=τ) h0 hR (zac _) (λr' hr ht=> ⟨rfl,?_⟩) ⟨R.tag,R.lo,R.hi,wC (xs:=xs) (by rw [dR,if_neg hrq];exact h1) (R.tyl _ _ _ h1),ty,xs,by rw [dR,if_neg hrq];exact h1,by simp [h2],h3,λj c y hc hy=> ?_⟩
  ·rw [dR,if_neg];intro e;subst e;exact ht _ _ _ t1
  ·rcases ny hc with⟨rfl,rfl⟩ | ⟨hj,hc⟩
   ·rw [hx] at hy;cases hy;exact⟨r,rfl,t1,t2,t3,by rw [dR,if_pos rfl]⟩
   ·refine(h4 j c y hc hy).keep (zac _) λr' s t hr ht=> ⟨ht,?_⟩
    rw [dR,if_neg];intro e;subst e;rw [t1] at ht;simp only [zaa,zad,zb6] at ht;exact hj ht.2.1.symm
 refine⟨r,by rw [gu h1,hx];rfl,λz n ok=> ?_,?_,λhb=> ⟨λn v=> ⟨H.put r (.map k (Kt es n v)),?_,put _,Step.put _ t2,rfl⟩,λn=> ⟨H.put r (.map k (zy es n)),?_,put _,Step.put _ t2,rfl⟩⟩⟩
 ·simp only [lk,ku,bQ,zak,lkO,t4,and_self,if_true];cases qm es n <;> rfl
 ·simp only [lnM,ku,bQ,zak,anA,t4]
 ·simp only [mup,t4];rw [if_pos ⟨trivial,trivial,by omega⟩]
 ·simp only [del,t4];rw [if_pos ⟨trivial,trivial,by omega⟩]
end
abbrev w64(n:Int):Int:=IntKind.wrap .i64 n
structure Cfg where
 aH:Int
 bg:Int
 dh:Int
 sets:Int
 ways:Int
 out:Int
 inn:Int
 init:List Int
structure Pkt where
 aO:Int
 src:Int
 dst:Int
 id:Int
 aj:Int
 ptr:Int
 aT:Int
 flag:Bool
 data:List Int
 deriving DecidableEq
structure Opn where
 aO:Int
 addr:Int
 value:Int
 deriving DecidableEq
structure Evn where
 bn:Int
 index:Int
 done:Bool
 value:Int
 deriving DecidableEq
structure Ent where
 fwd:Int
 back:Int
 aj:Int
 used:Int
 cO:Bool
 data:List Int
 deriving DecidableEq
structure Row where
 aT:Int
 head:Int
 data:List Int
 deriving DecidableEq
structure bJ where
 aO:Int
 aj:Int
 id:Int
 step:Int
 aT:Int
 head:Int
 data:List Int
 next:Int
 told:Int
 deriving DecidableEq
structure Pck where
 deliver:Bool
 at_:Int
 bit:Int
 mask:Int
def vsl {α:Type}(m:Nat)(enc:α->List AV)(l:List α):AV:=if l=[] then zN else .vs l.length m (l.flatMap enc)
def QN(n:Int):List AV:=[I n]
def dat(l:List Int):AV:=vsl 1 QN l
def Cfg.av(c:Cfg):List AV:=[I c.aH,I c.bg,I c.dh,I c.sets,I c.ways,I c.out,I c.inn,dat c.init]
def Pkt.av(p:Pkt):List AV:=[I p.aO,I p.src,I p.dst,I p.id,I p.aj,I p.ptr,I p.aT,B p.flag,dat p.data]
def Opn.av(o:Opn):List AV:=[I o.aO,I o.addr,I o.value]
def Evn.av(e:Evn):List AV:=[I e.bn,I e.index,B e.done,I e.value]
def Ent.av(e:Ent):List AV:=[I e.fwd,I e.back,I e.aj,I e.used,B e.cO,dat e.data]
def Row.av(r:Row):List AV:=[I r.aT,I r.head,dat r.data]
def bJ.av(d:bJ):List AV:=[I d.aO,I d.aj,I d.id,I d.step,I d.aT,I d.head,dat d.data,I d.next,I d.told]
def Pck.av(p:Pck):List AV:=[B p.deliver,I p.at_,I p.bit,.s (.int .u16 p.mask)]
def Pkt.zero:Pkt:=⟨0,0,0,0,0,0,0,false,[]⟩
def Opn.zero:Opn:=⟨0,0,0⟩
def Ent.zero:Ent:=⟨0,0,0,0,false,[]⟩
def Row.zero:Row:=⟨0,0,[]⟩
def bJ.zero:bJ:=⟨0,0,0,0,0,0,[],0,0⟩
theorem dI {α:Type}{enc:α->List AV}{m:Nat}(he:∀a,(enc a).length=m)(l:List α):(l.flatMap enc).length=l.length*m:=RG he l
theorem F9 {α:Type}{enc:α->List AV}{m:Nat}(he:∀a,(enc a).length=m)(H:ah)(l:List α):aN H (vsl m enc l) m l.length (l.flatMap enc):=by
 unfold vsl;split
 ·rename_i h;subst h;exact aN.nil
 ·exact aN.vs (dI he l)
theorem gI {α:Type}{enc:α->List AV}{m:Nat}:vsl m enc ([]:List α)=zN:=by simp [vsl]
theorem Em {α:Type}{enc:α->List AV}{m:Nat}{l:List α}(h:l≠[]):vsl m enc l=.vs l.length m (l.flatMap enc):=by simp [vsl,h]
theorem RH {α:Type}{enc:α->List AV}{m:Nat}{l:List α}:One (vsl m enc l):=by
 unfold vsl;split
 ·exact qC
 ·exact aex
theorem rW {l:List Int}:One (dat l):=RH
theorem ab6(n:Int):(QN n).length=1:=rfl
theorem zO(l:List Int):l.flatMap QN=l.map I:=by
 induction l with
 | nil=> rfl
 | cons a l ih=> rw [zaE,ih];rfl
theorem nN(H:ah)(l:List Int):aN H (dat l) 1 l.length (l.map I):=by
 have:=F9 ab6 H l;rw [zO] at this;exact this
theorem bU(p:Pkt):p.av.length=9:=rfl
theorem fG(p:Opn):p.av.length=3:=rfl
theorem BH(p:Evn):p.av.length=4:=rfl
theorem dV(p:Ent):p.av.length=6:=rfl
theorem Jp(p:Row):p.av.length=3:=rfl
theorem Jq(p:Cfg):p.av.length=8:=rfl
theorem Gf(p:bJ):p.av.length=9:=rfl
theorem Jr(p:Pck):p.av.length=4:=rfl
theorem aey(p:Cfg):p.av.take 8=p.av:=rfl
theorem OU(p:Pkt):p.av.take 9=p.av:=rfl
theorem aez(p:Opn):p.av.take 3=p.av:=rfl
theorem aeA(p:Evn):p.av.take 4=p.av:=rfl
theorem aeB(p:Ent):p.av.take 6=p.av:=rfl
theorem aeC(p:Row):p.av.take 3=p.av:=rfl
theorem YC(p:bJ):p.av.take 9=p.av:=rfl
theorem aeD(p:Pck):p.av.take 4=p.av:=rfl
theorem OV {l:List Int}:(dat l).cells=[dat l]:=rW.1
theorem oC {l:List Int}:(dat l).aQ=true:=rW.2
theorem Gg {α:Type}{enc:α->List AV}{m:Nat}{l:List α}:(vsl m enc l).cells=[vsl m enc l]:=RH.1
theorem Js {α:Type}{enc:α->List AV}{m:Nat}{l:List α}:(vsl m enc l).aQ=true:=RH.2
theorem nD(c:Cfg):c.av.all AV.aQ=true:=by simp [Cfg.av,iU,oC]
theorem aS(p:Pkt):p.av.all AV.aQ=true:=by simp [Pkt.av,iU,kD,oC]
theorem rX(p:Opn):p.av.all AV.aQ=true:=by simp [Opn.av,iU]
theorem Gh(p:Evn):p.av.all AV.aQ=true:=by simp [Evn.av,iU,kD]
theorem kU(p:Ent):p.av.all AV.aQ=true:=by simp [Ent.av,iU,kD,oC]
theorem YD(p:Row):p.av.all AV.aQ=true:=by simp [Row.av,iU,oC]
theorem bF(p:bJ):p.av.all AV.aQ=true:=by simp [bJ.av,iU,oC]
theorem Gj(p:Pck):p.av.all AV.aQ=true:=by simp [Pck.av,iU,kD]
theorem UA {α:Type}{enc:α->List AV}(h:∀a,(enc a).all AV.aQ=true)(l:List α):(l.flatMap enc).all AV.aQ=true:=by
 rw [zaZ];intro x hx;obtain⟨a,_,ha⟩:=za0.1 hx;exact zaZ.1 (h a) x ha
theorem iF {H:ah}{n d:Nat}:∀(l:List AV),(∀x∈l,bP H n d x=some x)->l.mapM (bP H n d)=some l
 | [],_=> rfl
 | x::l,h=> by
  rw [zbm,iF l λy hy=> h y (by simp [hy]),h x (by simp)];rfl
theorem jq {H:ah}{n d:Nat}{v:Value}:bP H n (d+1) (.s v)=some (.s v):=by rw [bP]
theorem YE {H:ah}{n d k m:Nat}{l:List AV}(h:∀x∈l,bP H n d x=some x):bP H n (d+1) (.vs k m l)=some (.vs k m l):=by
 rw [bP];simp only [iF l h,zak]
theorem Jt {H:ah}{n d:Nat}{l:List AV}(h:∀x∈l,bP H n d x=some x):bP H n (d+1) (.agg l)=some (.agg l):=by
 rw [bP];simp only [iF l h,zak]
theorem Ju {H:ah}{n d:Nat}{l:List AV}(h:∀x∈l,bP H n d x=some x):bP H n (d+1) (.tup l)=some (.tup l):=by
 rw [bP];simp only [iF l h,zak]
theorem jP {H:ah}{n d r g off esz len cap:Nat}{ex:Bool}{l:List AV}(hr:n<=r){cells:List AV}(hc:cZ H (.sl r g off esz len cap ex)=some cells)(hl:cells.mapM (bP H n d)=some l):bP H n (d+1) (.sl r g off esz len cap ex)=some (.vs len esz l):=by
 rw [bP];simp only [if_neg (zdE.2 hr),hc,hl,zak]
def Frz(d:Nat)(x:AV):Prop:=∀H n,bP H n d x=some x
theorem iZ {v:Value}{d:Nat}:Frz (d+1) (.s v):=λ_ _=> jq
theorem aeE {d k m:Nat}{l:List AV}(h:∀x∈l,Frz d x):Frz (d+1) (.vs k m l):=λH n=> YE λx hx=> h x hx H n
theorem nG {d:Nat}{l:List AV}(h:∀x∈l,Frz d x):Frz (d+1) (.agg l):=λH n=> Jt λx hx=> h x hx H n
theorem uI {d:Nat}{l:List AV}(h:∀x∈l,Frz d x):Frz (d+1) (.tup l):=λH n=> Ju λx hx=> h x hx H n
theorem agG {α:Type}{enc:α->List AV}{m d:Nat}{l:List α}(h:∀a,∀x∈enc a,Frz (d+1) x):Frz (d+2) (vsl m enc l):=by
 unfold vsl;split
 ·exact iZ
 ·refine aeE λx hx=> ?_;obtain⟨a,_,ha⟩:=za0.1 hx;exact h a x ha
theorem uJ {l:List Int}{d:Nat}:Frz (d+2) (dat l):=agG λa x hx=> by
 simp only [QN,zaO] at hx;subst hx;exact iZ
section
variable {β:Type}{x:Option (AV × ah)}{H:ah}{k:AV->ah->Option β}
theorem ajp:gdA (some (.s (.bool true))) true x H k=bnd x k:=rfl
theorem ajq:gdA (some (.s (.bool true))) false x H k=k aZ H:=rfl
theorem ajr:gdA (some (.s (.bool false))) true x H k=k aZ H:=rfl
theorem ajs:gdA (some (.s (.bool false))) false x H k=bnd x k:=rfl
theorem apO {a b:AV}:dF (.s (.bool true)) a b=some a:=rfl
theorem apP {a b:AV}:dF (.s (.bool false)) a b=some b:=rfl
end
theorem YF {r g o:Nat}:aB (.ref r g o)=some (.ref r g o):=rfl
theorem aeF {l:List AV}:aB (.ip l)=some (.ip l):=rfl
theorem aeG {f:FuncId}{a c:List AV}:aB (.fn (.func f) a c)=some (.fn (.func f) a c):=rfl
theorem aeH {l:List AV}{i:Nat}:aK (.tup l) i=l[i]?:=rfl
theorem aeI {l:List AV}{o:Nat}:fl (.agg l) o=l[o]?:=rfl
theorem aeJ {r g off:Nat}{H:ah}:ld (.ref r g off) H=match H.get r with
  | .blk g' _ cells=> if g'=g then(cells[off]?).map λv=> (v,H) else none
  | .map ..=> none:=by
 simp only [ld,ku,bQ,zak,ldO];cases H.get r with
 | map k es=> rfl
 | blk g' ty cells=> simp only;split <;> rfl
theorem RI {r g off n:Nat}{H:ah}:lda n (.ref r g off) H=match H.get r with
  | .blk g' _ cells=> if g'=g then(if off+n<=cells.length then some (.agg ((cells.drop off).take n),H) else none) else none
  | .map ..=> none:=by
 simp only [lda,ku,bQ,zak,am3];cases H.get r with
 | map k es=> rfl
 | blk g' ty cells=>
  simp only;split
  ·split <;> rfl
  ·rfl
theorem aG {t:TypeId}{l:List AV}{H:ah}(h:l.all AV.aQ=true)(ht:t < 1000000000):jD t (.agg l) H=some (.ref H.next 0 0,H.new (.blk 0 t l)):=Yk h ht
theorem aeK {t:TypeId}{z:List AV}{H:ah}:alc t z H=some (.ref H.next 0 0,H.new (.blk 0 t z)):=rfl
theorem aeL {k:IntKind}{H:ah}:mkm k H=some (.mp H.next,H.new (.map k [])):=rfl
theorem leS {a b:Nat}(h:a<=b):a<=b+1:=by omega
theorem ltS {a b:Nat}(h:a < b):a < b+1:=by omega
theorem fE {H:ah}{o:fV}:(H.new o).next=H.next+1:=Eq.trans rfl rfl
theorem apQ {H:ah}{r:Nat}{o:fV}:(H.put r o).next=H.next:=Eq.trans rfl rfl
theorem jC {H:ah}{o:fV}:(H.new o).base=H.base:=Eq.trans rfl rfl
theorem apR {H:ah}{r:Nat}{o:fV}:(H.put r o).base=H.base:=Eq.trans rfl rfl
theorem RJ {H:ah}:H.guard.next=H.next:=Eq.trans rfl rfl
theorem anH {H:ah}:H.guard.base=H.next:=Eq.trans rfl rfl
theorem qE {H:ah}{o:fV}:(H.new o).get H.next=o:=by rw [jg,if_pos rfl]
theorem bC {H:ah}{o:fV}{r:Nat}(h:r=H.next):(H.new o).get r=o:=by rw [jg,if_pos h]
theorem eG {H:ah}{o:fV}{r:Nat}(h:r < H.next):(H.new o).get r=H.get r:=by rw [jg,if_neg (by omega)]
theorem Gl {H:ah}{o:fV}{r:Nat}:(H.put r o).get r=o:=by rw [dR,if_pos rfl]
theorem Ld {n r off:Nat}{v:AV}{H:ah}:st n (.ref r 0 off) v H=match H.get r with
  | .blk g' ty cells=> if g'=0/\H.base<=r/\n=v.cells.length/\v.cells.all AV.aQ=true/\off+v.cells.length<=cells.length then some (aZ,H.put r (.blk 0 ty (aW cells off v.cells))) else none
  | .map ..=> none:=by
 unfold st;simp only [zaa];cases H.get r <;> rfl
theorem aeM {H:ah}{r off:Nat}{ty:TypeId}{cells:List AV}(h:r=H.next):ld (.ref r 0 off) (H.new (.blk 0 ty cells))=(cells[off]?).map λv=> (v,H.new (.blk 0 ty cells)):=gu (bC h)
theorem YG {H:ah}{r off n:Nat}{ty:TypeId}{cells:List AV}(h:r=H.next):lda n (.ref r 0 off) (H.new (.blk 0 ty cells))=if off+n<=cells.length then some (.agg ((cells.drop off).take n),H.new (.blk 0 ty cells)) else none:=by
 split
 ·rename_i hl;exact gZ (bC h) hl
 ·rename_i hl;rw [RI,bC h];simp only [if_true,hl,if_false]
theorem Dt {H:ah}{r off:Nat}{o:fV}(h:r < H.next):ld (.ref r 0 off) (H.new o)=(ld (.ref r 0 off) H).map λp=> (p.1,H.new o):=by
 rw [aeJ,aeJ,eG h];cases H.get r with
 | map k es=> rfl
 | blk g ty cells=> simp only;split <;> first | rfl | (cases cells[off]? <;> rfl)
theorem YH {H:ah}{r off n:Nat}{o:fV}(h:r < H.next):lda n (.ref r 0 off) (H.new o)=(lda n (.ref r 0 off) H).map λp=> (p.1,H.new o):=by
 rw [RI,RI,eG h];cases H.get r with
 | map k es=> rfl
 | blk g ty cells=> simp only;split <;> first | rfl | (split <;> rfl)
theorem RN {H:ah}{a b:fV}:(H.new a).put H.next b=H.new b:=by
 unfold ah.put ah.new;simp only
 congr 1
 funext x
 split <;> rfl
theorem ajt {H:ah}{r:Nat}{a b:fV}(h:r < H.next):(H.new a).put r b=(H.put r b).new a:=by
 unfold ah.put ah.new;simp only
 congr 1
 funext x
 split <;> split <;> first | rfl | (exfalso;omega)
theorem UC {n:Nat}{H:ah}{r off:Nat}{v:AV}{ty:TypeId}{cells:List AV}(h:r=H.next):st n (.ref r 0 off) v (H.new (.blk 0 ty cells))=if H.base<=r/\n=v.cells.length/\v.cells.all AV.aQ=true/\off+v.cells.length<=cells.length then some (aZ,H.new (.blk 0 ty (aW cells off v.cells))) else none:=by
 subst h;rw [Ld,bC rfl];simp only [true_and,jC,RN]
theorem OW {n:Nat}{H:ah}{r off:Nat}{v:AV}{o:fV}(h:r < H.next):st n (.ref r 0 off) v (H.new o)=(st n (.ref r 0 off) v H).map λp=> (p.1,p.2.new o):=by
 rw [Ld,Ld,eG h];cases H.get r with
 | map k es=> rfl
 | blk g ty cells=>
  simp only [jC];split
  ·simp only [zak,ajt h]
  ·rfl
theorem aeN {r off n:Nat}{v:AV}{ty:TypeId}{xs:List AV}{H:ah}(h:H.get r=.blk 0 ty xs)(hb:H.base<=r)(hv:v.cells.all AV.aQ=true)(hn:v.cells.length=n)(hl:off+n<=xs.length):st n (.ref r 0 off) v H=some (aZ,H.put r (.blk 0 ty (aW xs off v.cells))):=by
 show(match H.get r with
  | .blk g' ty cells=> if g'=0/\H.base<=r/\some n=some v.cells.length/\v.cells.all AV.aQ=true/\off+v.cells.length<=cells.length then some (aZ,H.put r (.blk 0 ty (aW cells off v.cells))) else none
  | .map ..=> none)=_
 rw [h];simp only;rw [if_pos ⟨trivial,hb,by rw [hn],hv,by omega⟩]
theorem eu {pl:Nat->Option (Nat × Nat)}{z:List AV}:gX pl z []=some z:=rfl
theorem Gm {pl:Nat->Option (Nat × Nat)}{z:List AV}{i off:Nat}{v:AV}{ps:List (Nat × AV)}(hp:pl i=some (off,1))(hv:v.cells=[v])(hl:off < z.length):gX pl z ((i,v)::ps)=gX pl (z.set off v) ps:=by
 rw [gX];simp only [hp,hv,zal,zan];rw [if_pos ⟨trivial,by omega⟩,OT hl]
theorem yR {e m:Nat}{z:List AV}{H:ah}:bsl e m z 0 [] H=some (.sl H.next 0 0 m 0 0 true,H.new (.blk 0 e [])):=rfl
theorem kV {e m:Nat}{z:List AV}{v:AV}{H:ah}(hz:z.length=m)(hv:v.cells.length=m)(hc:v.cells.all AV.aQ=true):bsl e m z 1 [(0,v)] H=some (.sl H.next 0 0 m 1 1 true,H.new (.blk 0 e v.cells)):=by
 have h1:(dX z 1).length=m:=by simp [dX,hz]
 unfold bsl;rw [gX];simp only [zbo,hv,h1,zaW,zac,and_self,if_true,gX];have:aW (dX z 1) 0 v.cells=v.cells:=by
  simp only [aW,zds,zaK,zaW];rw [zaQ (by omega),za8]
 rw [this,if_pos hc]
theorem nO {e m n:Nat}{l:List AV}{H:ah}{ex:Bool}(h:l.length=n*m):aN (H.new (.blk 0 e l)) (.sl H.next 0 0 m n n ex) m n l:=
 ⟨h,rfl,rfl,⟨by rw [fE];omega,zac _⟩,e,l,by simp [jg],by omega,by rw [zaP,zaA (by omega)]⟩
theorem sU {e m by_ r n ty:Nat}{y:AV}{cells:List AV}{H:ah}(hx:H.get r=.blk 0 ty [])(hy:aN H y m n cells)(hc:cells.all AV.aQ=true)(hn:n≠0)(h1:n<=most)(h2:n*by_<=most):
  app e m by_ (.sl r 0 0 m 0 0 true) y H=some (.sl H.next 0 0 m n n false,H.new (.blk 0 (e+gQ) cells)):=by
 obtain⟨c1,c2⟩:=hy.wE;simp only [app,c1,c2];unfold dZ;rw [if_pos ⟨hy.1,hc⟩];simp only [hx];rw [if_pos ⟨trivial,trivial,by simp⟩,if_neg hn,if_neg (by omega),if_pos ⟨by omega,by rw [zaW];exact h2⟩];simp
theorem RP {e m by_ n:Nat}{y:AV}{cells:List AV}{H:ah}(hy:aN H y m n cells)(hc:cells.all AV.aQ=true)(hn:n≠0)(h1:n<=most)(h2:n*by_<=most):
  app e m by_ zN y H=some (.sl H.next 0 0 m n n false,H.new (.blk 0 (e+gQ) cells)):=by
 obtain⟨c1,c2⟩:=hy.wE;simp only [app,c1,c2];unfold dZ;rw [if_pos ⟨hy.1,hc⟩];simp only;rw [if_neg hn,if_pos ⟨h1,h2⟩]
theorem sV {P:Program}{t e:TypeId}{n m:Nat}{l:List AV}(h:P.underlying t=some (.slice e)):ql P .eql t (.vs n m l) (.s (.slice none 0 0))=some (B false):=by
 simp [ql,AV.val?,NM,h]
theorem BI {P:Program}{t e:TypeId}{r g o m n c:Nat}{ex:Bool}(h:P.underlying t=some (.slice e)):ql P .eql t (.sl r g o m n c ex) (.s (.slice none 0 0))=some (B false):=by
 simp [ql,AV.val?,NM,h]
theorem OX {P:Program}{C:aC}{f:FuncId}{a c args:List AV}{H:ah}(h:qo P f=true):yH P C (.fn (.func f) a c) args H=C f (a++args++c) H:=abV h
theorem wrap_i64 {a:Int}(h1:-9223372036854775808<=a)(h2:a<=9223372036854775807):IntKind.wrap .i64 a=a:=aiQ h1 h2
theorem xq_:(type_of% @aea)/\(type_of% @aiY)/\(type_of% @Ui)/\(type_of% @Yw)/\(type_of% @Jo)/\(type_of% @FY)/\(type_of% @Oy)/\(type_of% @decide_true)/\
 (type_of% @decide_false)/\(type_of% @ajp)/\(type_of% @ajq)/\(type_of% @ajr)/\(type_of% @ajs)/\(type_of% @Um)/\
 (type_of% @OB)/\(type_of% @Uk)/\(type_of% @Option.map_some.{0,0})/\(type_of% @Option.bind_some.{0,0})/\(type_of% @qZ)/\(type_of% @yO)/\
 (type_of% @YF)/\(type_of% @aeF)/\(type_of% @aeG)/\(type_of% @aeH)/\(type_of% @aeI)/\(type_of% @List.getElem?_cons_zero.{0})/\
 (type_of% @List.getElem?_cons_succ.{0})/\(type_of% @Nat.zero_add)/\(type_of% @Nat.add_zero)/\(type_of% @apO)/\(type_of% @apP)/\(type_of% @Yf)/\
 (type_of% @Yg)/\(type_of% @Rw)/\(type_of% @KX)/\(type_of% @Yh)/\(type_of% @Yi)/\(type_of% @Ul)/\
 (type_of% @beq_self_eq_true.{0})/\(type_of% @if_true.{1})/\(type_of% @Bool.false_eq_true)/\(type_of% @if_false.{1})/\(type_of% @List.nil_append.{0})/\(type_of% @List.cons_append.{0})/\
 (type_of% @List.append_nil.{0})/\(type_of% @aeK)/\(type_of% @aeL)/\(type_of% @fE)/\(type_of% @apQ)/\(type_of% @jC)/\
 (type_of% @apR)/\(type_of% @RJ)/\(type_of% @anH):=
 ⟨@aea,@aiY,@Ui,@Yw,@Jo,@FY,@Oy,@decide_true,@decide_false,@ajp,@ajq,@ajr,@ajs,@Um,@OB,@Uk,@Option.map_some.{0,0},@Option.bind_some.{0,0},@qZ,@yO,@YF,@aeF,@aeG,@aeH,@aeI,@List.getElem?_cons_zero.{0},@List.getElem?_cons_succ.{0},@Nat.zero_add,@Nat.add_zero,@apO,@apP,@Yf,@Yg,@Rw,@KX,@Yh,@Yi,@Ul,@beq_self_eq_true.{0},@if_true.{1},@Bool.false_eq_true,@if_false.{1},@List.nil_append.{0},@List.cons_append.{0},@List.append_nil.{0},@aeK,@aeL,@fE,@apQ,@jC,@apR,@RJ,@anH⟩
theorem hq_:(type_of% @aeM)/\(type_of% @Dt)/\(type_of% @YG)/\(type_of% @YH)/\(type_of% @UC)/\(type_of% @OW)/\
 (type_of% @Nat.lt_add_one)/\(type_of% @ne_eq.{1})/\(type_of% @nx1)/\(type_of% @nx2)/\(type_of% @nx3)/\(type_of% @ny1)/\
 (type_of% @ny2)/\(type_of% @ny3)/\(type_of% @not_false_eq_true)/\(type_of% @List.length_cons.{0})/\(type_of% @List.length_nil.{0})/\(type_of% @List.take_succ_cons.{0})/\
 (type_of% @List.take_zero.{0})/\(type_of% @List.drop_succ_cons.{0})/\(type_of% @List.drop_zero.{0})/\(type_of% @OV)/\(type_of% @OC)/\(type_of% @Jg)/\
 (type_of% @fZ)/\(type_of% @List.all_cons.{0})/\(type_of% @List.all_nil.{0})/\(type_of% @iU)/\(type_of% @kD)/\(type_of% @oC)/\
 (type_of% @Jh)/\(type_of% @Ji)/\(type_of% @Js)/\(type_of% @Gg)/\(type_of% @Jq)/\(type_of% @bU)/\
 (type_of% @fG)/\(type_of% @BH)/\(type_of% @dV)/\(type_of% @Jp)/\(type_of% @Gf)/\(type_of% @Jr)/\
 (type_of% @aey)/\(type_of% @OU)/\(type_of% @aez)/\(type_of% @aeA)/\(type_of% @aeB)/\(type_of% @aeC)/\
 (type_of% @YC)/\(type_of% @aeD)/\(type_of% @nD)/\(type_of% @aS)/\(type_of% @rX)/\(type_of% @Gh)/\
 (type_of% @kU)/\(type_of% @YD)/\(type_of% @bF)/\(type_of% @Gj)/\(type_of% @List.drop_nil.{0})/\(type_of% @Bool.and_true)/\
 (type_of% @Bool.and_self)/\(type_of% @and_self)/\(type_of% @Nat.le_refl)/\(type_of% @true_and)/\(type_of% @and_true)/\(type_of% @Nat.le_add_right)/\
 (type_of% @leS)/\(type_of% @ltS):=
 ⟨@aeM,@Dt,@YG,@YH,@UC,@OW,@Nat.lt_add_one,@ne_eq.{1},@nx1,@nx2,@nx3,@ny1,@ny2,@ny3,@not_false_eq_true,@List.length_cons.{0},@List.length_nil.{0},@List.take_succ_cons.{0},@List.take_zero.{0},@List.drop_succ_cons.{0},@List.drop_zero.{0},@OV,@OC,@Jg,@fZ,@List.all_cons.{0},@List.all_nil.{0},@iU,@kD,@oC,@Jh,@Ji,@Js,@Gg,@Jq,@bU,@fG,@BH,@dV,@Jp,@Gf,@Jr,@aey,@OU,@aez,@aeA,@aeB,@aeC,@YC,@aeD,@nD,@aS,@rX,@Gh,@kU,@YD,@bF,@Gj,@List.drop_nil.{0},@Bool.and_true,@Bool.and_self,@and_self,@Nat.le_refl,@true_and,@and_true,@Nat.le_add_right,@leS,@ltS⟩
def ru(g g':bD):Prop:=∀q cs,g q=some cs->g' q=some cs
theorem ru.refl(g:bD):ru g g:=λ_ _ h=> h
theorem ru.more {g g':bD}(h:ru g g'){n:Nat}(hn:g n=none)(c:List Cell):ru g (upd g' n c):=λq cs hq=> by
 rw [bH (λe=> by rw [e,hn] at hq;cases hq)];exact h q cs hq
theorem ru.both {g g':bD}(h:ru g g')(n:Nat)(c:List Cell):ru (upd g n c) (upd g' n c):=λq cs hq=> by
 by_cases e:q=n
 ·subst e;rw [aV] at hq ⊢;exact hq
 ·rw [bH e] at hq ⊢;exact h q cs hq
theorem zQ {g:bD}{q n:Nat}{c:List Cell}(h:g n=none)(hne:n≠q):upd g q c n=none:=by rw [bH hne];exact h
section
variable {b:Nat}{H H':ah}{g:bD}{q:Nat}{cs:List Cell}
theorem Cur.length {i m n:Nat}{x:AV}{l:List AV}(c:Cur b H q i x m l)(hm:0 < m)(hl:l.length=n*m):(x=zN/\n=0)∨∃r g off cap ex ty all,x=.sl r g off m n cap ex/\r≠q/\b<=r/\r < H.next/\n<=cap/\H.get r=.blk g ty all/\off+cap*m<=all.length/\all.all AV.aQ=true/\l=(all.drop off).take (n*m):=by
 rcases c.own with⟨rfl,rfl⟩ | ⟨r,g,off,n',cap,ex,ty,all,rfl,k1,k2,k3,k4,k5,k6,k7,rfl⟩
 ·left;simp only [zan] at hl;refine⟨rfl,?_⟩;rcases zcY.1 hl.symm with h | h <;> omega
 ·right;have h1:n'*m<=cap*m:=zaD _ k4;rw [zau,zaN,zbk (by omega)] at hl;have:n'=n:=zbF hm hl;subst this;exact⟨r,g,off,cap,ex,ty,all,rfl,k1,k2,k3,k4,k5,k6,k7,rfl⟩
theorem aju {r gg off m len cap:Nat}{ex:Bool}{k1 k2:IntKind}{lo hi:Int}(h0:0<=lo)(h1:lo<=hi)(h2:hi<=cap):slS m (.sl r gg off m len cap ex) (some (.s (.int k1 lo))) (some (.s (.int k2 hi))) none=some (.sl r gg (off+lo.toNat*m) m (hi.toNat - lo.toNat) (cap - lo.toNat) ex):=by
 have h3:0<=hi:=by omega
 simp only [slS,iV,h0,h3,if_true,isNone,zae,Bool.or_false];rw [if_pos ⟨trivial,by omega,by omega,by omega,by simp⟩]
theorem UD {r gg off m len cap:Nat}{ex:Bool}{k2:IntKind}{hi:Int}(h0:0<=hi)(h2:hi<=cap):slS m (.sl r gg off m len cap ex) none (some (.s (.int k2 hi))) none=some (.sl r gg off m hi.toNat cap ex):=by
 simp only [slS,iV,h0,if_true,isNone,zae,Bool.or_false];rw [if_pos ⟨trivial,by omega,by omega,by omega,by simp⟩];simp
theorem En {r gg off m len cap:Nat}{ex:Bool}{k1:IntKind}{lo:Int}(h0:0<=lo)(h1:lo<=len)(h2:len<=cap):slS m (.sl r gg off m len cap ex) (some (.s (.int k1 lo))) none none=some (.sl r gg (off+lo.toNat*m) m (len - lo.toNat) (cap - lo.toNat) ex):=by
 simp only [slS,iV,h0,if_true,isNone,zae,Bool.or_false];rw [if_pos ⟨trivial,by omega,by omega,by omega,by simp⟩]
theorem agH {r gg off m len cap:Nat}{ex:Bool}{k1 k2 k3:IntKind}{lo hi mx:Int}(h0:0<=lo)(h1:lo<=hi)(h2:hi<=mx)(h3:mx<=cap):slS m (.sl r gg off m len cap ex) (some (.s (.int k1 lo))) (some (.s (.int k2 hi))) (some (.s (.int k3 mx)))=some (.sl r gg (off+lo.toNat*m) m (hi.toNat - lo.toNat) (mx.toNat - lo.toNat) true):=by
 have h4:0<=hi:=by omega
 have h5:0<=mx:=by omega
 simp only [slS,iV,h0,h4,h5,if_true,isNone,zam,Bool.or_true];rw [if_pos ⟨trivial,by omega,by omega,by omega,by simp⟩]
theorem BJ {z:List AV}(h:z.all AV.aQ=true):∀n,(dX z n).all AV.aQ=true
 | 0=> rfl
 | n+1=> by rw [dX,zb5,h,BJ h n];rfl
theorem UE {i m n:Nat}{x:AV}{l z:List AV}(c:Cur b H q i x m l)(hb:H.base<=b)(hm:0 < m)(hl:l.length=n*m)(hn:n < 1000000000){j:Nat}(hj:j < n)(hz:z.length=m)(hzc:z.all AV.aQ=true){e:TypeId}{by_:Nat}(hby:by_ < 1000):
  ∃y x1 x2 x3 H1 x4 H2,slS m x (some (I j)) (some (I (j+1))) (some (I n))=some y/\slS m x none (some (I j)) none=some x1/\slS m x (some (I (j+1))) none none=some x2/\app e m by_ x1 x2 H=some (x3,H1)/\
   lnS x3 H1=some (I ((n:Int) - 1),H1)/\slS m x3 (some (I ((n:Int) - 1))) (some (I n)) none=some x4/\clr m z x4 H1=some (.tup [],H2)/\
   Fit H H2 x x3 m (l.take (j*m)++l.drop ((j+1)*m))/\H2.next=H.next/\H2.base=H.base/\∀r,iM x≠some r->H2.get r=H.get r:=by
 rcases c.length hm hl with⟨_,h0⟩ | ⟨r,gg,off,cap,ex,ty,all,rfl,k1,k2,k3,k4,k5,k6,k7,rfl⟩
 ·omega
 have hjm:(j+1)*m<=n*m:=zaD _ hj;have hcm:n*m<=cap*m:=zaD _ k4;have hj1:(j+1)*m=j*m+m:=zbB j m;have hnj:(n - (j+1))*m=n*m - (j+1)*m:=Nat.sub_mul n (j+1) m;have hn1:(n - 1)*m=n*m - m:=by rw [Nat.sub_mul,zbp]
 let new:=(all.drop (off+(j+1)*m)).take ((n - (j+1))*m);have hnew:new.length=(n - (j+1))*m:=by simp only [new];rw [zau,zaN];omega
 let all1:=aW all (off+j*m) new;have ajv:all1.length=all.length:=oz (by omega);let all2:=aW all1 (off+(n - 1)*m) (dX z 1);have hz1:(dX z 1).length=m:=by simp [dX,hz]
 have aqk:all2.length=all.length:=by rw [oz (by omega)];exact ajv
 have hc1:all1.all AV.aQ=true:=wF k7 (Ej (zL k7 _) _) _;have hc2:all2.all AV.aQ=true:=wF hc1 (BJ hzc 1) _;have happ:app e m by_ (.sl r gg off m j cap ex) (.sl r gg (off+(j+1)*m) m (n - (j+1)) (cap - (j+1)) ex) H=some (.sl r gg off m (n - 1) cap ex,H.put r (.blk gg ty all1)):=by
  have hs:cZ H (.sl r gg (off+(j+1)*m) m (n - (j+1)) (cap - (j+1)) ex)=some new:=by
   simp only [cZ,k5];rw [if_pos ⟨trivial,by omega⟩]
  simp only [app,jW,hs];unfold dZ;rw [if_pos ⟨hnew,Ej (zL k7 _) _⟩];simp only [k5];rw [if_pos ⟨trivial,trivial,by omega⟩];by_cases h0:n - (j+1)=0
  ·rw [if_pos h0];have hn0:new=[]:=zar (by rw [hnew,h0,zbo]);have:all1=all:=by
    simp only [all1,hn0,aW,zaK,zan,zbN,zcP]
   rw [this,show j=n - 1 by omega]
   congr 2
   ·unfold ah.put;have:(λx=> if x=r then fV.blk gg ty all else H.get x)=H.get:=by
     funext x
     split
     ·rename_i e;rw [e,k5]
     ·rfl
    rw [this]
  ·rw [if_neg h0,if_pos (by omega),if_pos ⟨by omega,by
    have:(j+(n - (j+1)))*m<=cap*m:=zaD _ (by omega);omega⟩]
   rw [show j+(n - (j+1))=n - 1 by omega]
 refine⟨_,.sl r gg off m j cap ex,.sl r gg (off+(j+1)*m) m (n - (j+1)) (cap - (j+1)) ex,.sl r gg off m (n - 1) cap ex,H.put r (.blk gg ty all1),.sl r gg (off+(n - 1)*m) m 1 (cap - (n - 1)) ex,(H.put r (.blk gg ty all1)).put r (.blk gg ty all2),agH (by omega) (by omega) (by omega) (by omega),?_,?_,happ,?_,?_,?_,.inr ⟨r,gg,off,n - 1,cap,ex,ty,all2,rfl,.inl rfl,k3,by omega,by simp [dR],by omega,hc2,?_⟩,rfl,rfl,?_⟩
 ·exact UD (by omega) (by omega)
 ·have:=En (r:=r) (gg:=gg) (off:=off) (m:=m) (len:=n) (cap:=cap) (ex:=ex) (k1:=.i64) (lo:=(j:Int)+1) (by omega) (by omega) k4;rw [show((j:Int)+1).toNat=j+1 by omega] at this;exact this
 ·simp only [lnS,ku,anz,zak]
  congr 5
  omega
 ·have:=aju (r:=r) (gg:=gg) (off:=off) (m:=m) (len:=n - 1) (cap:=cap) (ex:=ex) (k1:=.i64) (k2:=.i64) (lo:=(n:Int) - 1) (hi:=n) (by omega) (by omega) (by omega);rw [show((n:Int) - 1).toNat=n - 1 by omega,show(n:Int).toNat=n by omega,show n - (n - 1)=1 by omega] at this;exact this
 ·simp only [clr,Nat.one_ne_zero,if_false,dR,if_true];rw [if_pos ⟨trivial,trivial,by rw [abW];omega,hz,hzc,by rw [ajv];omega⟩]
 ·-- what is there then
  apply zbf
  intro p;have hlt:((all.drop off).take (n*m)).length=n*m:=by rw [zau,zaN];omega
  rcases zaT p (j*m) with h1 | h1
  ·rw [zaV (by rw [zau];omega),zaC,if_pos h1,zaC,if_pos (by omega),zaC,if_pos (by omega),zaF,zaF];rw [nC (by omega),if_neg (by omega),nC (by omega),if_neg (by omega)]
  ·rw [zaX (by rw [zau];omega),zau,hlt,zbk (by omega),zaF];rcases zaT p ((n - 1)*m) with h2 | h2
   ·rw [zaC,if_pos (by omega),zaF,zaC,if_pos h2,zaF];rw [nC (by omega),if_neg (by omega),nC (by omega),if_pos (by omega)];simp only [new];rw [zaC,if_pos (by omega),zaF]
    congr 1;omega
   ·rw [zaH (by rw [hlt];omega),zaH (by rw [zau,zaN];omega)]
 ·intro r' hr';have:r'≠r:=λe=> hr' (by rw [e];rfl);rw [dR,if_neg this,dR,if_neg this]
theorem aeO {e m by_:Nat}{z:List AV}{n:Int}{H:ah}(hz:z.length=m)(hc:z.all AV.aQ=true)(h0:0<=n)(h1:n<=1000000)(hb:by_<=1000):mks e m by_ z (I n) (I n) H=some (.sl H.next 0 0 m n.toNat n.toNat true,H.new (.blk 0 e (dX z n.toNat))):=by
 have h3:(by_:Int)*n<=140737488355328:=by
  have:(by_:Int)*n<=1000*1000000:=zcy (by omega) h1 h0 (by omega);omega
 simp only [mks];rw [if_pos ⟨hz,hc,h0,zbi _,by omega,h3⟩]
theorem kK {v:AV}:∀n,dX [v] n=List.replicate n v
 | 0=> rfl
 | n+1=> by rw [dX,kK n];rfl
theorem aN.from_ {x:AV}{m n:Nat}{cells:List AV}(h:aN H x m n cells){k:IntKind}{lo:Int}(h0:0<=lo)(h1:lo<=n):∃y,slS m x (some (.s (.int k lo))) none none=some y/\aN H y m (n - lo.toNat) (cells.drop (lo.toNat*m)):=by
 obtain⟨hl,h⟩:=h;have hlm:lo.toNat*m<=n*m:=zaD _ (by omega);have hsub:(n - lo.toNat)*m=n*m - lo.toNat*m:=Nat.sub_mul n lo.toNat m;cases x with
 | sl r g off esz len cap ex=>
  obtain⟨rfl,rfl,⟨hr,hc⟩,ty,all,h2,h3,h4⟩:=h;refine⟨_,En h0 h1 hc,by rw [zaN,hl,hsub],rfl,rfl,⟨hr,by omega⟩,ty,all,h2,by rw [hsub];omega,?_⟩;rw [h4,zcj,zbA,hsub]
 | vs k' esz cs=>
  obtain⟨rfl,rfl,rfl⟩:=h;refine⟨.vs (k' - lo.toNat) esz ((cs.drop (lo.toNat*esz)).take ((k' - lo.toNat)*esz)),?_,by rw [zaN,hl,hsub],rfl,rfl,?_⟩
  ·simp only [slS,iV,h0,if_true];rw [if_pos ⟨trivial,by omega,by omega⟩]
  ·rw [zaA (by rw [zaN,hl,hsub];exact zac _)]
 | s v=>
  cases v with
  | slice a b c=>
   cases a with
   | none=>
    obtain⟨rfl,rfl,rfl⟩:=h;have h3:lo=0:=by omega
    subst h3;refine⟨zN,by simp [slS,iV],?_,rfl,rfl,rfl⟩
    simpa using hl
   | some a=> exact h.elim
  | _=> exact h.elim
 | _=> exact h.elim
theorem ajw {r g off m len cap ty n:Nat}{ex:Bool}{cells new:List AV}{y:AV}(hx:H.get r=.blk g ty cells)(hb:H.base<=r)(hl:off+len*m<=cells.length)(hy:aN H y m n new)(hc:new.all AV.aQ=true):
  ∃H',cpy m (.sl r g off m len cap ex) y H=some (I ((min n len:Nat):Int),H')/\H'.get r=.blk g ty (aW cells off (new.take (min n len*m)))/\(∀r',r'≠r->H'.get r'=H.get r')/\H'.next=H.next/\H'.base=H.base:=by
 obtain⟨c1,c2⟩:=hy.wE;have c3:=hy.1;have s1:jW (AV.sl r g off m len cap ex)=some len:=rfl;simp only [cpy,s1,c1,c2];rw [if_pos ⟨c3,hc⟩];by_cases hk:min n len=0
 ·refine⟨H,by rw [if_pos hk,hk];rfl,?_,λ_ _=> rfl,rfl,rfl⟩;rw [hx,hk,zbo,zds];simp only [aW,zaK,zan,zbN,zcP]
 ·rw [if_neg hk];simp only [hx];rw [if_pos ⟨trivial,trivial,hb,hl⟩];exact⟨_,rfl,by rw [dR,if_pos rfl],λr' hr=> by rw [dR,if_neg hr],rfl,rfl⟩
end
def jh {α:Type}:List (Int × α)->Int->Option α
 | [],_=> none
 | (k,v)::l,n=> if k=n then some v else jh l n
def lK {α:Type}:List (Int × α)->Int->α->List (Int × α)
 | [],n,x=> [(n,x)]
 | (k,v)::l,n,x=> if k=n then(n,x)::l else(k,v)::lK l n x
def xY {α:Type}:List (Int × α)->Int->List (Int × α)
 | [],_=> []
 | (k,v)::l,n=> if k=n then l else(k,v)::xY l n
section
variable {α:Type}(f:α->AV)
def YI(l:List (Int × α)):List (Int × AV):=l.map λe=> (e.1,f e.2)
theorem xq:∀(l:List (Int × α)) (n:Int),qm (YI f l) n=(jh l n).map f
 | [],_=> rfl
 | (k,v)::l,n=> by
  simp only [YI,zaz,qm,jh];by_cases h:k=n
  ·simp [h]
  ·simp only [h,if_false];exact xq l n
theorem Gn:∀(l:List (Int × α)) (n:Int) (x:α),Kt (YI f l) n (f x)=YI f (lK l n x)
 | [],_,_=> rfl
 | (k,v)::l,n,x=> by
  simp only [YI,zaz,Kt,lK];by_cases h:k=n
  ·simp [h]
  ·simp only [h,if_false,zaz,zbJ,true_and];exact Gn l n x
theorem UF:∀(l:List (Int × α)) (n:Int),zy (YI f l) n=YI f (xY l n)
 | [],_=> rfl
 | (k,v)::l,n=> by
  simp only [YI,zaz,zy,xY];by_cases h:k=n
  ·simp [h]
  ·simp only [h,if_false,zaz,zbJ,true_and];exact UF l n
end
abbrev Gp(n most:Int):Bool:=decide (1<=n) && decide (n<=most)
def Cfg.ok(c:Cfg):Bool:=
 Gp c.aH 6 && Gp c.bg 8 && Gp c.dh 4 && Gp c.sets 4 && Gp c.ways 3 && Gp c.out 8 && Gp c.inn 8 && decide ((c.init.length:Int)<=c.bg*c.dh)
def yw(aj by_:Int):Int:=if aj < 0 then -1 else aj % by_
def Cfg.aX(c:Cfg)(aj:Int):Int:=yw aj c.aH
def Cfg.oD(c:Cfg):Int:=c.bg*c.dh
def Cfg.bV(c:Cfg)(a:Int):Int:=if a < 0∨c.oD<=a then -1 else a / c.dh
def Cfg.dw(c:Cfg)(a:Int):Int:=if a < 0∨c.oD<=a then 0 else a % c.dh
def Cfg.first(c:Cfg)(aj:Int):List Int:=
 if aj < 0∨c.bg<=aj then [] else(List.range c.dh.toNat).map λi=> c.init.getD ((aj*c.dh).toNat+i) 0
def Cfg.right(c:Cfg)(o:Opn):Bool:=decide (1<=o.aO) && decide (o.aO<=4) && decide (c.bV o.addr≠-1) && (decide (o.value=0) || decide (o.aO=2) || decide (o.aO=3))
def Cfg.Wq(c:Cfg)(ps:List (List Opn)):Bool:=(ps.all λl=> decide (l.length<=24) && l.all c.right) && decide ((ps.length:Int)=c.aH)
def oW(k:Int):Bool:=decide (1<=k) && decide (k<=6)
def BK(k:Int):Int:=if k=1 then 7 else if k=2∨k=4∨k=5 then 8 else if k=3∨k=6 then 9 else 0
def Pkt.ok(p:Pkt):Bool:=
 decide (0<=p.src) && decide (p.src < 6) && decide (0<=p.dst) && decide (p.dst < 6) && decide (0<=p.id) && decide (p.id < 4096) && decide (1<=p.aO) && decide (p.aO < 10) && decide (0<=p.aj) && decide (p.aj < 8) &&
 decide (-1<=p.ptr) && decide (p.ptr < 6) && decide (0<=p.aT) && decide (p.aT < 3) && decide (p.data.length<=4)
structure Cache where
 l:List Ent
 sets:Int
 ways:Int
 bZ:Int
def Cache.at_(c:Cache)(aj:Int):Option Nat:=c.l.findIdx? λe=> decide (e.aj=aj)
def Cache.oG(c:Cache)(aj:Int):List Ent:=c.l.filter λe=> decide (0<=aj) && decide (e.aj.tmod c.sets=aj.tmod c.sets)
def Cache.find(c:Cache)(aj:Int):Option Ent:=c.l.find? λe=> decide (e.aj=aj)
def Cache.full(c:Cache)(aj:Int):Bool:=(c.find aj).isNone && decide (c.ways<=(c.oG aj).length)
def Cache.put(c:Cache)(e:Ent):Cache × Int:=
 if e.aj < 0 then(c,1) else
 match c.at_ e.aj with
 | some i=> ({ c with l:=c.l.set i { e with used:=(c.l.getD i .zero).used } },0)
 | none=> if c.full e.aj then(c,5) else({ c with l:=c.l++[{ e with used:=c.bZ+1 }],bZ:=c.bZ+1 },0)
def Cache.drop(c:Cache)(aj:Int):Cache:=
 match c.at_ aj with
 | some i=> { c with l:=c.l.eraseIdx i }
 | none=> c
def Cache.touch(c:Cache)(aj:Int):Cache:=
 match c.at_ aj with
 | some i=> { c with l:=c.l.set i { c.l.getD i .zero with used:=c.bZ+1 },bZ:=c.bZ+1 }
 | none=> c
def nH:List Ent->Option Ent
 | []=> none
 | e::l=> some (l.foldl (λm x=> if x.used < m.used then x else m) e)
def Cache.nP(c:Cache)(aj:Int):Option Int:=(nH (c.oG aj)).map (·.aj)
structure Turns where
 fU:List (Int × Int)
 wait:List (Int × List (Int × Int))
def Turns.owner(t:Turns)(aj:Int):Int:=(jh t.fU aj).getD (-1)
def Turns.owned(t:Turns)(aj:Int):Bool:=(jh t.fU aj).isSome
def Turns.ws(t:Turns)(aj:Int):List (Int × Int):=(jh t.wait aj).getD []
def Turns.ask(t:Turns)(aj who id:Int):Turns × Bool:=
 if who < 0 then(t,false) else
 if t.owned aj || !(t.ws aj).isEmpty then({ t with wait:=lK t.wait aj (t.ws aj++[(who,id)]) },false)
 else({ t with fU:=lK t.fU aj who },true)
def Turns.release(t:Turns)(aj who:Int):Turns × Int:=
 if jh t.fU aj=some who then({ t with fU:=xY t.fU aj },0) else(t,6)
def Turns.next(t:Turns)(aj:Int):Turns × Option (Int × Int):=
 if t.owned aj then(t,none) else
 match t.ws aj with
 | []=> (t,none)
 | w::ws=> ({ fU:=lK t.fU aj w.1,wait:=lK t.wait aj ws },some w)
def Turns.ready(t:Turns)(keys:List Int):List Int:=keys.filter λaj=> !t.owned aj && !(t.ws aj).isEmpty
abbrev Rows:=List (Int × Row)
def iC(c:Cfg)(dD:Rows)(aj aT head:Int)(data:List Int):Rows × Int:=
 match jh dD aj with
 | none=> (dD,3)
 | some r=>
  if aT < 0∨2 < aT∨head < -1∨c.aH<=head then(dD,1)
  else if(decide (head=-1) !=decide (aT=0)) || (decide (data≠[]) && decide ((data.length:Int)≠c.dh)) then(dD,1)
  else(lK dD aj ⟨aT,head,if data=[] then r.data else data⟩,0)
structure Home where
 dD:Rows
 aP:Turns
def jc(dD:Rows)(aj:Int):Row:=(jh dD aj).getD .zero
def granted(dD:Rows)(bn aj who id:Int):Pkt:=⟨7,bn,who,id,aj,(jc dD aj).head,(jc dD aj).aT,false,(jc dD aj).data⟩
def Home.unlock(c:Cfg)(h:Home)(p:Pkt):Home × Int:=
 if h.aP.owner p.aj≠p.src then(h,6) else
 let r:=iC c h.dD p.aj p.aT p.ptr (if p.flag then p.data else [])
 if r.2=0 then(⟨r.1,(h.aP.release p.aj p.src).1⟩,(h.aP.release p.aj p.src).2) else(h,r.2)
def Home.handle(c:Cfg)(bn:Int)(h:Home)(p:Pkt):Home × Pkt × Bool × Int:=
 if !(p.ok && decide (p.dst=bn) && decide (p.src < c.aH)) || (decide (p.aO≠1) && decide (p.aO≠2)) then(h,.zero,false,1)
 else if c.aX p.aj≠bn∨c.bg<=p.aj then(h,.zero,false,3)
 else if p.aO=1 then
  let a:=h.aP.ask p.aj p.src p.id
  if a.2=true then({ h with aP:=a.1 },granted h.dD bn p.aj p.src p.id,true,0) else({ h with aP:=a.1 },.zero,false,0)
 else
  let u:=h.unlock c p
  if u.2=0 then(u.1,⟨8,bn,p.src,p.id,p.aj,0,0,false,[]⟩,true,0) else(u.1,.zero,false,u.2)
def fK(c:Cache)(p:Pkt):Cache × Pkt × Int:=
 if !p.ok || decide (p.aO < 3) || decide (6 < p.aO) then(c,.zero,1) else
 match c.find p.aj with
 | none=> (c,.zero,2+1)
 | some e=>
  let out:Pkt:=⟨BK p.aO,p.dst,p.src,p.id,p.aj,0,0,false,[]⟩
  if p.aO=3 then let r:=c.put { e with cO:=false,back:=p.ptr };(r.1,{ out with data:=e.data,flag:=e.cO },r.2)
  else if p.aO=4 then let r:=c.put { e with fwd:=p.ptr };(r.1,out,r.2)
  else if p.aO=5 then let r:=c.put { e with back:=p.ptr };(r.1,out,r.2)
  else(c.drop p.aj,{ out with data:=e.data,flag:=e.cO,ptr:=e.fwd },0)
def bJ.begin(aO aj id:Int):bJ:=⟨aO,aj,id,1,0,-1,[],-1,-1⟩
def zS(step:Int):Int:=if step=1 then 1 else if step=2 then 3 else if step=3 then 6 else if step=4 then 4 else if step=5 then 5 else if step=6 then 2 else 0
def bJ.ask(d:bJ)(bn home:Int):Pkt:=
 if d.step=1 then⟨1,bn,home,d.id,d.aj,0,0,false,[]⟩
 else if d.step=2 then⟨3,bn,d.head,d.id,d.aj,bn,0,false,[]⟩
 else if d.step=3 then⟨6,bn,d.next,d.id,d.aj,0,0,false,[]⟩
 else if d.step=4 then⟨4,bn,d.head,d.id,d.aj,d.next,0,false,[]⟩
 else if d.step=5 then⟨5,bn,d.next,d.id,d.aj,d.head,0,false,[]⟩
 else if d.step=6 then⟨2,bn,home,d.id,d.aj,d.head,d.aT,decide (d.data≠[]),d.data⟩
 else .zero
def bJ.fits(d:bJ)(p:Pkt):Bool:=
 decide (BK (zS d.step)≠0) && decide (p.aO=BK (zS d.step)) && decide (p.id=d.id) && decide (p.aj=d.aj)
abbrev Nxt:=Cache × bJ × Bool
def vN(c:Cache):Nxt:=(c,.zero,false)
def dQ(d:bJ)(bn:Int)(c:Cache)(p:Pkt):Nxt:=
 if d.aO≠1∨d.fits p=false then vN c
 else if d.step=1 then
  if p.aT≠0 then(c,{ d with aT:=p.aT,head:=p.ptr,told:=p.ptr,data:=p.data,step:=2 },true)
  else((c.put ⟨-1,-1,d.aj,0,false,p.data⟩).1,{ d with told:=p.ptr,step:=6,aT:=1,head:=bn,data:=[] },true)
 else if d.step=2 then
  ((c.put ⟨d.head,-1,d.aj,0,false,p.data⟩).1,{ d with step:=6,aT:=1,head:=bn,data:=if p.flag then p.data else [] },true)
 else if d.step=6 then(c,{ d with step:=0 },true)
 else vN c
def bT(d:bJ)(bn:Int)(c:Cache):Cache × bJ:=
 let d:bJ:=match c.find d.aj with
  | some own=> if d.next=bn then { d with next:=own.fwd } else d
  | none=> d
 if d.next≠-1 then(c,{ d with step:=3 })
 else((c.put ⟨-1,-1,d.aj,0,true,d.data⟩).1,{ d with step:=6,aT:=2,head:=bn,data:=[] })
def dS(d:bJ)(bn:Int)(c:Cache)(p:Pkt):Nxt:=
 if d.aO≠2∨d.fits p=false then vN c
 else if d.step=1 then
  let r:=bT { d with aT:=p.aT,head:=p.ptr,told:=p.ptr,data:=(match c.find d.aj with | some own=> own.data | none=> p.data),next:=p.ptr } bn c
  (r.1,r.2,true)
 else if d.step=3 then
  let r:=bT { d with data:=(match c.find d.aj with | some _=> d.data | none=> p.data),next:=p.ptr } bn c
  (r.1,r.2,true)
 else if d.step=6 then(c,{ d with step:=0 },true)
 else vN c
def gJ(d:bJ)(c:Cache)(head:Int):Nxt:=(c.drop d.aj,{ d with step:=6,aT:=1,head:=head,data:=[] },true)
def eF(d:bJ)(c:Cache)(p:Pkt):Nxt:=
 if d.aO≠3∨d.fits p=false then vN c
 else if d.step=1 then
  let d:bJ:={ d with aT:=p.aT,head:=p.ptr,told:=p.ptr,data:=[],step:=6 }
  match c.find d.aj with
  | none=> (c,d,true)
  | some e=>
   if e.back=-1/\e.fwd=-1 then(c.drop d.aj,{ d with aT:=0,head:=-1,data:=if e.cO then e.data else [] },true)
   else if e.back=-1 then(c,{ d with head:=-1,next:=e.fwd,step:=5 },true)
   else(c,{ d with head:=e.back,next:=e.fwd,step:=4 },true)
 else if d.step=4 then
  if d.next=-1 then gJ d c d.told else(c,{ d with step:=5 },true)
 else if d.step=5 then
  if d.head=-1 then gJ d c d.next else gJ d c d.told
 else if d.step=6 then(c,{ d with step:=0 },true)
 else vN c
structure Proc where
 ops:List Opn
 bf:List Int
 dU:Bool
def Proc.cur(p:Proc):Option Opn:=p.ops[p.bf.length]?
def Proc.left(p:Proc):Int:=(p.ops.length:Int) - p.bf.length
structure Port where
 rq:List Pkt
 rin:List Pkt
 an:List Pkt
 ain:List Pkt
def Port.sort(p:Port)(req:Bool):List Pkt:=if req then p.rq else p.an
def Port.pz(p:Port)(req:Bool):List Pkt:=if req then p.rin else p.ain
def Port.jE(p:Port)(req:Bool)(l:List Pkt):Port:=if req then { p with rq:=l } else { p with an:=l }
def Port.kL(p:Port)(req:Bool)(l:List Pkt):Port:=if req then { p with rin:=l } else { p with ain:=l }
def Port.zero:Port:=⟨[],[],[],[]⟩
structure Fab where
 out:Int
 inn:Int
 l:List Port
def Fab.is(f:Fab)(bn:Int):Bool:=decide (0<=bn) && decide (bn < f.l.length)
def Fab.port(f:Fab)(bn:Int):Port:=f.l.getD bn.toNat .zero
def Fab.room(f:Fab)(req:Bool):Int:=if req then f.inn else 1
def Fab.put(f:Fab)(bn:Int)(p:Port):Fab:={ f with l:=f.l.set bn.toNat p }
def Fab.send(f:Fab)(p:Pkt):Fab × Int:=
 if !p.ok || !f.is p.src || !f.is p.dst then(f,1) else
 if(f.out:Int)<=((f.port p.src).sort (oW p.aO)).length then(f,5)
 else(f.put p.src ((f.port p.src).jE (oW p.aO) ((f.port p.src).sort (oW p.aO)++[p])),0)
def Fab.jl(f:Fab):List (List Pkt):=f.l.flatMap λp=> [p.rq,p.an]
def Fab.all(f:Fab):List Pkt:=f.l.flatMap λp=> p.rq++p.an
def Fab.under(f:Fab):Nat:=f.all.length
def zT:List Port->Nat->Nat->Option (Nat × Bool × Nat)
 | [],_,_=> none
 | p::l,i,k=> if k < p.rq.length then some (i,true,k) else if k < p.rq.length+p.an.length then some (i,false,k - p.rq.length) else zT l (i+1) (k - (p.rq.length+p.an.length))
def Fab.take(f:Fab)(bn:Int)(req:Bool):Fab × Option Pkt:=
 if f.is bn then
  match(f.port bn).pz req with
  | []=> (f,none)
  | p::l=> (f.put bn ((f.port bn).kL req l),some p)
 else(f,none)
def Fab.waiting(f:Fab)(bn:Int)(req:Bool):Nat:=if f.is bn then((f.port bn).pz req).length else 0
def Fab.roomOf(f:Fab)(bn:Int)(req:Bool):Int:=if f.is bn then f.out - ((f.port bn).sort req).length else 0
open Go.ChangeShapes Go.WideShapes Go.ChangeAt Go.RowKit
abbrev ρ0:Ren:=λ_=> none
abbrev G0:Nat->Nat:=λ_=> 0
theorem YJ {w:World}(hg:abo ρ0 w):Rel ρ0 ah.empty w:=⟨λr _=> ⟨rfl,rfl⟩,λr b sh h=> (by cases h),λr r' b sh sh' h=> (by cases h),hg⟩
theorem YK {P:Program}{L:Pol}(hL:V9 P L)(hm:P.follows .mixedOrders=true){k:FuncId}{xs:List AV}{b:Bool}{H':ah}(h:callω P L k xs ah.empty=some (.s (.bool b),H')){W:World}{args:Array Value}(hg:abo ρ0 W)(ha:RVs ρ0 G0 W xs args.toList):
  Calls P k args W λe W'=> e=.returned (.bool b)/\Below W.heap.size W W':=by
 refine((callω_ok hL hm).1 k xs _ _ H' h ρ0 W args (YJ hg) ha).mono λe w' he=> ?_;obtain⟨cv,ρ',rfl,_,r2,r3⟩:=he;simp only [RV] at r2;subst r2;exact⟨rfl,r3.os,r3.tape,r3.output,r3.size,λk hk=> r3.frame k hk λr sh h=> (by cases h)⟩
section
variable {H:Type}{enc:TypeId × Value->H}{P:Program}
theorem zU(hl:laidOutB P=true){W W':World}(hb:Below W.heap.size W W'):∀{ts:List TypeId} {vs:List Value} {ds:List (DataW H)} {ps:List MemPlace},ts.all (λt=> P.readableRec t && decide (t < P.types.size))=true->
  DataW.TrodAll enc P W 0 (λ_=> true) true ts vs ds ps->(∀x∈ps,x.block < W.heap.size)->DataW.TrodAll enc P W' 0 (λb=> decide (b < W.heap.size)) true ts vs ds ps
 | [],vs,ds,ps,_,h,_=> by
  obtain⟨rfl,rfl,rfl⟩:=trodAll_nil h;exact trodAll_mk0
 | t::ts,vs,ds,ps,ht,h,hlt=> by
  simp only [zcT,zah,decide_eq_true_eq] at ht;obtain⟨v,vs',d,ds',p,q,rfl,rfl,rfl,h1,h2⟩:=trodAll_cons h;exact⟨p,q,Below.trod hl ht.1.1 ht.1.2 h1 hb λx hx=> hlt x (by simp [hx]),zU hl hb (by simpa using ht.2) h2 λx hx=> hlt x (by simp [hx]),rfl⟩
theorem YL {f:Func}{s:ChangeSpec}{W W':World}{args:Array Value}{ds gs:List (DataW H)}{before:List MemPlace}{tb:TypeId}(hl:laidOutB P=true)
  (hp:f.params.toList.all (λt=> P.readableRec t && decide (t < P.types.size))=true) (hr:f.resultTypes=#[tb]) (hb:P.underlying tb=some .bool)
  (hW:DataW.Whole enc P f.params.toList s.vars false W args.toList ds gs before) (hv:s.vars=[])
  (h1:(s.fn H ds).results=[.lit (.bool true)]) (h2:(s.fn H ds).args=ds) (h3:(s.fn H ds).vars=[]) (B:Below W.heap.size W W'):
  s.post enc P f false true false false W args (.bool true) W':=by
 have hlt:∀x∈before,x.block < W.heap.size:=λx hx=> hW.lt x hx;have hW':=hW;obtain⟨p,q,hA,hV,rfl,_,_⟩:=hW;rw [hv] at hV;obtain⟨rfl,rfl⟩:=trodVars_none hV;rw [za8] at hlt;refine⟨ds,[],p++[],[],p,[],hW',?_,?_,?_,B.frame _,λh=> by cases h⟩
 ·rw [za8,h1,hr];exact trodAll_mk1 (shut_bool hb true)
 ·rw [za8,h2];exact zU hl B hp hA hlt
 ·rw [za8,h3,hv];exact rfl
theorem Du {W:World}{k:IntKind}{n:Int}:RV ρ0 G0 W (.s (.int k n)) (.int k n):=by simp [RV]
theorem BL {W:World}{x:AV}{v:Value}{xs:List AV}{vs:List Value}(h:RV ρ0 G0 W x v)(h':RVs ρ0 G0 W xs vs):RVs ρ0 G0 W (x::xs) (v::vs):=by
 simp only [RVs];exact⟨v,vs,rfl,h,h'⟩
theorem apS {W:World}:RVs ρ0 G0 W [] []:=by simp only [RVs]
def ints(ks:List IntKind)(zs:List Int):List AV:=List.zipWith (λk z=> .s (.int k z)) ks zs
def YM(ks:List IntKind)(zs:List Int):List Value:=List.zipWith (λk z=> .int k z) ks zs
def ajx(P:Program)(e:TypeId)(ks:List IntKind):Prop:=
 ∀{H:Type} {enc:TypeId × Value->H} {W:World} {base:Nat} {sp:Nat->Bool} {held:Bool} {n:Nat} {cs:List Value} {y:DataW H × List MemPlace},DataW.trod enc P W base sp held n e cs=some y->
  ∃zs:List Int,zs.length=ks.length/\cs=YM ks zs/\∀(i:Nat) (k:IntKind) (z:Int),ks[i]?=some k->zs[i]?=some z->(Lit.int k z).wf=true
theorem ab7 {e:TypeId}{k:IntKind}(he:P.underlying e=some (.int k)):ajx P e [k]:=by
 intro H enc W base sp held n cs y h;obtain⟨z,rfl,rfl,hw⟩:=DataW.trod_int he h;refine⟨[z],rfl,rfl,λi k' z' h1 h2=> ?_⟩;cases i with
 | zero=> simp at h1 h2;subst h1;subst h2;exact hw
 | succ i=> simp at h1
theorem yS {ks:List IntKind}{zs:List Int}(h:zs.length=ks.length):(ints ks zs).length=ks.length:=by
 simp [ints,h]
theorem UG {W:World}:∀(ks:List IntKind) (zs:List Int),RVs ρ0 G0 W (ints ks zs) (YM ks zs)
 | [],zs=> by simp [ints,YM,RVs]
 | k::ks,[]=> by simp [ints,YM,RVs]
 | k::ks,z::zs=> by
  simp only [ints,YM,List.zipWith_cons_cons,RVs];exact⟨_,_,rfl,Du,UG ks zs⟩
structure YN(ks:List IntKind)(av:AV)(l:List (List Int)):Prop where
 is:aN ah.empty av ks.length l.length (l.flatMap (ints ks))
 len:∀zs∈l,zs.length=ks.length
 wf:∀zs∈l,∀(i:Nat) (k:IntKind) (z:Int),ks[i]?=some k->zs[i]?=some z->(Lit.int k z).wf=true
theorem yT {ks:List IntKind}:∀{l:List (List Int)},(∀zs∈l,zs.length=ks.length)->(l.flatMap (ints ks)).length=l.length*ks.length
 | [],_=> by simp
 | zs::l,h=> by
  rw [zaE,zao,yS (h zs (by simp)),yT λz hz=> h z (by simp [hz]),zal,zbB];omega
theorem YO {t e:TypeId}{ks:List IntKind}(ht:P.underlying t=some (.slice e))(hc:P.cellsOf e=ks.length)(hF:ajx P e ks){W:World}{r:Reach}{b0 base:Nat}{sp:Nat->Bool}{held:Bool}{v:Value}{fuel:Nat}{y:DataW H × List MemPlace}
  (hval:Cell.okWide P W r b0 t v) (h:DataW.trod enc P W base sp held fuel t [v]=some y):∃(av:AV) (l:List (List Int)),RV ρ0 G0 W av v/\YN ks av l/\av.aQ=true:=by
 rcases DataW.trod_slice ht h with⟨h0,_⟩ | ⟨a,len,cap,elems,rest,n,_,hv,_,hb,hl,hm,hlen,hel,_,_⟩
 ·have h0:v=.slice none 0 0:=by simpa using h0
  subst h0;exact⟨.s (.slice none 0 0),[],by simp [RV],⟨⟨by simp,rfl,rfl,rfl⟩,by simp,by simp⟩,rfl⟩
 ·have hv:v=.slice (some a) len cap:=by simpa using hv
  subst hv;simp only [Cell.okWide,ht,Cell.ok] at hval;obtain⟨_,_,_,hspot,row,cells,hsh,_⟩:=hval;obtain⟨b,o,spot⟩:=a;simp only at hspot;subst hspot;have hrow:∀i,∃zs:List Int,i < len->zs.length=ks.length/\(∀(j:Nat) (k:IntKind) (z:Int),ks[j]?=some k->zs[j]?=some z->(Lit.int k z).wf=true)/\RVc ρ0 G0 W (ints ks zs) b (o+i*ks.length):=by
   intro i;by_cases hi:i < len
   ·have:=hel i hi;rw [zab (by omega)] at this;obtain⟨cs,hcs,htr⟩:=Option.bind_eq_some_iff.1 this;obtain⟨zs,z1,z2,z3⟩:=hF htr;refine⟨zs,λ_=> ⟨z1,z3,qh λj x hx=> ?_⟩⟩;obtain⟨_,c1,c2⟩:=World.cells?_some hcs;have hj:j < ks.length:=by
     have:=(zai.1 hx).1
     rwa [yS z1] at this
    have hc2:=c2 j (by rw [hc];exact hj);obtain⟨u,hu,hrv⟩:=jH (UG (W:=W) ks zs) hx;refine⟨u,?_,hrv⟩;rw [z2,hu] at hc2;rw [<-hc2,hc]
    congr 1
    unfold Addr.add;by_cases h1:i*ks.length=0
    ·rw [if_pos h1,h1];by_cases h2:j=0
     ·rw [if_pos h2,h2];rfl
     ·rw [if_neg h2];rfl
    ·rw [if_neg h1];by_cases h2:j=0
     ·rw [if_pos h2,h2];rfl
     ·rw [if_neg h2]
   ·exact⟨[],λh=> absurd h hi⟩
  obtain⟨f,hf⟩:=Classical.axiomOfChoice hrow;have hl1:∀zs∈(List.range len).map f,zs.length=ks.length:=by
   intro zs hz;obtain⟨i,hi,rfl⟩:=zaG.1 hz;exact(hf i (za4.1 hi)).1
  have hcells:∀m s,s+m<=len->RVc ρ0 G0 W (((List.range' s m).map f).flatMap (ints ks)) b (o+s*ks.length):=by
   intro m
   induction m with
   | zero=> intro s _;simp [RVc]
   | succ m ih=>
    intro s hs;rw [zdc,zaz,zaE];refine VN (hf s (by omega)).2.2 ?_;rw [yS (hf s (by omega)).1];have:=ih (s+1) (by omega)
    rwa [zbB,<-zb1] at this
  refine⟨.vs len ks.length (((List.range len).map f).flatMap (ints ks)),(List.range len).map f,?_,⟨?_,hl1,λzs hz=> ?_⟩,rfl⟩
  ·simp only [RV];refine⟨b,o,cap,rfl,hl,?_,Fg hsh,λr sh h=> (by cases h),?_⟩
   ·rw [yT hl1];simp
   ·have:=hcells len 0 (by omega);rw [zcR]
    simpa using this
  ·have:=aN.vs (H:=ah.empty) (m:=ks.length) (n:=len) (cs:=((List.range len).map f).flatMap (ints ks)) (by rw [yT hl1];simp)
   simpa using this
  ·obtain⟨i,hi,rfl⟩:=zaG.1 hz;exact(hf i (za4.1 hi)).2.1
theorem RQ {t:TypeId}{fs:Array Field}{ts:List TypeId}(ht:P.underlying t=some (.struct fs))(hts:P.cellTypes P.depth t=some ts)(hfs:fs.toList.map (λ(f:Field)=> (f.type,f.offset))=ts.zipIdx)
  (hc:∀u∈ts,P.cellsOf u=1) (hct:P.cellsOf t=ts.length) {W:World} {r:Reach} {b0 base:Nat} {sp:Nat->Bool} {held:Bool} {v:Value} {d:DataW H} {ps:List MemPlace}
  (hval:Value.okWide P W r b0 t v) (h:DataW.Trod enc P W base sp held t v d ps):
  ∃cs:Array Value,v=.agg cs/\cs.size=ts.length/\∀(i:Nat) (u:TypeId),ts[i]?=some u->∃(c:Value) (n:Nat) (y:DataW H × List MemPlace),cs[i]?=some c/\Cell.okWide P W r b0 u c/\DataW.trod enc P W base sp held n u [c]=some y:=by
 unfold Value.okWide at hval;rw [ht] at hval;obtain⟨cs,rfl,hsz,ts',apT,_,hrow⟩:=hval;rw [hts] at apT;cases apT;obtain⟨fuel,hf⟩:=h;obtain⟨xs,n,_,_,hl,hx,hr⟩:=DataW.trod_struct ht hf;have hfl:fs.size=ts.length:=by
  have:=congrArg List.length hfs
  simpa using this
 have hget:∀(i:Nat) (u:TypeId),ts[i]?=some u->∃f:Field,fs[i]?=some f/\f.type=u/\f.offset=i:=by
  intro i u hu;have hi:i < ts.length:=(zai.1 hu).1;have hfi:fs[i]?=some (fs[i]'(by omega)):=zbH _;have h1:(fs.toList.map (λ(f:Field)=> (f.type,f.offset)))[i]?=some ((fs[i]'(by omega)).type,(fs[i]'(by omega)).offset):=by
   rw [zaM];simp [hfi]
  rw [hfs,List.getElem?_zipIdx,hu] at h1;simp at h1;exact⟨_,hfi,h1.1.symm,h1.2.symm⟩
 have each:∀(i:Nat) (u:TypeId),ts[i]?=some u->∃c y,cs[i]?=some c/\DataW.trod enc P W base sp held n u [c]=some y:=by
  intro i u hu;obtain⟨f,h1,h2,h3⟩:=hget i u hu;have hi:i < ts.length:=(zai.1 hu).1;have:=hr i f h1;rw [h2,h3,hc u (zav hu),zab (show i < xs.length by omega)] at this;have hlt0:i < cs.size:=by rw [hsz,hct];exact hi
  cases hci:cs[i]? with
  | none=> rw [zbH hlt0] at hci;cases hci
  | some c=>
   have hlt:i < cs.size:=by
    rcases zaT i cs.size with h5 | h5
    ·exact h5
    ·rw [zcI h5] at hci;cases hci
   have h5:(((Value.agg cs).cells.toList.drop i).take 1)=[c]:=by
    have hcl:cs.toList[i]?=some c:=by simpa using hci
    show(cs.toList.drop i).take 1=[c]
    rw [zby (by simpa using hlt)];rw [zab (by simpa using hlt)] at hcl;simp at hcl;simp [hcl]
   rw [h5] at this;exact⟨c,_,rfl,this⟩
 refine⟨cs,rfl,?_,λi u hu=> ?_⟩
 ·rw [hsz,hct]
 ·obtain⟨c,y,h1,h2⟩:=each i u hu;obtain⟨u',h3,h4⟩:=hrow i c h1;have hi:i < ts.length:=(zai.1 hu).1;rw [zch hi,hu] at h3;cases h3;exact⟨c,n,y,h1,h4,h2⟩
structure Gq(k:IntKind)(av:AV)(zs:List Int):Prop where
 is:aN ah.empty av 1 zs.length (zs.map λz=> .s (.int k z))
 wf:∀z∈zs,(Lit.int k z).wf=true
 cell:av.aQ=true
theorem OY {k:IntKind}:∀(l:List (List Int)),(∀zs∈l,zs.length=1)->l.flatMap (ints [k])=(l.map (λzs=> zs.headD 0)).map λz=> .s (.int k z)
 | [],_=> rfl
 | zs::l,h=> by
  have h1:=h zs (by simp);rw [zaE,OY l λz hz=> h z (by simp [hz])];cases zs with
  | nil=> simp at h1
  | cons z zs=>
   cases zs with
   | nil=> rfl
   | cons _ _=> simp at h1
theorem YN.ints {k:IntKind}{av:AV}{l:List (List Int)}(h:YN [k] av l)(hc:av.aQ=true):Gq k av (l.map λzs=> zs.headD 0):=by
 refine⟨?_,λz hz=> ?_,hc⟩
 ·have:=h.is;rw [OY l h.len] at this
  simpa using this
 ·obtain⟨zs,hzs,rfl⟩:=zaG.1 hz;have h1:=h.len zs hzs;cases zs with
  | nil=> simp at h1
  | cons z zs=> exact h.wf _ hzs 0 k z rfl rfl
structure mG where
 aH:Int
 bg:Int
 dh:Int
 sets:Int
 ways:Int
 out:Int
 inn:Int
 init:AV
 who:AV
 kinds:AV
 oD:AV
 bf:AV
def mG.cells(s:mG):List AV:=
 [.s (.int .i64 s.aH),.s (.int .i64 s.bg),.s (.int .i64 s.dh),.s (.int .i64 s.sets),.s (.int .i64 s.ways),.s (.int .i64 s.out),.s (.int .i64 s.inn),s.init,s.who,s.kinds,s.oD,s.bf]
abbrev vT(z:Int):Prop:=-9223372036854775808<=z/\z<=9223372036854775807
theorem anI {z:Int}(h:(Lit.int .i64 z).wf=true):vT z:=by
 simp [Lit.wf,IntKind.min,IntKind.max,IntKind.signed,IntKind.bits] at h;exact⟨by omega,by omega⟩
structure mG.Ok(s:mG)(zi zw zk za zv:List Int):Prop where
 aH:vT s.aH
 bg:vT s.bg
 dh:vT s.dh
 sets:vT s.sets
 ways:vT s.ways
 out:vT s.out
 inn:vT s.inn
 init:Gq .i64 s.init zi
 who:Gq .i64 s.who zw
 kinds:Gq .i64 s.kinds zk
 oD:Gq .i64 s.oD za
 bf:Gq .i64 s.bf zv
theorem Ws {t ti sl e:TypeId}{fs:Array Field}(ht:P.underlying t=some (.struct fs))(hts:P.cellTypes P.depth t=some [ti,ti,ti,ti,ti,ti,ti,sl,sl,sl,sl,sl])
  (hfs:fs.toList.map (λ(f:Field)=> (f.type,f.offset))=[ti,ti,ti,ti,ti,ti,ti,sl,sl,sl,sl,sl].zipIdx) (hct:P.cellsOf t=12) (hti:P.underlying ti=some (.int .i64)) (hci:P.cellsOf ti=1)
  (hsl:P.underlying sl=some (.slice e)) (hcs:P.cellsOf sl=1) (hee:P.underlying e=some (.int .i64)) (hce:P.cellsOf e=1)
  {W:World} {r:Reach} {b0 base:Nat} {sp:Nat->Bool} {held:Bool} {v:Value} {d:DataW H} {ps:List MemPlace} (hval:Value.okWide P W r b0 t v) (h:DataW.Trod enc P W base sp held t v d ps):
  ∃(s:mG) (zi zw zk za zv:List Int),RV ρ0 G0 W (.agg s.cells) v/\s.Ok zi zw zk za zv:=by
 obtain⟨cs,rfl,hsz,each⟩:=RQ ht hts hfs (λu hu=> by
  simp only [zaj,zaw,or_false] at hu;rcases hu with rfl | rfl | rfl | rfl | rfl | rfl | rfl | rfl | rfl | rfl | rfl | rfl <;> assumption) hct hval h
 have num:∀i:Nat,[ti,ti,ti,ti,ti,ti,ti,sl,sl,sl,sl,sl][i]?=some ti->∃z,cs[i]?=some (.int .i64 z)/\vT z:=by
  intro i hi;obtain⟨c,n,y,h1,_,h3⟩:=each i ti hi;obtain⟨z,hz,_,hw⟩:=DataW.trod_int hti h3;simp at hz;subst hz;exact⟨z,h1,anI hw⟩
 have row:∀i:Nat,[ti,ti,ti,ti,ti,ti,ti,sl,sl,sl,sl,sl][i]?=some sl->∃c av zs,cs[i]?=some c/\RV ρ0 G0 W av c/\Gq .i64 av zs:=by
  intro i hi;obtain⟨c,n,y,h1,h2,h3⟩:=each i sl hi;obtain⟨av,l,r1,r2,r3⟩:=YO hsl (ks:=[.i64]) hce (ab7 hee) h2 h3;exact⟨c,av,_,h1,r1,r2.ints r3⟩
 obtain⟨z0,a0,w0⟩:=num 0 rfl;obtain⟨z1,a1,w1⟩:=num 1 rfl;obtain⟨z2,a2,w2⟩:=num 2 rfl;obtain⟨z3,a3,w3⟩:=num 3 rfl;obtain⟨z4,a4,w4⟩:=num 4 rfl;obtain⟨z5,a5,w5⟩:=num 5 rfl;obtain⟨z6,a6,w6⟩:=num 6 rfl;obtain⟨c7,v7,l7,a7,r7,o7⟩:=row 7 rfl;obtain⟨c8,v8,l8,a8,r8,o8⟩:=row 8 rfl;obtain⟨c9,v9,l9,a9,r9,o9⟩:=row 9 rfl;obtain⟨c10,v10,l10,a10,r10,o10⟩:=row 10 rfl;obtain⟨c11,v11,l11,a11,r11,o11⟩:=row 11 rfl;have hcs:cs.toList=[.int .i64 z0,.int .i64 z1,.int .i64 z2,.int .i64 z3,.int .i64 z4,.int .i64 z5,.int .i64 z6,c7,c8,c9,c10,c11]:=by
  apply zbf
  intro i;rcases zaT i 12 with hi | hi
  ·have:i=0∨i=1∨i=2∨i=3∨i=4∨i=5∨i=6∨i=7∨i=8∨i=9∨i=10∨i=11:=by omega
   rcases this with rfl | rfl | rfl | rfl | rfl | rfl | rfl | rfl | rfl | rfl | rfl | rfl <;> simp [a0,a1,a2,a3,a4,a5,a6,a7,a8,a9,a10,a11]
  ·have h1:cs.toList.length=12:=by simpa using hsz
   rw [zaH (by omega),zaH (by simpa using hi)]
 refine⟨⟨z0,z1,z2,z3,z4,z5,z6,v7,v8,v9,v10,v11⟩,l7,l8,l9,l10,l11,?_,⟨w0,w1,w2,w3,w4,w5,w6,o7,o8,o9,o10,o11⟩⟩;simp only [RV,mG.cells];refine⟨cs,rfl,?_⟩;rw [hcs];exact BL Du (BL Du (BL Du (BL Du (BL Du (BL Du (BL Du (BL r7 (BL r8 (BL r9 (BL r10 (BL r11 apS)))))))))))
end
open Go.RowKit
variable {P:Program}{ρ:Ren}{H:ah}{w w':World}
theorem Jv {f:FuncId}{p:List AV->ah->Option (AV × ah)}
  (h:∀args H v H',p args H=some (v,H')->∀(ρ:Ren) (w:World) (kT:Array Value),Rel ρ H w->RVs ρ H.gen w args kT.toList->
   Calls P f kT w λe w'=>∃cv ρ',e=.returned cv/\Rel ρ' H' w'/\RV ρ' H'.gen w' v cv/\Ext ρ H w ρ' H' w'):qP P (λg args H=> if g=f then p args H else none):=by
 intro g args H v H' he ρ w kT R ha;simp only at he;split at he
 ·rename_i e;subst e;exact h args H v H' he ρ w kT R ha
 ·cases he
theorem Gs(R:Rel ρ H w)(B:Below w.heap.size w w'):Rel ρ H w'/\Ext ρ H w ρ H w':=by
 have E:Ext ρ H w ρ H w':=⟨zac _,λ_=> zac _,λ_ _ h _=> h,λ_ _ h=> h,λ_ _ sh h=> .inr ⟨sh,h⟩,B.size,λb hb _=> B.block b hb,λb hb=> by rw [fC,fC,B.block b hb],B.os,B.tape,B.output⟩
 exact⟨⟨R.out,λr b sh h=> yG.mono E.toMono (B.block b (R.block h)) (R.obj r b sh h),R.inj,R.gl.ext E⟩,E⟩
theorem OZ(R:Rel ρ H w){b:Nat}(hb:w.heap.size<=b):Imm ρ b:=λr sh h=> by
 have:=R.block h;omega
theorem RS {G:Nat->Nat}{x:AV}{kT:Array Value}(h:RVs ρ G w [x] kT.toList):∃c,kT=#[c]/\RV ρ G w x c:=by
 obtain⟨cx,l,e,h1,h2⟩:=(by simpa only [RVs] using h)
 subst h2;exact⟨cx,zcg.1 (by simpa using e),h1⟩
def ajy:AV:=.s (.slice none 0 0)
def YP(ks:List Int):AV:=if ks=[] then ajy else .vs ks.length 1 ((ks.mergeSort λx y=> decide (x<=y)).map λn=> .s (.int .i64 n))
def BM(kf vf:List Nat)(args:List AV)(H:ah):Option (AV × ah):=
 match args with
 | [.fn (.func f) [] [.ref r g 0]]=>
  match H.get r with
  | .blk g' ty [.mp m]=> match H.get m with
   | .map .i64 es=> if g'=g/\ty < gQ/\f≠0/\f∈kf/\(es.map (·.1)).Nodup/\(es.all λe=> (Lit.int .i64 e.1).wf)=true/\es.length<=1000000 then some (YP (es.map (·.1)),H) else none
   | _=> none
  | .blk g' ty [.s (.slice none 0 0)]=> if g'=g/\ty < gQ/\f≠0/\f∈vf then some (ajy,H) else none
  | _=> none
 | _=> none
structure Node where
 aI:Cache
 bG:Proc
 home:Home
 aF:bJ
 num:Int
structure bW where
 c:Cfg
 aH:List Node
 fab:Fab
 trace:List Evn
def Cfg.nR(c:Cfg)(me:Int):Nat->Rows
 | 0=> []
 | n+1=> if c.aX n=me then lK (c.nR me n) n ⟨0,-1,c.first n⟩ else c.nR me n
def Home.new(c:Cfg)(me:Int):Home:=⟨c.nR me c.bg.toNat,⟨[],[]⟩⟩
def Node.new(c:Cfg)(me:Int)(l:List Opn):Node:=⟨⟨[],c.sets,c.ways,0⟩,⟨l,[],false⟩,.new c me,.zero,0⟩
def Fab.new(c:Cfg):Fab:=⟨c.out,c.inn,List.replicate c.aH.toNat .zero⟩
def bW.new(c:Cfg)(ps:List (List Opn)):bW:=⟨c,ps.mapIdx λi l=> .new c i l,.new c,[]⟩
structure iq where
 owner:List (Int × Int)
 wait:List (Int × Int × Int)
structure iO where
 dD:List Row
 aP:iq
structure jQ where
 aI:Cache
 homes:iO
 ops:List Opn
 dU:Bool
 bf:List Int
 has:Bool
 aF:bJ
 num:Int
structure kM where
 c:Cfg
 fab:List Port
 aH:List jQ
 ev:List Evn
def iO.new(c:Cfg):iO:=⟨(List.range c.bg.toNat).map λ(i:Nat)=> (⟨0,-1,c.first (i:Int)⟩:Row),⟨[],[]⟩⟩
def jQ.new(c:Cfg)(l:List Opn):jQ:=⟨⟨[],c.sets,c.ways,0⟩,.new c,l,false,[],false,.zero,0⟩
def kM.new(c:Cfg)(ps:List (List Opn)):kM:=⟨c,List.replicate c.aH.toNat .zero,ps.map (.new c),[]⟩
inductive zV {α:Type} (R:α->List AV->Prop):List α->List AV->Prop
 | nil:zV R [] []
 | cons {a:α} {l:List α} {cs cells:List AV}:R a cs->zV R l cells->zV R (a::l) (cs++cells)
section
variable {α:Type}{R:α->List AV->Prop}{l:List α}{cells:List AV}
theorem zV.length {m:Nat}(hm:∀a cs,R a cs->cs.length=m)(h:zV R l cells):cells.length=l.length*m:=by
 induction h with
 | nil=> simp
 | cons h1 _ ih=> rw [zao,hm _ _ h1,ih,zal,zbB,Nat.add_comm]
theorem zV.all(hm:∀a cs,R a cs->cs.all AV.aQ=true)(h:zV R l cells):cells.all AV.aQ=true:=by
 induction h with
 | nil=> rfl
 | cons h1 _ ih=> rw [zb5,hm _ _ h1,ih];rfl
theorem zV.append {l':List α}{cells':List AV}(h:zV R l cells)(h':zV R l' cells'):zV R (l++l') (cells++cells'):=by
 induction h with
 | nil=> exact h'
 | cons h1 _ ih=> rw [zbb,za5];exact .cons h1 ih
theorem zV.one {a:α}{cs:List AV}(h:R a cs):zV R [a] cs:=by
 have:=zV.cons h (zV.nil (R:=R))
 rwa [za8] at this
theorem zV.mono {R':α->List AV->Prop}(hr:∀a cs,a∈l->R a cs->R' a cs)(h:zV R l cells):zV R' l cells:=by
 induction h with
 | nil=> exact .nil
 | cons h1 _ ih=> exact .cons (hr _ _ (by simp) h1) (ih λa cs ha=> hr a cs (by simp [ha]))
theorem zV.get {m:Nat}(hm:∀a cs,R a cs->cs.length=m)(h:zV R l cells):∀{i:Nat} {a:α},l[i]?=some a->R a ((cells.drop (i*m)).take m):=by
 induction h with
 | nil=> intro i a hi;simp at hi
 | cons h1 _ ih=>
  intro i a hi;have hl:=hm _ _ h1;cases i with
  | zero=>
   simp only [zaR,zaa] at hi;subst hi;rw [zbo,zaP,zbM (by omega),zaA (by omega)];exact h1
  | succ i=>
   rw [zbB,zdd,zaQ (by omega),zaK,hl,Nat.add_sub_cancel];exact ih (by simpa using hi)
theorem zV.plain {enc:α->List AV}:∀l:List α,zV (λa cs=> cs=enc a) l (l.flatMap enc)
 | []=> .nil
 | a::l=> .cons rfl (zV.plain l)
theorem zV.of {enc:α->List AV}(hr:∀a,a∈l->R a (enc a)):zV R l (l.flatMap enc):=
 (zV.plain (enc:=enc) l).mono λa cs ha (h:cs=enc a)=> by rw [h];exact hr a ha
end
def Pkt.avx(p:Pkt)(x:AV):List AV:=[I p.aO,I p.src,I p.dst,I p.id,I p.aj,I p.ptr,I p.aT,B p.flag,x]
def Ent.avx(e:Ent)(x:AV):List AV:=[I e.fwd,I e.back,I e.aj,I e.used,B e.cO,x]
def Row.avx(r:Row)(x:AV):List AV:=[I r.aT,I r.head,x]
def bJ.avx(d:bJ)(x:AV):List AV:=[I d.aO,I d.aj,I d.id,I d.step,I d.aT,I d.head,x,I d.next,I d.told]
def sW(g:bD)(x:AV)(l:List Int):Prop:=x=dat l∨∃q ex,l≠[]/\x=.sl q 0 0 1 l.length l.length ex/\g q=some (l.map λn=> .av (I n))
def agI(cs:List Cell):Prop:=∃c∈cs,∀n,c≠.av (I n)
section
variable {b:Nat}{H:ah}{g g':bD}{x:AV}{l:List Int}
theorem sW.dat:sW g (dat l) l:=.inl rfl
theorem sW.one(h:sW g x l):One x:=by
 rcases h with rfl | ⟨q,ex,_,rfl,_⟩
 ·exact rW
 ·exact vJ
theorem sW.sub(h:sW g x l)(hg:∀q cs,g q=some cs->¬agI cs->g' q=some cs):sW g' x l:=by
 rcases h with rfl | ⟨q,ex,h0,rfl,h⟩
 ·exact .inl rfl
 ·refine .inr ⟨q,ex,h0,rfl,hg _ _ h λ⟨c,hc,hn⟩=> ?_⟩;obtain⟨n,_,rfl⟩:=zaG.1 hc;exact hn n rfl
theorem sW.upd {q:Nat}{cs cs':List Cell}(h:sW g x l)(hq:g q=some cs)(hn:agI cs):sW (upd g q cs') x l:=
 h.sub λq' ds h1 h2=> by
  rw [bH];exact h1;intro e;subst e;rw [hq] at h1;cases h1;exact h2 hn
theorem sW.nil(h:sW g x l)(h0:l=[]):x=zN:=by
 rcases h with rfl | ⟨q,ex,h1,_⟩
 ·rw [h0,Proofs.YtljogojaihgdlaaGreat.dat,gI]
 ·exact absurd h0 h1
theorem sW.is(G:Good b H g)(h:sW g x l):aN H x 1 l.length (l.map I):=by
 rcases h with rfl | ⟨q,ex,_,rfl,h⟩
 ·exact nN H l
 ·obtain⟨_,τ,hR⟩:=G;have R:=hR q _ h;obtain⟨ty,xs,h1,h2,h3,h4⟩:=R.blk;have:xs=l.map I:=by
   apply zbf
   intro i;rcases zaT i l.length with hi | hi
   ·have hx:xs[i]?=some (xs[i]'(by simp at h2;omega)):=zab _;have:=h4 i (.av (I l[i])) _ (by simp [hi]) hx;simp only [CR] at this;rw [hx,this];simp [hi]
   ·rw [zaH (by simp at h2;omega),zaH (by simp;omega)]
  subst this;exact⟨by simp,rfl,rfl,⟨R.hi,zac _⟩,ty,_,h1,by simp,by simp [zaA]⟩
end
def aql(g:bD)(p:Pkt)(cs:List AV):Prop:=∃x,sW g x p.data/\cs=p.avx x
def aqm(g:bD)(e:Ent)(cs:List AV):Prop:=∃x,sW g x e.data/\cs=e.avx x
def aqn(g:bD)(r:Row)(cs:List AV):Prop:=∃x,sW g x r.data/\cs=r.avx x
def anJ(g:bD)(d:bJ)(cs:List AV):Prop:=∃x,sW g x d.data/\cs=d.avx x
def YQ(c:Cache)(cells:List AV):List Cell:=[.av (I c.sets),.av (I c.ways),.av (I c.bZ),.seq 6 cells]
def YR(c:Cfg)(me:Int)(dD:List AV)(t:iq):List Cell:=c.av.map .av++[.av (I me),.seq 3 dD,.seq 2 (t.owner.flatMap λe=> [I e.1,I e.2]),.seq 3 (t.wait.flatMap λe=> [I e.1,I e.2.1,I e.2.2])]
def aeP(a:Nat->Nat)(c:Cfg)(me:Int)(n:jQ)(d:List AV):List Cell:=
 c.av.map .av++[.av (I me),.av (.ref (a 1) 0 0),.av (.ref (a 2) 0 0),.seq 3 (n.ops.flatMap Opn.av),.av (B n.dU),.seq 1 (n.bf.map I),.av (B n.has)]++d.map .av++[.av (I n.num)]
def anK(c:Cfg)(ls:List (List AV)):List Cell:=c.av.map .av++[.aew 4 9 ls]
def ajz(f:Nat)(N:Nat->Nat->Nat)(c:Cfg)(n:Nat)(ev:List Evn):List Cell:=c.av.map .av++[.av (.ref f 0 0),.seq 1 ((List.range n).map λi=> .ref (N i 0) 0 0),.seq 4 (ev.flatMap Evn.av)]
structure BN(g:bD)(a:Nat->Nat)(c:Cfg)(me:Int)(n:jQ):Prop where
 bn:∃d,anJ g n.aF d/\g (a 0)=some (aeP a c me n d)
 aI:∃cells,zV (aqm g) n.aI.l cells/\g (a 1)=some (YQ n.aI cells)
 homes:∃dD,zV (aqn g) n.homes.dD dD/\g (a 2)=some (YR c me dD n.homes.aP)
def aqo(N:Nat->Nat->Nat)(n:Nat):Prop:=∀i j s t,i < n->j < n->s < 3->t < 3->N i s=N j t->i=j/\s=t
def ajA(p:Port):List (List Pkt):=[p.rq,p.an,p.rin,p.ain]
structure RU(g:bD)(q f:Nat)(N:Nat->Nat->Nat)(m:kM):Prop where
 zW:g q=some (ajz f N m.c m.aH.length m.ev)
 fab:∃ls:List (List AV),g f=some (anK m.c ls)/\ls.length=4*m.fab.length/\∀(i:Nat) l cells,(m.fab.flatMap ajA)[i]?=some l->ls[i]?=some cells->zV (aql g) l cells
 bn:∀(i:Nat) n,m.aH[i]?=some n->BN g (N i) m.c i n
 inj:aqo N m.aH.length
def Dv(x:Int):List Int->List Int
 | []=> [x]
 | y::rp=> if x < y then y::Dv x rp else x::y::rp
def srt:List Int->List Int->List Int
 | rp,[]=> rp.reverse
 | rp,x::l=> srt (Dv x rp) l
def Ent.word(e:Ent)(w:Int):Int:=if 0<=w/\w < e.data.length then e.data.getD w.toNat 0 else 0
def Ent.write(e:Ent)(w v:Int):Ent:=if e.cO=true/\0<=w/\w < e.data.length then { e with data:=e.data.set w.toNat v } else e
def Home.ready(h:Home):List Int:=h.aP.ready (srt [] (h.aP.wait.map (·.1)))
def Home.grant(bn:Int)(h:Home):Home × Pkt × Bool:=
 match h.ready with
 | []=> (h,.zero,false)
 | aj::_=> match h.aP.next aj with
  | (t,some w)=> ({ h with aP:=t },granted h.dD bn aj w.1 w.2,true)
  | (_,none)=> (h,.zero,false)
def Proc.idx(p:Proc):Int:=match p.cur with
 | some _=> p.bf.length
 | none=> 0
def Proc.op(p:Proc):Opn:=p.cur.getD .zero
def Proc.yx(p:Proc)(v:Int):Proc:=if p.dU then⟨p.ops,p.bf++[v],false⟩ else p
def Proc.zX(p:Proc):Proc:=if p.dU=true∨p.cur=none then p else { p with dU:=true }
abbrev NT:=Node × List Evn
def Node.done(me:Int)(n:Node)(t:List Evn)(v:Int):NT:=({ n with bG:=n.bG.yx v },t++[⟨me,n.bG.idx,true,v⟩])
def eH(e:Ent)(o:Opn)(w:Int):Ent:=if o.aO=2 then e.write w o.value else if o.aO=3 then e.write w (w64 (e.word w+o.value)) else e
def Node.effect(c:Cfg)(me:Int)(n:Node)(t:List Evn):NT:=
 let o:=n.bG.op;let e:=(n.aI.find (c.bV o.addr)).getD .zero;let n':={ n with aI:=(n.aI.put (eH e o (c.dw o.addr))).1 }
 n'.done me t (if o.aO=2 then 0 else e.word (c.dw o.addr))
def Node.ab8(c:Cfg)(me:Int)(n:Node)(f:Fab):Fab:=(f.send (n.aF.ask me (c.aX n.aF.aj))).1
def Node.after(me:Int)(n:Node)(p:Pkt):Nxt:=
 if n.aF.aO=1 then dQ n.aF me n.aI p else if n.aF.aO=2 then dS n.aF me n.aI p else if n.aF.aO=3 then eF n.aF n.aI p else vN n.aI
abbrev NFT:=Node × Fab × List Evn
def Node.answered(c:Cfg)(me:Int)(n:Node)(f:Fab)(t:List Evn)(p:Pkt):NFT:=
 match n.after me p with
 | (ca,d,ok)=>
  if ok=false then({ n with aI:=ca },f,t) else
  let n:={ n with aI:=ca,aF:=d }
  if d.step=0 then(if d.aO=3/\n.bG.op.aO=4 then((n.done me t 0).1,f,(n.done me t 0).2) else(n,f,t))
  else
   let nt:=if d.step=6/\d.aO≠3 then n.effect c me t else(n,t)
   (nt.1,nt.1.ab8 c me f,nt.2)
def Node.begin_(c:Cfg)(me:Int)(n:Node)(f:Fab)(aO aj:Int):Node × Fab:=
 let n:={ n with aF:=.begin aO aj n.num,num:=(n.num+1).tmod 4096 }
 (n,n.ab8 c me f)
def Node.asked(c:Cfg)(me:Int)(n:Node)(f:Fab)(p:Pkt):Node × Fab:=
 if p.aO=1∨p.aO=2 then
  match n.home.handle c me p with
  | (h,out,ok,e)=> ({ n with home:=h },if ok=true/\e=0 then(f.send out).1 else f)
 else
  match fK n.aI p with
  | (ca,out,e)=> ({ n with aI:=ca },if e=0 then(f.send out).1 else f)
def Node.work(c:Cfg)(me:Int)(n:Node)(f:Fab)(t:List Evn)(o:Opn):NFT:=
 let t:=if n.bG.dU then t else t++[⟨me,n.bG.bf.length,false,0⟩]
 let n:={ n with bG:={ n.bG with dU:=true } }
 let aj:=c.bV o.addr;let e:=n.aI.find aj
 if o.aO=4/\e=none then((n.done me t 0).1,f,(n.done me t 0).2)
 else if o.aO=4 then((n.begin_ c me f 3 aj).1,(n.begin_ c me f 3 aj).2,t)
 else if e.isSome=true/\(o.aO=1∨(e.getD .zero).cO=true) then
  let n:={ n with aI:=n.aI.touch aj }
  ((n.effect c me t).1,f,(n.effect c me t).2)
 else if n.aI.full aj=true then((n.begin_ c me f 3 ((n.aI.nP aj).getD 0)).1,(n.begin_ c me f 3 ((n.aI.nP aj).getD 0)).2,t)
 else if o.aO=1 then((n.begin_ c me f 1 aj).1,(n.begin_ c me f 1 aj).2,t)
 else((n.begin_ c me f 2 aj).1,(n.begin_ c me f 2 aj).2,t)
def Node.step(c:Cfg)(me:Int)(n:Node)(f:Fab)(t:List Evn):NFT × Int:=
 match f.take me false with
 | (f',some p)=> (n.answered c me f' t p,1)
 | (_,none)=>
  if n.home.ready≠[]/\f.roomOf me false≠0 then
   (({ n with home:=(n.home.grant me).1 },(f.send (n.home.grant me).2.1).1,t),2)
  else
   match(if f.roomOf me false=0 then(f,none) else f.take me true) with
   | (f',some p)=> (((n.asked c me f' p).1,(n.asked c me f' p).2,t),3)
   | (_,none)=>
    match n.bG.cur with
    | some o=> if n.aF.step=0 then(n.work c me f t o,4) else((n,f,t),0)
    | none=> ((n,f,t),0)
def bW.bn(m:bW)(i:Int):Option Node:=if 0<=i then m.aH[i.toNat]? else none
def bW.step(m:bW)(i:Int):bW × Int:=
 match m.bn i with
 | none=> (m,0)
 | some n=> match n.step m.c i m.fab m.trace with
  | ((n',f,t),k)=> ({ m with aH:=m.aH.set i.toNat n',fab:=f,trace:=t },k)
def aP(bytes:Nat)(bit mask:Int):Bool:=(List.range 16).any λi=> decide ((mask.toNat >>> (15 - i)) % 2=1) && decide (0<=bit+i) && decide (bit+i < 8*bytes)
def Pkt.bytes(p:Pkt):Nat:=12+8*p.data.length
def Port.drop(p:Port)(req:Bool)(k:Nat):Port:=p.jE req ((p.sort req).eraseIdx k)
def Fab.remove(f:Fab)(at_:Nat):Fab:=match zT f.l 0 at_ with
 | some (i,req,k)=> f.put i ((f.port i).drop req k)
 | none=> f
def Fab.deliver(f:Fab)(at_ bit mask:Int):Fab × Int:=
 if at_ < 0 then(f,3) else
 match f.all[at_.toNat]? with
 | none=> (f,3)
 | some p=>
  if aP p.bytes bit mask=true then(f,2) else
  if f.room (oW p.aO)<=((f.port p.dst).pz (oW p.aO)).length then(f,5) else
  ((f.put p.dst ((f.port p.dst).kL (oW p.aO) ((f.port p.dst).pz (oW p.aO)++[p]))).remove at_.toNat,0)
def bW.deliver(m:bW)(at_ bit mask:Int):bW × Int:=({ m with fab:=(m.fab.deliver at_ bit mask).1 },(m.fab.deliver at_ bit mask).2)
def bW.do_(m:bW)(p:Pck):bW × Bool:=
 if p.deliver then((m.deliver p.at_ p.bit p.mask).1,decide ((m.deliver p.at_ p.bit p.mask).2=0))
 else((m.step p.at_).1,decide ((m.step p.at_).2≠0))
def yU(e:Ent):List Ent->List Ent
 | []=> [e]
 | x::l=> if e.aj < x.aj then e::x::l else x::yU e l
def Cache.XC(c:Cache)(e:Ent):Cache × Int:=
 if e.aj < 0 then(c,1) else
 match c.at_ e.aj with
 | some i=> ({ c with l:=c.l.set i { e with used:=(c.l.getD i .zero).used } },0)
 | none=> if c.ways<=(c.oG e.aj).length then(c,5) else({ c with l:=yU { e with used:=c.bZ+1 } c.l,bZ:=c.bZ+1 },0)
def Cache.Lh(c:Cache)(aj:Int):Int:=((nH (c.oG aj)).map (·.aj)).getD (-1)
def iq.iT(t:iq)(aj:Int):Int:=((t.owner.find? λo=> decide (o.1=aj)).map (·.2)).getD (-1)
def iq.waits(t:iq)(aj:Int):List (Int × Int):=(t.wait.filter λw=> decide (w.1=aj)).map (·.2)
def iq.ask(t:iq)(aj who id:Int):iq × Bool:=
 if who < 0 then(t,false) else
 if t.iT aj=-1/\t.waits aj=[] then({ t with owner:=t.owner++[(aj,who)] },true)
 else({ t with wait:=t.wait++[(aj,who,id)] },false)
def lM {α:Type}(p:α->Bool):List α->List α
 | []=> []
 | x::l=> if p x then l else x::lM p l
def iq.release(t:iq)(aj who:Int):iq × Bool:=
 if(t.owner.any λo=> decide (o.1=aj) && decide (o.2=who))=true then({ t with owner:=lM (λo=> decide (o.1=aj) && decide (o.2=who)) t.owner },true) else(t,false)
def iq.next(t:iq)(aj:Int):iq × Option (Int × Int):=
 if t.iT aj≠-1 then(t,none) else
 match t.wait.find? λw=> decide (w.1=aj) with
 | some w=> (⟨t.owner++[(aj,w.2.1)],lM (λw=> decide (w.1=aj)) t.wait⟩,some w.2)
 | none=> (t,none)
def lN(x:Int):List Int->List Int
 | []=> [x]
 | y::l=> if y < x then y::lN x l else if y=x then y::l else x::y::l
def iq.ready(t:iq):List Int:=t.wait.foldl (λout w=> if t.iT w.1≠-1 then out else lN w.1 out) []
def kN(c:Cfg)(me aj:Int):Bool:=decide (0<=aj) && decide (aj < c.bg) && decide (aj % c.aH=me)
def iO.row(h:iO)(aj:Int):Row:=h.dD.getD aj.toNat .zero
def iO.oG(c:Cfg)(me:Int)(h:iO)(aj aT head:Int)(data:List Int):iO × Int:=
 if kN c me aj=false then(h,3) else
 if aT < 0∨2 < aT∨head < -1∨c.aH<=head∨¬(aT=0↔head=-1)∨(data≠[]/\(data.length:Int)≠c.dh) then(h,1) else
 ({ h with dD:=h.dD.set aj.toNat ⟨aT,head,if data=[] then(h.row aj).data else data⟩ },0)
def iO.granted(me:Int)(h:iO)(aj who id:Int):Pkt:=⟨7,me,who,id,aj,(h.row aj).head,(h.row aj).aT,false,(h.row aj).data⟩
def iO.handle(c:Cfg)(me:Int)(h:iO)(p:Pkt):iO × Pkt × Bool × Int:=
 if p.ok=false∨p.dst≠me∨c.aH<=p.src∨(p.aO≠1/\p.aO≠2) then(h,.zero,false,1)
 else if kN c me p.aj=false then(h,.zero,false,3)
 else if p.aO=1 then
  let a:=h.aP.ask p.aj p.src p.id
  if a.2=true then({ h with aP:=a.1 },h.granted me p.aj p.src p.id,true,0) else({ h with aP:=a.1 },.zero,false,0)
 else if h.aP.iT p.aj≠p.src then(h,.zero,false,6)
 else
  let r:=h.oG c me p.aj p.aT p.ptr (if p.flag then p.data else [])
  if r.2=0 then({ r.1 with aP:=(r.1.aP.release p.aj p.src).1 },⟨8,me,p.src,p.id,p.aj,0,0,false,[]⟩,true,0) else(h,.zero,false,r.2)
def iO.grant(me:Int)(h:iO):iO × Pkt × Bool:=
 match h.aP.ready with
 | []=> (h,.zero,false)
 | aj::_=> match h.aP.next aj with
  | (t,w)=> ({ h with aP:=t },h.granted me aj (w.getD (0,0)).1 (w.getD (0,0)).2,true)
def agJ(c:Cache)(p:Pkt):Cache × Pkt × Int:=
 if p.ok=false∨p.aO < 3∨6 < p.aO then(c,.zero,1) else
 match c.find p.aj with
 | none=> (c,.zero,3)
 | some e=>
  let out:Pkt:=⟨BK p.aO,p.dst,p.src,p.id,p.aj,0,0,false,[]⟩
  if p.aO=3 then((c.XC { e with cO:=false,back:=p.ptr }).1,{ out with data:=e.data,flag:=e.cO },0)
  else if p.aO=4 then((c.XC { e with fwd:=p.ptr }).1,out,0)
  else if p.aO=5 then((c.XC { e with back:=p.ptr }).1,out,0)
  else(c.drop p.aj,{ out with data:=e.data,flag:=e.cO,ptr:=e.fwd },0)
def anL(d:bJ)(bn:Int)(c:Cache)(p:Pkt):Nxt:=
 if d.step=1/\d.aT=0 then((c.XC ⟨-1,-1,d.aj,0,false,d.data⟩).1,{ d with step:=6,aT:=1,head:=bn,data:=[] },true)
 else if d.step=1 then(c,{ d with step:=2 },true)
 else if d.step=2 then((c.XC ⟨d.head,-1,d.aj,0,false,p.data⟩).1,{ d with step:=6,aT:=1,head:=bn,data:=if p.flag then p.data else [] },true)
 else vN c
def ajB(d:bJ)(bn:Int)(c:Cache):Nxt:=
 let d:bJ:=match c.find d.aj with
  | some own=> if d.next=bn then { d with next:=own.fwd } else d
  | none=> d
 if d.next≠-1 then(c,{ d with step:=3 },true)
 else((c.XC ⟨-1,-1,d.aj,0,true,d.data⟩).1,{ d with step:=6,aT:=2,head:=bn,data:=[] },true)
def ajC(d:bJ)(bn:Int)(c:Cache)(p:Pkt):Nxt:=
 if d.step=1 then ajB { d with data:=(match c.find d.aj with | some own=> own.data | none=> d.data),next:=d.head } bn c
 else if d.step=3 then ajB { d with data:=(match c.find d.aj with | some _=> d.data | none=> p.data),next:=p.ptr } bn c
 else vN c
def Lj(d:bJ)(c:Cache)(head:Int):Nxt:=(c.drop d.aj,{ d with step:=6,aT:=1,head:=head,data:=[] },true)
def anM(d:bJ)(c:Cache):Nxt:=
 if d.step=1 then
  match c.find d.aj with
  | none=> (c,{ d with step:=6,data:=[] },true)
  | some e=>
   if e.back=-1/\e.fwd=-1 then(c.drop d.aj,{ d with step:=6,aT:=0,head:=-1,data:=if e.cO then e.data else [] },true)
   else if e.back=-1 then(c,{ d with data:=[],head:=-1,next:=e.fwd,step:=5 },true)
   else(c,{ d with data:=[],head:=e.back,next:=e.fwd,step:=4 },true)
 else if d.step=4 then
  if d.next≠-1 then(c,{ d with step:=5 },true) else Lj d c d.told
 else if d.step=5 then
  if d.head=-1 then Lj d c d.next else Lj d c d.told
 else vN c
def anN(d:bJ)(bn:Int)(c:Cache)(p:Pkt):Nxt:=
 if d.fits p=false∨d.aO < 1∨3 < d.aO then vN c else
 if d.step=6 then(c,{ d with step:=0 },true) else
 let d:=if d.step=1 then { d with aT:=p.aT,head:=p.ptr,told:=p.ptr,data:=p.data } else d
 if d.aO=1 then anL d bn c p else if d.aO=2 then ajC d bn c p else anM d c
abbrev RNT:=jQ × List Evn
def jQ.done(me:Int)(n:jQ)(t:List Evn)(v:Int):RNT:=({ n with bf:=n.bf++[v],dU:=false },t++[⟨me,n.bf.length,true,v⟩])
def agK(e:Ent)(o:Opn)(w:Nat):Ent:=
 if o.aO=2 then { e with data:=e.data.set w o.value } else if o.aO=3 then { e with data:=e.data.set w (w64 (e.data.getD w 0+o.value)) } else e
def jQ.effect(c:Cfg)(n:jQ)(o:Opn):jQ × Int:=
 let i:=(n.aI.at_ (o.addr.tdiv c.dh)).getD 0;let e:=n.aI.l.getD i .zero;let w:=(o.addr.tmod c.dh).toNat
 ({ n with aI:={ n.aI with l:=n.aI.l.set i (agK e o w) } },if o.aO=2 then 0 else e.data.getD w 0)
def jQ.ab8(c:Cfg)(me:Int)(n:jQ)(f:Fab):Fab:=(f.send (n.aF.ask me (n.aF.aj.tmod c.aH))).1
def jQ.begin_(c:Cfg)(me:Int)(n:jQ)(f:Fab)(aO aj:Int):jQ × Fab:=
 let n:={ n with has:=true,aF:=.begin aO aj n.num,num:=(n.num+1).tmod 4096 }
 (n,n.ab8 c me f)
abbrev anO:=jQ × Fab × List Evn
def jQ.answered(c:Cfg)(me:Int)(n:jQ)(f:Fab)(t:List Evn)(p:Pkt):anO:=
 if n.has=false then(n,f,t) else
 match anN n.aF me n.aI p with
 | (ca,d,ok)=>
  if ok=false then({ n with aI:=ca },f,t) else
  let n:={ n with aI:=ca,aF:=d }
  if d.step=0 then
   let n:={ n with has:=false,aF:=.zero }
   match n.ops[n.bf.length]? with
   | some o=> if n.dU=true/\o.aO=4 then((n.done me t 0).1,f,(n.done me t 0).2) else(n,f,t)
   | none=> (n,f,t)
  else
   let nt:=if d.step=6/\d.aO≠3 then let ev:=n.effect c (n.ops.getD n.bf.length .zero);ev.1.done me t ev.2 else(n,t)
   (nt.1,nt.1.ab8 c me f,nt.2)
def jQ.work(c:Cfg)(me:Int)(n:jQ)(f:Fab)(t:List Evn)(o:Opn):anO:=
 let t:=if n.dU then t else t++[⟨me,n.bf.length,false,0⟩]
 let n:={ n with dU:=true }
 let aj:=o.addr.tdiv c.dh;let e:=n.aI.find aj
 if o.aO=4/\e=none then((n.done me t 0).1,f,(n.done me t 0).2)
 else if o.aO=4 then((n.begin_ c me f 3 aj).1,(n.begin_ c me f 3 aj).2,t)
 else if e.isSome=true/\(o.aO=1∨(e.getD .zero).cO=true) then
  let n:={ n with aI:=n.aI.touch aj }
  let ev:=n.effect c o
  ((ev.1.done me t ev.2).1,f,(ev.1.done me t ev.2).2)
 else if e=none/\0<=aj/\n.aI.ways<=(n.aI.oG aj).length then((n.begin_ c me f 3 (n.aI.Lh aj)).1,(n.begin_ c me f 3 (n.aI.Lh aj)).2,t)
 else if o.aO=1 then((n.begin_ c me f 1 aj).1,(n.begin_ c me f 1 aj).2,t)
 else((n.begin_ c me f 2 aj).1,(n.begin_ c me f 2 aj).2,t)
def jQ.asked(c:Cfg)(me:Int)(n:jQ)(f:Fab)(p:Pkt):jQ × Fab:=
 if p.aO=1∨p.aO=2 then
  match n.homes.handle c me p with
  | (h,out,ok,e)=> ({ n with homes:=h },if ok=true/\e=0 then(f.send out).1 else f)
 else
  match agJ n.aI p with
  | (ca,out,e)=> ({ n with aI:=ca },if e=0 then(f.send out).1 else f)
def jQ.step(c:Cfg)(me:Int)(n:jQ)(f:Fab)(t:List Evn):anO × Int:=
 match f.take me false with
 | (f',some p)=> (n.answered c me f' t p,1)
 | (_,none)=>
  if 0 < f.roomOf me false/\n.homes.aP.ready≠[] then
   (({ n with homes:=(n.homes.grant me).1 },(f.send (n.homes.grant me).2.1).1,t),2)
  else if 0 < f.roomOf me false/\0 < f.waiting me true then
   match f.take me true with
   | (f',p)=> (((n.asked c me f' (p.getD .zero)).1,(n.asked c me f' (p.getD .zero)).2,t),3)
  else
   match n.ops[n.bf.length]? with
   | some o=> if n.has=false then(n.work c me f t o,4) else((n,f,t),0)
   | none=> ((n,f,t),0)
def kM.anP(m:kM):Fab:=⟨m.c.out,m.c.inn,m.fab⟩
def kM.all(m:kM):List Pkt:=m.fab.flatMap λp=> p.rq++p.an
def kM.left(m:kM):Int:=(m.aH.map λn=> (n.ops.length:Int) - n.bf.length).sum
def kM.busy(m:kM)(i:Nat):Bool:=match m.aH[i]?,m.fab[i]? with
 | some n,some p=> n.dU || n.has || decide (0 < p.rin.length) || decide (0 < p.ain.length)
 | _,_=> false
def kM.quiet(m:kM):Bool:=decide (m.all.length=0) && (List.range m.aH.length).all λi=> !m.busy i
def kM.step(m:kM)(i:Int):kM × Int:=
 match(if 0<=i then m.aH[i.toNat]? else none) with
 | none=> (m,0)
 | some n=> match n.step m.c i m.anP m.ev with
  | ((n',f,t),k)=> ({ m with aH:=m.aH.set i.toNat n',fab:=f.l,ev:=t },k)
def kM.deliver(m:kM)(at_ bit mask:Int):kM × Int:=({ m with fab:=(m.anP.deliver at_ bit mask).1.l },(m.anP.deliver at_ bit mask).2)
def kM.do_(m:kM)(p:Pck):kM × Bool:=
 if p.deliver then((m.deliver p.at_ p.bit p.mask).1,decide ((m.deliver p.at_ p.bit p.mask).2=0))
 else((m.step p.at_).1,decide ((m.step p.at_).2≠0))
structure am5(c:Cfg)(me:Int)(n:Node)(r:jQ):Prop where
 ops:r.ops=n.bG.ops
 bf:r.bf=n.bG.bf
 dU:r.dU=n.bG.dU
 has:r.has=!decide (n.aF.step=0)
 aF:r.aF=if n.aF.step=0 then .zero else n.aF
 num:r.num=n.num
 sets:r.aI.sets=n.aI.sets
 ways:r.aI.ways=n.aI.ways
 bZ:r.aI.bZ=n.aI.bZ
 sorted:r.aI.l.Pairwise λa b=> a.aj < b.aj
 perm:n.aI.l.Perm r.aI.l
 dD:∀aj,kN c me aj=true->∃row,jh n.home.dD aj=some row/\r.homes.dD[aj.toNat]?=some row
 none:∀aj,kN c me aj=false->jh n.home.dD aj=none
 owner:∀aj,n.home.aP.owner aj=r.homes.aP.iT aj
 waits:∀aj,n.home.aP.ws aj=r.homes.aP.waits aj
structure Sim(m:bW)(r:kM):Prop where
 c:r.c=m.c
 len:r.aH.length=m.aH.length
 fab:r.fab=m.fab.l
 ev:r.ev=m.trace
 bn:∀(i:Nat) n rn,m.aH[i]?=some n->r.aH[i]?=some rn->am5 m.c i n rn
structure BO(c r:Cache):Prop where
 sets:r.sets=c.sets
 ways:r.ways=c.ways
 bZ:r.bZ=c.bZ
 sorted:r.l.Pairwise λa b=> a.aj < b.aj
 perm:c.l.Perm r.l
def Lines(l:List Ent):Prop:=l.Pairwise λa b=> a.aj≠b.aj
theorem wG {l:List Ent}(h:l.Pairwise λa b=> a.aj < b.aj):Lines l:=h.imp λh=> by omega
theorem Lines.perm {l l':List Ent}(h:Lines l)(p:l.Perm l'):Lines l':=(p.pairwise_iff (λh=> Ne.symm h)).1 h
theorem BO.bg {c r:Cache}(S:BO c r):Lines c.l:=(wG S.sorted).perm S.perm.symm
theorem BO.UH {c r:Cache}(S:BO c r):Lines r.l:=wG S.sorted
theorem Lines.inj:∀{l:List Ent},Lines l->∀{a b:Ent},a∈l->b∈l->a.aj=b.aj->a=b
 | [],_,a,_,ha,_,_=> by cases ha
 | x::l,h,a,b,ha,hb,e=> by
  have h1:=zbh.1 h;rcases zaj.1 ha with ha' | ha'
  ·rcases zaj.1 hb with hb' | hb'
   ·rw [ha',hb']
   ·rw [ha'] at e;exact absurd e (h1.1 b hb')
  ·rcases zaj.1 hb with hb' | hb'
   ·rw [hb'] at e;exact absurd e.symm (h1.1 a ha')
   ·exact Lines.inj h1.2 ha' hb' e
theorem iy {l:List Ent}(h:Lines l){aj:Int}{e:Ent}:(l.find? λx=> decide (x.aj=aj))=some e↔e∈l/\e.aj=aj:=by
 constructor
 ·intro hf;exact⟨zba hf,by simpa using zbX hf⟩
 ·rintro⟨he,hl⟩;cases hf:l.find? λx=> decide (x.aj=aj) with
  | none=>
   have:=zbD.1 hf e he;simp [hl] at this
  | some x=>
   have h1:=zba hf;have h2:x.aj=aj:=by simpa using zbX hf
   rw [h.inj h1 he (by rw [h2,hl])]
theorem sZ {l:List Ent}{aj:Int}:(l.find? λx=> decide (x.aj=aj))=none↔∀e∈l,e.aj≠aj:=by
 rw [zbD];simp
theorem BO.find {c r:Cache}(S:BO c r)(aj:Int):r.find aj=c.find aj:=by
 unfold Cache.find;cases hf:c.l.find? λx=> decide (x.aj=aj) with
 | none=>
  rw [sZ] at hf ⊢;exact λe he=> hf e (S.perm.mem_iff.2 he)
 | some e=>
  rw [iy S.bg] at hf;rw [iy S.UH];exact⟨S.perm.mem_iff.1 hf.1,hf.2⟩
theorem BO.count {c r:Cache}(S:BO c r)(aj:Int):(r.oG aj).length=(c.oG aj).length:=by
 unfold Cache.oG;rw [S.sets];exact(S.perm.filter _).length_eq.symm
theorem BO.full {c r:Cache}(S:BO c r)(aj:Int):r.full aj=c.full aj:=by
 unfold Cache.full;rw [S.find,S.count,S.ways]
theorem yV {c:Cache}{aj:Int}:c.at_ aj=none↔c.find aj=none:=by
 unfold Cache.at_ Cache.find;rw [List.findIdx?_eq_none_iff,zbD];simp
theorem BP {c:Cache}{aj:Int}{i:Nat}(h:c.at_ aj=some i):∃e,c.l[i]?=some e/\c.find aj=some e/\e.aj=aj:=by
 unfold Cache.at_ at h;have hi:=List.findIdx?_eq_some_iff_getElem.1 h;obtain⟨hl,h1,h2⟩:=hi;refine⟨c.l[i],zab hl,?_,by simpa using h1⟩;unfold Cache.find;rw [List.find?_eq_some_iff_getElem];exact⟨h1,i,hl,rfl,λj hj=> by simpa using h2 j hj⟩
theorem xu {c:Cache}{aj:Int}{e:Ent}(h:c.find aj=some e):∃i,c.at_ aj=some i/\c.l[i]?=some e:=by
 cases ha:c.at_ aj with
 | none=> rw [yV.1 ha] at h;cases h
 | some i=>
  obtain⟨e',h1,h2,_⟩:=BP ha;rw [h] at h2;cases h2;exact⟨i,rfl,h1⟩
theorem Ll:∀{l:List Ent},Lines l->∀{i:Nat} {e v:Ent},l[i]?=some e->l.set i v=l.map λx=> if x.aj=e.aj then v else x
 | [],_,i,e,v,h=> by simp at h
 | x::l,hl,i,e,v,h=> by
  have h1:=zbh.1 hl;cases i with
  | zero=>
   simp only [zaR,zaa] at h;subst h;simp only [zbQ,zaz,if_true]
   congr 1
   have:∀y∈l,(if y.aj=x.aj then v else y)=y:=λy hy=> if_neg (Ne.symm (h1.1 y hy));rw [zbr this];simp
  | succ i=>
   simp only [zbg] at h;have hx:x.aj≠e.aj:=h1.1 e (zav h);simp only [zb4,zaz,if_neg hx];rw [Ll h1.2 h]
theorem Dw:∀{l:List Ent},Lines l->∀{i:Nat} {e:Ent},l[i]?=some e->l.eraseIdx i=l.filter λx=> decide (x.aj≠e.aj)
 | [],_,i,e,h=> by simp at h
 | x::l,hl,i,e,h=> by
  have h1:=zbh.1 hl;cases i with
  | zero=>
   simp only [zaR,zaa] at h;subst h;simp only [List.eraseIdx_cons_zero,zbP,ne_eq,not_true,decide_false,zaf,if_false];rw [zdp.2];intro y hy;have:=h1.1 y hy;simp only [decide_eq_true_eq];exact λe=> this e.symm
  | succ i=>
   simp only [zbg] at h;have hx:x.aj≠e.aj:=h1.1 e (zav h);simp only [zc2,zbP,hx,ne_eq,not_false_eq_true,decide_true,if_true];rw [Dw h1.2 h]
theorem wH(e:Ent):∀l,(yU e l).Perm (e::l)
 | []=> .refl _
 | x::l=> by
  rw [yU];split
  ·exact .refl _
  ·exact((wH e l).cons x).trans (.swap e x l)
theorem yA(e:Ent):∀l:List Ent,(l.Pairwise λa b=> a.aj < b.aj)->(∀x∈l,x.aj≠e.aj)->(yU e l).Pairwise λa b=> a.aj < b.aj
 | [],_,_=> by simp [yU]
 | x::l,h,hn=> by
  have h1:=zbh.1 h;rw [yU];split
  ·rename_i hlt;refine zbh.2 ⟨λy hy=> ?_,h⟩;rcases zaj.1 hy with rfl | hy
   ·exact hlt
   ·have:=h1.1 y hy;omega
  ·rename_i hlt;refine zbh.2 ⟨λy hy=> ?_,yA e l h1.2 λy hy=> hn y (by simp [hy])⟩;rcases zaj.1 ((wH e l).mem_iff.1 hy) with rfl | hy
   ·have:=hn x (by simp);omega
   ·exact h1.1 y hy
theorem ab9 {l:List Ent}{f:Ent->Ent}(hf:∀x∈l,(f x).aj=x.aj)(h:l.Pairwise λa b=> a.aj < b.aj):(l.map f).Pairwise λa b=> a.aj < b.aj:=by
 rw [zcs];exact h.imp_of_mem λha hb hab=> by rw [hf _ ha,hf _ hb];exact hab
theorem BO.mapped {c r:Cache}(S:BO c r){f:Ent->Ent}(hf:∀x∈c.l,(f x).aj=x.aj)(k:Int):BO { c with l:=c.l.map f,bZ:=k } { r with l:=r.l.map f,bZ:=k }:=
 ⟨S.sets,S.ways,rfl,ab9 (λx hx=> hf x (S.perm.mem_iff.2 hx)) S.sorted,S.perm.map f⟩
theorem lC {c:Cache}(hl:Lines c.l){e x:Ent}(h0:0<=e.aj)(h:c.find e.aj=some x):c.put e=({ c with l:=c.l.map λy=> if y.aj=e.aj then { e with used:=x.used } else y },0):=by
 obtain⟨i,h1,h2⟩:=xu h;have hx:x.aj=e.aj:=by
  obtain⟨y,k1,_,k3⟩:=BP h1;rw [h2] at k1;cases k1;exact k3
 unfold Cache.put;rw [if_neg (by omega),h1];simp only;rw [zas,h2,zat,Ll hl h2,hx]
theorem Wu {c:Cache}(hl:Lines c.l){e x:Ent}(h0:0<=e.aj)(h:c.find e.aj=some x):c.XC e=({ c with l:=c.l.map λy=> if y.aj=e.aj then { e with used:=x.used } else y },0):=by
 obtain⟨i,h1,h2⟩:=xu h;have hx:x.aj=e.aj:=by
  obtain⟨y,k1,_,k3⟩:=BP h1;rw [h2] at k1;cases k1;exact k3
 unfold Cache.XC;rw [if_neg (by omega),h1];simp only;rw [zas,h2,zat,Ll hl h2,hx]
theorem BO.put {c r:Cache}(S:BO c r)(e:Ent):BO (c.put e).1 (r.XC e).1/\(r.XC e).2=(c.put e).2:=by
 by_cases h0:e.aj < 0
 ·unfold Cache.put Cache.XC;rw [if_pos h0,if_pos h0];exact⟨S,rfl⟩
 cases hf:c.find e.aj with
 | some x=>
  rw [lC S.bg (by omega) hf,Wu S.UH (by omega) (by rw [S.find,hf])];refine⟨?_,rfl⟩;have:=S.mapped (f:=λy=> if y.aj=e.aj then { e with used:=x.used } else y) (λy _=> by
   try simp only
   split
   ·rename_i h;exact h.symm
   ·rfl) c.bZ
  rw [<-S.bZ] at this;have e2:({ c with l:=c.l.map λy=> if y.aj=e.aj then { e with used:=x.used } else y }:Cache)={ c with l:=c.l.map λy=> if y.aj=e.aj then { e with used:=x.used } else y,bZ:=r.bZ }:=by rw [S.bZ]
  rw [e2];exact this
 | none=>
  have h1:=yV.2 hf;have h2:r.at_ e.aj=none:=yV.2 (by rw [S.find,hf]);unfold Cache.put Cache.XC;rw [if_neg h0,if_neg h0,h1,h2];have hc:(r.ways<=((r.oG e.aj).length:Int))=(c.full e.aj=true):=by
   simp only [Cache.full,hf,zcG,zbn,S.count,S.ways,decide_eq_true_eq]
  simp only [hc];split
  ·exact⟨S,rfl⟩
  ·refine⟨⟨S.sets,S.ways,by simp only [S.bZ],?_,?_⟩,rfl⟩
   ·simp only [S.bZ];refine yA _ _ S.sorted λx hx=> ?_;have:=sZ.1 (show(c.l.find? λx=> decide (x.aj=e.aj))=none from hf);exact this x (S.perm.mem_iff.2 hx)
   ·simp only [S.bZ];refine(zdi.trans ?_).trans (wH _ _).symm;exact S.perm.cons _
theorem Gt {c:Cache}(hl:Lines c.l)(aj:Int):c.drop aj={ c with l:=c.l.filter λx=> decide (x.aj≠aj) }:=by
 unfold Cache.drop;cases ha:c.at_ aj with
 | none=>
  have:=sZ.1 (show(c.l.find? λx=> decide (x.aj=aj))=none from yV.1 ha);simp only;rw [zdp.2 λx hx=> by simpa using this x hx]
 | some i=>
  obtain⟨e,h1,_,h3⟩:=BP ha;simp only;rw [Dw hl h1,h3]
theorem BO.drop {c r:Cache}(S:BO c r)(aj:Int):BO (c.drop aj) (r.drop aj):=by
 rw [Gt S.bg,Gt S.UH];exact⟨S.sets,S.ways,S.bZ,S.sorted.filter _,S.perm.filter _⟩
theorem xw {c:Cache}(hl:Lines c.l){aj:Int}{e:Ent}(h:c.find aj=some e):c.touch aj={ c with l:=c.l.map λx=> if x.aj=aj then { e with used:=c.bZ+1 } else x,bZ:=c.bZ+1 }:=by
 obtain⟨i,h1,h2⟩:=xu h;obtain⟨y,k1,_,k3⟩:=BP h1;rw [h2] at k1;cases k1;unfold Cache.touch;rw [h1];simp only;rw [zas,h2,zat,Ll hl h2,k3]
theorem BO.touch {c r:Cache}(S:BO c r){aj:Int}{e:Ent}(h:c.find aj=some e):BO (c.touch aj) (r.touch aj):=by
 have he:e.aj=aj:=by
  obtain⟨i,h1,h2⟩:=xu h;obtain⟨y,k1,_,k3⟩:=BP h1;rw [h2] at k1;cases k1;exact k3
 rw [xw S.bg h,xw S.UH (by rw [S.find,h]),S.bZ];exact S.mapped (λx _=> by
  try simp only
  split
  ·rename_i hx;rw [hx];exact he
  ·rfl) _
theorem Gu:∀(l:List Ent) (m:Ent),(l.foldl (λm x=> if x.used < m.used then x else m) m)∈m::l/\∀x∈m::l,(l.foldl (λm x=> if x.used < m.used then x else m) m).used<=x.used
 | [],m=> by simp
 | x::l,m=> by
  rw [zbI];obtain⟨h1,h2⟩:=Gu l (if x.used < m.used then x else m);refine⟨?_,λy hy=> ?_⟩
  ·rcases zaj.1 h1 with h | h
   ·rw [h];split <;> simp
   ·simp [h]
  ·have hle:(if x.used < m.used then x else m).used<=x.used/\(if x.used < m.used then x else m).used<=m.used:=by
    split
    ·omega
    ·omega
   have h3:=h2 _ (List.mem_cons_self ..);rcases zaj.1 hy with hy | hy
   ·rw [hy];exact Int.le_trans h3 hle.2
   ·rcases zaj.1 hy with hy | hy
    ·rw [hy];exact Int.le_trans h3 hle.1
    ·exact h2 y (by simp [hy])
theorem rC {l:List Ent}{e:Ent}(h:nH l=some e):e∈l/\∀x∈l,e.used<=x.used:=by
 cases l with
 | nil=> cases h
 | cons m l=>
  simp only [nH,zaa] at h;subst h;exact Gu l m
def Gv(l:List Ent):Prop:=l.Pairwise λa b=> a.used≠b.used
theorem Gv.inj:∀{l:List Ent},Gv l->∀{a b:Ent},a∈l->b∈l->a.used=b.used->a=b
 | [],_,a,_,ha,_,_=> by cases ha
 | x::l,h,a,b,ha,hb,e=> by
  have h1:=zbh.1 h;rcases zaj.1 ha with ha' | ha'
  ·rcases zaj.1 hb with hb' | hb'
   ·rw [ha',hb']
   ·rw [ha'] at e;exact absurd e (h1.1 b hb')
  ·rcases zaj.1 hb with hb' | hb'
   ·rw [hb'] at e;exact absurd e.symm (h1.1 a ha')
   ·exact Gv.inj h1.2 ha' hb' e
theorem O1 {l l':List Ent}(p:l.Perm l')(h:Gv l):nH l'=nH l:=by
 cases hl:nH l with
 | none=>
  cases l with
  | nil=> rw [List.nil_perm.1 p];rfl
  | cons m l=> cases hl
 | some e=>
  obtain⟨h1,h2⟩:=rC hl;cases hl':nH l' with
  | none=>
   cases l' with
   | nil=> rw [List.perm_nil.1 p] at h1;cases h1
   | cons m l=> cases hl'
  | some e'=>
   obtain⟨h3,h4⟩:=rC hl';have h5:=h2 e' (p.mem_iff.2 h3);have h6:=h4 e (p.mem_iff.1 h1);rw [h.inj h1 (p.mem_iff.2 h3) (by omega)]
theorem BO.nP {c r:Cache}(S:BO c r)(h:Gv c.l)(aj:Int):r.Lh aj=(c.nP aj).getD (-1):=by
 unfold Cache.Lh Cache.nP;have:nH (r.oG aj)=nH (c.oG aj):=by
  unfold Cache.oG;rw [S.sets];exact O1 (S.perm.filter _) (h.filter _)
 rw [this]
theorem yX(x:Int):∀l,(Dv x l).Perm (x::l)
 | []=> List.Perm.refl _
 | y::l=> by
  simp only [Dv];split
  ·exact((yX x l).cons y).trans (List.Perm.swap x y l)
  ·exact List.Perm.refl _
theorem zY(x:Int):∀l,l.Pairwise (· ≥ ·)->(Dv x l).Pairwise (· ≥ ·)
 | [],_=> by simp [Dv]
 | y::l,h=> by
  simp only [Dv];rw [zbh] at h;split
  ·rename_i hxy;refine zbh.2 ⟨λz hz=> ?_,zY x l h.2⟩;rcases zaj.1 ((yX x l).mem_iff.1 hz) with rfl | hz
   ·omega
   ·exact h.1 z hz
  ·rename_i hxy;refine zbh.2 ⟨λz hz=> ?_,zbh.2 h⟩;rcases zaj.1 hz with rfl | hz
   ·omega
   ·have:=h.1 z hz;omega
theorem uK:∀(l rp:List Int),rp.Pairwise (· ≥ ·)->(srt rp l).Perm (rp++l)/\(srt rp l).Pairwise (· <= ·)
 | [],rp,h=> by
  simp only [srt,za8];exact⟨List.reverse_perm rp,List.pairwise_reverse.2 (h.imp λh=> h)⟩
 | x::l,rp,h=> by
  have:=uK l (Dv x rp) (zY x rp h);simp only [srt];refine⟨this.1.trans ?_,this.2⟩;refine((yX x rp).append_right l).trans ?_;rw [zbb];exact(zde (a:=x) (l₁:=rp) (l₂:=l)).symm
theorem ajD {l l':List Int}(hp:l.Perm l')(hs:l'.Pairwise (· <= ·)):srt [] l=l':=by
 obtain⟨h1,h2⟩:=uK l [] List.Pairwise.nil;exact(h1.trans hp).eq_of_pairwise (λa b _ _ h1 h2=> Int.le_antisymm h1 h2) h2 hs
theorem iw {α:Type}:∀(l:List (Int × α)) (n m:Int) (x:α),jh (lK l n x) m=if n=m then some x else jh l m
 | [],n,m,x=> by simp [lK,jh]
 | (k,v)::l,n,m,x=> by
  simp only [lK];by_cases h:k=n
  ·subst h;simp only [if_true,jh];by_cases h2:k=m <;> simp [h2]
  ·simp only [h,if_false,jh];rw [iw l n m x];by_cases h2:k=m
   ·subst h2;simp only [if_true];rw [if_neg (λe=> h e.symm)]
   ·simp [h2]
theorem BQ {α:Type}:∀(l:List (Int × α)) (n:Int),(xY l n).map (·.1)=(l.map (·.1)).erase n
 | [],n=> rfl
 | (k,v)::l,n=> by
  simp only [xY,zaz,List.erase_cons];by_cases h:k=n
  ·simp [h]
  ·simp [h,BQ l n]
theorem O4 {α:Type}:∀(l:List (Int × α)) (n:Int) (x:α),(lK l n x).map (·.1)=if n∈l.map (·.1) then l.map (·.1) else l.map (·.1)++[n]
 | [],n,x=> by simp [lK]
 | (k,v)::l,n,x=> by
  simp only [lK,zaz,zaj];by_cases h:k=n
  ·simp [h]
  ·have h':¬n=k:=λe=> h e.symm;simp only [h,if_false,zaz,h',false_or,O4 l n x];split <;> simp
theorem mJ {α:Type}{l:List (Int × α)}(h:(l.map (·.1)).Nodup)(n:Int)(x:α):((lK l n x).map (·.1)).Nodup:=by
 rw [O4];split
 ·exact h
 ·rename_i hn;rw [zbV];refine⟨h,by simp,λa ha b hb=> ?_⟩;simp only [zaO] at hb;subst hb;intro e;subst e;exact hn ha
theorem BR {α:Type}:∀{l:List (Int × α)},(l.map (·.1)).Nodup->∀(n m:Int),jh (xY l n) m=if n=m then none else jh l m
 | [],_,n,m=> by simp [xY,jh]
 | (k,v)::l,h,n,m=> by
  rw [zaz,zaU] at h;simp only [xY];by_cases hk:k=n
  ·subst hk;simp only [if_true,jh];by_cases h2:k=m
   ·subst h2;simp only [if_true];exact Jw.2 h.1
   ·simp [h2]
  ·simp only [hk,if_false,jh];rw [BR h.2 n m];by_cases h2:k=m
   ·subst h2;simp only [if_true];rw [if_neg λe=> hk e.symm]
   ·simp [h2]
where
 Jw {α:Type}:∀{es:List (Int × α)} {n:Int},jh es n=none↔n∉es.map (·.1)
 | [],n=> by simp [jh]
 | (k,v)::l,n=> by
  simp only [jh,zaz,zaj,not_or];by_cases h:k=n
  ·simp [h]
  ·simp only [h,if_false];rw [Jw (es:=l)];exact⟨λh'=> ⟨λe=> h e.symm,h'⟩,λh'=> h'.2⟩
theorem lQ {α:Type}:∀{l:List (Int × α)} {n:Int} {x:α},jh l n=some x->(n,x)∈l
 | [],n,x,h=> by cases h
 | (k,v)::l,n,x,h=> by
  simp only [jh] at h;split at h
  ·rename_i e;cases h;subst e;simp
  ·simp [lQ h]
theorem lS {α:Type}:∀{l:List (Int × α)} {n:Int} {x:α} {e:Int × α},e∈lK l n x->e=(n,x)∨e∈l
 | [],n,x,e,h=> by simp [lK] at h;exact .inl h
 | (k,v)::l,n,x,e,h=> by
  simp only [lK] at h;split at h
  ·rcases zaj.1 h with h | h
   ·exact .inl h
   ·exact .inr (by simp [h])
  ·rcases zaj.1 h with h | h
   ·exact .inr (by simp [h])
   ·rcases lS h with h | h
    ·exact .inl h
    ·exact .inr (by simp [h])
theorem Gw {α:Type}:∀{l:List (Int × α)} {n:Int} {e:Int × α},e∈xY l n->e∈l
 | [],n,e,h=> by cases h
 | (k,v)::l,n,e,h=> by
  simp only [xY] at h;split at h
  ·simp [h]
  ·rcases zaj.1 h with h | h
   ·simp [h]
   ·simp [Gw h]
structure Gx(t:Turns):Prop where
 ok:(t.fU.map (·.1)).Nodup
 oge:∀e∈t.fU,0<=e.2
 wk:(t.wait.map (·.1)).Nodup
 wge:∀e∈t.wait,∀w∈e.2,0<=w.1
structure RX(t:Turns)(r:iq):Prop where
 owner:∀aj,t.owner aj=r.iT aj
 waits:∀aj,t.ws aj=r.waits aj
 rok:(r.owner.map (·.1)).Nodup
 rge:∀o∈r.owner,0<=o.2
theorem Gx.owned {t:Turns}(h:Gx t)(aj:Int):t.owned aj=true↔t.owner aj≠-1:=by
 unfold Turns.owned Turns.owner;cases ha:jh t.fU aj with
 | none=> simp
 | some v=>
  have:=h.oge _ (lQ ha);simp only [zaJ,zat,true_iff];simp only at this;omega
theorem yB {l:List (Int × Int)}{aj who m:Int}(hn:∀o∈l,o.1≠aj):(((l++[(aj,who)]).find? λo=> decide (o.1=m)).map (·.2)).getD (-1)=if m=aj then who else((l.find? λo=> decide (o.1=m)).map (·.2)).getD (-1):=by
 rw [zdB];by_cases h:m=aj
 ·subst h;have:(l.find? λo=> decide (o.1=m))=none:=by
   rw [zbD];intro o ho;simpa using hn o ho
  rw [this];simp
 ·rw [if_neg h];cases hf:l.find? λo=> decide (o.1=m) with
  | some o=> simp
  | none=>
   have h':¬aj=m:=λe=> h e.symm;simp [h']
theorem RX.free {t:Turns}{r:iq}(S:RX t r){aj:Int}(h:r.iT aj=-1):∀o∈r.owner,o.1≠aj:=by
 intro o ho e;unfold iq.iT at h;cases hf:r.owner.find? λo=> decide (o.1=aj) with
 | none=>
  have:=zbD.1 hf o ho;simp [e] at this
 | some o'=>
  rw [hf] at h;have:=S.rge o' (zba hf);simp only [zak,zat] at h;omega
theorem Jy {l:List (Int × Int)}(h:(l.map (·.1)).Nodup){aj who:Int}(hn:∀o∈l,o.1≠aj):((l++[(aj,who)]).map (·.1)).Nodup:=by
 rw [zbK,zbV];refine⟨h,by simp,λa ha b hb=> ?_⟩;obtain⟨o,ho,rfl⟩:=zaG.1 ha;simp only [zaz,zbO,zaO] at hb;subst hb;exact hn o ho
theorem RX.ask {t:Turns}{r:iq}(S:RX t r)(h:Gx t)(aj who id:Int):RX (t.ask aj who id).1 (r.ask aj who id).1/\(r.ask aj who id).2=(t.ask aj who id).2/\Gx (t.ask aj who id).1:=by
 unfold Turns.ask iq.ask;by_cases h0:who < 0
 ·rw [if_pos h0,if_pos h0];exact⟨S,rfl,h⟩
 rw [if_neg h0,if_neg h0];have ho:=h.owned aj;by_cases hc:(t.owned aj || !(t.ws aj).isEmpty)=true
 ·have hr:¬(r.iT aj=-1/\r.waits aj=[]):=by
   rintro⟨h1,h2⟩;simp only [zbe,zaY] at hc;rcases hc with hc | hc
   ·exact ho.1 hc (by rw [S.owner,h1])
   ·rw [S.waits,h2] at hc;cases hc
  rw [if_pos hc,if_neg hr];refine⟨⟨S.owner,λm=> ?_,S.rok,S.rge⟩,rfl,⟨h.ok,h.oge,mJ h.wk _ _,λe he w hw=> ?_⟩⟩
  ·show(jh (lK t.wait aj (t.ws aj++[(who,id)])) m).getD []=((r.wait++[(aj,who,id)]).filter λw=> decide (w.1=m)).map (·.2);have hm:=S.waits m;unfold Turns.ws iq.waits at hm;rw [iw,zb3,zbK,<-hm];by_cases hl:aj=m
   ·subst hl;simp [Turns.ws]
   ·simp [hl]
  ·rcases lS he with rfl | he
   ·rcases zaL.1 hw with hw | hw
    ·unfold Turns.ws at hw;cases ha:jh t.wait aj with
     | none=> rw [ha] at hw;cases hw
     | some ws=> rw [ha] at hw;exact h.wge _ (lQ ha) w hw
    ·simp only [zaO] at hw;subst hw;simp only;omega
   ·exact h.wge e he w hw
 ·have hc':t.owned aj=false/\t.ws aj=[]:=by
   simp only [zbe,zaY,not_or,zdb,zcb,List.isEmpty_iff] at hc;exact hc
  have hr:r.iT aj=-1/\r.waits aj=[]:=by
   refine⟨?_,by rw [<-S.waits];exact hc'.2⟩;rw [<-S.owner];rcases Classical.em (t.owner aj=-1) with e | e
   ·exact e
   ·rw [ho.2 e] at hc';cases hc'.1
  rw [if_neg hc,if_pos hr];refine⟨⟨λm=> ?_,S.waits,Jy S.rok (S.free hr.1),λo ho=> ?_⟩,rfl,⟨mJ h.ok _ _,λe he=> ?_,h.wk,h.wge⟩⟩
  ·show(jh (lK t.fU aj who) m).getD (-1)=(((r.owner++[(aj,who)]).find? λo=> decide (o.1=m)).map (·.2)).getD (-1);rw [yB (S.free hr.1),iw];by_cases hl:aj=m
   ·subst hl;simp
   ·rw [if_neg hl,if_neg λe=> hl e.symm];exact S.owner m
  ·rcases zaL.1 ho with ho | ho
   ·exact S.rge o ho
   ·simp only [zaO] at ho;subst ho;simp only;omega
  ·rcases lS he with rfl | he
   ·simp only;omega
   ·exact h.oge e he
theorem zZ:∀{l:List (Int × Int)},(l.map (·.1)).Nodup->∀{aj who:Int},(aj,who)∈l->∀m,(((lM (λo=> decide (o.1=aj) && decide (o.2=who)) l).find? λo=> decide (o.1=m)).map (·.2)).getD (-1)=if m=aj then -1 else((l.find? λo=> decide (o.1=m)).map (·.2)).getD (-1)
 | [],_,aj,who,h,m=> by cases h
 | (k,v)::l,hn,aj,who,h,m=> by
  rw [zaz,zaU] at hn;simp only [lM];by_cases hk:k=aj
  ·subst hk;have hv:v=who:=by
    rcases zaj.1 h with e | e
    ·cases e;rfl
    ·exact absurd (zaG.2 ⟨_,e,rfl⟩) hn.1
   subst hv;simp only [decide_true,zcq,if_true,List.find?_cons];by_cases hm:m=k
   ·subst hm;have:(l.find? λo=> decide (o.1=m))=none:=by
     rw [zbD];intro o ho;simp only [decide_eq_true_eq];intro e;exact hn.1 (zaG.2 ⟨o,ho,e⟩)
    rw [this];simp
   ·have:¬k=m:=λe=> hm e.symm;simp [hm,this]
  ·have h':(aj,who)∈l:=by
    rcases zaj.1 h with e | e
    ·cases e;exact absurd rfl hk
    ·exact e
   simp only [hk,decide_false,zbC,zaf,if_false,List.find?_cons];by_cases hm:k=m
   ·subst hm;simp [hk]
   ·simp only [hm,decide_false];exact zZ hn.2 h' m
theorem wI {α:Type}(p:α->Bool):∀l:List α,(lM p l).Sublist l
 | []=> .slnil
 | x::l=> by
  simp only [lM];split
  ·exact List.sublist_cons_self x l
  ·exact(wI p l).cons_cons x
theorem RX.release {t:Turns}{r:iq}(S:RX t r)(h:Gx t){aj who:Int}(hw:t.owner aj=who)(h0:0<=who):RX (t.release aj who).1 (r.release aj who).1/\(t.release aj who).2=0/\Gx (t.release aj who).1:=by
 have ha:jh t.fU aj=some who:=by
  unfold Turns.owner at hw;cases e:jh t.fU aj with
  | none=> rw [e] at hw;simp at hw;omega
  | some v=> rw [e] at hw;simp at hw;rw [hw]
 have hm:(aj,who)∈r.owner:=by
  have:=S.owner aj;rw [hw] at this;unfold iq.iT at this;cases e:r.owner.find? λo=> decide (o.1=aj) with
  | none=> rw [e] at this;simp at this;omega
  | some o=>
   rw [e] at this;have h1:=zba e;have h2:o.1=aj:=by simpa using zbX e
   simp at this;have:o=(aj,who):=by rw [Prod.ext_iff];exact⟨h2,this.symm⟩
   rw [<-this];exact h1
 have hany:(r.owner.any λo=> decide (o.1=aj) && decide (o.2=who))=true:=zda.2 ⟨_,hm,by simp⟩;unfold Turns.release iq.release;rw [if_pos ha,if_pos hany];refine⟨⟨λm=> ?_,S.waits,(S.rok.sublist ((wI _ _).map _)),λo ho=> S.rge o ((wI _ _).subset ho)⟩,rfl,⟨?_,λe he=> h.oge e (Gw he),h.wk,h.wge⟩⟩
 ·show(jh (xY t.fU aj) m).getD (-1)=_;rw [BR h.ok];show _=(((lM (λo=> decide (o.1=aj) && decide (o.2=who)) r.owner).find? λo=> decide (o.1=m)).map (·.2)).getD (-1);rw [zZ S.rok hm];by_cases hl:aj=m
  ·subst hl;simp
  ·rw [if_neg hl,if_neg λe=> hl e.symm];exact S.owner m
 ·show((xY t.fU aj).map (·.1)).Nodup;rw [BQ];exact h.ok.erase _
theorem yY:∀(l:List (Int × Int × Int)) (aj m:Int),((lM (λw=> decide (w.1=aj)) l).filter λw=> decide (w.1=m))=if m=aj then(l.filter λw=> decide (w.1=m)).tail else l.filter λw=> decide (w.1=m)
 | [],aj,m=> by simp [lM]
 | w::l,aj,m=> by
  simp only [lM];by_cases hw:w.1=aj
  ·simp only [hw,decide_true,if_true,zbP];by_cases hm:m=aj
   ·subst hm;simp
   ·have:¬aj=m:=λe=> hm e.symm;simp [hm,this]
  ·simp only [hw,decide_false,zaf,if_false,zbP];by_cases hm:w.1=m
   ·have hml:¬m=aj:=λe=> hw (by rw [hm,e]);simp only [hm,decide_true,if_true,hml,if_false];rw [yY l aj m,if_neg hml]
   ·simp only [hm,decide_false,zaf,if_false];exact yY l aj m
theorem RX.next {t:Turns}{r:iq}(S:RX t r)(h:Gx t)(aj:Int):RX (t.next aj).1 (r.next aj).1/\(r.next aj).2=(t.next aj).2/\Gx (t.next aj).1:=by
 unfold Turns.next iq.next
 by_cases ho:t.owned aj=true
 ·rw [if_pos ho,if_pos (by rw [<-S.owner];exact(h.owned aj).1 ho)];exact⟨S,rfl,h⟩
 ·have hr:r.iT aj=-1:=by
   rw [<-S.owner];rcases Classical.em (t.owner aj=-1) with e | e
   ·exact e
   ·exact absurd ((h.owned aj).2 e) ho
  rw [if_neg ho,if_neg (by rw [hr];simp)];have hw:=S.waits aj;unfold iq.waits at hw;cases hf:r.wait.find? λw=> decide (w.1=aj) with
  | none=>
   have:(r.wait.filter λw=> decide (w.1=aj))=[]:=by
    rw [List.filter_eq_nil_iff];exact λw hw=> zbD.1 hf w hw
   rw [this] at hw;rw [hw];exact⟨S,rfl,h⟩
  | some w=>
   have hfil:(r.wait.filter λw=> decide (w.1=aj))=w::(r.wait.filter λw=> decide (w.1=aj)).tail:=by
    have h1:(r.wait.filter λw=> decide (w.1=aj)).head?=some w:=by rw [List.head?_filter];exact hf
    cases hl:r.wait.filter λw=> decide (w.1=aj) with
    | nil=> rw [hl] at h1;cases h1
    | cons a b=> rw [hl] at h1;cases h1;rfl
   rw [hfil,zaz] at hw;rw [hw];have hwl:w.1=aj:=by simpa using zbX hf
   have hmem:∃ws,jh t.wait aj=some ws/\ws=w.2::(r.wait.filter λw=> decide (w.1=aj)).tail.map (·.2):=by
    unfold Turns.ws at hw;cases e:jh t.wait aj with
    | none=> rw [e] at hw;cases hw
    | some ws=> rw [e] at hw;exact⟨ws,rfl,hw⟩
   obtain⟨ws,hws,hws2⟩:=hmem;have hge:∀x∈ws,0<=x.1:=h.wge _ (lQ hws);have hw0:0<=w.2.1:=hge w.2 (by rw [hws2];simp);refine⟨⟨λm=> ?_,λm=> ?_,Jy S.rok (S.free hr),λo ho=> ?_⟩,rfl,⟨mJ h.ok _ _,λe he=> ?_,mJ h.wk _ _,λe he x hx=> ?_⟩⟩
   ·show(jh (lK t.fU aj w.2.1) m).getD (-1)=(((r.owner++[(aj,w.2.1)]).find? λo=> decide (o.1=m)).map (·.2)).getD (-1);rw [yB (S.free hr),iw];by_cases hl:aj=m
    ·subst hl;simp
    ·rw [if_neg hl,if_neg λe=> hl e.symm];exact S.owner m
   ·show(jh (lK t.wait aj _) m).getD []=((lM (λw=> decide (w.1=aj)) r.wait).filter λw=> decide (w.1=m)).map (·.2);rw [iw,yY];by_cases hl:aj=m
    ·subst hl;simp
    ·rw [if_neg hl,if_neg λe=> hl e.symm];exact S.waits m
   ·rcases zaL.1 ho with ho | ho
    ·exact S.rge o ho
    ·simp only [zaO] at ho;subst ho;exact hw0
   ·rcases lS he with rfl | he
    ·exact hw0
    ·exact h.oge e he
   ·rcases lS he with rfl | he
    ·exact hge x (by rw [hws2];exact za9 _ hx)
    ·exact h.wge e he x hx
theorem wJ {x y:Int}:∀{l:List Int},y∈lN x l↔y=x∨y∈l
 | []=> by simp [lN]
 | z::l=> by
  simp only [lN];split
  ·rw [zaj,wJ (l:=l),zaj];constructor
   ·rintro(h | h | h) <;> simp [h]
   ·rintro(h | h | h) <;> simp [h]
  ·split
   ·rename_i h;subst h;simp
   ·simp
theorem wK {x:Int}:∀{l:List Int},l.Pairwise (· < ·)->(lN x l).Pairwise (· < ·)
 | [],_=> by simp [lN]
 | z::l,h=> by
  have h1:=zbh.1 h;simp only [lN];split
  ·rename_i hlt;refine zbh.2 ⟨λy hy=> ?_,wK h1.2⟩;rcases wJ.1 hy with rfl | hy
   ·exact hlt
   ·exact h1.1 y hy
  ·split
   ·exact h
   ·refine zbh.2 ⟨λy hy=> ?_,h⟩;rcases zaj.1 hy with rfl | hy
    ·omega
    ·have:=h1.1 y hy;omega
theorem BU(t:iq):∀(l:List (Int × Int × Int)) (out:List Int),out.Pairwise (· < ·)->
  (l.foldl (λout w=> if t.iT w.1≠-1 then out else lN w.1 out) out).Pairwise (· < ·)/\
  ∀x,x∈l.foldl (λout w=> if t.iT w.1≠-1 then out else lN w.1 out) out↔x∈out∨(t.iT x=-1/\∃w∈l,w.1=x)
 | [],out,h=> ⟨h,λx=> by simp⟩
 | w::l,out,h=> by
  rw [zbI];by_cases hw:t.iT w.1≠-1
  ·rw [if_pos hw];obtain⟨h1,h2⟩:=BU t l out h;refine⟨h1,λx=> ?_⟩;rw [h2 x];constructor
   ·rintro(h | ⟨h,w',h',e⟩)
    ·exact .inl h
    ·exact .inr ⟨h,w',by simp [h'],e⟩
   ·rintro(h | ⟨h,w',h',e⟩)
    ·exact .inl h
    ·rcases zaj.1 h' with e' | h'
     ·rw [<-e,e'] at h;exact absurd h hw
     ·exact .inr ⟨h,w',h',e⟩
  ·rw [if_neg hw];obtain⟨h1,h2⟩:=BU t l (lN w.1 out) (wK h);refine⟨h1,λx=> ?_⟩;rw [h2 x,wJ];have hw:t.iT w.1=-1:=by
    rcases Classical.em (t.iT w.1=-1) with e | e
    ·exact e
    ·exact absurd e hw
   constructor
   ·rintro((h | h) | ⟨h,w',h',e⟩)
    ·exact .inr ⟨by rw [h];exact hw,w,by simp,h.symm⟩
    ·exact .inl h
    ·exact .inr ⟨h,w',by simp [h'],e⟩
   ·rintro(h | ⟨h,w',h',e⟩)
    ·exact .inl (.inr h)
    ·rcases zaj.1 h' with e' | h'
     ·exact .inl (.inl (by rw [<-e,e']))
     ·exact .inr ⟨h,w',h',e⟩
theorem Wv {l l':List Int}(h:l.Pairwise (· < ·))(h':l'.Pairwise (· < ·))(hm:∀x,x∈l↔x∈l'):l=l':=by
 have n1:l.Nodup:=h.imp λh=> by omega
 have n2:l'.Nodup:=h'.imp λh=> by omega
 exact((List.perm_ext_iff_of_nodup n1 n2).2 hm).eq_of_pairwise (λa b _ _ h1 h2=> by omega) h h'
theorem ajE {l:List Int}(h:l.Nodup):(srt [] l).Pairwise (· < ·)/\∀x,x∈srt [] l↔x∈l:=by
 obtain⟨h1,h2⟩:=uK l [] List.Pairwise.nil;rw [zaK] at h1;have n:(srt [] l).Nodup:=h1.nodup_iff.2 h;exact⟨h2.imp₂ (λa b h1 h2=> by omega) n,λx=> h1.mem_iff⟩
theorem RX.ready {t:Turns}{r:iq}(S:RX t r)(h:Gx t):r.ready=t.ready (srt [] (t.wait.map (·.1))):=by
 obtain⟨r1,r2⟩:=BU r r.wait [] List.Pairwise.nil;obtain⟨k1,k2⟩:=ajE h.wk;refine Wv r1 (k1.filter _) λx=> ?_;show x∈r.wait.foldl (λout w=> if r.iT w.1≠-1 then out else lN w.1 out) []↔x∈(srt [] (t.wait.map (·.1))).filter λaj=> !t.owned aj && !(t.ws aj).isEmpty;rw [r2 x,zbl,k2];have ho:t.owned x=false↔r.iT x=-1:=by
  rw [<-S.owner];have:=h.owned x;cases hx:t.owned x
  ·simp only [hx,zaf,false_iff,ne_eq,Decidable.not_not] at this;simp [this]
  ·simp only [hx,true_iff] at this;simp [this]
 have hw:(t.ws x).isEmpty=false↔∃w∈r.wait,w.1=x:=by
  rw [S.waits];unfold iq.waits;constructor
  ·intro hh;cases hf:r.wait.filter λw=> decide (w.1=x) with
   | nil=> rw [hf] at hh;cases hh
   | cons a l=>
    have:a∈r.wait.filter λw=> decide (w.1=x):=by rw [hf];simp
    rw [zbl] at this;exact⟨a,this.1,by simpa using this.2⟩
  ·rintro⟨w,h1,h2⟩;have:w∈r.wait.filter λw=> decide (w.1=x):=zbl.2 ⟨h1,by simp [h2]⟩;cases hf:r.wait.filter λw=> decide (w.1=x) with
   | nil=> rw [hf] at this;cases this
   | cons a l=> rfl
 simp only [zaw,false_or,zah,zaY];constructor
 ·rintro⟨h1,h2⟩;refine⟨?_,ho.2 h1,hw.2 h2⟩;have:=hw.2 h2;unfold Turns.ws at this;cases ha:jh t.wait x with
  | none=> rw [ha] at this;cases this
  | some v=> exact zaG.2 ⟨_,lQ ha,rfl⟩
 ·rintro⟨_,h1,h2⟩;exact⟨ho.1 h1,hw.1 h2⟩
structure Jz(c:Cfg)(me:Int)(h:Home)(r:iO):Prop where
 dD:∀aj,kN c me aj=true->∃row,jh h.dD aj=some row/\r.dD[aj.toNat]?=some row
 none:∀aj,kN c me aj=false->jh h.dD aj=none
 aP:RX h.aP r.aP
structure XD(c:Cfg)(me:Int)(h:Home):Prop where
 aP:Gx h.aP
 here:∀e∈h.aP.wait,kN c me e.1=true
theorem Jz.row {c:Cfg}{me:Int}{h:Home}{r:iO}(S:Jz c me h r){aj:Int}(hl:kN c me aj=true):r.row aj=jc h.dD aj:=by
 obtain⟨row,h1,h2⟩:=S.dD aj hl;unfold iO.row jc;rw [h1,zas,h2];first | done | rfl
theorem Jz.granted {c:Cfg}{me:Int}{h:Home}{r:iO}(S:Jz c me h r){aj:Int}(hl:kN c me aj=true)(who id:Int):r.granted me aj who id=Proofs.YtljogojaihgdlaaGreat.granted h.dD me aj who id:=by
 unfold iO.granted Proofs.YtljogojaihgdlaaGreat.granted;rw [S.row hl]
theorem Jz.Gy {c:Cfg}{me:Int}{h:Home}{r:iO}(S:Jz c me h r){t:Turns}{rt:iq}(T:RX t rt):Jz c me { h with aP:=t } { r with aP:=rt }:=⟨S.dD,S.none,T⟩
theorem UJ {t:Turns}{aj who id:Int}{e:Int × List (Int × Int)}(h:e∈(t.ask aj who id).1.wait):e.1=aj∨e∈t.wait:=by
 unfold Turns.ask at h;split at h
 ·exact .inr h
 ·split at h
  ·rcases lS h with rfl | h
   ·exact .inl rfl
   ·exact .inr h
  ·exact .inr h
theorem Dx {t:Turns}{aj who:Int}:(t.release aj who).1.wait=t.wait:=by
 unfold Turns.release;split <;> rfl
theorem O5 {t:Turns}{aj:Int}{e:Int × List (Int × Int)}(h:e∈(t.next aj).1.wait):e∈t.wait∨(e.1=aj/\t.ws aj≠[]):=by
 unfold Turns.next at h
 split at h
 ·exact .inl h
 ·split at h
  ·exact .inl h
  ·rename_i w ws hw;rcases lS h with rfl | h
   ·exact .inr ⟨rfl,by rw [hw];simp⟩
   ·exact .inl h
theorem Aa {c:Cfg}(hc:c.ok=true){me aj:Int}(h0:0<=aj):(c.aX aj≠me∨c.bg<=aj)↔kN c me aj=false:=by
 have he:c.aX aj=aj % c.aH:=by unfold Cfg.aX yw;rw [if_neg (by omega)]
 unfold kN;rw [he];constructor
 ·rintro(h | h)
  ·simp [h]
  ·have:¬aj < c.bg:=by omega
   simp [this]
 ·intro h;simp only [zcQ,decide_eq_false_iff_not] at h;rcases h with(h | h) | h
  ·omega
  ·right;omega
  ·exact .inl h
theorem Jz.set {c:Cfg}{me:Int}{h:Home}{r:iO}(S:Jz c me h r)(aj aT head:Int)(data:List Int):
  (r.oG c me aj aT head data).2=(iC c h.dD aj aT head data).2/\Jz c me { h with dD:=(iC c h.dD aj aT head data).1 } (r.oG c me aj aT head data).1/\(r.oG c me aj aT head data).1.aP=r.aP:=by
 unfold iO.oG iC;by_cases hh:kN c me aj=true
 ·obtain⟨row,h1,h2⟩:=S.dD aj hh;rw [if_neg (by rw [hh];simp),h1];simp only;by_cases hA:aT < 0∨2 < aT∨head < -1∨c.aH<=head
  ·rw [if_pos (by rcases hA with h | h | h | h <;> simp [h]),if_pos hA];exact⟨rfl,S,rfl⟩
  ·rw [if_neg hA];have hB:(aT < 0∨2 < aT∨head < -1∨c.aH<=head∨¬(aT=0↔head=-1)∨(data≠[]/\(data.length:Int)≠c.dh))↔((decide (head=-1) !=decide (aT=0)) || (decide (data≠[]) && decide ((data.length:Int)≠c.dh)))=true:=by
    simp only [not_or] at hA;simp only [hA.1,hA.2.1,hA.2.2.1,hA.2.2.2,false_or,zbe,zah,decide_eq_true_eq,bne_iff_ne,ne_eq,decide_eq_decide];constructor
    ·rintro(h | h)
     ·exact .inl λe=> h e.symm
     ·exact .inr h
    ·rintro(h | h)
     ·exact .inl λe=> h e.symm
     ·exact .inr h
   by_cases hC:((decide (head=-1) !=decide (aT=0)) || (decide (data≠[]) && decide ((data.length:Int)≠c.dh)))=true
   ·rw [if_pos (hB.2 hC),if_pos hC];exact⟨rfl,S,rfl⟩
   ·rw [if_neg λe=> hC (hB.1 e),if_neg hC];refine⟨rfl,⟨λm hm=> ?_,λm hm=> ?_,S.aP⟩,rfl⟩
    ·obtain⟨row',k1,k2⟩:=S.dD m hm;have h0:0<=aj:=by simp only [kN,zah,decide_eq_true_eq] at hh;exact hh.1.1
     have hm0:0<=m:=by simp only [kN,zah,decide_eq_true_eq] at hm;exact hm.1.1
     simp only;rw [iw];by_cases hl:aj=m
     ·subst hl;rw [if_pos rfl];refine⟨_,rfl,?_⟩;have hlt:=(zai.1 h2).1;rw [za7 hlt];have:r.row aj=row:=by unfold iO.row;rw [zas,h2];rfl
      rw [this]
     ·rw [if_neg hl,zbc (by omega)];exact⟨row',k1,k2⟩
    ·simp only;rw [iw,if_neg λe=> by subst e;rw [hh] at hm;cases hm];exact S.none m hm
 ·have hh:kN c me aj=false:=by simpa using hh
  rw [if_pos hh,S.none aj hh];exact⟨rfl,S,rfl⟩
theorem Jz.handle {c:Cfg}(hc:c.ok=true){me:Int}{h:Home}{r:iO}(S:Jz c me h r)(I:XD c me h)(p:Pkt):
  Jz c me (h.handle c me p).1 (r.handle c me p).1/\(r.handle c me p).2=(h.handle c me p).2/\XD c me (h.handle c me p).1:=by
 unfold Home.handle iO.handle;by_cases h1:p.ok=false∨p.dst≠me∨c.aH<=p.src∨(p.aO≠1/\p.aO≠2)
 ·rw [if_pos h1,if_pos (by
   rcases h1 with h | h | h | h
   ·simp [h]
   ·simp [h]
   ·have:¬p.src < c.aH:=by omega
    simp [this]
   ·simp [h])]
  exact⟨S,rfl,I⟩
 rw [if_neg h1,if_neg (by
  simp only [not_or] at h1;obtain⟨a1,a2,a3,a4⟩:=h1;have a5:p.src < c.aH:=by omega
  have a1:p.ok=true:=by simpa using a1
  simp only [ne_eq,Decidable.not_not] at a2;simp only [a1,a2,a5,decide_true,zcq,zae,zcB,zah,decide_eq_true_eq];exact a4)]
 simp only [not_or] at h1;have hok:p.ok=true:=by simpa using h1.1
 have hl0:0<=p.aj:=by
  simp only [Pkt.ok,zah,decide_eq_true_eq] at hok;omega
 have hs0:0<=p.src:=by
  simp only [Pkt.ok,zah,decide_eq_true_eq] at hok;omega
 by_cases hh:kN c me p.aj=false
 ·rw [if_pos hh,if_pos ((Aa hc hl0).2 hh)];exact⟨S,rfl,I⟩
 rw [if_neg hh,if_neg λe=> hh ((Aa hc hl0).1 e)];have hh:kN c me p.aj=true:=by simpa using hh
 by_cases hk:p.aO=1
 ·rw [if_pos hk,if_pos hk];obtain⟨t1,t2,t3⟩:=S.aP.ask I.aP p.aj p.src p.id;have Lm:∀e∈(h.aP.ask p.aj p.src p.id).1.wait,kN c me e.1=true:=λe he=> by
   rcases UJ he with h | h
   ·rw [h];exact hh
   ·exact I.here e h
  simp only [t2];split
  ·exact⟨S.Gy t1,by simp only;rw [S.granted hh],⟨t3,Lm⟩⟩
  ·exact⟨S.Gy t1,rfl,⟨t3,Lm⟩⟩
 rw [if_neg hk,if_neg hk];unfold Home.unlock;generalize (if p.flag=true then p.data else [])=dat;by_cases ho:h.aP.owner p.aj≠p.src
 ·simp only [if_pos ho,if_pos (show r.aP.iT p.aj≠p.src by rw [<-S.aP.owner];exact ho)];exact⟨S,rfl,I⟩
 ·simp only [if_neg ho,if_neg (show¬r.aP.iT p.aj≠p.src by rw [<-S.aP.owner];exact ho)];have ho:h.aP.owner p.aj=p.src:=by simpa using ho
  obtain⟨s1,s2,s3⟩:=S.set p.aj p.aT p.ptr dat;obtain⟨r1,r2,r3⟩:=S.aP.release I.aP ho hs0;have rw_:(h.aP.release p.aj p.src).1.wait=h.aP.wait:=Dx;rw [s1];by_cases he:(iC c h.dD p.aj p.aT p.ptr dat).2=0
  ·simp only [if_pos he,r2,if_true];refine⟨⟨s2.dD,s2.none,?_⟩,by first | trivial | rfl,⟨r3,by rw [rw_];exact I.here⟩⟩;simp only;rw [s3];exact r1
  ·simp only [if_neg he];exact⟨S,by first | trivial | rfl,I⟩
theorem Jz.ready {c:Cfg}{me:Int}{h:Home}{r:iO}(S:Jz c me h r)(I:XD c me h):r.aP.ready=h.ready:=S.aP.ready I.aP
theorem wL {h:Home}{aj:Int}{l:List Int}(hr:h.ready=aj::l):h.aP.owned aj=false/\h.aP.ws aj≠[]/\aj∈h.aP.wait.map (·.1):=by
 have:aj∈h.ready:=by rw [hr];simp
 unfold Home.ready Turns.ready at this;rw [zbl] at this;obtain⟨h1,h2⟩:=this;simp only [zah,zaY] at h2;refine⟨h2.1,λe=> by rw [e] at h2;exact absurd h2.2 (by simp),?_⟩;have:=(uK (h.aP.wait.map (·.1)) [] List.Pairwise.nil).1;rw [zaK] at this;exact this.mem_iff.1 h1
theorem Jz.grant {c:Cfg}{me:Int}{h:Home}{r:iO}(S:Jz c me h r)(I:XD c me h):
  Jz c me (h.grant me).1 (r.grant me).1/\(r.grant me).2.1=(h.grant me).2.1/\XD c me (h.grant me).1:=by
 unfold Home.grant iO.grant;rw [S.ready I];cases hr:h.ready with
 | nil=> exact⟨S,rfl,I⟩
 | cons aj l=>
  obtain⟨m1,m2,m3⟩:=wL hr;obtain⟨t1,t2,t3⟩:=S.aP.next I.aP aj
  have hh:kN c me aj=true:=by
   obtain⟨e,he,rfl⟩:=zaG.1 m3;exact I.here e he
  have Lm:∀e∈(h.aP.next aj).1.wait,kN c me e.1=true:=λe he=> by
   rcases O5 he with h | h
   ·exact I.here e h
   ·rw [h.1];exact hh
  obtain⟨w,hw⟩:∃w,(h.aP.next aj).2=some w:=by
   unfold Turns.next
   rw [if_neg (by rw [m1];simp)];cases hws:h.aP.ws aj with
   | nil=> exact absurd hws m2
   | cons w ws=> exact⟨w,rfl⟩
  simp only;cases ha:h.aP.next aj with
  | mk t o=>
   cases hb:r.aP.next aj with
   | mk rt ro=>
    rw [ha,hb] at t1 t2;rw [ha] at t3 Lm hw;simp only at t1 t2 t3 Lm hw;subst t2;subst hw;simp only [zat];exact⟨S.Gy t1,S.granted hh _ _,⟨t3,Lm⟩⟩
def Dy(d:bJ)(bn:Int)(c:Cache)(p:Pkt):Nxt:=
 if d.aO=1 then dQ d bn c p else if d.aO=2 then dS d bn c p else if d.aO=3 then eF d c p else vN c
def I64(z:Int):Prop:=-9223372036854775808<=z/\z<=9223372036854775807
theorem ajF(z:Int):I64 (w64 z):=by
 show -9223372036854775808<=IntKind.wrap .i64 z/\IntKind.wrap .i64 z<=9223372036854775807;simp only [IntKind.wrap,IntKind.bits,IntKind.signed];simp;split <;> constructor <;> omega
def pF(c:Cfg)(d:List Int):Prop:=(d.length:Int)=c.dh/\∀v∈d,I64 v
structure xZ(c:Cfg)(p:Pkt):Prop where
 ok:p.ok=true
 dat:p.aO=7∨p.aO=9->pF c p.data
 num:∀v∈p.data,I64 v
structure JA(c:Cfg)(p:Port):Prop where
 rq:(p.rq.length:Int)<=c.out
 an:(p.an.length:Int)<=c.out
 rin:(p.rin.length:Int)<=c.inn
 ain:(p.ain.length:Int)<=1
 pkt:∀q,q∈p.rq∨q∈p.an∨q∈p.rin∨q∈p.ain->xZ c q
structure vO(c:Cfg)(f:Fab):Prop where
 out:f.out=c.out
 inn:f.inn=c.inn
 len:(f.l.length:Int)=c.aH
 port:∀p∈f.l,JA c p
theorem mM {c:Cfg}(h:c.ok=true):(1<=c.aH/\c.aH<=6)/\(1<=c.bg/\c.bg<=8)/\(1<=c.dh/\c.dh<=4)/\(1<=c.sets/\c.sets<=4)/\(1<=c.ways/\c.ways<=3)/\(1<=c.out/\c.out<=8)/\(1<=c.inn/\c.inn<=8):=by
 unfold Cfg.ok at h;simp only [zah,decide_eq_true_eq] at h;omega
theorem vO.get {c:Cfg}{f:Fab}(F:vO c f){i:Int}(h:f.is i=true):JA c (f.port i):=by
 unfold Fab.is at h;simp only [zah,decide_eq_true_eq] at h;have hi:i.toNat < f.l.length:=by omega
 unfold Fab.port;rw [zas,zab hi,zat];exact F.port _ (List.getElem_mem hi)
theorem vO.put {c:Cfg}{f:Fab}(F:vO c f)(i:Int){p:Port}(h:JA c p):vO c (f.put i p):=by
 refine⟨F.out,F.inn,by simp only [Fab.put,zbY];exact F.len,λq hq=> ?_⟩;simp only [Fab.put] at hq;rcases zbL hq with hq | hq
 ·exact F.port q hq
 ·rw [hq];exact h
theorem vO.send {c:Cfg}{f:Fab}(F:vO c f){p:Pkt}(hp:p.ok=true->xZ c p):vO c (f.send p).1:=by
 unfold Fab.send;split
 ·exact F
 ·rename_i h;simp only [zbe,zaY,not_or,zcb] at h;obtain⟨⟨h1,h2⟩,h3⟩:=h;have P:=F.get h2;have Q:=hp h1;split
  ·exact F
  ·rename_i hr;refine F.put _ ?_;rw [F.out] at hr;cases hk:oW p.aO with
   | true=>
    rw [hk] at hr;simp only [Port.sort,if_true] at hr;refine⟨?_,P.an,P.rin,P.ain,λq hq=> ?_⟩
    ·simp only [Port.jE,Port.sort,if_true,zao,zal,zan];omega
    ·simp only [Port.jE,Port.sort,if_true,zaL,zaO] at hq;rcases hq with(hq | hq) | hq
     ·exact P.pkt q (.inl hq)
     ·rw [hq];exact Q
     ·exact P.pkt q (.inr hq)
   | false=>
    rw [hk] at hr;simp only [Port.sort,zaf,if_false] at hr;refine⟨P.rq,?_,P.rin,P.ain,λq hq=> ?_⟩
    ·simp only [Port.jE,Port.sort,zaf,if_false,zao,zal,zan];omega
    ·simp only [Port.jE,Port.sort,zaf,if_false,zaL,zaO] at hq;rcases hq with hq | (hq | hq) | hq
     ·exact P.pkt q (.inl hq)
     ·exact P.pkt q (.inr (.inl hq))
     ·rw [hq];exact Q
     ·exact P.pkt q (.inr (.inr hq))
theorem vO.take {c:Cfg}{f:Fab}(F:vO c f)(i:Int)(req:Bool):vO c (f.take i req).1/\∀p,(f.take i req).2=some p->xZ c p:=by
 unfold Fab.take;split
 ·rename_i h;have P:=F.get h;cases hl:(f.port i).pz req with
  | nil=> exact⟨F,λp hp=> by cases hp⟩
  | cons p l=>
   simp only;cases req with
   | true=>
    simp only [Port.pz,if_true] at hl;have h1:=P.rin;rw [hl] at h1;simp only [zal] at h1;refine⟨F.put _ ⟨P.rq,P.an,?_,P.ain,λq hq=> ?_⟩,λp' hp=> ?_⟩
    ·simp only [Port.kL,if_true];omega
    ·simp only [Port.kL,if_true] at hq;rcases hq with hq | hq | hq | hq
     ·exact P.pkt q (.inl hq)
     ·exact P.pkt q (.inr (.inl hq))
     ·exact P.pkt q (.inr (.inr (.inl (by rw [hl];simp [hq]))))
     ·exact P.pkt q (.inr (.inr (.inr hq)))
    ·cases hp;exact P.pkt _ (.inr (.inr (.inl (by rw [hl];simp))))
   | false=>
    simp only [Port.pz,zaf,if_false] at hl;have h1:=P.ain;rw [hl] at h1;simp only [zal] at h1;refine⟨F.put _ ⟨P.rq,P.an,P.rin,?_,λq hq=> ?_⟩,λp' hp=> ?_⟩
    ·simp only [Port.kL,zaf,if_false];omega
    ·simp only [Port.kL,zaf,if_false] at hq;rcases hq with hq | hq | hq | hq
     ·exact P.pkt q (.inl hq)
     ·exact P.pkt q (.inr (.inl hq))
     ·exact P.pkt q (.inr (.inr (.inl hq)))
     ·exact P.pkt q (.inr (.inr (.inr (by rw [hl];simp [hq]))))
    ·cases hp;exact P.pkt _ (.inr (.inr (.inr (by rw [hl];simp))))
 ·exact⟨F,λp hp=> by cases hp⟩
theorem vO.room {c:Cfg}{f:Fab}(F:vO c f)(i:Int)(req:Bool):0<=f.roomOf i req:=by
 unfold Fab.roomOf;split
 ·rename_i h;have P:=F.get h;have h1:=P.rq;have h2:=P.an;rw [F.out];cases req <;> simp only [Port.sort,if_true,zaf,if_false] <;> omega
 ·exact zbi _
theorem Ac {α:Type}{l:List α}{i:Nat}{a:α}(h:a∈l.eraseIdx i):a∈l:=(zcN l i).subset h
theorem JA.drop {c:Cfg}{p:Port}(P:JA c p)(req:Bool)(k:Nat):JA c (p.drop req k):=by
 have hl:∀(l:List Pkt),((l.eraseIdx k).length:Int)<=l.length:=λl=> by
  have:=(zcN l k).length_le;omega
 cases req with
 | true=>
  refine⟨?_,P.an,P.rin,P.ain,λq hq=> ?_⟩
  ·have:=hl p.rq;have:=P.rq;simp only [Port.drop,Port.jE,Port.sort,if_true];omega
  ·simp only [Port.drop,Port.jE,Port.sort,if_true] at hq;rcases hq with hq | hq
   ·exact P.pkt q (.inl (Ac hq))
   ·exact P.pkt q (.inr hq)
 | false=>
  refine⟨P.rq,?_,P.rin,P.ain,λq hq=> ?_⟩
  ·have:=hl p.an;have:=P.an;simp only [Port.drop,Port.jE,Port.sort,zaf,if_false];omega
  ·simp only [Port.drop,Port.jE,Port.sort,zaf,if_false] at hq;rcases hq with hq | hq | hq
   ·exact P.pkt q (.inl hq)
   ·exact P.pkt q (.inr (.inl (Ac hq)))
   ·exact P.pkt q (.inr (.inr hq))
theorem O6:∀(l:List Port) (i k:Nat) {j:Nat} {req:Bool} {k':Nat},zT l i k=some (j,req,k')->i<=j/\j < i+l.length
 | [],i,k,j,req,k',h=> by cases h
 | p::l,i,k,j,req,k',h=> by
  simp only [zT] at h;split at h
  ·cases h;simp
  ·split at h
   ·cases h;simp
   ·have:=O6 l (i+1) _ h;simp only [zal];omega
theorem vO.remove {c:Cfg}{f:Fab}(F:vO c f)(k:Nat):vO c (f.remove k):=by
 unfold Fab.remove;split
 ·rename_i i req k' h;have hi:=O6 _ _ _ h;refine F.put _ ((F.get ?_).drop _ _);unfold Fab.is;simp only [zah,decide_eq_true_eq];omega
 ·exact F
theorem vO.pkt {c:Cfg}{f:Fab}(F:vO c f){p:Pkt}(h:p∈f.all):xZ c p:=by
 unfold Fab.all at h;obtain⟨q,hq,hp⟩:=za0.1 h;rcases zaL.1 hp with hp | hp
 ·exact(F.port q hq).pkt p (.inl hp)
 ·exact(F.port q hq).pkt p (.inr (.inl hp))
theorem vO.deliver {c:Cfg}{f:Fab}(F:vO c f)(at_ bit mask:Int):vO c (f.deliver at_ bit mask).1:=by
 unfold Fab.deliver;split
 ·exact F
 split
 ·exact F
 ·rename_i p hp;have Q:=F.pkt (zav hp);split
  ·exact F
  split
  ·exact F
  ·rename_i hr;refine vO.remove ?_ _;by_cases h:f.is p.dst=true
   ·have P:=F.get h;refine F.put _ ?_;cases hk:oW p.aO with
    | true=>
     rw [hk] at hr;simp only [Fab.room,Port.pz,if_true,F.inn] at hr;refine⟨P.rq,P.an,?_,P.ain,λq hq=> ?_⟩
     ·simp only [Port.kL,Port.pz,if_true,zao,zal,zan];omega
     ·simp only [Port.kL,Port.pz,if_true,zaL,zaO] at hq;rcases hq with hq | hq | (hq | hq) | hq
      ·exact P.pkt q (.inl hq)
      ·exact P.pkt q (.inr (.inl hq))
      ·exact P.pkt q (.inr (.inr (.inl hq)))
      ·rw [hq];exact Q
      ·exact P.pkt q (.inr (.inr (.inr hq)))
    | false=>
     rw [hk] at hr;simp only [Fab.room,Port.pz,zaf,if_false] at hr;refine⟨P.rq,P.an,P.rin,?_,λq hq=> ?_⟩
     ·simp only [Port.kL,Port.pz,zaf,if_false,zao,zal,zan];omega
     ·simp only [Port.kL,Port.pz,zaf,if_false,zaL,zaO] at hq;rcases hq with hq | hq | hq | (hq | hq)
      ·exact P.pkt q (.inl hq)
      ·exact P.pkt q (.inr (.inl hq))
      ·exact P.pkt q (.inr (.inr (.inl hq)))
      ·exact P.pkt q (.inr (.inr (.inr hq)))
      ·rw [hq];exact Q
   ·-- no such bn:nothing is put
    have hn:f.l.length<=p.dst.toNat:=by
     have hok:=Q.ok;simp only [Pkt.ok,zah,decide_eq_true_eq] at hok;simp only [Fab.is,zah,decide_eq_true_eq] at h;omega
    unfold Fab.put;rw [List.set_eq_of_length_le hn];exact⟨F.out,F.inn,F.len,F.port⟩
structure anQ(c:Cfg)(k:Int)(e:Ent):Prop where
 lo:0<=e.aj
 hi:e.aj < c.bg
 used:e.used<=k
 u0:0<=e.used
 dat:pF c e.data
structure Eo(c:Cfg)(ca:Cache):Prop where
 sets:ca.sets=c.sets
 ways:ca.ways=c.ways
 bg:Lines ca.l
 acd:Gv ca.l
 ent:∀e∈ca.l,anQ c ca.bZ e
 room:∀aj,((ca.oG aj).length:Int)<=ca.ways
 agL:0<=ca.bZ
structure ajG(c:Cfg)(n:Node):Prop where
 dU:n.bG.dU=true
 op:∃o,n.bG.cur=some o/\c.bV o.addr=n.aF.aj/\(n.aF.aO=1->o.aO=1)/\(n.aF.aO=2->o.aO=2∨o.aO=3)
 full:n.aI.full n.aF.aj=false
structure aeQ(c:Cfg)(n:Node):Prop where
 lo:0<=n.aF.aj
 hi:n.aF.aj < c.bg
 aO:1<=n.aF.aO/\n.aF.aO<=3
 dat:n.aF.data=[]∨pF c n.aF.data
 agM:n.aF.aO=2->n.aF.step=3->pF c n.aF.data
 roll:n.aF.aO=3->n.bG.dU=true
 work:n.aF.aO≠3->n.aF.step≠6->ajG c n
 rest:n.aF.aO≠3->n.aF.step=6->n.bG.dU=false
structure agN(c:Cfg)(p:Proc):Prop where
 most:p.ops.length<=24
 right:∀o∈p.ops,c.right o=true/\I64 o.value
 vals:p.bf.length<=p.ops.length
 dU:p.dU=true->p.bf.length < p.ops.length
structure Wx(c:Cfg)(me:Int)(n:Node):Prop where
 bG:agN c n.bG
 aI:Eo c n.aI
 dD:∀e∈n.home.dD,pF c e.2.data
 home:XD c me n.home
 aF:n.aF.step≠0->aeQ c n
 clk:n.aI.bZ<=n.bG.bf.length
theorem YS {l:List Ent}{f:Ent->Ent}(h:Gv l)(hf:∀x∈l,(f x).used=x.used):Gv (l.map f):=by
 unfold Gv;rw [zcs];exact h.imp_of_mem λha hb hab=> by rw [hf _ ha,hf _ hb];exact hab
theorem Ad {l:List Ent}{f:Ent->Ent}(h:Lines l)(hf:∀x∈l,(f x).aj=x.aj):Lines (l.map f):=by
 unfold Lines;rw [zcs];exact h.imp_of_mem λha hb hab=> by rw [hf _ ha,hf _ hb];exact hab
theorem Ae(ca:Cache)(aj:Int){q:Ent->Bool}:(({ ca with l:=ca.l.filter q }:Cache).oG aj).length<=(ca.oG aj).length:=by
 unfold Cache.oG;rw [zdv];have:(ca.l.filter λe=> (decide (0<=aj) && decide (e.aj.tmod ca.sets=aj.tmod ca.sets)) && q e)=((ca.l.filter λe=> decide (0<=aj) && decide (e.aj.tmod ca.sets=aj.tmod ca.sets))).filter q:=by
  rw [zdv]
  apply zc4
  intro x _;rw [Bool.and_comm]
 rw [this];exact zco _ _
theorem Gz(ca:Cache)(aj k:Int){f:Ent->Ent}(hf:∀x∈ca.l,(f x).aj=x.aj):(({ ca with l:=ca.l.map f,bZ:=k }:Cache).oG aj).length=(ca.oG aj).length:=by
 unfold Cache.oG;rw [List.filter_map,zaB]
 congr 1
 apply zc4
 intro y hy;simp only [Function.comp,hf y hy]
theorem Eo.put {c:Cfg}{ca:Cache}(I:Eo c ca){e:Ent}(h0:0<=e.aj)(h1:e.aj < c.bg)(hd:pF c e.data):Eo c (ca.put e).1:=by
 cases hf:ca.find e.aj with
 | some x=>
  obtain⟨hx,hxl⟩:=(iy I.bg).1 hf;rw [lC I.bg h0 hf];refine⟨I.sets,I.ways,Ad I.bg λy _=> ?_,YS I.acd λy hy=> ?_,λy hy=> ?_,λaj=> ?_,I.agL⟩
  ·split
   ·rename_i h;exact h.symm
   ·rfl
  ·split
   ·rename_i h;rw [I.bg.inj hy hx (by rw [h,hxl])]
   ·rfl
  ·obtain⟨z,hz,rfl⟩:=zaG.1 hy;split
   ·exact⟨h0,h1,(I.ent x hx).used,(I.ent x hx).u0,hd⟩
   ·exact I.ent z hz
  ·have:=Gz ca aj ca.bZ (f:=λy=> if y.aj=e.aj then { e with used:=x.used } else y) (λy _=> by
    split
    ·rename_i h;exact h.symm
    ·rfl)
   have h2:=I.room aj;rw [<-this] at h2;exact h2
 | none=>
  unfold Cache.put;rw [if_neg (by omega),yV.2 hf];simp only;split
  ·exact I
  ·rename_i hfull;have hn:=sZ.1 (show(ca.l.find? λx=> decide (x.aj=e.aj))=none from hf);refine⟨I.sets,I.ways,?_,?_,λy hy=> ?_,λaj=> ?_,by have:=I.agL;simp only;omega⟩
   ·unfold Lines;rw [List.pairwise_append];exact⟨I.bg,by simp,λa ha b hb=> by rw [zaO.1 hb];exact hn a ha⟩
   ·unfold Gv;rw [List.pairwise_append];refine⟨I.acd,by simp,λa ha b hb=> ?_⟩;rw [zaO.1 hb];have:=(I.ent a ha).used;simp only;omega
   ·rcases zaL.1 hy with hy | hy
    ·have:=I.ent y hy;exact⟨this.lo,this.hi,by have:=this.used;simp only;omega,this.u0,this.dat⟩
    ·rw [zaO.1 hy];exact⟨h0,h1,by simp only;omega,by have:=I.agL;simp only;omega,hd⟩
   ·simp only [Cache.full,hf,zcG,zbn,decide_eq_true_eq] at hfull;have hr:=I.room aj;unfold Cache.oG at hfull hr ⊢;simp only [zb3,zao];by_cases hs:(decide (0<=aj) && decide (e.aj.tmod ca.sets=aj.tmod ca.sets))=true
    ·simp only [zah,decide_eq_true_eq] at hs;have:(ca.l.filter λx=> decide (0<=aj) && decide (x.aj.tmod ca.sets=aj.tmod ca.sets))=ca.l.filter λx=> decide (0<=e.aj) && decide (x.aj.tmod ca.sets=e.aj.tmod ca.sets):=by
      apply zc4
      intro x _;rw [hs.2];simp [hs.1,h0]
     rw [this];have h1:(([({ e with used:=ca.bZ+1 }:Ent)].filter λx=> decide (0<=aj) && decide (x.aj.tmod ca.sets=aj.tmod ca.sets)).length)<=1:=zco _ _;omega
    ·have:([({ e with used:=ca.bZ+1 }:Ent)].filter λx=> decide (0<=aj) && decide (x.aj.tmod ca.sets=aj.tmod ca.sets))=[]:=by
      simp only [zbP,List.filter_nil];rw [if_neg hs]
     rw [this];simp only [zan,zbN];exact hr
theorem Eo.drop {c:Cfg}{ca:Cache}(I:Eo c ca)(line':Int):Eo c (ca.drop line'):=by
 rw [Gt I.bg];refine⟨I.sets,I.ways,I.bg.filter _,I.acd.filter _,λe he=> I.ent e (zbl.1 he).1,λaj=> ?_,I.agL⟩;have:=I.room aj;have h2:(({ ca with l:=ca.l.filter λx=> decide (x.aj≠line') }:Cache).oG aj).length<=(ca.oG aj).length:=Ae _ _;simp only at h2 ⊢;omega
theorem Eo.touch {c:Cfg}{ca:Cache}(I:Eo c ca){aj:Int}{e:Ent}(h:ca.find aj=some e):Eo c (ca.touch aj):=by
 obtain⟨he,hl⟩:=(iy I.bg).1 h;rw [xw I.bg h];refine⟨I.sets,I.ways,Ad I.bg λy _=> ?_,?_,λy hy=> ?_,λline'=> ?_,by have:=I.agL;simp only;omega⟩
 ·split
  ·rename_i h;rw [h];exact hl
  ·rfl
 ·unfold Gv;rw [zcs];refine(I.bg.and I.acd).imp_of_mem λ{a b} ha hb hab=> ?_;have ua:=(I.ent a ha).used;have ub:=(I.ent b hb).used;split <;> split
  ·rename_i h1 h2;exact absurd (by rw [h1,h2]) hab.1
  ·simp only;omega
  ·simp only;omega
  ·exact hab.2
 ·obtain⟨z,hz,rfl⟩:=zaG.1 hy;split
  ·have:=I.ent e he;exact⟨this.lo,this.hi,by simp only;omega,by have:=I.agL;simp only;omega,this.dat⟩
  ·have:=I.ent z hz;exact⟨this.lo,this.hi,by have:=this.used;simp only;omega,this.u0,this.dat⟩
 ·have:=Gz ca line' (ca.bZ+1) (f:=λx=> if x.aj=aj then { e with used:=ca.bZ+1 } else x) (λy _=> by
   split
   ·rename_i h;rw [h];exact hl
   ·rfl)
  have h2:=I.room line';rw [<-this] at h2;exact h2
theorem ace {ca:Cache}(hl:Lines ca.l){e x:Ent}(h0:0<=e.aj)(hf:ca.find e.aj=some x)(aj:Int):(ca.put e).1.full aj=ca.full aj:=by
 obtain⟨hx,hxl⟩:=(iy hl).1 hf;rw [lC hl h0 hf];have hm:∀y∈ca.l,(if y.aj=e.aj then { e with used:=x.used } else y).aj=y.aj:=λy _=> by
  split
  ·rename_i h;exact h.symm
  ·rfl
 have h1:({ ca with l:=ca.l.map λy=> if y.aj=e.aj then { e with used:=x.used } else y }:Cache).find aj=none↔ca.find aj=none:=by
  unfold Cache.find;rw [sZ,sZ];constructor
  ·intro h y hy;have:=h _ (zaG.2 ⟨y,hy,rfl⟩)
   rwa [hm y hy] at this
  ·intro h y hy;obtain⟨z,hz,rfl⟩:=zaG.1 hy;rw [hm z hz];exact h z hz
 have h2:(({ ca with l:=ca.l.map λy=> if y.aj=e.aj then { e with used:=x.used } else y }:Cache).oG aj).length=(ca.oG aj).length:=by
  unfold Cache.oG;rw [List.filter_map,zaB]
  congr 1
  apply zc4
  intro y hy;simp only [Function.comp,hm y hy]
 unfold Cache.full;rw [h2]
 congr 1
 cases ha:ca.find aj with
 | none=> rw [h1.2 ha]
 | some u=>
  cases hb:({ ca with l:=ca.l.map λy=> if y.aj=e.aj then { e with used:=x.used } else y }:Cache).find aj with
  | none=> rw [h1.1 hb] at ha;cases ha
  | some v=> rfl
theorem Af {α:Type}{p q:α->Bool}:∀{l:List α},(∀x∈l,q x=true->p x=true)->∀{a:α},a∈l->p a=true->q a=false->(l.filter q).length < (l.filter p).length
 | [],_,a,h,_,_=> by cases h
 | x::l,hs,a,h,hp,hq=> by
  have hle:∀{l:List α},(∀x∈l,q x=true->p x=true)->(l.filter q).length<=(l.filter p).length:=by
   intro l hs
   induction l with
   | nil=> simp
   | cons y l ih=>
    have:=ih λz hz=> hs z (by simp [hz]);simp only [zbP];cases h1:q y
    ·simp only [zaf,if_false];split
     ·simp only [zal];omega
     ·exact this
    ·rw [hs y (by simp) h1];simp only [if_true,zal];omega
  simp only [zbP];rcases zaj.1 h with e | h
  ·subst e;rw [hp,hq];simp only [if_true,zaf,if_false,zal];have:=hle λz hz=> hs z (za9 _ hz);omega
  ·have ih:=Af (λz hz=> hs z (za9 _ hz)) h hp hq;cases h1:q x
   ·simp only [zaf,if_false];split
    ·simp only [zal];omega
    ·exact ih
   ·rw [hs x (by simp) h1];simp only [if_true,zal];omega
theorem YT {c:Cfg}(hc:c.ok=true){ca:Cache}(I:Eo c ca){l' aj:Int}(h:ca.full aj=false):(ca.drop l').full aj=false:=by
 rw [Gt I.bg];unfold Cache.full at h ⊢;have hle:(({ ca with l:=ca.l.filter λx=> decide (x.aj≠l') }:Cache).oG aj).length<=(ca.oG aj).length:=Ae _ _;cases hn:ca.find aj with
 | none=>
  rw [hn] at h;simp only [zcG,zbn,decide_eq_false_iff_not] at h;simp only [zcQ,decide_eq_false_iff_not];right;omega
 | some e=>
  obtain⟨he,hl⟩:=(iy I.bg).1 hn;by_cases hll:aj=l'
  ·subst hll;simp only [zcQ,decide_eq_false_iff_not];right;have hr:=I.room aj;have h0:=(I.ent e he).lo;have hlt:(({ ca with l:=ca.l.filter λx=> decide (x.aj≠aj) }:Cache).oG aj).length < (ca.oG aj).length:=by
    unfold Cache.oG;rw [zdv];refine Af (λx _ h=> ?_) he ?_ ?_
    ·simp only [zah] at h ⊢;exact h.1
    ·rw [hl];simp;omega
    ·simp [hl]
   omega
  ·have:({ ca with l:=ca.l.filter λx=> decide (x.aj≠l') }:Cache).find aj=some e:=by
    unfold Cache.find;rw [iy (I.bg.filter _)];refine⟨zbl.2 ⟨he,?_⟩,hl⟩;simp only [decide_eq_true_eq];omega
   rw [this];rfl
abbrev By:=BitVec 8
abbrev S16:=BitVec 16
def shS(s:S16):S16:=(s <<< 1) ^^^ (if s.msb then 0x1021#16 else 0#16)
def shN:Nat->S16->S16
 | 0,s=> s
 | n+1,s=> shN n (shS s)
def XE(s:S16)(c:By):S16:=shN 8 (s ^^^ (c.setWidth 16 <<< 8))
def uM(s:S16)(l:List By):S16:=l.foldl XE s
def XF(s:S16):By:=(s >>> 8).setWidth 8
def XG(s:S16):By:=s.setWidth 8
def jJ(l:List By):List By:=l++[XF (uM 0xffff#16 l),XG (uM 0xffff#16 l)]
theorem acf:shS 0#16=0#16:=by decide
theorem YU(s t:S16):shS (s ^^^ t)=shS s ^^^ shS t:=by
 unfold shS;rw [BitVec.msb_xor,BitVec.shiftLeft_xor_distrib];cases s.msb <;> cases t.msb <;> simp
 ·rw [zbq]
 ·rw [zbq,zbq,BitVec.xor_comm (t <<< 1)]
 ·rw [zbq,<-zbq 4129#16,BitVec.xor_comm 4129#16,zbq,zcH,zdl]
theorem acg {s:S16}(h:shS s=0#16):s=0#16:=by
 unfold shS at h;cases hm:s.msb with
 | true=>
  rw [hm] at h;have:=congrArg (λv:S16=> v.getLsbD 0) h;simp at this
 | false=>
  rw [hm] at h;simp only [zaf,if_false,zdl] at h
  apply zcc
  intro i hi;by_cases h15:i=15
  ·subst h15;have:s.getLsbD 15=s.msb:=by simp [BitVec.msb_eq_getLsbD_last]
   rw [this,hm];simp
  ·have:=congrArg (λv:S16=> v.getLsbD (i+1)) h;simp only [zb7,BitVec.getLsbD_zero] at this;have h1:i+1 < 16:=by omega
   simp [h1] at this
   simpa using this
theorem Lp:∀n,shN n 0#16=0#16
 | 0=> rfl
 | n+1=> by rw [shN,acf,Lp n]
theorem YV:∀n (s t:S16),shN n (s ^^^ t)=shN n s ^^^ shN n t
 | 0,_,_=> rfl
 | n+1,s,t=> by rw [shN,YU,YV n];rfl
theorem Ls:∀n {s:S16},shN n s=0#16->s=0#16
 | 0,_,h=> h
 | n+1,s,h=> acg (Ls n h)
def aiv(b:Bool):S16:=if b then 0x8000#16 else 0#16
def Dz(s:S16)(b:Bool):S16:=shS (s ^^^ aiv b)
def RY:List Bool->S16
 | []=> 0#16
 | b::l=> aiv b ^^^ (RY l >>> 1)
theorem agO:∀i:Fin 16,(0x8000#16).getLsbD i.val=decide (i.val=15):=by decide
theorem ach(b:Bool){i:Nat}(h:i < 16):(aiv b).getLsbD i=(b && decide (i=15)):=by
 unfold aiv;cases b
 ·simp
 ·simp only [if_true,zbn];exact agO ⟨i,h⟩
theorem Ah:∀(l:List Bool) (i:Nat),l.length<=16->i < 16->(RY l).getLsbD i=(l[15 - i]?).getD false
 | [],i,_,_=> by simp [RY]
 | b::l,i,h,hi=> by
  simp only [zal] at h;rw [RY,BitVec.getLsbD_xor,zcU,ach b hi];by_cases h15:i=15
  ·subst h15;have:(RY l).getLsbD (1+15)=false:=BitVec.getLsbD_of_ge _ _ (by omega);rw [this];simp
  ·rw [Ah l (1+i) (by omega) (by omega)];have e:15 - i=(15 - (1+i))+1:=by omega
   rw [e,zbg];simp [h15]
theorem xB:∀(l:List Bool) (s:S16),l.length<=16->l.foldl Dz s=shN l.length (s ^^^ RY l)
 | [],s,_=> by simp [RY,shN]
 | b::l,s,h=> by
  simp only [zal] at h;rw [zbI,xB l _ (by omega)];show shN l.length (Dz s b ^^^ RY l)=shN l.length (shS (s ^^^ RY (b::l)))
  congr 1
  rw [RY,<-zbq,YU];unfold Dz
  congr 1
  unfold shS;have hm:(RY l >>> 1).msb=false:=by simp [BitVec.msb_ushiftRight]
  rw [hm];simp only [zaf,if_false,zdl];have h0:(RY l).getLsbD 0=false:=by
   rw [Ah l 0 (by omega) (by omega),zaH (by omega)];rfl
  apply zcc
  intro i hi;rw [zb7,zcU];cases i with
  | zero=> rw [h0];simp
  | succ i=>
   have e:1+(i+1 - 1)=i+1:=by omega
   have e2:¬(i+1 < 1):=by omega
   rw [e];simp [hi,e2]
theorem YW {l:List Bool}(h:l.length<=16)(h0:RY l=0#16):∀b∈l,b=false:=by
 intro b hb;obtain⟨k,hk,rfl⟩:=zcS.1 hb;have:=Ah l (15 - k) h (by omega);rw [h0,show 15 - (15 - k)=k by omega,zab hk] at this
 simpa using this.symm
def wM(c:By):List Bool:=[c.getLsbD 7,c.getLsbD 6,c.getLsbD 5,c.getLsbD 4,c.getLsbD 3,c.getLsbD 2,c.getLsbD 1,c.getLsbD 0]
def x8(l:List By):List Bool:=l.flatMap wM
theorem YX(c:By):RY (wM c)=c.setWidth 16 <<< 8:=by
 apply zcc
 intro i hi;rw [Ah _ _ (by simp [wM]) hi,zb7,BitVec.getLsbD_setWidth];rcases(show i=0∨i=1∨i=2∨i=3∨i=4∨i=5∨i=6∨i=7∨i=8∨i=9∨i=10∨i=11∨i=12∨i=13∨i=14∨i=15 by omega) with h | h | h | h | h | h | h | h | h | h | h | h | h | h | h | h <;> subst h <;> simp [wM]
theorem YZ(s:S16)(c:By):XE s c=(wM c).foldl Dz s:=by
 rw [xB _ _ (by simp [wM]),YX];rfl
theorem BX:∀(l:List By) (s:S16),uM s l=(x8 l).foldl Dz s
 | [],s=> rfl
 | c::l,s=> by
  show uM (XE s c) l=_;rw [BX l,YZ];show _=(wM c++x8 l).foldl Dz s;rw [zc5]
theorem rD(l:List By):(x8 l).length=8*l.length:=by
 unfold x8
 induction l with
 | nil=> rfl
 | cons c l ih=> rw [zaE,zao,ih];simp [wM];omega
theorem O7(l:List By):uM 0xffff#16 (jJ l)=0#16:=by
 unfold jJ;obtain⟨s,hs⟩:∃s,s=uM 0xffff#16 l:=⟨_,rfl⟩
 rw [<-hs];unfold uM at hs ⊢;rw [zc5,<-hs];show uM s [XF s,XG s]=0#16;rw [BX,xB _ _ (by rw [rD];simp)];have:RY (x8 [XF s,XG s])=s:=by
  apply zcc
  intro i hi;rw [Ah _ _ (by rw [rD];simp) hi];have e:x8 [XF s,XG s]=[s.getLsbD 15,s.getLsbD 14,s.getLsbD 13,s.getLsbD 12,s.getLsbD 11,s.getLsbD 10,s.getLsbD 9,s.getLsbD 8,s.getLsbD 7,s.getLsbD 6,s.getLsbD 5,s.getLsbD 4,s.getLsbD 3,s.getLsbD 2,s.getLsbD 1,s.getLsbD 0]:=by
   simp [x8,wM,XF,XG,zaE]
  rw [e];rcases(show i=0∨i=1∨i=2∨i=3∨i=4∨i=5∨i=6∨i=7∨i=8∨i=9∨i=10∨i=11∨i=12∨i=13∨i=14∨i=15 by omega) with h | h | h | h | h | h | h | h | h | h | h | h | h | h | h | h <;> subst h <;> rfl
 rw [this,zcH,Lp]
def Wy(l m:List By):List By:=List.zipWith (· ^^^ ·) l m
theorem aci(s t:S16)(c d:By):XE (s ^^^ t) (c ^^^ d)=XE s c ^^^ XE t d:=by
 unfold XE;rw [<-YV]
 congr 1
 rw [BitVec.setWidth_xor,BitVec.shiftLeft_xor_distrib];rw [zbq,zbq]
 congr 1
 rw [<-zbq,<-zbq,BitVec.xor_comm t]
theorem O8:∀(l m:List By) (s t:S16),l.length=m.length->uM (s ^^^ t) (Wy l m)=uM s l ^^^ uM t m
 | [],[],s,t,_=> rfl
 | c::l,d::m,s,t,h=> by
  show uM (XE (s ^^^ t) (c ^^^ d)) (Wy l m)=uM (XE s c) l ^^^ uM (XE t d) m;rw [aci,O8 l m _ _ (by simpa using h)]
 | [],_::_,_,_,h=> by simp at h
 | _::_,[],_,_,h=> by simp at h
theorem BZ:∀(l:List Bool) (s:S16),(∀b∈l,b=false)->l.foldl Dz s=shN l.length s
 | [],s,_=> rfl
 | b::l,s,h=> by
  have hb:=h b (by simp);subst hb;rw [zbI,BZ l _ λb hb=> h b (by simp [hb])];show shN l.length (shS (s ^^^ aiv false))=shN l.length (shS s);simp [aiv]
theorem WA {B:List Bool}{a:Int}(h:∀(k:Nat),B[k]?=some true->a<=k/\(k:Int) < a+16)(h0:B.foldl Dz 0#16=0#16):∀b∈B,b=false:=by
 obtain⟨p,hp⟩:∃p,p=a.toNat:=⟨_,rfl⟩
 have hB:B=B.take p++((B.drop p).take 16++(B.drop p).drop 16):=by rw [zcP,zcP]
 have f1:∀b∈B.take p,b=false:=by
  intro b hb;obtain⟨k,hk,rfl⟩:=zcS.1 hb;cases hbk:(B.take p)[k] with
  | false=> rfl
  | true=>
   have hk':k < p:=by rw [zau] at hk;omega
   have:B[k]?=some true:=by
    rw [<-hbk,<-zab hk,zaC,if_pos hk']
   have:=h k this;omega
 have f3:∀b∈(B.drop p).drop 16,b=false:=by
  intro b hb;obtain⟨k,hk,rfl⟩:=zcS.1 hb;cases hbk:((B.drop p).drop 16)[k] with
  | false=> rfl
  | true=>
   have:B[p+(16+k)]?=some true:=by
    rw [<-hbk,<-zab hk,zaF,zaF]
   have:=h _ this;omega
 rw [hB,zc5,zc5,BZ _ _ f1,Lp,BZ _ _ f3,xB _ _ (by rw [zau];omega),BitVec.zero_xor] at h0;have f2:=YW (by rw [zau];omega) (Ls _ (Ls _ h0));intro b hb;rw [hB] at hb;rcases zaL.1 hb with hb | hb
 ·exact f1 b hb
 ·rcases zaL.1 hb with hb | hb
  ·exact f2 b hb
  ·exact f3 b hb
theorem acj {c d:By}(h:∀b∈wM (c ^^^ d),b=false):c=d:=by
 apply zcc
 intro i hi;have key:(c ^^^ d).getLsbD i=false:=by
  apply h
  rcases(show i=0∨i=1∨i=2∨i=3∨i=4∨i=5∨i=6∨i=7 by omega) with h | h | h | h | h | h | h | h <;> subst h <;> simp [wM]
 rw [BitVec.getLsbD_xor] at key;cases h1:c.getLsbD i <;> cases h2:d.getLsbD i <;> simp [h1,h2] at key ⊢
theorem GH:∀{l m:List By},l.length=m.length->(∀b∈x8 (Wy l m),b=false)->l=m
 | [],[],_,_=> rfl
 | c::l,d::m,h,hb=> by
  have hx:x8 (Wy (c::l) (d::m))=wM (c ^^^ d)++x8 (Wy l m):=rfl;rw [hx] at hb;rw [acj λb h=> hb b (zcv _ h),GH (by simpa using h) λb h=> hb b (zcn _ h)]
 | [],_::_,h,_=> by simp at h
 | _::_,[],h,_=> by simp at h
theorem RZ {x y:List By}{a:Int}(hl:(jJ x).length=(jJ y).length)(h:∀(k:Nat),(x8 (Wy (jJ x) (jJ y)))[k]?=some true->a<=k/\(k:Int) < a+16):jJ x=jJ y:=by
 refine GH hl (WA h ?_);rw [<-BX];have:=O8 (jJ x) (jJ y) 0xffff#16 0xffff#16 hl;rw [zcH,O7,O7,zcH] at this;exact this
def aeR(bit mask:Int)(k:Nat):Bool:=decide (0<=(k:Int) - bit) && decide ((k:Int) - bit < 16) && mask.toNat.testBit (15 - ((k:Int) - bit).toNat)
def uN(bit mask:Int)(at_:Nat):By:=
 if 8*(at_:Int) - bit<=-8∨16<=8*(at_:Int) - bit then 0#8 else(((BitVec.ofNat 32 mask.toNat) <<< 8 <<< (8*(at_:Int) - bit+8).toNat) >>> 24).setWidth 8
def qF(bit mask:Int)(l:List By):List By:=l.mapIdx λi c=> c ^^^ uN bit mask i
theorem Si {m k:Nat}(hm:m<=65535)(hk:16<=k):m.testBit k=false:=by
 apply Nat.testBit_lt_two_pow
 calc m < 2 ^ 16:=by omega
  _<=2 ^ k:=Nat.pow_le_pow_right (by decide) hk
theorem Y0 {bit mask:Int}(h0:0<=mask)(h1:mask<=65535)(at_ j:Nat)(hj:j < 8):(uN bit mask at_).getLsbD j=aeR bit mask (8*at_+(7 - j)):=by
 unfold uN aeR;obtain⟨y,hy⟩:∃y:Int,y=8*(at_:Int) - bit:=⟨_,rfl⟩
 have hk:((8*at_+(7 - j):Nat):Int) - bit=y+(7 - (j:Int)):=by omega
 rw [<-hy,hk];by_cases h:y<=-8∨16<=y
 ·rw [if_pos h];simp only [BitVec.getLsbD_zero];rcases h with h | h
  ·have:¬(0<=y+(7 - (j:Int))):=by omega
   simp [this]
  ·have:¬(y+(7 - (j:Int)) < 16):=by omega
   simp [this]
 ·rw [if_neg h];simp only [not_or] at h;obtain⟨n,hn⟩:∃n:Nat,n=(y+8).toNat:=⟨_,rfl⟩
  rw [<-hn];rw [BitVec.getLsbD_setWidth,zcU,zb7,zb7,BitVec.getLsbD_ofNat];have a1:24+j < 32:=by omega
  have a2:¬(24+j < n):=by omega
  have a3:24+j - n < 32:=by omega
  by_cases hlo:24+j - n < 8
  ·have:¬(y+(7 - (j:Int)) < 16):=by omega
   simp [hlo,this]
  ·have a4:24+j - n - 8 < 32:=by omega
   have b1:y+(7 - (j:Int)) < 16:=by omega
   by_cases b0:0<=y+(7 - (j:Int))
   ·have e:24+j - n - 8=15 - (y+(7 - (j:Int))).toNat:=by omega
    simp only [hj,a1,a2,a3,a4,hlo,b0,b1,decide_true,decide_false,zam,zbn,zcq];rw [e]
   ·have:mask.toNat.testBit (24+j - n - 8)=false:=Si (by omega) (by omega);simp [this,b0]
theorem jd(bit mask:Int)(l:List By):(qF bit mask l).length=l.length:=by simp [qF]
theorem Y1(c:By)(j:Nat)(hj:j < 8):(wM c)[j]?=some (c.getLsbD (7 - j)):=by
 rcases(show j=0∨j=1∨j=2∨j=3∨j=4∨j=5∨j=6∨j=7 by omega) with h | h | h | h | h | h | h | h <;> subst h <;> rfl
theorem GI:∀(l:List By) (k:Nat),(x8 l)[k]?=(l[k / 8]?).map λc=> c.getLsbD (7 - k % 8)
 | [],k=> by simp [x8]
 | c::l,k=> by
  have hx:x8 (c::l)=wM c++x8 l:=rfl;rw [hx];by_cases h:k < 8
  ·rw [zaV (by simp [wM];exact h),Y1 c k h,show k / 8=0 by omega,show k % 8=k by omega];rfl
  ·rw [zaX (by simp [wM];omega)];have:(wM c).length=8:=rfl;rw [this,GI l (k - 8),show k / 8=(k - 8) / 8+1 by omega,show k % 8=(k - 8) % 8 by omega];rfl
theorem Cb {bit mask:Int}(h0:0<=mask)(h1:mask<=65535)(l:List By)(k:Nat)(hk:k < 8*l.length):(x8 (Wy l (qF bit mask l)))[k]?=some (aeR bit mask k):=by
 rw [GI];have hi:k / 8 < l.length:=by omega
 have:(Wy l (qF bit mask l))[k / 8]?=some (uN bit mask (k / 8)):=by
  unfold Wy qF;rw [List.getElem?_zipWith,zbd,zab hi];simp only [zak]
  congr 1
  rw [<-zbq,zcH,BitVec.zero_xor]
 rw [this,zak,Y0 h0 h1 _ _ (by omega)]
 congr 2
 omega
theorem O9 {n:Nat}{bit mask:Int}:aP n bit mask=true↔∃k:Nat,k < 8*n/\aeR bit mask k=true:=by
 unfold aP;rw [zda];constructor
 ·rintro⟨i,hi,h⟩;rw [za4] at hi;simp only [zah,decide_eq_true_eq] at h;obtain⟨⟨a,b⟩,c⟩:=h;refine⟨(bit+i).toNat,by omega,?_⟩;unfold aeR;have e:(((bit+i).toNat:Nat):Int) - bit=i:=by omega
  rw [e];simp only [zah,decide_eq_true_eq];refine⟨⟨by omega,by omega⟩,?_⟩;rw [zaq,zdf];rw [zcw] at a
  simpa using a
 ·rintro⟨k,hk,h⟩;unfold aeR at h;simp only [zah,decide_eq_true_eq] at h;obtain⟨⟨a,b⟩,c⟩:=h;refine⟨((k:Int) - bit).toNat,za4.2 (by omega),?_⟩;simp only [zah,decide_eq_true_eq];refine⟨⟨?_,by omega⟩,by omega⟩;rw [zdf] at c;rw [zcw]
  simpa using c
theorem WB {bit mask:Int}(h0:0<=mask)(h1:mask<=65535){l:List By}(h:aP l.length bit mask=false):qF bit mask l=l:=by
 have hl:l.length=(qF bit mask l).length:=(jd _ _ _).symm;refine(GH hl λb hb=> ?_).symm;obtain⟨k,hk,rfl⟩:=zcS.1 hb;have hk8:k < 8*l.length:=by
  rw [rD] at hk;unfold Wy at hk;rw [List.length_zipWith] at hk;omega
 have:=Cb (bit:=bit) h0 h1 l k hk8;rw [zab hk,zaa] at this;rw [this];cases hf:aeR bit mask k with
 | false=> rfl
 | true=>
  have:=O9.2 ⟨k,hk8,hf⟩;rw [h] at this;cases this
theorem Sj {bit mask:Int}(h0:0<=mask)(h1:mask<=65535){x y:List By}(h:aP (jJ x).length bit mask=true):qF bit mask (jJ x)≠jJ y:=by
 intro e;have hl:(jJ x).length=(jJ y).length:=by rw [<-e,jd]
 have hs:=RZ (a:=bit) hl λk hk=> by
  rw [<-e] at hk;have hk8:k < 8*(jJ x).length:=by
   have hlt:=(zai.1 hk).1;rw [rD] at hlt;unfold Wy at hlt;rw [List.length_zipWith] at hlt;omega
  rw [Cb h0 h1 _ k hk8] at hk;simp only [zaa] at hk;unfold aeR at hk;simp only [zah,decide_eq_true_eq] at hk;omega
 obtain⟨k,hk,hf⟩:=O9.1 h;have:=Cb (bit:=bit) h0 h1 (jJ x) k hk;rw [e,<-hs,hf,GI] at this;have hx:∀l:List By,Wy l l=l.map λ_=> 0#8:=by
  intro l
  induction l with
  | nil=> rfl
  | cons c l ih=>
   show(c ^^^ c)::Wy l l=_;rw [ih,zcH];rfl
 rw [hx,zaM] at this;cases hh:(jJ x)[k / 8]? with
 | none=> rw [hh] at this;cases this
 | some c=> rw [hh] at this;simp at this
def by8(n:Int):By:=BitVec.ofInt 8 n
def qQ(n:Int):List By:=[by8 (n.fdiv (2 ^ 56)),by8 (n.fdiv (2 ^ 48)),by8 (n.fdiv (2 ^ 40)),by8 (n.fdiv (2 ^ 32)),by8 (n.fdiv (2 ^ 24)),by8 (n.fdiv (2 ^ 16)),by8 (n.fdiv (2 ^ 8)),by8 (n.fdiv (2 ^ 0))]
def fF(p:Pkt):List By:=[by8 p.aO,by8 p.src,by8 p.dst,by8 (p.id.fdiv 256),by8 p.id,by8 p.aj,by8 (p.ptr+1),by8 p.aT,by8 (if p.flag then 1 else 0),by8 p.data.length]++p.data.flatMap qQ
def rY(p:Pkt):List By:=jJ (fF p)
theorem jF(n:Int):(qQ n).length=8:=rfl
theorem rE(p:Pkt):(rY p).length=p.bytes:=by
 unfold rY jJ fF Pkt.bytes;rw [zao,zao,dI Lu];simp;omega
where
 Lu:∀n,(qQ n).length=8:=λ_=> rfl
 dI {α β:Type} {f:α->List β} {m:Nat} (h:∀a,(f a).length=m):∀{l:List α},(l.flatMap f).length=l.length*m:=by
  intro l
  induction l with
  | nil=> simp
  | cons a l ih=> rw [zaE,zao,h,ih,zal,zbB];omega
section
variable {P:Program}{t:TypeId}{k k':IntKind}{a b n:Int}
theorem Y2(h:0<=n):ql P .shl t (.s (.int k a)) (.s (.int k' n))=some (.s (.int k (k.wrap (a*2 ^ (min n.toNat k.bits))))):=by
 have:¬n < 0:=by omega
 simp [ql,AV.val?,eqGuard,binOp,Op.shift,dL,this]
theorem Sl(h:0<=n):ql P .shr t (.s (.int k a)) (.s (.int k' n))=some (.s (.int k (a.fdiv (2 ^ (min n.toNat k.bits))))):=by
 have:¬n < 0:=by omega
 simp [ql,AV.val?,eqGuard,binOp,Op.shift,dL,this]
theorem agP:ql P .xor t (.s (.int k a)) (.s (.int k b))=some (.s (.int k (k.wrap (BitVec.ofInt k.bits a ^^^ BitVec.ofInt k.bits b).toNat))):=by
 simp [ql,AV.val?,eqGuard,binOp,Op.intBits,dL]
theorem aeS:ql P .or t (.s (.int k a)) (.s (.int k b))=some (.s (.int k (k.wrap (BitVec.ofInt k.bits a ||| BitVec.ofInt k.bits b).toNat))):=by
 simp [ql,AV.val?,eqGuard,binOp,Op.intBits,dL]
end
def U(k:IntKind)(v:BitVec k.bits):AV:=.s (.int k (v.toNat:Int))
abbrev Y(c:By):AV:=U .u8 c
abbrev U16(s:S16):AV:=U .u16 s
abbrev U32(s:BitVec 32):AV:=U .u32 s
abbrev U64(s:BitVec 64):AV:=U .u64 s
theorem aeT {k:IntKind}(hk:k.signed=false)(z:Int):k.wrap z=z % (2 ^ k.bits:Int):=by simp [IntKind.wrap,hk]
theorem Ai {k:IntKind}(hk:k.signed=false)(m:Nat):k.wrap (m:Int)=((BitVec.ofNat k.bits m).toNat:Int):=by
 rw [aeT hk,zcl]
 norm_cast
theorem qG {w:Nat}(v:BitVec w):BitVec.ofInt w (v.toNat:Int)=v:=by
 rw [zdm,zdw,BitVec.setWidth_eq]
theorem UK {k:IntKind}(hk:k.signed=false)(v:BitVec k.bits):k.wrap (v.toNat:Int)=(v.toNat:Int):=by
 rw [Ai hk,zdw,BitVec.setWidth_eq]
section
variable {P:Program}{t:TypeId}{k k':IntKind}
theorem agQ(hk:k.signed=false)(x y:BitVec k.bits):ql P .xor t (U k x) (U k y)=some (U k (x ^^^ y)):=by
 unfold U;rw [agP,qG,qG,UK hk]
theorem aqp(hk:k.signed=false)(x y:BitVec k.bits):ql P .or t (U k x) (U k y)=some (U k (x ||| y)):=by
 unfold U;rw [aeS,qG,qG,UK hk]
theorem Y3(hk:k.signed=false)(x:BitVec k.bits)(n:Int)(h0:0<=n)(h:n<=k.bits):ql P .shl t (U k x) (.s (.int k' n))=some (U k (x <<< n.toNat)):=by
 unfold U;rw [Y2 h0,show min n.toNat k.bits=n.toNat by omega];have:((x.toNat:Int)*2 ^ n.toNat)=((x.toNat*2 ^ n.toNat:Nat):Int):=by norm_cast
 rw [this,Ai hk,zcl,BitVec.toNat_shiftLeft,zdg]
theorem agR(x:BitVec k.bits)(n:Int)(h0:0<=n)(h:n<=k.bits):ql P .shr t (U k x) (.s (.int k' n))=some (U k (x >>> n.toNat)):=by
 unfold U;rw [Sl h0,show min n.toNat k.bits=n.toNat by omega,BitVec.toNat_ushiftRight,zcw];have:(2:Int) ^ n.toNat=((2 ^ n.toNat:Nat):Int):=by norm_cast
 rw [this,zb2 _ (Int.natCast_nonneg _)]
 norm_cast
theorem anR(hk:k.signed=false)(x y:BitVec k.bits):ql P .mul t (U k x) (U k y)=some (U k (x*y)):=by
 unfold U;rw [oZ];have:((x.toNat:Int)*y.toNat)=((x.toNat*y.toNat:Nat):Int):=by norm_cast
 rw [this,Ai hk,zcl,BitVec.toNat_mul]
theorem ajH(hk:k'.signed=false)(x:BitVec k.bits):(AV.s (.int k' (k'.wrap (x.toNat:Int))))=U k' (x.setWidth k'.bits):=by
 unfold U;rw [Ai hk,zdw]
end
theorem acn(l:List By):(l.map Y).all AV.aQ=true:=by
 rw [zaZ];intro x hx;obtain⟨c,_,rfl⟩:=zaG.1 hx;rfl
def yOf:AV->Option By
 | .s (.int .u8 n)=> if 0<=n/\n < 256 then some (BitVec.ofInt 8 n) else none
 | _=> none
def GK(x:AV)(H:ah):Option (List By):=
 match x with
 | .sl r g off esz n _ _=> match H.get r with
  | .blk g' _ cells=> if esz=1/\g'=g/\off+n<=cells.length/\0 < n/\n<=800 then((cells.drop off).take n).mapM yOf else none
  | _=> none
 | _=> none
structure Pkt.fit(p:Pkt):Prop where
 ok:p.ok=true
 num:∀v∈p.data,I64 v
open Classical in
def Cc(args:List AV)(H:ah):Option (AV × ah):=
 match args with
 | [x]=> match GK x H with
  | some l=> if h:∃p:Pkt,p.fit/\rY p=l then some (.tup [.agg (Classical.choose h).av,I 0],H)
   else if(∀y,l≠jJ y) then some (.tup [.agg Pkt.zero.av,I 2],H) else none
  | none=> none
 | _=> none
def agS:List Nat:=[
 55,
 138,
 97,
 92,
 180,
 69,
 67,
 65,
 66,
 107,
 109,
 110,
 86,
 131,
 111,
 112,
 20,
 57,
 21,
 29,
 26,
 31,
 68,
 7,
 8,
 147,
 99,
 148,
 100,
 54,
 17,
 34,
 231,
 236,
 133,
 119,
 132,
 135,
 87,
 90,
 91,
 167,
 18,
 35,
 52,
 47,
 181,
 126,
 122,
 134,
 155,
 127,
 50,
 171,
 48,
 123,
 78,
 176,
 137,
 187,
 165,
 166,
 60,
 56,
 19,
 25,
 24,
 0]
def DC:List Nat:=[
 186,
 0]
def JB:List Nat:=[
 0]
def anS:Pol:=⟨λ_=> false,λ_=> none⟩
def cl0:aC:=callω Tryz.prog anS
def agT:List (Nat × (List AV->ah->Option (AV × ah))):=[
 (163,BM DC JB),
 (120,cl0 120),
 (94,Cc),
 (93,cl0 93),
 (95,cl0 95),
 (0,λ_ _=> none)]
def pol:Pol:=⟨λf=> agS.contains f,λf=> agT.lookup f⟩
def cl:aC:=callω Tryz.prog pol
def UL(f:FuncId)(p:List AV->ah->Option (AV × ah)):Prop:=
 qP Tryz.prog (λg args H=> if g=f then p args H else none)/\∀args H v H',p args H=some (v,H')->Keeps H H'
theorem agU(f:FuncId):UL f (cl0 f):=by
 have hc:=callω_ok (P:=Tryz.prog) (L:=anS) (λf p h=> by cases h) (by kernel_rfl);refine⟨λg args H v H' h=> ?_,λargs H v H' h=> hc.2 f args H v H' h⟩;simp only at h;split at h
 ·rename_i e;subst e;exact hc.1 _ args H v H' h
 ·cases h
theorem iG {f:FuncId}{args:List AV}{H:ah}{r:AV × ah}(h:zo Tryz.prog cl0 f args H=some r):cl0 f args H=some r:=ad5 rfl rfl h
theorem bI {f:FuncId}{args:List AV}{H:ah}{r:AV × ah}(h1:pol.abq f=none)(h2:pol.pure f=false)(h:zo Tryz.prog cl f args H=some r):cl f args H=some r:=ad5 h1 h2 h
theorem ji {f:FuncId}{args:List AV}{H H1:ah}{v v':AV}(h1:pol.abq f=none)(h2:pol.pure f=true)(h:zo Tryz.prog cl f args H.guard=some (v,H1))(hz:bP H1 H.next 9 v=some v'):cl f args H=some (v',H):=agu h1 h2 h hz
theorem jY {f:FuncId}{args:List AV}{H:ah}{v:AV}{Q:ah->Prop}{sh:Option (AV × ah)}(h1:pol.abq f=none)(h2:pol.pure f=false)(rn:∀{r},sh=some r->zo Tryz.prog cl f args H=some r)(h:∃H',sh=some (v,H')/\Q H'):∃H',cl f args H=some (v,H')/\Q H':=by
 obtain⟨H',e,q⟩:=h;exact⟨H',bI h1 h2 (rn e),q⟩
theorem dJ {f:FuncId}{args:List AV}{H:ah}{v:AV}{sh:Option (AV × ah)}(h1:pol.abq f=none)(h2:pol.pure f=true)(rn:∀{r},sh=some r->zo Tryz.prog cl f args H.guard=some r)(h:sh.map Prod.fst=some v)(hz:Frz 9 v):cl f args H=some (v,H):=by
 cases hs:sh with
 | none=> rw [hs] at h;cases h
 | some r=>
  rw [hs] at h;simp only [zak,zaa] at h;subst h;exact ji h1 h2 (rn hs) (hz _ _)
open Go.RowKit
structure Cho where
 do_:Int
 at_:Int
 bit:Int
 mask:Int
def Cho.av(c:Cho):List AV:=[I c.do_,I c.at_,I c.bit,.s (.int .u16 c.mask)]
end
end Go.Proofs.YtljogojaihgdlaaGreat
