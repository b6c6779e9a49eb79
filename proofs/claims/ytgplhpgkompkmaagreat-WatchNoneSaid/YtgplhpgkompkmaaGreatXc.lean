/-
  Own work: an interpreter over named blocks, its soundness, and what the functions of this seat compute (part 3 of 10).
  Conditions: those of the statement alone.
-/
import Derived.Test.YtgplhpgkompkmaaGreatProg
import Derived.KernelRfl
import Derived.ProofKit
import Derived.Below
import Derived.Test.YtgplhpgkompkmaaGreatXb
set_option linter.all false
set_option linter.unusedSectionVars false
set_option linter.unusedVariables false
set_option linter.unusedSimpArgs false
namespace Go.Proofs.YtgplhpgkompkmaaGreat
noncomputable section
abbrev bi(op:BinOp)(t:TypeId)(x y:AV):Option AV:=nH Tryz.prog op t x y
abbrev un(op:UnOp)(x:AV):Option AV:=unA Tryz.prog op x
abbrev cv(s d:TypeId)(x:AV):AM AV:=kC Tryz.prog s d x
def stk:AM AV:=λ_=> none
abbrev bd(t:TypeId)(ps:List (Nat × AV)):Option AV:=fD Tryz.prog t ps
abbrev bs(t:TypeId)(n:Nat)(ps:List (Nat × AV)):AM AV:=cZ Tryz.prog t n ps
def Rn0(f:FuncId)(s:ak->ah->OA):Prop:=∀C H {r:AV × ah},s C H=some r->yu Tryz.prog C f [] H=some r
def Rn1(f:FuncId)(s:ak->AV->ah->OA):Prop:=∀C a0 H {r:AV × ah},s C a0 H=some r->yu Tryz.prog C f [a0] H=some r
def Rn2(f:FuncId)(s:ak->AV->AV->ah->OA):Prop:=∀C a0 a1 H {r:AV × ah},s C a0 a1 H=some r->yu Tryz.prog C f [a0,a1] H=some r
def Rn3(f:FuncId)(s:ak->AV->AV->AV->ah->OA):Prop:=∀C a0 a1 a2 H {r:AV × ah},s C a0 a1 a2 H=some r->yu Tryz.prog C f [a0,a1,a2] H=some r
theorem NU {n:Nat}{ps:List (Nat × AV)}{H:ah}(h:n*1<=16777216):cZ Tryz.prog 22 n ps H=bsl 3 1 [zI] n ps H:=rE (by kernel_rfl) (by kernel_rfl) (by kernel_rfl) rfl h
theorem ai0 {n:Nat}{ps:List (Nat × AV)}{H:ah}(h:n*1<=16777216):cZ Tryz.prog 27 n ps H=bsl 62 1 [zN] n ps H:=rE (by kernel_rfl) (by kernel_rfl) (by kernel_rfl) rfl h
theorem ai1 {n:Nat}{ps:List (Nat × AV)}{H:ah}(h:n*1<=16777216):cZ Tryz.prog 51 n ps H=bsl 64 1 [zP] n ps H:=rE (by kernel_rfl) (by kernel_rfl) (by kernel_rfl) rfl h
theorem ae6 {n:Nat}{ps:List (Nat × AV)}{H:ah}(h:n*3<=16777216):cZ Tryz.prog 62 n ps H=bsl 61 3 [zI,zI,zI] n ps H:=rE (by kernel_rfl) (by kernel_rfl) (by kernel_rfl) rfl h
theorem ae7 {n:Nat}{ps:List (Nat × AV)}{H:ah}(h:n*6<=16777216):cZ Tryz.prog 111 n ps H=bsl 100 6 [zI,zI,zI,zI,zB,zN] n ps H:=rE (by kernel_rfl) (by kernel_rfl) (by kernel_rfl) rfl h
theorem aad {n:Nat}{ps:List (Nat × AV)}{H:ah}(h:n*4<=16777216):cZ Tryz.prog 123 n ps H=bsl 184 4 [zI,zI,zB,zI] n ps H:=rE (by kernel_rfl) (by kernel_rfl) (by kernel_rfl) rfl h
theorem ae8 {n:Nat}{ps:List (Nat × AV)}{H:ah}(h:n*4<=16777216):cZ Tryz.prog 143 n ps H=bsl 142 4 [zP,zP,zP,zP] n ps H:=rE (by kernel_rfl) (by kernel_rfl) (by kernel_rfl) rfl h
theorem ae9 {n:Nat}{ps:List (Nat × AV)}{H:ah}(h:n*1<=16777216):cZ Tryz.prog 155 n ps H=bsl 158 1 [zP] n ps H:=rE (by kernel_rfl) (by kernel_rfl) (by kernel_rfl) rfl h
theorem afa {n:Nat}{ps:List (Nat × AV)}{H:ah}(h:n*9<=16777216):cZ Tryz.prog 175 n ps H=bsl 81 9 [zI,zI,zI,zI,zI,zI,zI,zB,zN] n ps H:=rE (by kernel_rfl) (by kernel_rfl) (by kernel_rfl) rfl h
theorem Qk {n:Nat}{ps:List (Nat × AV)}{H:ah}(h:n*1<=16777216):cZ Tryz.prog 220 n ps H=bsl 5 1 [.s (.int .u8 0)] n ps H:=rE (by kernel_rfl) (by kernel_rfl) (by kernel_rfl) rfl h
theorem afb {n:Nat}{ps:List (Nat × AV)}{H:ah}(h:n*3<=16777216):cZ Tryz.prog 266 n ps H=bsl 274 3 [zI,zI,zN] n ps H:=rE (by kernel_rfl) (by kernel_rfl) (by kernel_rfl) rfl h
theorem afc {n:Nat}{ps:List (Nat × AV)}{H:ah}(h:n*1<=16777216):cZ Tryz.prog 326 n ps H=bsl 220 1 [zN] n ps H:=rE (by kernel_rfl) (by kernel_rfl) (by kernel_rfl) rfl h
def acR:Nat->Option (Nat × Nat)
 | 0=> some (0,1)
 | 1=> some (1,1)
 | 2=> some (2,1)
 | 3=> some (3,1)
 | 4=> some (4,1)
 | 5=> some (5,1)
 | 6=> some (6,1)
 | 7=> some (7,1)
 | _=> none
theorem afd {ps:List (Nat × AV)}:fD Tryz.prog 31 ps=lD acR [zI,zI,zI,zI,zI,zI,zI,zN] ps:=iM (by kernel_rfl) Tryz.underlying31 (by kernel_rfl) (by funext i;rcases i with _ | _ | _ | _ | _ | _ | _ | _ | i <;> kernel_rfl)
def afe:Nat->Option (Nat × Nat)
 | 0=> some (0,1)
 | 1=> some (1,1)
 | 2=> some (2,8)
 | 3=> some (10,1)
 | _=> none
theorem ai2 {ps:List (Nat × AV)}:fD Tryz.prog 53 ps=lD afe [zP,zP,zI,zI,zI,zI,zI,zI,zI,zN,zN] ps:=iM (by kernel_rfl) Tryz.underlying53 (by kernel_rfl) (by funext i;rcases i with _ | _ | _ | _ | i <;> kernel_rfl)
def YF:Nat->Option (Nat × Nat)
 | 0=> some (0,1)
 | 1=> some (1,1)
 | 2=> some (2,1)
 | _=> none
theorem YG {ps:List (Nat × AV)}:fD Tryz.prog 61 ps=lD YF [zI,zI,zI] ps:=iM (by kernel_rfl) Tryz.underlying61 (by kernel_rfl) (by funext i;rcases i with _ | _ | _ | i <;> kernel_rfl)
def aff:Nat->Option (Nat × Nat)
 | 0=> some (0,1)
 | _=> none
theorem ai3 {ps:List (Nat × AV)}:fD Tryz.prog 71 ps=lD aff [zP] ps:=iM (by kernel_rfl) Tryz.underlying71 (by kernel_rfl) (by funext i;rcases i with _ | i <;> kernel_rfl)
def afg:Nat->Option (Nat × Nat)
 | 0=> some (0,1)
 | 1=> some (1,1)
 | 2=> some (2,8)
 | 3=> some (10,1)
 | 4=> some (11,1)
 | 5=> some (12,9)
 | 6=> some (21,1)
 | _=> none
theorem ai4 {ps:List (Nat × AV)}:fD Tryz.prog 75 ps=lD afg [zP,zP,zI,zI,zI,zI,zI,zI,zI,zN,zI,zP,zI,zI,zI,zI,zI,zI,zN,zI,zI,zI] ps:=iM (by kernel_rfl) Tryz.underlying75 (by kernel_rfl) (by funext i;rcases i with _ | _ | _ | _ | _ | _ | _ | i <;> kernel_rfl)
def acS:Nat->Option (Nat × Nat)
 | 0=> some (0,1)
 | 1=> some (1,1)
 | 2=> some (2,1)
 | 3=> some (3,1)
 | 4=> some (4,1)
 | 5=> some (5,1)
 | 6=> some (6,1)
 | 7=> some (7,1)
 | 8=> some (8,1)
 | _=> none
theorem afh {ps:List (Nat × AV)}:fD Tryz.prog 81 ps=lD acS [zI,zI,zI,zI,zI,zI,zI,zB,zN] ps:=iM (by kernel_rfl) Tryz.underlying81 (by kernel_rfl) (by funext i;rcases i with _ | _ | _ | _ | _ | _ | _ | _ | _ | i <;> kernel_rfl)
def afi:Nat->Option (Nat × Nat)
 | 0=> some (0,1)
 | 1=> some (1,1)
 | 2=> some (2,1)
 | _=> none
theorem ai5 {ps:List (Nat × AV)}:fD Tryz.prog 95 ps=lD afi [zI,zI,zN] ps:=iM (by kernel_rfl) Tryz.underlying95 (by kernel_rfl) (by funext i;rcases i with _ | _ | _ | i <;> kernel_rfl)
def afj:Nat->Option (Nat × Nat)
 | 0=> some (0,2)
 | 1=> some (2,1)
 | 2=> some (3,1)
 | 3=> some (4,1)
 | 4=> some (5,1)
 | _=> none
theorem aae {ps:List (Nat × AV)}:fD Tryz.prog 100 ps=lD afj [zI,zI,zI,zI,zB,zN] ps:=iM (by kernel_rfl) Tryz.underlying100 (by kernel_rfl) (by funext i;rcases i with _ | _ | _ | _ | _ | i <;> kernel_rfl)
def aaf:Nat->Option (Nat × Nat)
 | 0=> some (0,1)
 | 1=> some (1,1)
 | _=> none
theorem afk {ps:List (Nat × AV)}:fD Tryz.prog 121 ps=lD aaf [zP,zP] ps:=iM (by kernel_rfl) Tryz.underlying121 (by kernel_rfl) (by funext i;rcases i with _ | _ | i <;> kernel_rfl)
def aag:Nat->Option (Nat × Nat)
 | 0=> some (0,1)
 | 1=> some (1,1)
 | 2=> some (2,1)
 | _=> none
theorem afl {ps:List (Nat × AV)}:fD Tryz.prog 135 ps=lD aag [zN,zN,zB] ps:=iM (by kernel_rfl) Tryz.underlying135 (by kernel_rfl) (by funext i;rcases i with _ | _ | _ | i <;> kernel_rfl)
def aah:Nat->Option (Nat × Nat)
 | 0=> some (0,2)
 | 1=> some (2,2)
 | _=> none
theorem afm {ps:List (Nat × AV)}:fD Tryz.prog 142 ps=lD aah [zP,zP,zP,zP] ps:=iM (by kernel_rfl) Tryz.underlying142 (by kernel_rfl) (by funext i;rcases i with _ | _ | i <;> kernel_rfl)
def afn:Nat->Option (Nat × Nat)
 | 0=> some (0,1)
 | _=> none
theorem afo {ps:List (Nat × AV)}:fD Tryz.prog 145 ps=lD afn [zN] ps:=iM (by kernel_rfl) Tryz.underlying145 (by kernel_rfl) (by funext i;rcases i with _ | i <;> kernel_rfl)
def aai:Nat->Option (Nat × Nat)
 | 0=> some (0,1)
 | 1=> some (1,1)
 | 2=> some (2,1)
 | 3=> some (3,1)
 | _=> none
theorem afp {ps:List (Nat × AV)}:fD Tryz.prog 147 ps=lD aai [zN,zI,zI,zI] ps:=iM (by kernel_rfl) Tryz.underlying147 (by kernel_rfl) (by funext i;rcases i with _ | _ | _ | _ | i <;> kernel_rfl)
def aaj:Nat->Option (Nat × Nat)
 | 0=> some (0,8)
 | 1=> some (8,1)
 | 2=> some (9,1)
 | 3=> some (10,1)
 | _=> none
theorem afq {ps:List (Nat × AV)}:fD Tryz.prog 157 ps=lD aaj [zI,zI,zI,zI,zI,zI,zI,zN,zP,zN,zN] ps:=iM (by kernel_rfl) Tryz.underlying157 (by kernel_rfl) (by funext i;rcases i with _ | _ | _ | _ | i <;> kernel_rfl)
def aak:Nat->Option (Nat × Nat)
 | 0=> some (0,1)
 | 1=> some (1,1)
 | 2=> some (2,8)
 | 3=> some (10,1)
 | _=> none
theorem afr {ps:List (Nat × AV)}:fD Tryz.prog 166 ps=lD aak [zP,zP,zI,zI,zI,zI,zI,zI,zI,zN,zI] ps:=iM (by kernel_rfl) Tryz.underlying166 (by kernel_rfl) (by funext i;rcases i with _ | _ | _ | _ | i <;> kernel_rfl)
def aal:Nat->Option (Nat × Nat)
 | 0=> some (0,1)
 | 1=> some (1,1)
 | _=> none
theorem afs {ps:List (Nat × AV)}:fD Tryz.prog 177 ps=lD aal [zN,zI] ps:=iM (by kernel_rfl) Tryz.underlying177 (by kernel_rfl) (by funext i;rcases i with _ | _ | i <;> kernel_rfl)
def aam:Nat->Option (Nat × Nat)
 | 0=> some (0,1)
 | _=> none
theorem afu {ps:List (Nat × AV)}:fD Tryz.prog 186 ps=lD aam [zN] ps:=iM (by kernel_rfl) Tryz.underlying186 (by kernel_rfl) (by funext i;rcases i with _ | i <;> kernel_rfl)
def aan:Nat->Option (Nat × Nat)
 | 0=> some (0,1)
 | 1=> some (1,1)
 | _=> none
theorem afv {ps:List (Nat × AV)}:fD Tryz.prog 200 ps=lD aan [zN,zI] ps:=iM (by kernel_rfl) Tryz.underlying200 (by kernel_rfl) (by funext i;rcases i with _ | _ | i <;> kernel_rfl)
def aao:Nat->Option (Nat × Nat)
 | 0=> some (0,8)
 | 1=> some (8,1)
 | _=> none
theorem afw {ps:List (Nat × AV)}:fD Tryz.prog 206 ps=lD aao [zI,zI,zI,zI,zI,zI,zI,zN,zN] ps:=iM (by kernel_rfl) Tryz.underlying206 (by kernel_rfl) (by funext i;rcases i with _ | _ | i <;> kernel_rfl)
def aap:Nat->Option (Nat × Nat)
 | 0=> some (0,8)
 | 1=> some (8,1)
 | 2=> some (9,1)
 | 3=> some (10,1)
 | 4=> some (11,1)
 | 5=> some (12,1)
 | 6=> some (13,1)
 | 7=> some (14,1)
 | 8=> some (15,9)
 | 9=> some (24,1)
 | _=> none
theorem afx {ps:List (Nat × AV)}:fD Tryz.prog 213 ps=lD aap [zI,zI,zI,zI,zI,zI,zI,zN,zI,zP,zP,zN,zB,zN,zB,zI,zI,zI,zI,zI,zI,zN,zI,zI,zI] ps:=iM (by kernel_rfl) Tryz.underlying213 (by kernel_rfl) (by funext i;rcases i with _ | _ | _ | _ | _ | _ | _ | _ | _ | _ | i <;> kernel_rfl)
def aaq:Nat->Option (Nat × Nat)
 | 0=> some (0,1)
 | 1=> some (1,1)
 | _=> none
theorem afy {ps:List (Nat × AV)}:fD Tryz.prog 218 ps=lD aaq [zM,zM] ps:=iM (by kernel_rfl) Tryz.underlying218 (by kernel_rfl) (by funext i;rcases i with _ | _ | i <;> kernel_rfl)
def aar:Nat->Option (Nat × Nat)
 | 0=> some (0,8)
 | 1=> some (8,1)
 | _=> none
theorem afz {ps:List (Nat × AV)}:fD Tryz.prog 246 ps=lD aar [zI,zI,zI,zI,zI,zI,zI,zN,zN] ps:=iM (by kernel_rfl) Tryz.underlying246 (by kernel_rfl) (by funext i;rcases i with _ | _ | i <;> kernel_rfl)
def aas:Nat->Option (Nat × Nat)
 | 0=> some (0,1)
 | 1=> some (1,1)
 | 2=> some (2,1)
 | 3=> some (3,1)
 | _=> none
theorem afA {ps:List (Nat × AV)}:fD Tryz.prog 265 ps=lD aas [zI,zI,zI,zN] ps:=iM (by kernel_rfl) Tryz.underlying265 (by kernel_rfl) (by funext i;rcases i with _ | _ | _ | _ | i <;> kernel_rfl)
def aat:Nat->Option (Nat × Nat)
 | 0=> some (0,8)
 | 1=> some (8,1)
 | 2=> some (9,1)
 | 3=> some (10,2)
 | _=> none
theorem afB {ps:List (Nat × AV)}:fD Tryz.prog 272 ps=lD aat [zI,zI,zI,zI,zI,zI,zI,zN,zI,zN,zN,zN] ps:=iM (by kernel_rfl) Tryz.underlying272 (by kernel_rfl) (by funext i;rcases i with _ | _ | _ | _ | i <;> kernel_rfl)
def aau:Nat->Option (Nat × Nat)
 | 0=> some (0,1)
 | 1=> some (1,1)
 | 2=> some (2,1)
 | _=> none
theorem afC {ps:List (Nat × AV)}:fD Tryz.prog 274 ps=lD aau [zI,zI,zN] ps:=iM (by kernel_rfl) Tryz.underlying274 (by kernel_rfl) (by funext i;rcases i with _ | _ | _ | i <;> kernel_rfl)
def aav:Nat->Option (Nat × Nat)
 | 0=> some (0,8)
 | 1=> some (8,1)
 | _=> none
theorem afD {ps:List (Nat × AV)}:fD Tryz.prog 277 ps=lD aav [zI,zI,zI,zI,zI,zI,zI,zN,zM] ps:=iM (by kernel_rfl) Tryz.underlying277 (by kernel_rfl) (by funext i;rcases i with _ | _ | i <;> kernel_rfl)
theorem aaw {k:IntKind}{n:Int}{H:ah}:kC Tryz.prog 3 5 (.s (.int k n)) H=some (.s (.int .u8 (IntKind.wrap .u8 n)),H):=FZ (by kernel_rfl) Tryz.underlying3 Tryz.underlying5
theorem afE {k:IntKind}{n:Int}{H:ah}:kC Tryz.prog 5 3 (.s (.int k n)) H=some (.s (.int .i64 (IntKind.wrap .i64 n)),H):=FZ (by kernel_rfl) Tryz.underlying5 Tryz.underlying3
theorem acT {k:IntKind}{n:Int}{H:ah}:kC Tryz.prog 5 42 (.s (.int k n)) H=some (.s (.int .u16 (IntKind.wrap .u16 n)),H):=FZ (by kernel_rfl) Tryz.underlying5 Tryz.underlying42
theorem YH {k:IntKind}{n:Int}{H:ah}:kC Tryz.prog 5 262 (.s (.int k n)) H=some (.s (.int .u64 (IntKind.wrap .u64 n)),H):=FZ (by kernel_rfl) Tryz.underlying5 Tryz.underlying262
theorem Vf {k:IntKind}{n:Int}{H:ah}:kC Tryz.prog 42 5 (.s (.int k n)) H=some (.s (.int .u8 (IntKind.wrap .u8 n)),H):=FZ (by kernel_rfl) Tryz.underlying42 Tryz.underlying5
theorem YI {k:IntKind}{n:Int}{H:ah}:kC Tryz.prog 262 3 (.s (.int k n)) H=some (.s (.int .i64 (IntKind.wrap .i64 n)),H):=FZ (by kernel_rfl) Tryz.underlying262 Tryz.underlying3
inductive Cell where
 | av (x:AV)
 | seq (m:Nat) (cells:List AV)
 | map (k:IntKind) (es:List (Int × AV))
 | maps (k:IntKind) (m:Nat) (es:List (Int × List AV))
 | aax (w m:Nat) (ls:List (List AV))
abbrev Tag:=Nat × Nat × Nat × Int
section
variable (b:Nat)(H:ah)(τ:Nat->Option Tag)
def OS(T:Tag)(x:AV)(m:Nat)(cells:List AV):Prop:=
 (x=zN/\cells=[])∨∃r g off n cap ex ty all,x=.sl r g off m n cap ex/\τ r=some T/\b<=r/\r < H.next/\n<=cap/\H.get r=.blk g ty all/\off+cap*m<=all.length/\all.all AV.aJ=true/\cells=(all.drop off).take (n*m)
def OM(T:Tag)(x:AV)(k:IntKind)(es:List (Int × AV)):Prop:=∃r,x=.mp r/\τ r=some T/\b<=r/\r < H.next/\H.get r=.map k es
def CR(q i:Nat):Cell->AV->Prop
 | .av x,y=> y=x
 | .seq m cells,y=> OS b H τ (q,i+1,0,0) y m cells
 | .map k es,y=> OM b H τ (q,i+1,0,0) y k es
 | .maps k m es,y=>∃aes:List (Int × AV),OM b H τ (q,i+1,0,0) y k aes/\aes.map (·.1)=es.map (·.1)/\∀(j:Nat) n cells x,es[j]?=some (n,cells)->aes[j]?=some (n,x)->OS b H τ (q,i+1,1,n) x m cells
 | .aax w m ls,y=>∃xs:List AV,OS b H τ (q,i+1,0,0) y w xs/\xs.length=ls.length/\∀(j:Nat) cells x,ls[j]?=some cells->xs[j]?=some x->OS b H τ (q,i+1,1,(j:Int)) x m cells
structure aeB(q:Nat)(cs:List Cell):Prop where
 tag:τ q=some (q,0,0,0)
 lo:b<=q
 hi:q < H.next
 tyl:∀gg ty xs,H.get q=.blk gg ty xs->ty < gB
 blk:∃ty xs,H.get q=.blk 0 ty xs/\xs.length=cs.length/\xs.all AV.aJ=true/\∀(i:Nat) c x,cs[i]?=some c->xs[i]?=some x->CR b H τ q i c x
end
abbrev bJ:=Nat->Option (List Cell)
def Good(b:Nat)(H:ah)(g:bJ):Prop:=b<=H.next/\∃τ,∀q cs,g q=some cs->aeB b H τ q cs
def upd(g:bJ)(q:Nat)(cs:List Cell):bJ:=λx=> if x=q then some cs else g x
section
variable {b:Nat}{H H':ah}{g:bJ}{q:Nat}{cs:List Cell}
theorem aY:upd g q cs q=some cs:=by simp [upd]
theorem bP {x:Nat}(h:x≠q):upd g q cs x=g x:=by simp [upd,h]
theorem Di {ds:List Cell}:upd (upd g q cs) q ds=upd g q ds:=by funext x;simp only [upd];split <;> rfl
theorem aay(h:g q=some cs):upd g q cs=g:=by
 funext x
 simp only [upd];split
 ·rename_i e;rw [e,h]
 ·rfl
theorem OS.keep {τ τ':Nat->Option Tag}{T:Tag}{x:AV}{m:Nat}{cells:List AV}(h:OS b H τ T x m cells)(hn:H.next<=H'.next)(hg:∀r,r < H.next->τ r=some T->τ' r=some T/\H'.get r=H.get r):OS b H' τ' T x m cells:=by
 rcases h with h | ⟨r,g,off,n,cap,ex,ty,all,rfl,h1,h2,h3,h4,h5,h6,h7,h8⟩
 ·exact .inl h
 ·obtain⟨k1,k2⟩:=hg r h3 h1;exact .inr ⟨r,g,off,n,cap,ex,ty,all,rfl,k1,h2,by omega,h4,by rw [k2];exact h5,h6,h7,h8⟩
theorem OM.keep {τ τ':Nat->Option Tag}{T:Tag}{x:AV}{k:IntKind}{es:List (Int × AV)}(h:OM b H τ T x k es)(hn:H.next<=H'.next)(hg:∀r,r < H.next->τ r=some T->τ' r=some T/\H'.get r=H.get r):OM b H' τ' T x k es:=by
 obtain⟨r,rfl,h1,h2,h3,h4⟩:=h;obtain⟨k1,k2⟩:=hg r h3 h1;exact⟨r,rfl,k1,h2,by omega,by rw [k2];exact h4⟩
theorem CR.keep {τ τ':Nat->Option Tag}{i:Nat}:∀{c:Cell} {x:AV},CR b H τ q i c x->H.next<=H'.next->(∀r s t,r < H.next->τ r=some (q,i+1,s,t)->τ' r=some (q,i+1,s,t)/\H'.get r=H.get r)->CR b H' τ' q i c x
 | .av _,_,h,_,_=> h
 | .seq _ _,_,h,hn,hg=> OS.keep h hn λr h1 h2=> hg r 0 0 h1 h2
 | .map _ _,_,h,hn,hg=> OM.keep h hn λr h1 h2=> hg r 0 0 h1 h2
 | .maps _ _ _,_,⟨aes,h1,h2,h3⟩,hn,hg=> ⟨aes,h1.keep hn λr h1 h2=> hg r 0 0 h1 h2,h2,λj n cells x hj hx=> (h3 j n cells x hj hx).keep hn λr h1 h2=> hg r 1 n h1 h2⟩
 | .aax _ _ _,_,⟨xs,h1,h2,h3⟩,hn,hg=> ⟨xs,h1.keep hn λr h1 h2=> hg r 0 0 h1 h2,h2,λj cells x hj hx=> (h3 j cells x hj hx).keep hn λr h1 h2=> hg r 1 j h1 h2⟩
theorem sJ {ty:Nat}{xs:List AV}(h:H.get q=.blk 0 ty xs)(ht:ty < gB):∀gg ty' xs',H.get q=.blk gg ty' xs'->ty' < gB:=λ_ _ _ e=> by
 rw [h] at e;cases e;exact ht
theorem aeB.keep {τ τ':Nat->Option Tag}(h:aeB b H τ q cs)(hn:H.next<=H'.next)(hg:∀r i s t,r < H.next->τ r=some (q,i,s,t)->τ' r=some (q,i,s,t)/\H'.get r=H.get r):aeB b H' τ' q cs:=by
 obtain⟨k1,k2⟩:=hg q 0 0 0 h.hi h.tag;obtain⟨ty,xs,h1,h2,h3,h4⟩:=h.blk;exact⟨k1,h.lo,by have:=h.hi;omega,sJ (by rw [k2];exact h1) (h.tyl _ _ _ h1),ty,xs,by rw [k2];exact h1,h2,h3,λi c x hc hx=> (h4 i c x hc hx).keep hn λr s t hr ht=> hg r (i+1) s t hr ht⟩
theorem Good.lt(G:Good b H g)(h:g q=some cs):q < H.next:=(G.2.choose_spec q cs h).hi
theorem Good.le(G:Good b H g)(h:g q=some cs):b<=q:=(G.2.choose_spec q cs h).lo
theorem Good.isNone(G:Good b H g)(h:H.next<=q):g q=none:=by
 cases hq:g q with
 | none=> rfl
 | some cs=> have:=G.lt hq;omega
theorem Good.ne(G:Good b H g)(h:g q=some cs):q≠H.next:=by have:=G.lt h;omega
theorem Good.ext(G:Good b H g)(hn:H.next<=H'.next)(hg:∀r,r < H.next->H'.get r=H.get r):Good b H' g:=by
 obtain⟨h0,τ,h⟩:=G;exact⟨by omega,τ,λq cs hq=> (h q cs hq).keep hn λr i s t hr ht=> ⟨ht,hg r hr⟩⟩
theorem Good.new(G:Good b H g)(o:eP):Good b (H.new o) g:=G.ext (zbk _) λr hr=> by rw [iw,if_neg (by omega)]
theorem Good.guard(G:Good b H g):Good b H.guard g:=G.ext (zac _) λ_ _=> rfl
theorem Good.sub(G:Good b H g){g':bJ}(h:∀q cs,g' q=some cs->g q=some cs):Good b H g':=by
 obtain⟨h0,τ,h1⟩:=G;exact⟨h0,τ,λq cs hq=> h1 q cs (h q cs hq)⟩
theorem Good.empty(H:ah):Good H.next H λ_=> none:=⟨zac _,λ_=> none,λ_ _ h=> by cases h⟩
theorem Good.weak(G:Good b H g){b':Nat}(h:b'<=b):Good b' H g:=by
 obtain⟨h0,τ,h1⟩:=G;have os:∀{T x m cells},OS b H τ T x m cells->OS b' H τ T x m cells:=by
  intro T x m cells ho;rcases ho with ho | ⟨r,g,off,n,cap,ex,ty,all,h2,h3,h4,h5⟩
  ·exact .inl ho
  ·exact .inr ⟨r,g,off,n,cap,ex,ty,all,h2,h3,by omega,h5⟩
 have om:∀{T x k es},OM b H τ T x k es->OM b' H τ T x k es:=by
  intro T x k es ⟨r,h2,h3,h4,h5⟩;exact⟨r,h2,h3,by omega,h5⟩
 refine⟨by omega,τ,λq cs hq=> ?_⟩;have R:=h1 q cs hq;obtain⟨ty,xs,k1,k2,k3,k4⟩:=R.blk;refine⟨R.tag,by have:=R.lo;omega,R.hi,R.tyl,ty,xs,k1,k2,k3,λi c x hc hx=> ?_⟩;have:=k4 i c x hc hx;cases c with
 | av _=> exact this
 | seq _ _=> exact os this
 | map _ _=> exact om this
 | maps _ _ _=>
  obtain⟨aes,a1,a2,a3⟩:=this;exact⟨aes,om a1,a2,λj n cells x hj hx=> os (a3 j n cells x hj hx)⟩
 | aax _ _ _=>
  obtain⟨ys,a1,a2,a3⟩:=this;exact⟨ys,os a1,a2,λj cells x hj hx=> os (a3 j cells x hj hx)⟩
structure Step(b:Nat)(H H':ah):Prop where
 base:H'.base=H.base
 next:H.next<=H'.next
 low:∀r,r < b->H'.get r=H.get r
theorem Step.refl(b:Nat)(H:ah):Step b H H:=⟨rfl,zac _,λ_ _=> rfl⟩
theorem Step.trans {b:Nat}{H H' H'':ah}(s:Step b H H')(t:Step b H' H''):Step b H H'':=⟨t.base.trans s.base,zaC s.next t.next,λr hr=> by rw [t.low r hr,s.low r hr]⟩
theorem Step.new {b:Nat}{H:ah}(o:eP)(h:b<=H.next):Step b H (H.new o):=⟨rfl,zbk _,λr hr=> by rw [iw,if_neg (by omega)]⟩
theorem Step.put {b:Nat}{H:ah}{r:Nat}(o:eP)(h:b<=r):Step b H (H.put r o):=⟨rfl,zac _,λx hx=> by rw [eF,if_neg (by omega)]⟩
theorem Good.newObj(G:Good b H g){ty:TypeId}{xs:List AV}(hc:xs.all AV.aJ=true)(ht:ty < gB:=by decide):Good b (H.new (.blk 0 ty xs)) (upd g H.next (xs.map .av)):=by
 obtain⟨h0,τ,h⟩:=G;refine⟨by rw [AP];omega,λr=> if r=H.next then some (r,0,0,0) else τ r,λq cs hq=> ?_⟩;by_cases hqn:q=H.next
 ·subst hqn;rw [aY] at hq;cases hq;refine⟨by simp,h0,by rw [AP];omega,sJ (xs:=xs) (by simp [iw]) ht,ty,xs,by simp [iw],by simp,hc,λi c x hci hx=> ?_⟩;rw [zas,hx] at hci;simp only [zaf,zaa] at hci;subst hci;exact rfl
 ·rw [bP hqn] at hq;have R:=h q cs hq;exact R.keep (H':=H.new (.blk 0 ty xs)) (zbk _) λr i s t hr ht=> ⟨by rw [if_neg (by omega)];exact ht,by rw [iw,if_neg (by omega)]⟩
theorem dA {r off g:Nat}{ty:TypeId}{xs:List AV}(h:H.get r=.blk g ty xs):ld (.ref r g off) H=(xs[off]?).map λv=> (v,H):=by
 simp only [ld,jP,dO,zaf,ldO,h,if_true]
theorem jw {r off g n:Nat}{ty:TypeId}{xs:List AV}(h:H.get r=.blk g ty xs)(hl:off+n<=xs.length):lda n (.ref r g off) H=some (.agg ((xs.drop off).take n),H):=by
 simp only [lda,jP,dO,zaf,aix,h,if_true,hl]
theorem afF {cells:List AV}:ld (.ip cells) H=(cells[0]?).map λv=> (v,H):=by simp only [ld,jP,ldO]
theorem afG {cells:List AV}{n:Nat}(h:n<=cells.length):lda n (.ip cells) H=some (.agg (cells.take n),H):=by
 simp only [lda,jP,aix,za4,h,if_true,zaM,zaf]
theorem Good.load(G:Good b H g)(h:g q=some cs){i:Nat}{x:AV}(hi:cs[i]?=some (.av x)):ld (.ref q 0 i) H=some (x,H):=by
 obtain⟨_,τ,hR⟩:=G;obtain⟨ty,xs,h1,h2,h3,h4⟩:=(hR q cs h).blk;rw [dA h1];have hlt:i < xs.length:=by rw [h2];exact(zah.1 hi).1
 have hx:xs[i]?=some (xs[i]'hlt):=zab hlt;have:=h4 i _ _ hi hx;simp only [CR] at this;rw [hx,this];rfl
theorem Good.loads(G:Good b H g)(h:g q=some cs){i n:Nat}{xs:List AV}(hi:(cs.drop i).take n=xs.map .av)(hn:xs.length=n)(hp:0 < n):lda n (.ref q 0 i) H=some (.agg xs,H):=by
 obtain⟨_,τ,hR⟩:=G;obtain⟨ty,ys,h1,h2,h3,h4⟩:=(hR q cs h).blk;have hl:=congrArg List.length hi;simp only [zav,zaQ,zay] at hl
 ·rw [jw h1 (by omega)]
  congr 2
  congr 1
  apply zbD
  intro j;rcases zaP j n with hj | hj
  ·have hx:xs[j]?=some (xs[j]'(by omega)):=zab _;have hc:cs[i+j]?=some (.av (xs[j]'(by omega))):=by
    have:=congrArg (λl=> l[j]?) hi;simp only [zaH,hj,if_true,zaL,zas,hx,zaf] at this;exact this
   have hlt:i+j < ys.length:=by omega
   have hy:ys[i+j]?=some (ys[i+j]'hlt):=zab hlt;have:=h4 _ _ _ hc hy;simp only [CR] at this;rw [zaH,if_pos hj,zaL,hy,this,hx]
  ·rw [zaH,if_neg (by omega),zaN (by omega)]
end
def aA(H:ah)(x:AV)(m n:Nat)(cells:List AV):Prop:=
 cells.length=n*m/\
 match x with
 | .sl r g off esz len cap _=> esz=m/\len=n/\(r < H.next/\len<=cap)/\∃ty all,H.get r=.blk g ty all/\off+n*m<=all.length/\cells=(all.drop off).take (n*m)
 | .vs k esz cs=> esz=m/\k=n/\cs=cells
 | .s (.slice none a b)=> a=0/\b=0/\n=0
 | _=> False
def dM(x:AV)(i:Nat):AV:=
 match x with
 | .sl r g off esz _ _ _=> .ref r g (off+i*esz)
 | .vs _ esz cs=> .ip (cs.drop (i*esz))
 | _=> aV
section
variable {P:Program}{H:ah}{x:AV}{m n:Nat}{cells:List AV}
theorem aA.aJ(h:aA H x m n cells):x.aJ=true:=by
 obtain⟨_,h⟩:=h;cases x with
 | s v=> cases v <;> first | rfl | exact h.elim
 | _=> first | rfl | exact h.elim
theorem aA.len(h:aA H x m n cells){t e:TypeId}(ht:wC P t=some e):aeI P t x H=some (.s (.int .i64 n),H):=by
 obtain⟨_,h⟩:=h;unfold wC at ht;split at ht <;> first | (cases ht;done) | skip
 rename_i e' hu;unfold aeI jP air;cases x with
 | sl r g off esz len cap ex=> simp only [hu];rw [h.2.1];rfl
 | vs k esz cs=> simp only [hu];rw [h.2.1];rfl
 | s v=>
  cases v with
  | slice a b c=>
   cases a with
   | none=> simp only [hu];rw [h.2.2,h.1];rfl
   | some a=> exact h.elim
  | _=> exact h.elim
 | _=> exact h.elim
theorem aA.uQ(h:aA H x m n cells):jC x=some n/\bI H x=some cells:=by
 obtain⟨hl,h⟩:=h;cases x with
 | sl r g off esz len cap ex=>
  obtain⟨rfl,rfl,_,ty,all,h1,h2,h3⟩:=h;refine⟨rfl,?_⟩;simp only [bI,h1];rw [if_pos ⟨trivial,h2⟩,h3]
 | vs k esz cs=> obtain⟨rfl,rfl,rfl⟩:=h;exact⟨rfl,rfl⟩
 | s v=>
  cases v with
  | slice a b c=>
   cases a with
   | none=>
    obtain⟨rfl,rfl,rfl⟩:=h;refine⟨rfl,?_⟩;have:cells=[]:=zan (by omega);rw [this];rfl
   | some a=> exact h.elim
  | _=> exact h.elim
 | _=> exact h.elim
theorem aA.index(h:aA H x m n cells){t e:TypeId}(ht:wC P t=some e)(hm:szT P e=some m){k:IntKind}{i:Int}(h0:0<=i)(h1:i < n):
  pJ P t x (.s (.int k i)) H=some (dM x i.toNat,H):=by
 obtain⟨_,h⟩:=h;unfold wC at ht;split at ht <;> first | (cases ht;done) | skip
 rename_i e' hu;simp only [zaa] at ht;subst ht;unfold pJ jP yA;cases x with
 | sl r g off esz len cap ex=>
  obtain⟨rfl,rfl,_,ty,all,h2,h3,h4⟩:=h;simp only [hu,dO,zaf,h2,aeH,eP.gen,hm,true_and];rw [if_pos ⟨h0,by omega⟩];rfl
 | vs k' esz cs=>
  obtain⟨rfl,rfl,rfl⟩:=h;simp only [hu,hm,true_and];rw [if_pos ⟨h0,by omega⟩];rfl
 | s v=>
  cases v with
  | slice a b c=>
   cases a with
   | none=> obtain⟨rfl,rfl,rfl⟩:=h;omega
   | some a=> exact h.elim
  | _=> exact h.elim
 | _=> exact h.elim
def jO:AV->Option Nat
 | .sl r _ _ _ _ _ _=> some r
 | _=> none
theorem aA.fU {H':ah}(h:aA H x m n cells)(hn:H.next<=H'.next)(hg:∀r,jO x=some r->r < H.next->H'.get r=H.get r):aA H' x m n cells:=by
 obtain⟨hl,h⟩:=h;refine⟨hl,?_⟩;cases x with
 | sl r g off esz len cap ex=>
  obtain⟨h0,h1,hr,ty,all,h2,h3,h4⟩:=h;exact⟨h0,h1,⟨zaw hr.1 hn,hr.2⟩,ty,all,by rw [hg r rfl hr.1];exact h2,h3,h4⟩
 | s v=>
  cases v with
  | slice a b c=> cases a <;> exact h
  | _=> exact h
 | _=> exact h
theorem aA.new(h:aA H x m n cells)(o:eP):aA (H.new o) x m n cells:=
 h.fU (zbk _) λr _ hr=> by rw [iw,if_neg (by omega)]
theorem aA.put(h:aA H x m n cells){r:Nat}(hr:jO x≠some r)(o:eP):aA (H.put r o) x m n cells:=
 h.fU (zac _) λr' hx _=> by rw [eF,if_neg (λe=> hr (by rw [hx,e]))]
theorem aA.guard(h:aA H x m n cells):aA H.guard x m n cells:=h
theorem aA.nil {m:Nat}:aA H (.s (.slice none 0 0)) m 0 []:=⟨by simp,rfl,rfl,rfl⟩
theorem aA.vs {m n:Nat}{cs:List AV}(h:cs.length=n*m):aA H (.vs n m cs) m n cs:=⟨h,rfl,rfl,rfl⟩
end
theorem NY {α:Type}{enc:α->List AV}{m:Nat}(he:∀a,(enc a).length=m)(l:List α):(l.flatMap enc).length=l.length*m:=by
 induction l with
 | nil=> simp
 | cons a l ih=> simp only [zaV,zal,he,ih,zam,zbA];omega
theorem Ih {α:Type}{enc:α->List AV}{m:Nat}(he:∀a,(enc a).length=m):∀(l:List α) (i:Nat) (a:α),l[i]?=some a->((l.flatMap enc).drop (i*m)).take m=enc a
 | [],i,a,h=> by simp at h
 | b::l,0,a,h=> by
  simp only [za2,zaa] at h;subst h;rw [zbi,zaM,zaV,zb2 (by rw [he];omega),zau (by rw [he];omega)]
 | b::l,i+1,a,h=> by
  simp only [zbx] at h;have e1:(enc b).drop ((i+1)*m)=[]:=zaJ (by rw [he,zbA];omega);have e2:(i+1)*m - (enc b).length=i*m:=by rw [he,zbA];omega
  rw [zaV,List.drop_append,e1,e2,zaS];exact Ih he l i a h
section
variable {b:Nat}{H H':ah}{g:bJ}{q:Nat}{cs:List Cell}
theorem AQ {τ τ':Nat->Option Tag}{cs':List Cell}(h0:b<=H.next)(h:∀q cs,g q=some cs->aeB b H τ q cs)(hn:H.next<=H'.next)
  (hk:∀r,r < H.next->(∀i s t,τ r≠some (q,i,s,t))->τ' r=τ r/\H'.get r=H.get r) (hR:aeB b H' τ' q cs'):Good b H' (upd g q cs'):=by
 refine⟨by omega,τ',λq2 cs2 hq2=> ?_⟩;by_cases e:q2=q
 ·subst e;rw [aY] at hq2;cases hq2;exact hR
 ·rw [bP e] at hq2;refine(h q2 cs2 hq2).keep hn λr i s t hr ht=> ?_;obtain⟨k1,k2⟩:=hk r hr λi' s' t' h'=> by rw [ht] at h';cases h';exact e rfl
  exact⟨by rw [k1];exact ht,k2⟩
theorem nR {α:Type}{l:List α}{i j:Nat}{a x:α}(h:(l.set i a)[j]?=some x):(j=i/\x=a)∨(j≠i/\l[j]?=some x):=by
 by_cases e:i=j
 ·subst e;have hl:i < l.length:=by
   have:=(zah.1 h).1
   simpa using this
  rw [zba hl] at h;cases h;exact .inl ⟨rfl,rfl⟩
 ·rw [zbg e] at h;exact .inr ⟨λe'=> e e'.symm,h⟩
theorem Vg {l:List AV}(h:l.all AV.aJ=true){v:AV}(hv:v.aJ=true)(i:Nat):(l.set i v).all AV.aJ=true:=by
 rw [za0] at h ⊢;intro x hx;rcases zbG hx with hx | rfl
 ·exact h x hx
 ·exact hv
theorem KI {l:List AV}{i:Nat}{v:AV}(hi:i < l.length):aP l i [v]=l.set i v:=by
 rw [zcT];simp only [aP,hi,if_true,zam,zak];rfl
def One(v:AV):Prop:=v.cells=[v]/\v.aJ=true
theorem pW {r g off esz len cap:Nat}{ex:Bool}:One (.sl r g off esz len cap ex):=⟨rfl,rfl⟩
theorem aaz {n esz:Nat}{cells:List AV}:One (.vs n esz cells):=⟨rfl,rfl⟩
theorem vK:One zN:=⟨rfl,rfl⟩
theorem Vh {r gg off:Nat}{v:AV}{ty:TypeId}{xs:List AV}(hv:One v)(h:H.get r=.blk gg ty xs)(hb:H.base<=r)(hl:off < xs.length):st 1 (.ref r gg off) v H=some (aV,H.put r (.blk gg ty (xs.set off v))):=by
 show(match H.get r with
  | .blk g' ty cells=> if g'=gg/\H.base<=r/\some 1=some v.cells.length/\v.cells.all AV.aJ=true/\off+v.cells.length<=cells.length then some (aV,H.put r (.blk gg ty (aP cells off v.cells))) else none
  | .map ..=> none)=_
 rw [h];simp only;rw [if_pos ⟨trivial,hb,by rw [hv.1];rfl,by rw [hv.1];simp [hv.2],by rw [hv.1];exact hl⟩,hv.1,KI hl]
theorem Vj {r gg off n:Nat}{vs:List AV}{ty:TypeId}{xs:List AV}(hv:vs.all AV.aJ=true)(hn:vs.length=n)(h:H.get r=.blk gg ty xs)(hb:H.base<=r)(hl:off+n<=xs.length):st n (.ref r gg off) (.agg vs) H=some (aV,H.put r (.blk gg ty (aP xs off vs))):=by
 show(match H.get r with
  | .blk g' ty cells=> if g'=gg/\H.base<=r/\some n=some (AV.agg vs).cells.length/\(AV.agg vs).cells.all AV.aJ=true/\off+(AV.agg vs).cells.length<=cells.length then some (aV,H.put r (.blk gg ty (aP cells off (AV.agg vs).cells))) else none
  | .map ..=> none)=_
 rw [h];simp only [eH];rw [if_pos ⟨trivial,hb,by rw [hn],hv,by omega⟩]
theorem Good.store(G:Good b H g)(hb:H.base<=b)(h:g q=some cs){i:Nat}(hi:i < cs.length){v:AV}(hv:One v):
  ∃H',st 1 (.ref q 0 i) v H=some (aV,H')/\Good b H' (upd g q (cs.set i (.av v)))/\Step b H H'/\H'.next=H.next:=by
 obtain⟨h0,τ,hR⟩:=G;have R:=hR q cs h;obtain⟨ty,xs,h1,h2,h3,h4⟩:=R.blk;have lo:=R.lo;refine⟨_,Vh hv h1 (by omega) (by omega),?_,Step.put _ lo,rfl⟩;refine AQ (τ':=τ) h0 hR (zac _) (λr hr ht=> ⟨rfl,?_⟩) ⟨R.tag,R.lo,R.hi,sJ (xs:=xs.set i v) (by rw [eF,if_pos rfl]) (R.tyl _ _ _ h1),ty,xs.set i v,by rw [eF,if_pos rfl],by simp [h2],Vg h3 hv.2 i,λj c x hc hx=> ?_⟩
 ·rw [eF,if_neg];intro e;subst e;exact ht 0 0 0 R.tag
 ·rcases nR hc with⟨rfl,rfl⟩ | ⟨hj,hc⟩
  ·rcases nR hx with⟨_,rfl⟩ | ⟨hj,_⟩
   ·exact rfl
   ·exact absurd rfl hj
  ·rcases nR hx with⟨rfl,_⟩ | ⟨_,hx⟩
   ·exact absurd rfl hj
   ·refine(h4 j c x hc hx).keep (zac _) λr s t hr ht=> ⟨ht,?_⟩
    rw [eF,if_neg];intro e;subst e;rw [R.tag] at ht;cases ht
def wO(cs:List Cell)(i:Nat)(vs:List AV):List Cell:=cs.take i++(vs.map .av++cs.drop (i+vs.length))
theorem wP {l:List AV}{i:Nat}{vs:List AV}(h:i+vs.length<=l.length)(j:Nat):(aP l i vs)[j]?=if i<=j/\j < i+vs.length then vs[j - i]? else l[j]?:=by
 unfold aP;rcases zaP j i with hj | hj
 ·rw [zaE (by rw [zav];omega),zaH,if_pos hj,if_neg (by omega)]
 ·have h1:(l.take i).length=i:=by rw [zav];omega
  rw [zbo (by omega),h1];rcases zaP j (i+vs.length) with hk | hk
  ·rw [if_pos ⟨hj,hk⟩,zaE (by omega)]
  ·rw [if_neg (by omega),zbo (by omega),zaL]
   congr 1;omega
theorem SG {i:Nat}{vs:List AV}(h:i+vs.length<=cs.length)(j:Nat):(wO cs i vs)[j]?=if i<=j/\j < i+vs.length then(vs[j - i]?).map .av else cs[j]?:=by
 unfold wO;rcases zaP j i with hj | hj
 ·rw [zaE (by rw [zav];omega),zaH,if_pos hj,if_neg (by omega)]
 ·have h1:(cs.take i).length=i:=by rw [zav];omega
  rw [zbo (by omega),h1];rcases zaP j (i+vs.length) with hk | hk
  ·rw [if_pos ⟨hj,hk⟩,zaE (by rw [zay];omega),zas]
  ·rw [if_neg (by omega),zbo (by rw [zay];omega),zay,zaL]
   congr 1;omega
theorem vM {l:List AV}{i:Nat}{vs:List AV}(h:i+vs.length<=l.length):(aP l i vs).length=l.length:=by
 simp only [aP,zal,zav,zaQ];omega
theorem Ii {i:Nat}{vs:List AV}(h:i+vs.length<=cs.length):(wO cs i vs).length=cs.length:=by
 simp only [wO,zal,zav,zaQ,zay];omega
theorem KJ {l vs:List AV}(h:l.all AV.aJ=true)(hv:vs.all AV.aJ=true)(i:Nat):(aP l i vs).all AV.aJ=true:=by
 rw [za0] at h hv ⊢;intro x hx;simp only [aP,zaO] at hx;rcases hx with hx | hx | hx
 ·exact h x (zcD hx)
 ·exact hv x hx
 ·exact h x (List.mem_of_mem_drop hx)
theorem Good.stores(G:Good b H g)(hb:H.base<=b)(h:g q=some cs){i n:Nat}{vs:List AV}(hi:i+n<=cs.length)(hn:vs.length=n)(hv:vs.all AV.aJ=true):
  ∃H',st n (.ref q 0 i) (.agg vs) H=some (aV,H')/\Good b H' (upd g q (wO cs i vs))/\Step b H H'/\H'.next=H.next:=by
 obtain⟨h0,τ,hR⟩:=G;have R:=hR q cs h;obtain⟨ty,xs,h1,h2,h3,h4⟩:=R.blk;have lo:=R.lo;refine⟨_,Vj hv hn h1 (by omega) (by omega),?_,Step.put _ lo,rfl⟩;refine AQ (τ':=τ) h0 hR (zac _) (λr hr ht=> ⟨rfl,?_⟩) ⟨R.tag,R.lo,R.hi,sJ (xs:=aP xs i vs) (by rw [eF,if_pos rfl]) (R.tyl _ _ _ h1),ty,aP xs i vs,by rw [eF,if_pos rfl],by rw [vM (by omega),Ii (by omega),h2],KJ h3 hv i,λj c x hc hx=> ?_⟩
 ·rw [eF,if_neg];intro e;subst e;exact ht 0 0 0 R.tag
 ·rw [SG (by omega)] at hc;rw [wP (by omega)] at hx;split at hc
  ·rename_i hj;rw [if_pos hj] at hx;rw [hx] at hc;simp only [zaf,zaa] at hc;subst hc;exact rfl
  ·rename_i hj;rw [if_neg hj] at hx;refine(h4 j c x hc hx).keep (zac _) λr s t hr ht=> ⟨ht,?_⟩
   rw [eF,if_neg];intro e;subst e;rw [R.tag] at ht;cases ht
structure Cur(b:Nat)(H:ah)(q i:Nat)(x:AV)(m:Nat)(l:List AV):Prop where
 at_:∃ty xs,H.get q=.blk 0 ty xs/\xs[i]?=some x
 own:(x=zN/\l=[])∨∃r g off n cap ex ty all,x=.sl r g off m n cap ex/\r≠q/\b<=r/\r < H.next/\n<=cap/\H.get r=.blk g ty all/\off+cap*m<=all.length/\all.all AV.aJ=true/\l=(all.drop off).take (n*m)
 lt:q < H.next
theorem Good.seq(G:Good b H g)(h:g q=some cs){i m:Nat}{l:List AV}(hi:cs[i]?=some (.seq m l)):∃x,ld (.ref q 0 i) H=some (x,H)/\Cur b H q i x m l:=by
 obtain⟨_,τ,hR⟩:=G;have R:=hR q cs h;obtain⟨ty,xs,h1,h2,h3,h4⟩:=R.blk;have hlt:i < xs.length:=by rw [h2];exact(zah.1 hi).1
 have hx:xs[i]?=some (xs[i]'hlt):=zab hlt;refine⟨xs[i]'hlt,by rw [dA h1,hx];rfl,⟨ty,xs,h1,hx⟩,?_,R.hi⟩;have:=h4 i _ _ hi hx;simp only [CR] at this;rcases this with h5 | ⟨r,gg,off,n,cap,ex,ty,all,h5,h6,h7⟩
 ·exact .inl h5
 ·refine .inr ⟨r,gg,off,n,cap,ex,ty,all,h5,?_,h7⟩;intro e;subst e;rw [R.tag] at h6;cases h6
theorem Cur.load {i m:Nat}{x:AV}{l:List AV}(c:Cur b H q i x m l):ld (.ref q 0 i) H=some (x,H):=by
 obtain⟨ty,xs,h1,h2⟩:=c.at_;rw [dA h1,h2];rfl
theorem Cur.ext {i m:Nat}{x:AV}{l:List AV}(c:Cur b H q i x m l)(hn:H.next<=H'.next)(hg:∀r,r < H.next->H'.get r=H.get r):Cur b H' q i x m l:=by
 obtain⟨ty,xs,h1,h2⟩:=c.at_;refine⟨⟨ty,xs,by rw [hg q c.lt];exact h1,h2⟩,?_,by have:=c.lt;omega⟩;rcases c.own with h | ⟨r,g,off,n,cap,ex,ty,all,k0,k1,k2,k3,k4,k5,k6⟩
 ·exact .inl h
 ·exact .inr ⟨r,g,off,n,cap,ex,ty,all,k0,k1,k2,by omega,k4,by rw [hg r k3];exact k5,k6⟩
theorem Cur.new {i m:Nat}{x:AV}{l:List AV}(c:Cur b H q i x m l)(o:eP):Cur b (H.new o) q i x m l:=c.ext (zbk _) λr hr=> by rw [iw,if_neg (by omega)]
theorem Cur.one {i m:Nat}{x:AV}{l:List AV}(c:Cur b H q i x m l):One x:=by
 rcases c.own with⟨rfl,_⟩ | ⟨r,g,off,n,cap,ex,ty,all,rfl,_⟩
 ·exact vK
 ·exact pW
theorem Cur.is {i m n:Nat}{x:AV}{l:List AV}(c:Cur b H q i x m l)(hm:0 < m)(hl:l.length=n*m):aA H x m n l:=by
 refine⟨hl,?_⟩;rcases c.own with⟨rfl,rfl⟩ | ⟨r,g,off,n',cap,ex,ty,all,rfl,k1,k2,k3,k4,k5,k6,k7,rfl⟩
 ·refine⟨rfl,rfl,?_⟩;simp only [zak] at hl;rcases zcK.1 hl.symm with h | h <;> omega
 ·have h1:n'*m<=cap*m:=zaz _ k4;rw [zav,zaQ,zbh (by omega)] at hl;have:n'=n:=zbQ hm hl;subst this;exact⟨rfl,rfl,⟨k3,k4⟩,ty,all,k5,by omega,rfl⟩
theorem Cur.low {i m r:Nat}{x:AV}{l:List AV}(c:Cur b H q i x m l)(hr:r < b):jO x≠some r:=by
 rcases c.own with⟨rfl,_⟩ | ⟨r',g,off,n,cap,ex,ty,all,rfl,k1,k2,_⟩
 ·intro e;cases e
 ·intro e;simp only [jO,zaa] at e;omega
def Fit(H H1:ah)(x0 x:AV)(m:Nat)(l:List AV):Prop:=
 (x=zN/\l=[])∨∃r g off n cap ex ty all,x=.sl r g off m n cap ex/\(jO x0=some r∨H.next<=r)/\r < H1.next/\n<=cap/\H1.get r=.blk g ty all/\off+cap*m<=all.length/\all.all AV.aJ=true/\l=(all.drop off).take (n*m)
theorem Good.seat(G:Good b H g)(h:g q=some cs){i m:Nat}{l0:List AV}(hi:cs[i]?=some (.seq m l0)){x0:AV}(c:Cur b H q i x0 m l0){H1:ah}(hn:H.next<=H1.next)(hb:H1.base<=b)
  (hk:∀r,r < H.next->jO x0≠some r->H1.get r=H.get r) {x:AV} {m':Nat} {l:List AV} (hx:Fit H H1 x0 x m' l):
  ∃H',st 1 (.ref q 0 i) x H1=some (aV,H')/\Good b H' (upd g q (cs.set i (.seq m' l)))/\Step b H1 H'/\H'.next=H1.next:=by
 obtain⟨h0,τ,hR⟩:=G;have R:=hR q cs h;obtain⟨ty,xs,h1,h2,h3,h4⟩:=R.blk;have lo:=R.lo;have hi':=R.hi;have il:i < cs.length:=(zah.1 hi).1;have hx0:xs[i]?=some x0:=by
  obtain⟨ty',xs',e1,e2⟩:=c.at_;rw [h1] at e1;cases e1;exact e2
 have htag:∀r,jO x0=some r->τ r=some (q,i+1,0,0)/\b<=r:=by
  intro r hr;have:=h4 i _ _ hi hx0;simp only [CR] at this;rcases this with⟨rfl,_⟩ | ⟨r',gg,off,n,cap,ex,ty',all,rfl,k1,k2,_⟩
  ·cases hr
  ·simp only [jO,zaa] at hr;subst hr;exact⟨k1,k2⟩
 have hqx:jO x0≠some q:=λe=> by have:=(htag q e).1;rw [R.tag] at this;cases this
 have hq1:H1.get q=.blk 0 ty xs:=by rw [hk q hi' hqx];exact h1
 have hone:One x:=by
  rcases hx with⟨rfl,_⟩ | ⟨r,gg,off,n,cap,ex,ty',all,rfl,_⟩
  ·exact vK
  ·exact pW
 refine⟨_,Vh hone hq1 (by omega) (by omega),?_,Step.put _ lo,rfl⟩;refine AQ (τ':=λr=> if H.next<=r then some (q,i+1,0,0) else τ r) h0 hR (show H.next<=H1.next from hn) (λr hr ht=> ⟨by rw [if_neg (by omega)],?_⟩)
  ⟨by rw [if_neg (by omega)];exact R.tag,R.lo,show q < H1.next by omega,sJ (xs:=xs.set i x) (by rw [eF,if_pos rfl]) (R.tyl _ _ _ h1),ty,xs.set i x,by rw [eF,if_pos rfl],by simp [h2],Vg h3 hone.2 i,λj cc y hc hy=> ?_⟩
 ·rw [eF,if_neg (by intro e;subst e;exact ht 0 0 0 R.tag)];exact hk r hr λe=> ht (i+1) 0 0 (htag r e).1
 ·rcases nR hc with⟨rfl,rfl⟩ | ⟨hj,hc⟩
  ·rcases nR hy with⟨_,rfl⟩ | ⟨hj,_⟩
   ·rcases hx with hx | ⟨r,gg,off,n,cap,ex,ty',all,rfl,k1,k2,k3,k4,k5⟩
    ·exact .inl hx
    ·have hrq:r≠q:=by
      rcases k1 with k1 | k1
      ·intro e;subst e;exact hqx k1
      ·omega
     refine .inr ⟨r,gg,off,n,cap,ex,ty',all,rfl,?_,?_,k2,k3,by rw [eF,if_neg hrq];exact k4,k5⟩
     ·show(if H.next<=r then some (q,j+1,0,0) else τ r)=some (q,j+1,0,0);split
      ·rfl
      ·rcases k1 with k1 | k1
       ·exact(htag r k1).1
       ·omega
     ·rcases k1 with k1 | k1
      ·exact(htag r k1).2
      ·omega
   ·exact absurd rfl hj
  ·rcases nR hy with⟨rfl,_⟩ | ⟨_,hy⟩
   ·exact absurd rfl hj
   ·refine(h4 j cc y hc hy).keep (show H.next<=H1.next from hn) λr s t hr ht=> ⟨by rw [if_neg (by omega)];exact ht,?_⟩
    rw [eF,if_neg (by intro e;subst e;rw [R.tag] at ht;cases ht)];refine hk r hr λe=> ?_;have:=(htag r e).1;rw [this] at ht;simp only [zaa,zad,Nat.add_right_cancel_iff] at ht;exact hj ht.2.1.symm
end
section
variable {b:Nat}{H H':ah}{g:bJ}{q:Nat}{cs:List Cell}
theorem aA.lnS {x:AV}{m n:Nat}{cells:List AV}(h:aA H x m n cells):lnS x H=some (I n,H):=by
 obtain⟨_,h⟩:=h;unfold Go.Proofs.YtgplhpgkompkmaaGreat.lnS jP akZ;cases x with
 | sl r g off esz len cap ex=> simp only;rw [h.2.1];rfl
 | vs k esz cs=> simp only;rw [h.2.1];rfl
 | s v=>
  cases v with
  | slice a b c=>
   cases a with
   | none=> simp only;rw [h.2.2,h.1];rfl
   | some a=> exact h.elim
  | _=> exact h.elim
 | _=> exact h.elim
theorem aA.ix {x:AV}{m n:Nat}{cells:List AV}(h:aA H x m n cells){k:IntKind}{i:Int}(h0:0<=i)(h1:i < n):ix m x (.s (.int k i)) H=some (dM x i.toNat,H):=by
 obtain⟨_,h⟩:=h;unfold Go.Proofs.YtgplhpgkompkmaaGreat.ix jP ixO;cases x with
 | sl r g off esz len cap ex=>
  obtain⟨rfl,rfl,_,ty,all,h2,h3,h4⟩:=h;simp only [dO,zaf,h2,aeH,eP.gen,true_and];rw [if_pos ⟨h0,by omega⟩];rfl
 | vs k' esz cs=>
  obtain⟨rfl,rfl,rfl⟩:=h;simp only [true_and];rw [if_pos ⟨h0,by omega⟩];rfl
 | s v=>
  cases v with
  | slice a b c=>
   cases a with
   | none=> obtain⟨rfl,rfl,rfl⟩:=h;omega
   | some a=> exact h.elim
  | _=> exact h.elim
 | _=> exact h.elim
theorem aA.ld {x:AV}{n:Nat}{cells:List AV}(h:aA H x 1 n cells){i:Nat}(hi:i < n):ld (dM x i) H=(cells[i]?).map λv=> (v,H):=by
 obtain⟨_,h⟩:=h;cases x with
 | sl r g off esz len cap ex=>
  obtain⟨rfl,rfl,_,ty,all,h2,h3,h4⟩:=h;simp only [dM];rw [dA h2,h4,zaH,if_pos (by omega),zaL,zbC]
 | vs k' esz cs=>
  obtain⟨rfl,rfl,rfl⟩:=h;simp only [dM];rw [afF,zaL,zbC,zbU]
 | s v=>
  cases v with
  | slice a b c=>
   cases a with
   | none=> obtain⟨rfl,rfl,rfl⟩:=h;omega
   | some a=> exact h.elim
  | _=> exact h.elim
 | _=> exact h.elim
theorem aA.afH {x:AV}{m n:Nat}{cells:List AV}(h:aA H x m n cells){i o:Nat}(hi:i < n)(ho:o < m):(aN (dM x i) o).bind (λp=> Go.Proofs.YtgplhpgkompkmaaGreat.ld p H)=(cells[i*m+o]?).map λv=> (v,H):=by
 obtain⟨hl,h⟩:=h;have him:i*m+m<=n*m:=by
  have:(i+1)*m<=n*m:=zaz _ hi
  rwa [zbA] at this
 cases x with
 | sl r g off esz len cap ex=>
  obtain⟨rfl,rfl,_,ty,all,h2,h3,h4⟩:=h;simp only [dM,sH,zaX];rw [dA h2,h4,zaH,if_pos (by omega),zaL,zb1]
 | vs k' esz cs=>
  obtain⟨rfl,rfl,rfl⟩:=h;simp only [dM,vH,zaX];rw [afF,zbS,zaL,zbU]
 | s v=>
  cases v with
  | slice a b c=>
   cases a with
   | none=> obtain⟨rfl,rfl,rfl⟩:=h;omega
   | some a=> exact h.elim
  | _=> exact h.elim
 | _=> exact h.elim
theorem aA.lda {x:AV}{m n:Nat}{cells:List AV}(h:aA H x m n cells){i:Nat}(hi:i < n):lda m (dM x i) H=some (.agg ((cells.drop (i*m)).take m),H):=by
 obtain⟨hl,h⟩:=h;have him:i*m+m<=n*m:=by
  have:(i+1)*m<=n*m:=zaz _ hi
  rwa [zbA] at this
 cases x with
 | sl r g off esz len cap ex=>
  obtain⟨rfl,rfl,_,ty,all,h2,h3,h4⟩:=h;simp only [dM];rw [jw h2 (by omega),h4,zcO,zcC,zbS,zbh (by omega)]
 | vs k' esz cs=>
  obtain⟨rfl,rfl,rfl⟩:=h;simp only [dM];rw [afG (by rw [zaQ];omega)]
 | s v=>
  cases v with
  | slice a b c=>
   cases a with
   | none=> obtain⟨rfl,rfl,rfl⟩:=h;omega
   | some a=> exact h.elim
  | _=> exact h.elim
 | _=> exact h.elim
theorem Dj {all new:List AV}{off n:Nat}(h:off+n+new.length<=all.length):((aP all (off+n) new).drop off).take (n+new.length)=(all.drop off).take n++new:=by
 have hl:(aP all (off+n) new).length=all.length:=vM (by omega)
 apply zbD
 intro j;rcases zaP j n with h1 | h1
 ·rw [zaH,if_pos (by omega),zaL,wP (by omega),if_neg (by omega),zaE (by rw [zav,zaQ];omega),zaH,if_pos h1,zaL]
 ·rcases zaP j (n+new.length) with h2 | h2
  ·rw [zaH,if_pos h2,zaL,wP (by omega),if_pos (by omega),zbo (by rw [zav,zaQ];omega),zav,zaQ]
   congr 1;omega
  ·rw [zaH,if_neg (by omega),zbo (by rw [zav,zaQ];omega),zav,zaQ,zaN (by omega)]
theorem all_append {l l':List AV}(h:l.all AV.aJ=true)(h':l'.all AV.aJ=true):(l++l').all AV.aJ=true:=by rw [za1,h,h'];rfl
theorem Ql {l:List AV}(h:l.all AV.aJ=true)(n:Nat):(l.take n).all AV.aJ=true:=by
 rw [za0] at h ⊢;exact λx hx=> h x (zcD hx)
theorem Ij {l:List AV}(h:l.all AV.aJ=true)(n:Nat):(l.drop n).all AV.aJ=true:=by
 rw [za0] at h ⊢;exact λx hx=> h x (List.mem_of_mem_drop hx)
def Own(b:Nat)(H:ah)(x:AV)(m:Nat)(l:List AV):Prop:=
 (x=zN/\l=[])∨∃r g off n cap ex ty all,x=.sl r g off m n cap ex/\b<=r/\r < H.next/\n<=cap/\H.get r=.blk g ty all/\off+cap*m<=all.length/\all.all AV.aJ=true/\l=(all.drop off).take (n*m)
theorem Own.app {m n k:Nat}{x y:AV}{l new:List AV}(c:Own b H x m l)(hb:H.base<=b)(hm:0 < m)(hl:l.length=n*m)(hy:aA H y m k new)(hc:new.all AV.aJ=true){e:TypeId}{by_:Nat}(h1:n+k<=most)(h2:(n+k)*by_<=most):
  ∃x' H1,app e m by_ x y H=some (x',H1)/\Fit H H1 x x' m (l++new)/\H.next<=H1.next/\H1.base=H.base/\∀r,r < H.next->jO x≠some r->H1.get r=H.get r:=by
 obtain⟨c1,c2⟩:=hy.uQ;have c3:=hy.1;have key:Go.Proofs.YtgplhpgkompkmaaGreat.app e m by_ x y H=dD e m by_ x k new H:=by simp only [Go.Proofs.YtgplhpgkompkmaaGreat.app,c1,c2]
 rw [key];unfold dD;rw [if_pos ⟨c3,hc⟩];rcases c with⟨rfl,rfl⟩ | ⟨r,gg,off,n',cap,ex,ty,all,rfl,k2,k3,k4,k5,k6,k7,rfl⟩
 ·simp only [zak] at hl;have hn:n=0:=by rcases zcK.1 hl.symm with h | h <;> omega
  subst hn;rw [za4] at h1 h2;by_cases hk:k=0
  ·subst hk;rw [zbi] at c3;have:new=[]:=zan c3;subst this;exact⟨zN,H,by simp only [if_true],.inl ⟨rfl,rfl⟩,zac _,rfl,λ_ _ _=> rfl⟩
  ·refine⟨.sl H.next 0 0 m k k false,H.new (.blk 0 (e+gB) new),by simp only [hk,h1,h2,and_self,if_true,if_false],.inr ⟨H.next,0,0,k,k,false,e+gB,new,rfl,.inr (zac _),by rw [AP];omega,zac _,by simp [iw],by omega,hc,?_⟩,zbk _,rfl,λr hr _=> by rw [iw,if_neg (by omega)]⟩;rw [zaS,zaM,zau (by omega)]
 ·have hcm:n'*m<=cap*m:=zaz _ k4;rw [zav,zaQ,zbh (by omega)] at hl;have hn:n'=n:=zbQ hm hl;subst hn;simp only [k5];rw [if_pos ⟨trivial,trivial,by omega⟩];by_cases hk:k=0
  ·subst hk;rw [zbi] at c3;have:new=[]:=zan c3;subst this;exact⟨_,H,by rw [if_pos rfl],.inr ⟨r,gg,off,n',cap,ex,ty,all,rfl,.inl rfl,k3,k4,k5,k6,k7,by rw [za7]⟩,zac _,rfl,λ_ _ _=> rfl⟩
  ·rw [if_neg hk];by_cases hf:n'+k<=cap
   ·have hfm:(n'+k)*m<=cap*m:=zaz _ hf;rw [if_pos hf,if_pos ⟨by omega,by omega⟩];refine⟨_,_,rfl,.inr ⟨r,gg,off,n'+k,cap,ex,ty,aP all (off+n'*m) new,rfl,.inl rfl,k3,hf,by rw [eF,if_pos rfl],?_,KJ k7 hc _,?_⟩,zac _,rfl,λr' hr hne=> ?_⟩
    ·rw [zbB] at hfm;rw [vM (by omega)];exact k6
    ·rw [zbB] at hfm ⊢;rw [<-c3,Dj (by omega)]
    ·rw [eF,if_neg];intro e';subst e';exact hne rfl
   ·rw [if_neg hf,if_pos ⟨h1,h2⟩];have e1:((all.drop off).take (n'*m)).length=n'*m:=by rw [zav,zaQ];omega
    have e2:((all.drop off).take (n'*m)++new).length=(n'+k)*m:=by rw [zal,e1,c3,zbB]
    cases ex with
    | true=>
     simp only [if_true];refine⟨_,_,rfl,.inr ⟨H.next,0,0,n'+k,n'+k,false,e+gB,(all.drop off).take (n'*m)++new,rfl,.inr (zac _),by rw [AP];omega,zac _,by simp only [iw,if_true],by rw [e2,za4];exact zac _,all_append (Ql (Ij k7 _) _) hc,?_⟩,zbk _,rfl,λr' hr _=> by rw [iw,if_neg (by omega)]⟩;rw [zaM,zau (Nat.le_of_eq e2)]
    | false=>
     simp only [zaj,if_false];rw [if_pos (by omega)];refine⟨_,_,rfl,.inr ⟨r,gg+1,0,n'+k,n'+k,false,grT e ty off,(all.drop off).take (n'*m)++new,rfl,.inl rfl,k3,zac _,by simp only [eF,if_true],by rw [e2,za4];exact zac _,all_append (Ql (Ij k7 _) _) hc,?_⟩,zac _,rfl,λr' hr hne=> ?_⟩
     ·rw [zaM,zau (Nat.le_of_eq e2)]
     ·rw [eF,if_neg];intro e';subst e';exact hne rfl
theorem Cur.ai6 {i m:Nat}{x:AV}{l:List AV}(c:Cur b H q i x m l):Own b H x m l:=by
 rcases c.own with h | ⟨r,gg,off,n',cap,ex,ty,all,k0,k1,k2⟩
 ·exact .inl h
 ·exact .inr ⟨r,gg,off,n',cap,ex,ty,all,k0,k2⟩
theorem Cur.app {i m n k:Nat}{x y:AV}{l new:List AV}(c:Cur b H q i x m l)(hb:H.base<=b)(hm:0 < m)(hl:l.length=n*m)(hy:aA H y m k new)(hc:new.all AV.aJ=true){e:TypeId}{by_:Nat}(h1:n+k<=most)(h2:(n+k)*by_<=most):
  ∃x' H1,app e m by_ x y H=some (x',H1)/\Fit H H1 x x' m (l++new)/\H.next<=H1.next/\H1.base=H.base/\∀r,r < H.next->jO x≠some r->H1.get r=H.get r:=
 c.ai6.app hb hm hl hy hc h1 h2
theorem Own.step {m n k:Nat}{x y:AV}{l new:List AV}(c:Own b H x m l)(hbn:b<=H.next)(hb:H.base<=b)(hm:0 < m)(hl:l.length=n*m)(hy:aA H y m k new)(hc:new.all AV.aJ=true){e:TypeId}{by_:Nat}(h1:n+k<=most)(h2:(n+k)*by_<=most):
  ∃x' H1,Go.Proofs.YtgplhpgkompkmaaGreat.app e m by_ x y H=some (x',H1)/\Own b H1 x' m (l++new)/\Step b H H1:=by
 obtain⟨x',H1,e1,f,n1,b1,k1⟩:=c.app hb hm hl hy hc (e:=e) (by_:=by_) h1 h2;have hx:∀r,jO x=some r->b<=r:=λr hr=> by
  rcases c with⟨rfl,_⟩ | ⟨r',g,off,n',cap,ex,ty,all,rfl,k2,_⟩
  ·cases hr
  ·simp only [jO,zaa] at hr;omega
 refine⟨x',H1,e1,?_,b1,n1,λr hr=> k1 r (by omega) λe=> by have:=hx r e;omega⟩;rcases f with f | ⟨r,g,off,n',cap,ex,ty,all,rfl,f1,f2⟩
 ·exact .inl f
 ·exact .inr ⟨r,g,off,n',cap,ex,ty,all,rfl,f1.elim (hx r) λf1=> by omega,f2⟩
theorem Own.is {m n:Nat}{x:AV}{l:List AV}(c:Own b H x m l)(hm:0 < m)(hl:l.length=n*m):aA H x m n l:=by
 refine⟨hl,?_⟩;rcases c with⟨rfl,rfl⟩ | ⟨r,g,off,n',cap,ex,ty,all,rfl,k2,k3,k4,k5,k6,k7,rfl⟩
 ·refine⟨rfl,rfl,?_⟩;simp only [zak] at hl;rcases zcK.1 hl.symm with h | h <;> omega
 ·have hcm:n'*m<=cap*m:=zaz _ k4;rw [zav,zaQ,zbh (by omega)] at hl;have hn:n'=n:=zbQ hm hl;subst hn;exact⟨rfl,rfl,⟨k3,k4⟩,ty,all,k5,by omega,rfl⟩
theorem Own.ext {m:Nat}{x:AV}{l:List AV}(c:Own b H x m l)(hn:H.next<=H'.next)(hg:∀r,r < H.next->H'.get r=H.get r):Own b H' x m l:=by
 rcases c with h | ⟨r,g,off,n,cap,ex,ty,all,k0,k2,k3,k4,k5,k6⟩
 ·exact .inl h
 ·exact .inr ⟨r,g,off,n,cap,ex,ty,all,k0,k2,by omega,k4,by rw [hg r k3];exact k5,k6⟩
theorem Own.new {m:Nat}{x:AV}{l:List AV}(c:Own b H x m l)(o:eP):Own b (H.new o) x m l:=c.ext (zbk _) λr hr=> by rw [iw,if_neg (by omega)]
theorem Good.append(G:Good b H g)(hb:H.base<=b)(h:g q=some cs){i m n k:Nat}{l new:List AV}(hi:cs[i]?=some (.seq m l))(hm:0 < m)(hl:l.length=n*m){x y:AV}(c:Cur b H q i x m l)(hy:aA H y m k new)(hc:new.all AV.aJ=true){e:TypeId}{by_:Nat}(h1:n+k<=most)(h2:(n+k)*by_<=most):
  ∃x' H1 H2,app e m by_ x y H=some (x',H1)/\st 1 (.ref q 0 i) x' H1=some (aV,H2)/\Good b H2 (upd g q (cs.set i (.seq m (l++new))))/\Step b H H2:=by
 obtain⟨x',H1,e1,f,n1,b1,k1⟩:=c.app hb hm hl hy hc (e:=e) (by_:=by_) h1 h2;obtain⟨H2,e2,G2,b2,n2⟩:=G.seat h hi c n1 (by omega) k1 f;have hb0:=G.1;exact⟨x',H1,H2,e1,e2,G2,Step.trans ⟨b1,n1,λr hr=> k1 r (by omega) (c.low hr)⟩ b2⟩
theorem Good.map(G:Good b H g)(h:g q=some cs){i:Nat}{k:IntKind}{es:List (Int × AV)}(hi:cs[i]?=some (.map k es)):
  ∃r,ld (.ref q 0 i) H=some (.mp r,H)/\(∀z n ok,lk k z (.mp r) (.s (.int k n)) ok H=some ((match oz es n with
   | some v=> if ok then .tup [v,.s (.bool true)] else v
   | none=> if ok then .tup [.s z,.s (.bool false)] else .s z),H))/\lnM (.mp r) H=some (I es.length,H)/\(H.base<=b->
   (∀n v,∃H',mup k (.mp r) (.s (.int k n)) v H=some (aV,H')/\Good b H' (upd g q (cs.set i (.map k (ML es n v))))/\Step b H H'/\H'.next=H.next)/\
   (∀n,∃H',del k (.mp r) (.s (.int k n)) H=some (.tup [],H')/\Good b H' (upd g q (cs.set i (.map k (Ai es n))))/\Step b H H'/\H'.next=H.next)):=by
 obtain⟨h0,τ,hR⟩:=G;have R:=hR q cs h;obtain⟨ty,xs,h1,h2,h3,h4⟩:=R.blk;have hlt:i < xs.length:=by rw [h2];exact(zah.1 hi).1
 have hx:xs[i]?=some (xs[i]'hlt):=zab hlt;have:=h4 i _ _ hi hx;simp only [CR] at this;obtain⟨r,e,t1,t2,t3,t4⟩:=this;rw [e] at hx;have hrq:q≠r:=by intro e;subst e;rw [R.tag] at t1;cases t1
 have put:∀es',Good b (H.put r (.map k es')) (upd g q (cs.set i (.map k es'))):=by
  intro es';refine AQ (τ':=τ) h0 hR (zac _) (λr' hr ht=> ⟨rfl,?_⟩) ⟨R.tag,R.lo,R.hi,sJ (xs:=xs) (by rw [eF,if_neg hrq];exact h1) (R.tyl _ _ _ h1),ty,xs,by rw [eF,if_neg hrq];exact h1,by simp [h2],h3,λj c y hc hy=> ?_⟩
  ·rw [eF,if_neg];intro e;subst e;exact ht _ _ _ t1
  ·rcases nR hc with⟨rfl,rfl⟩ | ⟨hj,hc⟩
   ·rw [hx] at hy;cases hy;exact⟨r,rfl,t1,t2,t3,by rw [eF,if_pos rfl]⟩
   ·refine(h4 j c y hc hy).keep (zac _) λr' s t hr ht=> ⟨ht,?_⟩
    rw [eF,if_neg];intro e;subst e;rw [t1] at ht;simp only [zaa,zad,Nat.add_right_cancel_iff] at ht;exact hj ht.2.1.symm
 refine⟨r,by rw [dA h1,hx];rfl,λz n ok=> ?_,?_,λhb=> ⟨λn v=> ⟨H.put r (.map k (ML es n v)),?_,put _,Step.put _ t2,rfl⟩,λn=> ⟨H.put r (.map k (Ai es n)),?_,put _,Step.put _ t2,rfl⟩⟩⟩
 ·simp only [lk,jP,dO,zaf,lkO,t4,and_self,if_true];cases oz es n <;> rfl
 ·simp only [lnM,jP,dO,zaf,aiZ,t4]
 ·simp only [mup,t4];rw [if_pos ⟨trivial,trivial,by omega⟩]
 ·simp only [del,t4];rw [if_pos ⟨trivial,trivial,by omega⟩]
end
abbrev w64(n:Int):Int:=IntKind.wrap .i64 n
structure Cfg where
 au:Int
 aG:Int
 aH:Int
 sets:Int
 ways:Int
 out:Int
 inn:Int
 init:List Int
structure Pkt where
 aS:Int
 src:Int
 dst:Int
 id:Int
 aj:Int
 ptr:Int
 aW:Int
 flag:Bool
 data:List Int
 deriving DecidableEq
structure Opn where
 aS:Int
 addr:Int
 value:Int
 deriving DecidableEq
structure Evn where
 dG:Int
 index:Int
 done:Bool
 value:Int
 deriving DecidableEq
structure Ent where
 fwd:Int
 back:Int
 aj:Int
 used:Int
 bG:Bool
 data:List Int
 deriving DecidableEq
structure Row where
 aW:Int
 head:Int
 data:List Int
 deriving DecidableEq
structure dL where
 aS:Int
 aj:Int
 id:Int
 step:Int
 aW:Int
 head:Int
 data:List Int
 next:Int
 told:Int
 deriving DecidableEq
structure Pck where
 deliver:Bool
 at_:Int
 bit:Int
 mask:Int
def vsl {α:Type}(m:Nat)(enc:α->List AV)(l:List α):AV:=if l=[] then zN else .vs l.length m (l.flatMap enc)
def aiz(n:Int):List AV:=[I n]
def dat(l:List Int):AV:=vsl 1 aiz l
def Cfg.av(c:Cfg):List AV:=[I c.au,I c.aG,I c.aH,I c.sets,I c.ways,I c.out,I c.inn,dat c.init]
def Pkt.av(p:Pkt):List AV:=[I p.aS,I p.src,I p.dst,I p.id,I p.aj,I p.ptr,I p.aW,B p.flag,dat p.data]
def Opn.av(o:Opn):List AV:=[I o.aS,I o.addr,I o.value]
def Evn.av(e:Evn):List AV:=[I e.dG,I e.index,B e.done,I e.value]
def Ent.av(e:Ent):List AV:=[I e.fwd,I e.back,I e.aj,I e.used,B e.bG,dat e.data]
def Row.av(r:Row):List AV:=[I r.aW,I r.head,dat r.data]
def dL.av(d:dL):List AV:=[I d.aS,I d.aj,I d.id,I d.step,I d.aW,I d.head,dat d.data,I d.next,I d.told]
def Pck.av(p:Pck):List AV:=[B p.deliver,I p.at_,I p.bit,.s (.int .u16 p.mask)]
def Pkt.zero:Pkt:=⟨0,0,0,0,0,0,0,false,[]⟩
def Opn.zero:Opn:=⟨0,0,0⟩
def Ent.zero:Ent:=⟨0,0,0,0,false,[]⟩
def Row.zero:Row:=⟨0,0,[]⟩
def dL.zero:dL:=⟨0,0,0,0,0,0,[],0,0⟩
theorem dX {α:Type}{enc:α->List AV}{m:Nat}(he:∀a,(enc a).length=m)(l:List α):(l.flatMap enc).length=l.length*m:=NY he l
theorem Qm {α:Type}{enc:α->List AV}{m:Nat}(he:∀a,(enc a).length=m)(H:ah)(l:List α):aA H (vsl m enc l) m l.length (l.flatMap enc):=by
 unfold vsl;split
 ·rename_i h;subst h;exact aA.nil
 ·exact aA.vs (dX he l)
theorem jo {α:Type}{enc:α->List AV}{m:Nat}:vsl m enc ([]:List α)=zN:=by simp [vsl]
theorem Ik {α:Type}{enc:α->List AV}{m:Nat}{l:List α}(h:l≠[]):vsl m enc l=.vs l.length m (l.flatMap enc):=by simp [vsl,h]
theorem NZ {α:Type}{enc:α->List AV}{m:Nat}{l:List α}:One (vsl m enc l):=by
 unfold vsl;split
 ·exact vK
 ·exact aaz
theorem Il {l:List Int}:One (dat l):=NZ
theorem YJ(n:Int):(aiz n).length=1:=rfl
theorem KL(l:List Int):l.flatMap aiz=l.map I:=by
 induction l with
 | nil=> rfl
 | cons a l ih=> rw [zaV,ih];rfl
theorem gW(H:ah)(l:List Int):aA H (dat l) 1 l.length (l.map I):=by
 have:=Qm YJ H l;rw [KL] at this;exact this
theorem pX(p:Pkt):p.av.length=9:=rfl
theorem dR(p:Opn):p.av.length=3:=rfl
theorem uf(p:Evn):p.av.length=4:=rfl
theorem jG(p:Ent):p.av.length=6:=rfl
theorem yJ(p:Row):p.av.length=3:=rfl
theorem F5(p:Cfg):p.av.length=8:=rfl
theorem Dk(p:dL):p.av.length=9:=rfl
theorem F6(p:Pck):p.av.length=4:=rfl
theorem aaA(p:Cfg):p.av.take 8=p.av:=rfl
theorem Qn(p:Pkt):p.av.take 9=p.av:=rfl
theorem aaB(p:Opn):p.av.take 3=p.av:=rfl
theorem aaC(p:Evn):p.av.take 4=p.av:=rfl
theorem aaD(p:Ent):p.av.take 6=p.av:=rfl
theorem aaE(p:Row):p.av.take 3=p.av:=rfl
theorem Vk(p:dL):p.av.take 9=p.av:=rfl
theorem aaF(p:Pck):p.av.take 4=p.av:=rfl
theorem Dl {l:List Int}:(dat l).cells=[dat l]:=Il.1
theorem lU {l:List Int}:(dat l).aJ=true:=Il.2
theorem Dn {α:Type}{enc:α->List AV}{m:Nat}{l:List α}:(vsl m enc l).cells=[vsl m enc l]:=NZ.1
theorem F7 {α:Type}{enc:α->List AV}{m:Nat}{l:List α}:(vsl m enc l).aJ=true:=NZ.2
theorem dI(c:Cfg):c.av.all AV.aJ=true:=by simp [Cfg.av,iH,lU]
theorem oW(p:Pkt):p.av.all AV.aJ=true:=by simp [Pkt.av,iH,kN,lU]
theorem qR(p:Opn):p.av.all AV.aJ=true:=by simp [Opn.av,iH]
theorem N7(p:Evn):p.av.all AV.aJ=true:=by simp [Evn.av,iH,kN]
theorem Dq(p:Ent):p.av.all AV.aJ=true:=by simp [Ent.av,iH,kN,lU]
theorem Dt(p:Row):p.av.all AV.aJ=true:=by simp [Row.av,iH,lU]
theorem Io(p:dL):p.av.all AV.aJ=true:=by simp [dL.av,iH,lU]
theorem Vl(p:Pck):p.av.all AV.aJ=true:=by simp [Pck.av,iH,kN]
theorem AU {α:Type}{enc:α->List AV}(h:∀a,(enc a).all AV.aJ=true)(l:List α):(l.flatMap enc).all AV.aJ=true:=by
 rw [za0];intro x hx;obtain⟨a,_,ha⟩:=za8.1 hx;exact za0.1 (h a) x ha
theorem gQ {H:ah}{n d:Nat}:∀(l:List AV),(∀x∈l,bD H n d x=some x)->l.mapM (bD H n d)=some l
 | [],_=> rfl
 | x::l,h=> by
  rw [zbt,gQ l λy hy=> h y (by simp [hy]),h x (by simp)];rfl
theorem jH {H:ah}{n d:Nat}{v:Value}:bD H n (d+1) (.s v)=some (.s v):=by rw [bD]
theorem Vm {H:ah}{n d k m:Nat}{l:List AV}(h:∀x∈l,bD H n d x=some x):bD H n (d+1) (.vs k m l)=some (.vs k m l):=by
 rw [bD];simp only [gQ l h,zaf]
theorem SH {H:ah}{n d:Nat}{l:List AV}(h:∀x∈l,bD H n d x=some x):bD H n (d+1) (.agg l)=some (.agg l):=by
 rw [bD];simp only [gQ l h,zaf]
theorem SI {H:ah}{n d:Nat}{l:List AV}(h:∀x∈l,bD H n d x=some x):bD H n (d+1) (.tup l)=some (.tup l):=by
 rw [bD];simp only [gQ l h,zaf]
theorem jW {H:ah}{n d r g off esz len cap:Nat}{ex:Bool}{l:List AV}(hr:n<=r){cells:List AV}(hc:bI H (.sl r g off esz len cap ex)=some cells)(hl:cells.mapM (bD H n d)=some l):bD H n (d+1) (.sl r g off esz len cap ex)=some (.vs len esz l):=by
 rw [bD];simp only [if_neg (zdn.2 hr),hc,hl,zaf]
def Frz(d:Nat)(x:AV):Prop:=∀H n,bD H n d x=some x
theorem fP {v:Value}{d:Nat}:Frz (d+1) (.s v):=λ_ _=> jH
theorem aaG {d k m:Nat}{l:List AV}(h:∀x∈l,Frz d x):Frz (d+1) (.vs k m l):=λH n=> Vm λx hx=> h x hx H n
theorem vN {d:Nat}{l:List AV}(h:∀x∈l,Frz d x):Frz (d+1) (.agg l):=λH n=> SH λx hx=> h x hx H n
theorem Ip {d:Nat}{l:List AV}(h:∀x∈l,Frz d x):Frz (d+1) (.tup l):=λH n=> SI λx hx=> h x hx H n
theorem acU {α:Type}{enc:α->List AV}{m d:Nat}{l:List α}(h:∀a,∀x∈enc a,Frz (d+1) x):Frz (d+2) (vsl m enc l):=by
 unfold vsl;split
 ·exact fP
 ·refine aaG λx hx=> ?_;obtain⟨a,_,ha⟩:=za8.1 hx;exact h a x ha
theorem yK {l:List Int}{d:Nat}:Frz (d+2) (dat l):=acU λa x hx=> by
 simp only [aiz,zaI] at hx;subst hx;exact fP
section
variable {β:Type}{x:Option (AV × ah)}{H:ah}{k:AV->ah->Option β}
theorem afI:gdA (some (.s (.bool true))) true x H k=bnd x k:=rfl
theorem afJ:gdA (some (.s (.bool true))) false x H k=k aV H:=rfl
theorem afK:gdA (some (.s (.bool false))) true x H k=k aV H:=rfl
theorem afL:gdA (some (.s (.bool false))) false x H k=bnd x k:=rfl
theorem ak0 {a b:AV}:bQ (.s (.bool true)) a b=some a:=rfl
theorem ak1 {a b:AV}:bQ (.s (.bool false)) a b=some b:=rfl
end
theorem Vo {r g o:Nat}:aU (.ref r g o)=some (.ref r g o):=rfl
theorem aaH {l:List AV}:aU (.ip l)=some (.ip l):=rfl
theorem aaI {f:FuncId}{a c:List AV}:aU (.fn (.func f) a c)=some (.fn (.func f) a c):=rfl
theorem aaJ {l:List AV}{i:Nat}:aX (.tup l) i=l[i]?:=rfl
theorem aaK {l:List AV}{o:Nat}:fl (.agg l) o=l[o]?:=rfl
theorem aaL {r g off:Nat}{H:ah}:ld (.ref r g off) H=match H.get r with
  | .blk g' _ cells=> if g'=g then(cells[off]?).map λv=> (v,H) else none
  | .map ..=> none:=by
 simp only [ld,jP,dO,zaf,ldO];cases H.get r with
 | map k es=> rfl
 | blk g' ty cells=> simp only;split <;> rfl
theorem N8 {r g off n:Nat}{H:ah}:lda n (.ref r g off) H=match H.get r with
  | .blk g' _ cells=> if g'=g then(if off+n<=cells.length then some (.agg ((cells.drop off).take n),H) else none) else none
  | .map ..=> none:=by
 simp only [lda,jP,dO,zaf,aix];cases H.get r with
 | map k es=> rfl
 | blk g' ty cells=>
  simp only;split
  ·split <;> rfl
  ·rfl
theorem aO {t:TypeId}{l:List AV}{H:ah}(h:l.all AV.aJ=true)(ht:t < 1000000000):iC t (.agg l) H=some (.ref H.next 0 0,H.new (.blk 0 t l)):=U2 h ht
theorem aaM {t:TypeId}{z:List AV}{H:ah}:alc t z H=some (.ref H.next 0 0,H.new (.blk 0 t z)):=rfl
theorem aaN {k:IntKind}{H:ah}:mkm k H=some (.mp H.next,H.new (.map k [])):=rfl
theorem leS {a b:Nat}(h:a<=b):a<=b+1:=by omega
theorem ltS {a b:Nat}(h:a < b):a < b+1:=by omega
theorem fC {H:ah}{o:eP}:(H.new o).next=H.next+1:=Eq.trans rfl rfl
theorem ak2 {H:ah}{r:Nat}{o:eP}:(H.put r o).next=H.next:=Eq.trans rfl rfl
theorem oD {H:ah}{o:eP}:(H.new o).base=H.base:=Eq.trans rfl rfl
theorem ak3 {H:ah}{r:Nat}{o:eP}:(H.put r o).base=H.base:=Eq.trans rfl rfl
theorem yw {H:ah}:H.guard.next=H.next:=Eq.trans rfl rfl
theorem afM {H:ah}:H.guard.base=H.next:=Eq.trans rfl rfl
theorem X3 {H:ah}:H.guard.get=H.get:=Eq.trans rfl rfl
theorem pY {H:ah}{o:eP}:(H.new o).get H.next=o:=by rw [iw,if_pos rfl]
theorem aK {H:ah}{o:eP}{r:Nat}(h:r=H.next):(H.new o).get r=o:=by rw [iw,if_pos h]
theorem bg {H:ah}{o:eP}{r:Nat}(h:r < H.next):(H.new o).get r=H.get r:=by rw [iw,if_neg (by omega)]
theorem Vp {H:ah}{o:eP}{r:Nat}:(H.put r o).get r=o:=by rw [eF,if_pos rfl]
theorem Iq {n r off:Nat}{v:AV}{H:ah}:st n (.ref r 0 off) v H=match H.get r with
  | .blk g' ty cells=> if g'=0/\H.base<=r/\n=v.cells.length/\v.cells.all AV.aJ=true/\off+v.cells.length<=cells.length then some (aV,H.put r (.blk 0 ty (aP cells off v.cells))) else none
  | .map ..=> none:=by
 unfold st;simp only [zaa];cases H.get r <;> rfl
theorem aaO {H:ah}{r off:Nat}{ty:TypeId}{cells:List AV}(h:r=H.next):ld (.ref r 0 off) (H.new (.blk 0 ty cells))=(cells[off]?).map λv=> (v,H.new (.blk 0 ty cells)):=dA (aK h)
theorem Vq {H:ah}{r off n:Nat}{ty:TypeId}{cells:List AV}(h:r=H.next):lda n (.ref r 0 off) (H.new (.blk 0 ty cells))=if off+n<=cells.length then some (.agg ((cells.drop off).take n),H.new (.blk 0 ty cells)) else none:=by
 split
 ·rename_i hl;exact jw (aK h) hl
 ·rename_i hl;rw [N8,aK h];simp only [if_true,hl,if_false]
theorem zJ {H:ah}{r off:Nat}{o:eP}(h:r < H.next):ld (.ref r 0 off) (H.new o)=(ld (.ref r 0 off) H).map λp=> (p.1,H.new o):=by
 rw [aaL,aaL,bg h];cases H.get r with
 | map k es=> rfl
 | blk g ty cells=> simp only;split <;> first | rfl | (cases cells[off]? <;> rfl)
theorem Vr {H:ah}{r off n:Nat}{o:eP}(h:r < H.next):lda n (.ref r 0 off) (H.new o)=(lda n (.ref r 0 off) H).map λp=> (p.1,H.new o):=by
 rw [N8,N8,bg h];cases H.get r with
 | map k es=> rfl
 | blk g ty cells=> simp only;split <;> first | rfl | (split <;> rfl)
theorem Du {H:ah}{a b:eP}:(H.new a).put H.next b=H.new b:=by
 unfold ah.put ah.new;simp only
 congr 1
 funext x
 split <;> rfl
theorem afN {H:ah}{r:Nat}{a b:eP}(h:r < H.next):(H.new a).put r b=(H.put r b).new a:=by
 unfold ah.put ah.new;simp only
 congr 1
 funext x
 split <;> split <;> first | rfl | (exfalso;omega)
theorem qc {n:Nat}{H:ah}{r off:Nat}{v:AV}{ty:TypeId}{cells:List AV}(h:r=H.next):st n (.ref r 0 off) v (H.new (.blk 0 ty cells))=if H.base<=r/\n=v.cells.length/\v.cells.all AV.aJ=true/\off+v.cells.length<=cells.length then some (aV,H.new (.blk 0 ty (aP cells off v.cells))) else none:=by
 subst h;rw [Iq,aK rfl];simp only [true_and,oD,Du]
theorem KN {n:Nat}{H:ah}{r off:Nat}{v:AV}{o:eP}(h:r < H.next):st n (.ref r 0 off) v (H.new o)=(st n (.ref r 0 off) v H).map λp=> (p.1,p.2.new o):=by
 rw [Iq,Iq,bg h];cases H.get r with
 | map k es=> rfl
 | blk g ty cells=>
  simp only [oD];split
  ·simp only [zaf,afN h]
  ·rfl
theorem nS {pl:Nat->Option (Nat × Nat)}{z:List AV}:fV pl z []=some z:=rfl
theorem Dv {pl:Nat->Option (Nat × Nat)}{z:List AV}{i off:Nat}{v:AV}{ps:List (Nat × AV)}(hp:pl i=some (off,1))(hv:v.cells=[v])(hl:off < z.length):fV pl z ((i,v)::ps)=fV pl (z.set off v) ps:=by
 rw [fV];simp only [hp,hv,zam,zak];rw [if_pos ⟨trivial,by omega⟩,KI hl]
theorem vO {e m:Nat}{z:List AV}{H:ah}:bsl e m z 0 [] H=some (.sl H.next 0 0 m 0 0 true,H.new (.blk 0 e [])):=rfl
theorem nT {e m:Nat}{z:List AV}{v:AV}{H:ah}(hz:z.length=m)(hv:v.cells.length=m)(hc:v.cells.all AV.aJ=true):bsl e m z 1 [(0,v)] H=some (.sl H.next 0 0 m 1 1 true,H.new (.blk 0 e v.cells)):=by
 have h1:(dh z 1).length=m:=by simp [dh,hz]
 unfold bsl;rw [fV];simp only [zbi,hv,h1,za4,zac,and_self,if_true,fV];have:aP (dh z 1) 0 v.cells=v.cells:=by
  simp only [aP,zdc,zaS,za4];rw [zaJ (by omega),za7]
 rw [this,if_pos hc]
theorem mJ {e m n:Nat}{l:List AV}{H:ah}{ex:Bool}(h:l.length=n*m):aA (H.new (.blk 0 e l)) (.sl H.next 0 0 m n n ex) m n l:=
 ⟨h,rfl,rfl,⟨by rw [fC];omega,zac _⟩,e,l,by simp [iw],by omega,by rw [zaM,zau (by omega)]⟩
theorem qg {e m by_ r n ty:Nat}{y:AV}{cells:List AV}{H:ah}(hx:H.get r=.blk 0 ty [])(hy:aA H y m n cells)(hc:cells.all AV.aJ=true)(hn:n≠0)(h1:n<=most)(h2:n*by_<=most):
  app e m by_ (.sl r 0 0 m 0 0 true) y H=some (.sl H.next 0 0 m n n false,H.new (.blk 0 (e+gB) cells)):=by
 obtain⟨c1,c2⟩:=hy.uQ;simp only [app,c1,c2];unfold dD;rw [if_pos ⟨hy.1,hc⟩];simp only [hx];rw [if_pos ⟨trivial,trivial,by simp⟩,if_neg hn,if_neg (by omega),if_pos ⟨by omega,by rw [za4];exact h2⟩];simp
theorem N9 {e m by_ n:Nat}{y:AV}{cells:List AV}{H:ah}(hy:aA H y m n cells)(hc:cells.all AV.aJ=true)(hn:n≠0)(h1:n<=most)(h2:n*by_<=most):
  app e m by_ zN y H=some (.sl H.next 0 0 m n n false,H.new (.blk 0 (e+gB) cells)):=by
 obtain⟨c1,c2⟩:=hy.uQ;simp only [app,c1,c2];unfold dD;rw [if_pos ⟨hy.1,hc⟩];simp only;rw [if_neg hn,if_pos ⟨h1,h2⟩]
theorem qh {P:Program}{t e:TypeId}{n m:Nat}{l:List AV}(h:P.underlying t=some (.slice e)):nH P .eql t (.vs n m l) (.s (.slice none 0 0))=some (B false):=by
 simp [nH,AV.val?,JI,h]
theorem yL {P:Program}{t e:TypeId}{r g o m n c:Nat}{ex:Bool}(h:P.underlying t=some (.slice e)):nH P .eql t (.sl r g o m n c ex) (.s (.slice none 0 0))=some (B false):=by
 simp [nH,AV.val?,JI,h]
theorem sK {P:Program}{C:ak}{f:FuncId}{a c args:List AV}{H:ah}(h:nN P f=true):oQ P C (.fn (.func f) a c) args H=C f (a++args++c) H:=Yz h
theorem wrap_i64 {a:Int}(h1:-9223372036854775808<=a)(h2:a<=9223372036854775807):IntKind.wrap .i64 a=a:=aeX h1 h2
theorem xq_:(type_of% @aac)/\(type_of% @ae5)/\(type_of% @P7)/\(type_of% @Ve)/\(type_of% @FY)/\(type_of% @Dh)/\(type_of% @Ku)/\(type_of% @decide_true)/\
 (type_of% @decide_false)/\(type_of% @afI)/\(type_of% @afJ)/\(type_of% @afK)/\(type_of% @afL)/\(type_of% @Qb)/\
 (type_of% @Kw)/\(type_of% @P9)/\(type_of% @Option.map_some.{0,0})/\(type_of% @Option.bind_some.{0,0})/\(type_of% @sH)/\(type_of% @vH)/\
 (type_of% @Vo)/\(type_of% @aaH)/\(type_of% @aaI)/\(type_of% @aaJ)/\(type_of% @aaK)/\(type_of% @List.getElem?_cons_zero.{0})/\
 (type_of% @List.getElem?_cons_succ.{0})/\(type_of% @Nat.zero_add)/\(type_of% @Nat.add_zero)/\(type_of% @ak0)/\(type_of% @ak1)/\(type_of% @UW)/\
 (type_of% @UY)/\(type_of% @NH)/\(type_of% @HY)/\(type_of% @UZ)/\(type_of% @U0)/\(type_of% @Qa)/\
 (type_of% @beq_self_eq_true.{0})/\(type_of% @if_true.{1})/\(type_of% @Bool.false_eq_true)/\(type_of% @if_false.{1})/\(type_of% @List.nil_append.{0})/\(type_of% @List.cons_append.{0})/\
 (type_of% @List.append_nil.{0})/\(type_of% @aaM)/\(type_of% @aaN)/\(type_of% @fC)/\(type_of% @ak2)/\(type_of% @oD)/\
 (type_of% @ak3)/\(type_of% @yw)/\(type_of% @afM):=
 ⟨@aac,@ae5,@P7,@Ve,@FY,@Dh,@Ku,@decide_true,@decide_false,@afI,@afJ,@afK,@afL,@Qb,@Kw,@P9,@Option.map_some.{0,0},@Option.bind_some.{0,0},@sH,@vH,@Vo,@aaH,@aaI,@aaJ,@aaK,@List.getElem?_cons_zero.{0},@List.getElem?_cons_succ.{0},@Nat.zero_add,@Nat.add_zero,@ak0,@ak1,@UW,@UY,@NH,@HY,@UZ,@U0,@Qa,@beq_self_eq_true.{0},@if_true.{1},@Bool.false_eq_true,@if_false.{1},@List.nil_append.{0},@List.cons_append.{0},@List.append_nil.{0},@aaM,@aaN,@fC,@ak2,@oD,@ak3,@yw,@afM⟩
theorem hq_:(type_of% @aaO)/\(type_of% @zJ)/\(type_of% @Vq)/\(type_of% @Vr)/\(type_of% @qc)/\(type_of% @KN)/\
 (type_of% @Nat.lt_add_one)/\(type_of% @ne_eq.{1})/\(type_of% @nx1)/\(type_of% @nx2)/\(type_of% @nx3)/\(type_of% @ny1)/\
 (type_of% @ny2)/\(type_of% @ny3)/\(type_of% @not_false_eq_true)/\(type_of% @List.length_cons.{0})/\(type_of% @List.length_nil.{0})/\(type_of% @List.take_succ_cons.{0})/\
 (type_of% @List.take_zero.{0})/\(type_of% @List.drop_succ_cons.{0})/\(type_of% @List.drop_zero.{0})/\(type_of% @Dl)/\(type_of% @Ky)/\(type_of% @FP)/\
 (type_of% @eH)/\(type_of% @List.all_cons.{0})/\(type_of% @List.all_nil.{0})/\(type_of% @iH)/\(type_of% @kN)/\(type_of% @lU)/\
 (type_of% @FQ)/\(type_of% @FT)/\(type_of% @F7)/\(type_of% @Dn)/\(type_of% @F5)/\(type_of% @pX)/\
 (type_of% @dR)/\(type_of% @uf)/\(type_of% @jG)/\(type_of% @yJ)/\(type_of% @Dk)/\(type_of% @F6)/\
 (type_of% @aaA)/\(type_of% @Qn)/\(type_of% @aaB)/\(type_of% @aaC)/\(type_of% @aaD)/\(type_of% @aaE)/\
 (type_of% @Vk)/\(type_of% @aaF)/\(type_of% @dI)/\(type_of% @oW)/\(type_of% @qR)/\(type_of% @N7)/\
 (type_of% @Dq)/\(type_of% @Dt)/\(type_of% @Io)/\(type_of% @Vl)/\(type_of% @List.drop_nil.{0})/\(type_of% @Bool.and_true)/\
 (type_of% @Bool.and_self)/\(type_of% @and_self)/\(type_of% @Nat.le_refl)/\(type_of% @true_and)/\(type_of% @and_true)/\(type_of% @Nat.le_add_right)/\
 (type_of% @leS)/\(type_of% @ltS):=
 ⟨@aaO,@zJ,@Vq,@Vr,@qc,@KN,@Nat.lt_add_one,@ne_eq.{1},@nx1,@nx2,@nx3,@ny1,@ny2,@ny3,@not_false_eq_true,@List.length_cons.{0},@List.length_nil.{0},@List.take_succ_cons.{0},@List.take_zero.{0},@List.drop_succ_cons.{0},@List.drop_zero.{0},@Dl,@Ky,@FP,@eH,@List.all_cons.{0},@List.all_nil.{0},@iH,@kN,@lU,@FQ,@FT,@F7,@Dn,@F5,@pX,@dR,@uf,@jG,@yJ,@Dk,@F6,@aaA,@Qn,@aaB,@aaC,@aaD,@aaE,@Vk,@aaF,@dI,@oW,@qR,@N7,@Dq,@Dt,@Io,@Vl,@List.drop_nil.{0},@Bool.and_true,@Bool.and_self,@and_self,@Nat.le_refl,@true_and,@and_true,@Nat.le_add_right,@leS,@ltS⟩
def MO(g g':bJ):Prop:=∀q cs,g q=some cs->g' q=some cs
theorem MO.refl(g:bJ):MO g g:=λ_ _ h=> h
theorem MO.more {g g':bJ}(h:MO g g'){n:Nat}(hn:g n=none)(c:List Cell):MO g (upd g' n c):=λq cs hq=> by
 rw [bP (λe=> by rw [e,hn] at hq;cases hq)];exact h q cs hq
section
variable {b:Nat}{H H':ah}{g:bJ}{q:Nat}{cs:List Cell}
theorem Cur.length {i m n:Nat}{x:AV}{l:List AV}(c:Cur b H q i x m l)(hm:0 < m)(hl:l.length=n*m):(x=zN/\n=0)∨∃r g off cap ex ty all,x=.sl r g off m n cap ex/\r≠q/\b<=r/\r < H.next/\n<=cap/\H.get r=.blk g ty all/\off+cap*m<=all.length/\all.all AV.aJ=true/\l=(all.drop off).take (n*m):=by
 rcases c.own with⟨rfl,rfl⟩ | ⟨r,g,off,n',cap,ex,ty,all,rfl,k1,k2,k3,k4,k5,k6,k7,rfl⟩
 ·left;simp only [zak] at hl;refine⟨rfl,?_⟩;rcases zcK.1 hl.symm with h | h <;> omega
 ·right;have h1:n'*m<=cap*m:=zaz _ k4;rw [zav,zaQ,zbh (by omega)] at hl;have:n'=n:=zbQ hm hl;subst this;exact⟨r,g,off,cap,ex,ty,all,rfl,k1,k2,k3,k4,k5,k6,k7,rfl⟩
theorem Vs {r gg off m len cap:Nat}{ex:Bool}{k2:IntKind}{hi:Int}(h0:0<=hi)(h2:hi<=cap):slS m (.sl r gg off m len cap ex) none (some (.s (.int k2 hi))) none=some (.sl r gg off m hi.toNat cap ex):=by
 simp only [slS,iy,h0,if_true,isNone,zar,Bool.or_false];rw [if_pos ⟨trivial,by omega,by omega,by omega,by simp⟩];simp
theorem Qo {r gg off m len cap:Nat}{ex:Bool}{k1:IntKind}{lo:Int}(h0:0<=lo)(h1:lo<=len)(h2:len<=cap):slS m (.sl r gg off m len cap ex) (some (.s (.int k1 lo))) none none=some (.sl r gg (off+lo.toNat*m) m (len - lo.toNat) (cap - lo.toNat) ex):=by
 simp only [slS,iy,h0,if_true,isNone,zar,Bool.or_false];rw [if_pos ⟨trivial,by omega,by omega,by omega,by simp⟩]
theorem yM {z:List AV}(h:z.all AV.aJ=true):∀n,(dh z n).all AV.aJ=true
 | 0=> rfl
 | n+1=> by rw [dh,za1,h,yM h n];rfl
theorem Vt {e m by_:Nat}{z:List AV}{n:Int}{H:ah}(hz:z.length=m)(hc:z.all AV.aJ=true)(h0:0<=n)(h1:n<=1000000)(hb:by_<=1000):mks e m by_ z (I n) (I n) H=some (.sl H.next 0 0 m n.toNat n.toNat true,H.new (.blk 0 e (dh z n.toNat))):=by
 have h3:(by_:Int)*n<=140737488355328:=by
  have:(by_:Int)*n<=1000*1000000:=zbL (by omega) h1 h0 (by omega);omega
 simp only [mks];rw [if_pos ⟨hz,hc,h0,zbe _,by omega,h3⟩]
theorem jI {v:AV}:∀n,dh [v] n=List.replicate n v
 | 0=> rfl
 | n+1=> by rw [dh,jI n];rfl
theorem aA.from_ {x:AV}{m n:Nat}{cells:List AV}(h:aA H x m n cells){k:IntKind}{lo:Int}(h0:0<=lo)(h1:lo<=n):∃y,slS m x (some (.s (.int k lo))) none none=some y/\aA H y m (n - lo.toNat) (cells.drop (lo.toNat*m)):=by
 obtain⟨hl,h⟩:=h;have hlm:lo.toNat*m<=n*m:=zaz _ (by omega);have hsub:(n - lo.toNat)*m=n*m - lo.toNat*m:=Nat.sub_mul n lo.toNat m;cases x with
 | sl r g off esz len cap ex=>
  obtain⟨rfl,rfl,⟨hr,hc⟩,ty,all,h2,h3,h4⟩:=h;refine⟨_,Qo h0 h1 hc,by rw [zaQ,hl,hsub],rfl,rfl,⟨hr,by omega⟩,ty,all,h2,by rw [hsub];omega,?_⟩;rw [h4,zcO,zbS,hsub]
 | vs k' esz cs=>
  obtain⟨rfl,rfl,rfl⟩:=h;refine⟨.vs (k' - lo.toNat) esz ((cs.drop (lo.toNat*esz)).take ((k' - lo.toNat)*esz)),?_,by rw [zaQ,hl,hsub],rfl,rfl,?_⟩
  ·simp only [slS,iy,h0,if_true];rw [if_pos ⟨trivial,by omega,by omega⟩]
  ·rw [zau (by rw [zaQ,hl,hsub];exact zac _)]
 | s v=>
  cases v with
  | slice a b c=>
   cases a with
   | none=>
    obtain⟨rfl,rfl,rfl⟩:=h;have h3:lo=0:=by omega
    subst h3;refine⟨zN,by simp [slS,iy],?_,rfl,rfl,rfl⟩
    simpa using hl
   | some a=> exact h.elim
  | _=> exact h.elim
 | _=> exact h.elim
theorem afO {r g off m len cap ty n:Nat}{ex:Bool}{cells new:List AV}{y:AV}(hx:H.get r=.blk g ty cells)(hb:H.base<=r)(hl:off+len*m<=cells.length)(hy:aA H y m n new)(hc:new.all AV.aJ=true):
  ∃H',cpy m (.sl r g off m len cap ex) y H=some (I ((min n len:Nat):Int),H')/\H'.get r=.blk g ty (aP cells off (new.take (min n len*m)))/\(∀r',r'≠r->H'.get r'=H.get r')/\H'.next=H.next/\H'.base=H.base:=by
 obtain⟨c1,c2⟩:=hy.uQ;have c3:=hy.1;have s1:jC (AV.sl r g off m len cap ex)=some len:=rfl;simp only [cpy,s1,c1,c2];rw [if_pos ⟨c3,hc⟩];by_cases hk:min n len=0
 ·refine⟨H,by rw [if_pos hk,hk];rfl,?_,λ_ _=> rfl,rfl,rfl⟩;rw [hx,hk,zbi,zdc];simp only [aP,zaS,zak,zbU,List.take_append_drop]
 ·rw [if_neg hk];simp only [hx];rw [if_pos ⟨trivial,trivial,hb,hl⟩];exact⟨_,rfl,by rw [eF,if_pos rfl],λr' hr=> by rw [eF,if_neg hr],rfl,rfl⟩
end
def jq {α:Type}:List (Int × α)->Int->Option α
 | [],_=> none
 | (k,v)::l,n=> if k=n then some v else jq l n
def qA {α:Type}:List (Int × α)->Int->α->List (Int × α)
 | [],n,x=> [(n,x)]
 | (k,v)::l,n,x=> if k=n then(n,x)::l else(k,v)::qA l n x
def yN {α:Type}:List (Int × α)->Int->List (Int × α)
 | [],_=> []
 | (k,v)::l,n=> if k=n then l else(k,v)::yN l n
section
variable {α:Type}(f:α->AV)
def aaP(l:List (Int × α)):List (Int × AV):=l.map λe=> (e.1,f e.2)
theorem Ir:∀(l:List (Int × α)) (n:Int),oz (aaP f l) n=(jq l n).map f
 | [],_=> rfl
 | (k,v)::l,n=> by
  simp only [aaP,zaA,oz,jq];by_cases h:k=n
  ·simp [h]
  ·simp only [h,if_false];exact Ir l n
theorem Vu:∀(l:List (Int × α)) (n:Int) (x:α),ML (aaP f l) n (f x)=aaP f (qA l n x)
 | [],_,_=> rfl
 | (k,v)::l,n,x=> by
  simp only [aaP,zaA,ML,qA];by_cases h:k=n
  ·simp [h]
  ·simp only [h,if_false,zaA,zcJ,true_and];exact Vu l n x
end
abbrev jf(n most:Int):Bool:=decide (1<=n) && decide (n<=most)
def Cfg.ok(c:Cfg):Bool:=
 jf c.au 6 && jf c.aG 8 && jf c.aH 4 && jf c.sets 4 && jf c.ways 3 && jf c.out 8 && jf c.inn 8 && decide ((c.init.length:Int)<=c.aG*c.aH)
def sO(aj by_:Int):Int:=if aj < 0 then -1 else aj % by_
def Cfg.aQ(c:Cfg)(aj:Int):Int:=sO aj c.au
def Cfg.fK(c:Cfg):Int:=c.aG*c.aH
def Cfg.bn(c:Cfg)(a:Int):Int:=if a < 0∨c.fK<=a then -1 else a / c.aH
def Cfg.bM(c:Cfg)(a:Int):Int:=if a < 0∨c.fK<=a then 0 else a % c.aH
def Cfg.first(c:Cfg)(aj:Int):List Int:=
 if aj < 0∨c.aG<=aj then [] else(List.range c.aH.toNat).map λi=> c.init.getD ((aj*c.aH).toNat+i) 0
def Cfg.right(c:Cfg)(o:Opn):Bool:=decide (1<=o.aS) && decide (o.aS<=4) && decide (c.bn o.addr≠-1) && (decide (o.value=0) || decide (o.aS=2) || decide (o.aS=3))
def Cfg.oZ(c:Cfg)(ps:List (List Opn)):Bool:=(ps.all λl=> decide (l.length<=24) && l.all c.right) && decide ((ps.length:Int)=c.au)
def wQ(k:Int):Bool:=decide (1<=k) && decide (k<=6)
def Qp(k:Int):Int:=if k=1 then 7 else if k=2∨k=4∨k=5 then 8 else if k=3∨k=6 then 9 else 0
def Pkt.ok(p:Pkt):Bool:=
 decide (0<=p.src) && decide (p.src < 6) && decide (0<=p.dst) && decide (p.dst < 6) && decide (0<=p.id) && decide (p.id < 4096) && decide (1<=p.aS) && decide (p.aS < 10) && decide (0<=p.aj) && decide (p.aj < 8) &&
 decide (-1<=p.ptr) && decide (p.ptr < 6) && decide (0<=p.aW) && decide (p.aW < 3) && decide (p.data.length<=4)
structure Cache where
 l:List Ent
 sets:Int
 ways:Int
 dH:Int
def Cache.at_(c:Cache)(aj:Int):Option Nat:=c.l.findIdx? λe=> decide (e.aj=aj)
def Cache.oM(c:Cache)(aj:Int):List Ent:=c.l.filter λe=> decide (0<=aj) && decide (e.aj.tmod c.sets=aj.tmod c.sets)
def Cache.find(c:Cache)(aj:Int):Option Ent:=c.l.find? λe=> decide (e.aj=aj)
def Cache.full(c:Cache)(aj:Int):Bool:=(c.find aj).isNone && decide (c.ways<=(c.oM aj).length)
def Cache.put(c:Cache)(e:Ent):Cache × Int:=
 if e.aj < 0 then(c,1) else
 match c.at_ e.aj with
 | some i=> ({ c with l:=c.l.set i { e with used:=(c.l.getD i .zero).used } },0)
 | none=> if c.full e.aj then(c,5) else({ c with l:=c.l++[{ e with used:=c.dH+1 }],dH:=c.dH+1 },0)
def Cache.drop(c:Cache)(aj:Int):Cache:=
 match c.at_ aj with
 | some i=> { c with l:=c.l.eraseIdx i }
 | none=> c
def Cache.touch(c:Cache)(aj:Int):Cache:=
 match c.at_ aj with
 | some i=> { c with l:=c.l.set i { c.l.getD i .zero with used:=c.dH+1 },dH:=c.dH+1 }
 | none=> c
def mW:List Ent->Option Ent
 | []=> none
 | e::l=> some (l.foldl (λm x=> if x.used < m.used then x else m) e)
def Cache.wR(c:Cache)(aj:Int):Option Int:=(mW (c.oM aj)).map (·.aj)
structure Turns where
 gX:List (Int × Int)
 wait:List (Int × List (Int × Int))
def Turns.owner(t:Turns)(aj:Int):Int:=(jq t.gX aj).getD (-1)
def Turns.owned(t:Turns)(aj:Int):Bool:=(jq t.gX aj).isSome
def Turns.ws(t:Turns)(aj:Int):List (Int × Int):=(jq t.wait aj).getD []
def Turns.ask(t:Turns)(aj who id:Int):Turns × Bool:=
 if who < 0 then(t,false) else
 if t.owned aj || !(t.ws aj).isEmpty then({ t with wait:=qA t.wait aj (t.ws aj++[(who,id)]) },false)
 else({ t with gX:=qA t.gX aj who },true)
def Turns.release(t:Turns)(aj who:Int):Turns × Int:=
 if jq t.gX aj=some who then({ t with gX:=yN t.gX aj },0) else(t,6)
def Turns.next(t:Turns)(aj:Int):Turns × Option (Int × Int):=
 if t.owned aj then(t,none) else
 match t.ws aj with
 | []=> (t,none)
 | w::ws=> ({ gX:=qA t.gX aj w.1,wait:=qA t.wait aj ws },some w)
def Turns.ready(t:Turns)(keys:List Int):List Int:=keys.filter λaj=> !t.owned aj && !(t.ws aj).isEmpty
abbrev Rows:=List (Int × Row)
def rG(c:Cfg)(dF:Rows)(aj aW head:Int)(data:List Int):Rows × Int:=
 match jq dF aj with
 | none=> (dF,3)
 | some r=>
  if aW < 0∨2 < aW∨head < -1∨c.au<=head then(dF,1)
  else if(decide (head=-1) !=decide (aW=0)) || (decide (data≠[]) && decide ((data.length:Int)≠c.aH)) then(dF,1)
  else(qA dF aj ⟨aW,head,if data=[] then r.data else data⟩,0)
structure Home where
 dF:Rows
 aT:Turns
def jg(dF:Rows)(aj:Int):Row:=(jq dF aj).getD .zero
def granted(dF:Rows)(dG aj who id:Int):Pkt:=⟨7,dG,who,id,aj,(jg dF aj).head,(jg dF aj).aW,false,(jg dF aj).data⟩
def Home.unlock(c:Cfg)(h:Home)(p:Pkt):Home × Int:=
 if h.aT.owner p.aj≠p.src then(h,6) else
 let r:=rG c h.dF p.aj p.aW p.ptr (if p.flag then p.data else [])
 if r.2=0 then(⟨r.1,(h.aT.release p.aj p.src).1⟩,(h.aT.release p.aj p.src).2) else(h,r.2)
def Home.handle(c:Cfg)(dG:Int)(h:Home)(p:Pkt):Home × Pkt × Bool × Int:=
 if !(p.ok && decide (p.dst=dG) && decide (p.src < c.au)) || (decide (p.aS≠1) && decide (p.aS≠2)) then(h,.zero,false,1)
 else if c.aQ p.aj≠dG∨c.aG<=p.aj then(h,.zero,false,3)
 else if p.aS=1 then
  let a:=h.aT.ask p.aj p.src p.id
  if a.2=true then({ h with aT:=a.1 },granted h.dF dG p.aj p.src p.id,true,0) else({ h with aT:=a.1 },.zero,false,0)
 else
  let u:=h.unlock c p
  if u.2=0 then(u.1,⟨8,dG,p.src,p.id,p.aj,0,0,false,[]⟩,true,0) else(u.1,.zero,false,u.2)
def qj(c:Cache)(p:Pkt):Cache × Pkt × Int:=
 if !p.ok || decide (p.aS < 3) || decide (6 < p.aS) then(c,.zero,1) else
 match c.find p.aj with
 | none=> (c,.zero,2+1)
 | some e=>
  let out:Pkt:=⟨Qp p.aS,p.dst,p.src,p.id,p.aj,0,0,false,[]⟩
  if p.aS=3 then let r:=c.put { e with bG:=false,back:=p.ptr };(r.1,{ out with data:=e.data,flag:=e.bG },r.2)
  else if p.aS=4 then let r:=c.put { e with fwd:=p.ptr };(r.1,out,r.2)
  else if p.aS=5 then let r:=c.put { e with back:=p.ptr };(r.1,out,r.2)
  else(c.drop p.aj,{ out with data:=e.data,flag:=e.bG,ptr:=e.fwd },0)
def dL.begin(aS aj id:Int):dL:=⟨aS,aj,id,1,0,-1,[],-1,-1⟩
def KO(step:Int):Int:=if step=1 then 1 else if step=2 then 3 else if step=3 then 6 else if step=4 then 4 else if step=5 then 5 else if step=6 then 2 else 0
def dL.ask(d:dL)(dG home:Int):Pkt:=
 if d.step=1 then⟨1,dG,home,d.id,d.aj,0,0,false,[]⟩
 else if d.step=2 then⟨3,dG,d.head,d.id,d.aj,dG,0,false,[]⟩
 else if d.step=3 then⟨6,dG,d.next,d.id,d.aj,0,0,false,[]⟩
 else if d.step=4 then⟨4,dG,d.head,d.id,d.aj,d.next,0,false,[]⟩
 else if d.step=5 then⟨5,dG,d.next,d.id,d.aj,d.head,0,false,[]⟩
 else if d.step=6 then⟨2,dG,home,d.id,d.aj,d.head,d.aW,decide (d.data≠[]),d.data⟩
 else .zero
def dL.fits(d:dL)(p:Pkt):Bool:=
 decide (Qp (KO d.step)≠0) && decide (p.aS=Qp (KO d.step)) && decide (p.id=d.id) && decide (p.aj=d.aj)
abbrev Nxt:=Cache × dL × Bool
def vP(c:Cache):Nxt:=(c,.zero,false)
def iI(d:dL)(dG:Int)(c:Cache)(p:Pkt):Nxt:=
 if d.aS≠1∨d.fits p=false then vP c
 else if d.step=1 then
  if p.aW≠0 then(c,{ d with aW:=p.aW,head:=p.ptr,told:=p.ptr,data:=p.data,step:=2 },true)
  else((c.put ⟨-1,-1,d.aj,0,false,p.data⟩).1,{ d with told:=p.ptr,step:=6,aW:=1,head:=dG,data:=[] },true)
 else if d.step=2 then
  ((c.put ⟨d.head,-1,d.aj,0,false,p.data⟩).1,{ d with step:=6,aW:=1,head:=dG,data:=if p.flag then p.data else [] },true)
 else if d.step=6 then(c,{ d with step:=0 },true)
 else vP c
def fZ(d:dL)(dG:Int)(c:Cache):Cache × dL:=
 let d:dL:=match c.find d.aj with
  | some own=> if d.next=dG then { d with next:=own.fwd } else d
  | none=> d
 if d.next≠-1 then(c,{ d with step:=3 })
 else((c.put ⟨-1,-1,d.aj,0,true,d.data⟩).1,{ d with step:=6,aW:=2,head:=dG,data:=[] })
def jy(d:dL)(dG:Int)(c:Cache)(p:Pkt):Nxt:=
 if d.aS≠2∨d.fits p=false then vP c
 else if d.step=1 then
  let r:=fZ { d with aW:=p.aW,head:=p.ptr,told:=p.ptr,data:=(match c.find d.aj with | some own=> own.data | none=> p.data),next:=p.ptr } dG c
  (r.1,r.2,true)
 else if d.step=3 then
  let r:=fZ { d with data:=(match c.find d.aj with | some _=> d.data | none=> p.data),next:=p.ptr } dG c
  (r.1,r.2,true)
 else if d.step=6 then(c,{ d with step:=0 },true)
 else vP c
def pq(d:dL)(c:Cache)(head:Int):Nxt:=(c.drop d.aj,{ d with step:=6,aW:=1,head:=head,data:=[] },true)
def kE(d:dL)(c:Cache)(p:Pkt):Nxt:=
 if d.aS≠3∨d.fits p=false then vP c
 else if d.step=1 then
  let d:dL:={ d with aW:=p.aW,head:=p.ptr,told:=p.ptr,data:=[],step:=6 }
  match c.find d.aj with
  | none=> (c,d,true)
  | some e=>
   if e.back=-1/\e.fwd=-1 then(c.drop d.aj,{ d with aW:=0,head:=-1,data:=if e.bG then e.data else [] },true)
   else if e.back=-1 then(c,{ d with head:=-1,next:=e.fwd,step:=5 },true)
   else(c,{ d with head:=e.back,next:=e.fwd,step:=4 },true)
 else if d.step=4 then
  if d.next=-1 then pq d c d.told else(c,{ d with step:=5 },true)
 else if d.step=5 then
  if d.head=-1 then pq d c d.next else pq d c d.told
 else if d.step=6 then(c,{ d with step:=0 },true)
 else vP c
structure Proc where
 ops:List Opn
 bf:List Int
 eG:Bool
def Proc.cur(p:Proc):Option Opn:=p.ops[p.bf.length]?
def Proc.left(p:Proc):Int:=(p.ops.length:Int) - p.bf.length
structure Port where
 rq:List Pkt
 rin:List Pkt
 an:List Pkt
 ain:List Pkt
def Port.sort(p:Port)(req:Bool):List Pkt:=if req then p.rq else p.an
def Port.YK(p:Port)(req:Bool):List Pkt:=if req then p.rin else p.ain
def Port.lF(p:Port)(req:Bool)(l:List Pkt):Port:=if req then { p with rq:=l } else { p with an:=l }
def Port.yO(p:Port)(req:Bool)(l:List Pkt):Port:=if req then { p with rin:=l } else { p with ain:=l }
def Port.zero:Port:=⟨[],[],[],[]⟩
structure Fab where
 out:Int
 inn:Int
 l:List Port
def Fab.is(f:Fab)(dG:Int):Bool:=decide (0<=dG) && decide (dG < f.l.length)
def Fab.port(f:Fab)(dG:Int):Port:=f.l.getD dG.toNat .zero
def Fab.room(f:Fab)(req:Bool):Int:=if req then f.inn else 1
def Fab.put(f:Fab)(dG:Int)(p:Port):Fab:={ f with l:=f.l.set dG.toNat p }
def Fab.send(f:Fab)(p:Pkt):Fab × Int:=
 if !p.ok || !f.is p.src || !f.is p.dst then(f,1) else
 if(f.out:Int)<=((f.port p.src).sort (wQ p.aS)).length then(f,5)
 else(f.put p.src ((f.port p.src).lF (wQ p.aS) ((f.port p.src).sort (wQ p.aS)++[p])),0)
def Fab.all(f:Fab):List Pkt:=f.l.flatMap λp=> p.rq++p.an
def Fab.under(f:Fab):Nat:=f.all.length
def aaQ:List Port->Nat->Nat->Option (Nat × Bool × Nat)
 | [],_,_=> none
 | p::l,i,k=> if k < p.rq.length then some (i,true,k) else if k < p.rq.length+p.an.length then some (i,false,k - p.rq.length) else aaQ l (i+1) (k - (p.rq.length+p.an.length))
def Fab.take(f:Fab)(dG:Int)(req:Bool):Fab × Option Pkt:=
 if f.is dG then
  match(f.port dG).YK req with
  | []=> (f,none)
  | p::l=> (f.put dG ((f.port dG).yO req l),some p)
 else(f,none)
def Fab.waiting(f:Fab)(dG:Int)(req:Bool):Nat:=if f.is dG then((f.port dG).YK req).length else 0
def Fab.roomOf(f:Fab)(dG:Int)(req:Bool):Int:=if f.is dG then f.out - ((f.port dG).sort req).length else 0
open Go.ChangeShapes Go.WideShapes Go.ChangeAt Go.RowKit
abbrev ρ0:Ren:=λ_=> none
abbrev G0:Nat->Nat:=λ_=> 0
theorem Vw {w:World}(hg:XY ρ0 w):Rel ρ0 ah.empty w:=⟨λr _=> ⟨rfl,rfl⟩,λr b sh h=> (by cases h),λr r' b sh sh' h=> (by cases h),hg⟩
theorem Vx {P:Program}{L:Pol}(hL:SA P L)(hm:P.follows .mixedOrders=true){k:FuncId}{xs:List AV}{b:Bool}{H':ah}(h:callω P L k xs ah.empty=some (.s (.bool b),H')){W:World}{args:Array Value}(hg:XY ρ0 W)(ha:RVs ρ0 G0 W xs args.toList):
  Calls P k args W λe W'=> e=.returned (.bool b)/\Below W.heap.size W W':=by
 refine((callω_ok hL hm).1 k xs _ _ H' h ρ0 W args (Vw hg) ha).mono λe w' he=> ?_;obtain⟨cv,ρ',rfl,_,r2,r3⟩:=he;simp only [RV] at r2;subst r2;exact⟨rfl,r3.os,r3.tape,r3.output,r3.size,λk hk=> r3.frame k hk λr sh h=> (by cases h)⟩
section
variable {H:Type}{enc:TypeId × Value->H}{P:Program}
theorem wS(hl:laidOutB P=true){W W':World}(hb:Below W.heap.size W W'):∀{ts:List TypeId} {vs:List Value} {ds:List (DataW H)} {ps:List MemPlace},ts.all (λt=> P.readableRec t && decide (t < P.types.size))=true->
  DataW.TrodAll enc P W 0 (λ_=> true) true ts vs ds ps->(∀x∈ps,x.block < W.heap.size)->DataW.TrodAll enc P W' 0 (λb=> decide (b < W.heap.size)) true ts vs ds ps
 | [],vs,ds,ps,_,h,_=> by
  obtain⟨rfl,rfl,rfl⟩:=trodAll_nil h;exact trodAll_mk0
 | t::ts,vs,ds,ps,ht,h,hlt=> by
  simp only [zbR,zae,decide_eq_true_eq] at ht;obtain⟨v,vs',d,ds',p,q,rfl,rfl,rfl,h1,h2⟩:=trodAll_cons h;exact⟨p,q,Below.trod hl ht.1.1 ht.1.2 h1 hb λx hx=> hlt x (by simp [hx]),wS hl hb (by simpa using ht.2) h2 λx hx=> hlt x (by simp [hx]),rfl⟩
theorem Vy {f:Func}{s:ChangeSpec}{W W':World}{args:Array Value}{ds gs:List (DataW H)}{before:List MemPlace}{tb:TypeId}(hl:laidOutB P=true)
  (hp:f.params.toList.all (λt=> P.readableRec t && decide (t < P.types.size))=true) (hr:f.resultTypes=#[tb]) (hb:P.underlying tb=some .bool)
  (hW:DataW.Whole enc P f.params.toList s.vars false W args.toList ds gs before) (hv:s.vars=[])
  (h1:(s.fn H ds).results=[.lit (.bool true)]) (h2:(s.fn H ds).args=ds) (h3:(s.fn H ds).vars=[]) (B:Below W.heap.size W W'):
  s.post enc P f false true false false W args (.bool true) W':=by
 have hlt:∀x∈before,x.block < W.heap.size:=λx hx=> hW.lt x hx;have hW':=hW;obtain⟨p,q,hA,hV,rfl,_,_⟩:=hW;rw [hv] at hV;obtain⟨rfl,rfl⟩:=trodVars_none hV;rw [za7] at hlt;refine⟨ds,[],p++[],[],p,[],hW',?_,?_,?_,B.frame _,λh=> by cases h⟩
 ·rw [za7,h1,hr];exact trodAll_mk1 (shut_bool hb true)
 ·rw [za7,h2];exact wS hl B hp hA hlt
 ·rw [za7,h3,hv];exact rfl
theorem wU {W:World}{k:IntKind}{n:Int}:RV ρ0 G0 W (.s (.int k n)) (.int k n):=by simp [RV]
theorem wV {W:World}{x:AV}{v:Value}{xs:List AV}{vs:List Value}(h:RV ρ0 G0 W x v)(h':RVs ρ0 G0 W xs vs):RVs ρ0 G0 W (x::xs) (v::vs):=by
 simp only [RVs];exact⟨v,vs,rfl,h,h'⟩
theorem ak4 {W:World}:RVs ρ0 G0 W [] []:=by simp only [RVs]
def ints(ks:List IntKind)(zs:List Int):List AV:=List.zipWith (λk z=> .s (.int k z)) ks zs
def Vz(ks:List IntKind)(zs:List Int):List Value:=List.zipWith (λk z=> .int k z) ks zs
def afP(P:Program)(e:TypeId)(ks:List IntKind):Prop:=
 ∀{H:Type} {enc:TypeId × Value->H} {W:World} {base:Nat} {sp:Nat->Bool} {held:Bool} {n:Nat} {cs:List Value} {y:DataW H × List MemPlace},DataW.trod enc P W base sp held n e cs=some y->
  ∃zs:List Int,zs.length=ks.length/\cs=Vz ks zs/\∀(i:Nat) (k:IntKind) (z:Int),ks[i]?=some k->zs[i]?=some z->(Lit.int k z).wf=true
theorem YL {e:TypeId}{k:IntKind}(he:P.underlying e=some (.int k)):afP P e [k]:=by
 intro H enc W base sp held n cs y h;obtain⟨z,rfl,rfl,hw⟩:=DataW.trod_int he h;refine⟨[z],rfl,rfl,λi k' z' h1 h2=> ?_⟩;cases i with
 | zero=> simp at h1 h2;subst h1;subst h2;exact hw
 | succ i=> simp at h1
theorem vS {ks:List IntKind}{zs:List Int}(h:zs.length=ks.length):(ints ks zs).length=ks.length:=by
 simp [ints,h]
theorem Qq {W:World}:∀(ks:List IntKind) (zs:List Int),RVs ρ0 G0 W (ints ks zs) (Vz ks zs)
 | [],zs=> by simp [ints,Vz,RVs]
 | k::ks,[]=> by simp [ints,Vz,RVs]
 | k::ks,z::zs=> by
  simp only [ints,Vz,List.zipWith_cons_cons,RVs];exact⟨_,_,rfl,wU,Qq ks zs⟩
structure VA(ks:List IntKind)(av:AV)(l:List (List Int)):Prop where
 is:aA ah.empty av ks.length l.length (l.flatMap (ints ks))
 len:∀zs∈l,zs.length=ks.length
 wf:∀zs∈l,∀(i:Nat) (k:IntKind) (z:Int),ks[i]?=some k->zs[i]?=some z->(Lit.int k z).wf=true
theorem vT {ks:List IntKind}:∀{l:List (List Int)},(∀zs∈l,zs.length=ks.length)->(l.flatMap (ints ks)).length=l.length*ks.length
 | [],_=> by simp
 | zs::l,h=> by
  rw [zaV,zal,vS (h zs (by simp)),vT λz hz=> h z (by simp [hz]),zam,zbA];omega
theorem VB {t e:TypeId}{ks:List IntKind}(ht:P.underlying t=some (.slice e))(hc:P.cellsOf e=ks.length)(hF:afP P e ks){W:World}{r:Reach}{b0 base:Nat}{sp:Nat->Bool}{held:Bool}{v:Value}{fuel:Nat}{y:DataW H × List MemPlace}
  (hval:Cell.okWide P W r b0 t v) (h:DataW.trod enc P W base sp held fuel t [v]=some y):∃(av:AV) (l:List (List Int)),RV ρ0 G0 W av v/\VA ks av l/\av.aJ=true:=by
 rcases DataW.trod_slice ht h with⟨h0,_⟩ | ⟨a,len,cap,elems,rest,n,_,hv,_,hb,hl,hm,hlen,hel,_,_⟩
 ·have h0:v=.slice none 0 0:=by simpa using h0
  subst h0;exact⟨.s (.slice none 0 0),[],by simp [RV],⟨⟨by simp,rfl,rfl,rfl⟩,by simp,by simp⟩,rfl⟩
 ·have hv:v=.slice (some a) len cap:=by simpa using hv
  subst hv;simp only [Cell.okWide,ht,Cell.ok] at hval;obtain⟨_,_,_,hspot,row,cells,hsh,_⟩:=hval;obtain⟨b,o,spot⟩:=a;simp only at hspot;subst hspot;have hrow:∀i,∃zs:List Int,i < len->zs.length=ks.length/\(∀(j:Nat) (k:IntKind) (z:Int),ks[j]?=some k->zs[j]?=some z->(Lit.int k z).wf=true)/\RVc ρ0 G0 W (ints ks zs) b (o+i*ks.length):=by
   intro i;by_cases hi:i < len
   ·have:=hel i hi;rw [zab (by omega)] at this;obtain⟨cs,hcs,htr⟩:=Option.bind_eq_some_iff.1 this;obtain⟨zs,z1,z2,z3⟩:=hF htr;refine⟨zs,λ_=> ⟨z1,z3,nK λj x hx=> ?_⟩⟩;obtain⟨_,c1,c2⟩:=World.cells?_some hcs;have hj:j < ks.length:=by
     have:=(zah.1 hx).1
     rwa [vS z1] at this
    have hc2:=c2 j (by rw [hc];exact hj);obtain⟨u,hu,hrv⟩:=iQ (Qq (W:=W) ks zs) hx;refine⟨u,?_,hrv⟩;rw [z2,hu] at hc2;rw [<-hc2,hc]
    congr 1
    unfold Addr.add;by_cases h1:i*ks.length=0
    ·rw [if_pos h1,h1];by_cases h2:j=0
     ·rw [if_pos h2,h2];rfl
     ·rw [if_neg h2];rfl
    ·rw [if_neg h1];by_cases h2:j=0
     ·rw [if_pos h2,h2];rfl
     ·rw [if_neg h2]
   ·exact⟨[],λh=> absurd h hi⟩
  obtain⟨f,hf⟩:=Classical.axiomOfChoice hrow;have hl1:∀zs∈(List.range len).map f,zs.length=ks.length:=by
   intro zs hz;obtain⟨i,hi,rfl⟩:=zaD.1 hz;exact(hf i (zaY.1 hi)).1
  have hcells:∀m s,s+m<=len->RVc ρ0 G0 W (((List.range' s m).map f).flatMap (ints ks)) b (o+s*ks.length):=by
   intro m
   induction m with
   | zero=> intro s _;simp [RVc]
   | succ m ih=>
    intro s hs;rw [zcF,zaA,zaV];refine RH (hf s (by omega)).2.2 ?_;rw [vS (hf s (by omega)).1];have:=ih (s+1) (by omega)
    rwa [zbA,<-zb1] at this
  refine⟨.vs len ks.length (((List.range len).map f).flatMap (ints ks)),(List.range len).map f,?_,⟨?_,hl1,λzs hz=> ?_⟩,rfl⟩
  ·simp only [RV];refine⟨b,o,cap,rfl,hl,?_,Cb hsh,λr sh h=> (by cases h),?_⟩
   ·rw [vT hl1];simp
   ·have:=hcells len 0 (by omega);rw [zcg]
    simpa using this
  ·have:=aA.vs (H:=ah.empty) (m:=ks.length) (n:=len) (cs:=((List.range len).map f).flatMap (ints ks)) (by rw [vT hl1];simp)
   simpa using this
  ·obtain⟨i,hi,rfl⟩:=zaD.1 hz;exact(hf i (zaY.1 hi)).2.1
theorem Oa {t:TypeId}{fs:Array Field}{ts:List TypeId}(ht:P.underlying t=some (.struct fs))(hts:P.cellTypes P.depth t=some ts)(hfs:fs.toList.map (λ(f:Field)=> (f.type,f.offset))=ts.zipIdx)
  (hc:∀u∈ts,P.cellsOf u=1) (hct:P.cellsOf t=ts.length) {W:World} {r:Reach} {b0 base:Nat} {sp:Nat->Bool} {held:Bool} {v:Value} {d:DataW H} {ps:List MemPlace}
  (hval:Value.okWide P W r b0 t v) (h:DataW.Trod enc P W base sp held t v d ps):
  ∃cs:Array Value,v=.agg cs/\cs.size=ts.length/\∀(i:Nat) (u:TypeId),ts[i]?=some u->∃(c:Value) (n:Nat) (y:DataW H × List MemPlace),cs[i]?=some c/\Cell.okWide P W r b0 u c/\DataW.trod enc P W base sp held n u [c]=some y:=by
 unfold Value.okWide at hval;rw [ht] at hval;obtain⟨cs,rfl,hsz,ts',ak5,_,hrow⟩:=hval;rw [hts] at ak5;cases ak5;obtain⟨fuel,hf⟩:=h;obtain⟨xs,n,_,_,hl,hx,hr⟩:=DataW.trod_struct ht hf;have hfl:fs.size=ts.length:=by
  have:=congrArg List.length hfs
  simpa using this
 have hget:∀(i:Nat) (u:TypeId),ts[i]?=some u->∃f:Field,fs[i]?=some f/\f.type=u/\f.offset=i:=by
  intro i u hu;have hi:i < ts.length:=(zah.1 hu).1;have hfi:fs[i]?=some (fs[i]'(by omega)):=zbF _;have h1:(fs.toList.map (λ(f:Field)=> (f.type,f.offset)))[i]?=some ((fs[i]'(by omega)).type,(fs[i]'(by omega)).offset):=by
   rw [zas];simp [hfi]
  rw [hfs,List.getElem?_zipIdx,hu] at h1;simp at h1;exact⟨_,hfi,h1.1.symm,h1.2.symm⟩
 have each:∀(i:Nat) (u:TypeId),ts[i]?=some u->∃c y,cs[i]?=some c/\DataW.trod enc P W base sp held n u [c]=some y:=by
  intro i u hu;obtain⟨f,h1,h2,h3⟩:=hget i u hu;have hi:i < ts.length:=(zah.1 hu).1;have:=hr i f h1;rw [h2,h3,hc u (zat hu),zab (show i < xs.length by omega)] at this;have hlt0:i < cs.size:=by rw [hsz,hct];exact hi
  cases hci:cs[i]? with
  | none=> rw [zbF hlt0] at hci;cases hci
  | some c=>
   have hlt:i < cs.size:=by
    rcases zaP i cs.size with h5 | h5
    ·exact h5
    ·rw [zcx h5] at hci;cases hci
   have h5:(((Value.agg cs).cells.toList.drop i).take 1)=[c]:=by
    have hcl:cs.toList[i]?=some c:=by simpa using hci
    show(cs.toList.drop i).take 1=[c]
    rw [zaU (by simpa using hlt)];rw [zab (by simpa using hlt)] at hcl;simp at hcl;simp [hcl]
   rw [h5] at this;exact⟨c,_,rfl,this⟩
 refine⟨cs,rfl,?_,λi u hu=> ?_⟩
 ·rw [hsz,hct]
 ·obtain⟨c,y,h1,h2⟩:=each i u hu;obtain⟨u',h3,h4⟩:=hrow i c h1;have hi:i < ts.length:=(zah.1 hu).1;rw [zcj hi,hu] at h3;cases h3;exact⟨c,n,y,h1,h4,h2⟩
structure Dw(k:IntKind)(av:AV)(zs:List Int):Prop where
 is:aA ah.empty av 1 zs.length (zs.map λz=> .s (.int k z))
 wf:∀z∈zs,(Lit.int k z).wf=true
 cell:av.aJ=true
theorem KP {k:IntKind}:∀(l:List (List Int)),(∀zs∈l,zs.length=1)->l.flatMap (ints [k])=(l.map (λzs=> zs.headD 0)).map λz=> .s (.int k z)
 | [],_=> rfl
 | zs::l,h=> by
  have h1:=h zs (by simp);rw [zaV,KP l λz hz=> h z (by simp [hz])];cases zs with
  | nil=> simp at h1
  | cons z zs=>
   cases zs with
   | nil=> rfl
   | cons _ _=> simp at h1
theorem VA.ints {k:IntKind}{av:AV}{l:List (List Int)}(h:VA [k] av l)(hc:av.aJ=true):Dw k av (l.map λzs=> zs.headD 0):=by
 refine⟨?_,λz hz=> ?_,hc⟩
 ·have:=h.is;rw [KP l h.len] at this
  simpa using this
 ·obtain⟨zs,hzs,rfl⟩:=zaD.1 hz;have h1:=h.len zs hzs;cases zs with
  | nil=> simp at h1
  | cons z zs=> exact h.wf _ hzs 0 k z rfl rfl
structure jA where
 au:Int
 aG:Int
 aH:Int
 sets:Int
 ways:Int
 out:Int
 inn:Int
 init:AV
 who:AV
 kinds:AV
 fK:AV
 bf:AV
def jA.cells(s:jA):List AV:=
 [.s (.int .i64 s.au),.s (.int .i64 s.aG),.s (.int .i64 s.aH),.s (.int .i64 s.sets),.s (.int .i64 s.ways),.s (.int .i64 s.out),.s (.int .i64 s.inn),s.init,s.who,s.kinds,s.fK,s.bf]
abbrev Iu(z:Int):Prop:=-9223372036854775808<=z/\z<=9223372036854775807
theorem aiA {z:Int}(h:(Lit.int .i64 z).wf=true):Iu z:=by
 simp [Lit.wf,IntKind.min,IntKind.max,IntKind.signed,IntKind.bits] at h;exact⟨by omega,by omega⟩
structure jA.Ok(s:jA)(zi zw zk za zv:List Int):Prop where
 au:Iu s.au
 aG:Iu s.aG
 aH:Iu s.aH
 sets:Iu s.sets
 ways:Iu s.ways
 out:Iu s.out
 inn:Iu s.inn
 init:Dw .i64 s.init zi
 who:Dw .i64 s.who zw
 kinds:Dw .i64 s.kinds zk
 fK:Dw .i64 s.fK za
 bf:Dw .i64 s.bf zv
theorem SK {t ti sl e:TypeId}{fs:Array Field}(ht:P.underlying t=some (.struct fs))(hts:P.cellTypes P.depth t=some [ti,ti,ti,ti,ti,ti,ti,sl,sl,sl,sl,sl])
  (hfs:fs.toList.map (λ(f:Field)=> (f.type,f.offset))=[ti,ti,ti,ti,ti,ti,ti,sl,sl,sl,sl,sl].zipIdx) (hct:P.cellsOf t=12) (hti:P.underlying ti=some (.int .i64)) (hci:P.cellsOf ti=1)
  (hsl:P.underlying sl=some (.slice e)) (hcs:P.cellsOf sl=1) (hee:P.underlying e=some (.int .i64)) (hce:P.cellsOf e=1)
  {W:World} {r:Reach} {b0 base:Nat} {sp:Nat->Bool} {held:Bool} {v:Value} {d:DataW H} {ps:List MemPlace} (hval:Value.okWide P W r b0 t v) (h:DataW.Trod enc P W base sp held t v d ps):
  ∃(s:jA) (zi zw zk za zv:List Int),RV ρ0 G0 W (.agg s.cells) v/\s.Ok zi zw zk za zv:=by
 obtain⟨cs,rfl,hsz,each⟩:=Oa ht hts hfs (λu hu=> by
  simp only [zai,zaK,or_false] at hu;rcases hu with rfl | rfl | rfl | rfl | rfl | rfl | rfl | rfl | rfl | rfl | rfl | rfl <;> assumption) hct hval h
 have num:∀i:Nat,[ti,ti,ti,ti,ti,ti,ti,sl,sl,sl,sl,sl][i]?=some ti->∃z,cs[i]?=some (.int .i64 z)/\Iu z:=by
  intro i hi;obtain⟨c,n,y,h1,_,h3⟩:=each i ti hi;obtain⟨z,hz,_,hw⟩:=DataW.trod_int hti h3;simp at hz;subst hz;exact⟨z,h1,aiA hw⟩
 have row:∀i:Nat,[ti,ti,ti,ti,ti,ti,ti,sl,sl,sl,sl,sl][i]?=some sl->∃c av zs,cs[i]?=some c/\RV ρ0 G0 W av c/\Dw .i64 av zs:=by
  intro i hi;obtain⟨c,n,y,h1,h2,h3⟩:=each i sl hi;obtain⟨av,l,r1,r2,r3⟩:=VB hsl (ks:=[.i64]) hce (YL hee) h2 h3;exact⟨c,av,_,h1,r1,r2.ints r3⟩
 obtain⟨z0,a0,w0⟩:=num 0 rfl;obtain⟨z1,a1,w1⟩:=num 1 rfl;obtain⟨z2,a2,w2⟩:=num 2 rfl;obtain⟨z3,a3,w3⟩:=num 3 rfl;obtain⟨z4,a4,w4⟩:=num 4 rfl;obtain⟨z5,a5,w5⟩:=num 5 rfl;obtain⟨z6,a6,w6⟩:=num 6 rfl;obtain⟨c7,v7,l7,a7,r7,o7⟩:=row 7 rfl;obtain⟨c8,v8,l8,a8,r8,o8⟩:=row 8 rfl;obtain⟨c9,v9,l9,a9,r9,o9⟩:=row 9 rfl;obtain⟨c10,v10,l10,a10,r10,o10⟩:=row 10 rfl;obtain⟨c11,v11,l11,a11,r11,o11⟩:=row 11 rfl;have hcs:cs.toList=[.int .i64 z0,.int .i64 z1,.int .i64 z2,.int .i64 z3,.int .i64 z4,.int .i64 z5,.int .i64 z6,c7,c8,c9,c10,c11]:=by
  apply zbD
  intro i;rcases zaP i 12 with hi | hi
  ·have:i=0∨i=1∨i=2∨i=3∨i=4∨i=5∨i=6∨i=7∨i=8∨i=9∨i=10∨i=11:=by omega
   rcases this with rfl | rfl | rfl | rfl | rfl | rfl | rfl | rfl | rfl | rfl | rfl | rfl <;> simp [a0,a1,a2,a3,a4,a5,a6,a7,a8,a9,a10,a11]
  ·have h1:cs.toList.length=12:=by simpa using hsz
   rw [zaN (by omega),zaN (by simpa using hi)]
 refine⟨⟨z0,z1,z2,z3,z4,z5,z6,v7,v8,v9,v10,v11⟩,l7,l8,l9,l10,l11,?_,⟨w0,w1,w2,w3,w4,w5,w6,o7,o8,o9,o10,o11⟩⟩;simp only [RV,jA.cells];refine⟨cs,rfl,?_⟩;rw [hcs];exact wV wU (wV wU (wV wU (wV wU (wV wU (wV wU (wV wU (wV r7 (wV r8 (wV r9 (wV r10 (wV r11 ak4)))))))))))
end
open Go.RowKit
variable {P:Program}{ρ:Ren}{H:ah}{w w':World}
theorem F8 {f:FuncId}{p:List AV->ah->Option (AV × ah)}
  (h:∀args H v H',p args H=some (v,H')->∀(ρ:Ren) (w:World) (jR:Array Value),Rel ρ H w->RVs ρ H.gen w args jR.toList->
   Calls P f jR w λe w'=>∃cv ρ',e=.returned cv/\Rel ρ' H' w'/\RV ρ' H'.gen w' v cv/\Ext ρ H w ρ' H' w'):oC P (λg args H=> if g=f then p args H else none):=by
 intro g args H v H' he ρ w jR R ha;simp only at he;split at he
 ·rename_i e;subst e;exact h args H v H' he ρ w jR R ha
 ·cases he
theorem wW(R:Rel ρ H w)(B:Below w.heap.size w w'):Rel ρ H w'/\Ext ρ H w ρ H w':=by
 have E:Ext ρ H w ρ H w':=⟨zac _,λ_=> zac _,λ_ _ h _=> h,λ_ _ h=> h,λ_ _ sh h=> .inr ⟨sh,h⟩,B.size,λb hb _=> B.block b hb,λb hb=> by rw [dP,dP,B.block b hb],B.os,B.tape,B.output⟩
 exact⟨⟨R.out,λr b sh h=> uZ.mono E.toMono (B.block b (R.block h)) (R.obj r b sh h),R.inj,R.gl.ext E⟩,E⟩
theorem KQ(R:Rel ρ H w){b:Nat}(hb:w.heap.size<=b):Imm ρ b:=λr sh h=> by
 have:=R.block h;omega
theorem Ob {G:Nat->Nat}{x:AV}{jR:Array Value}(h:RVs ρ G w [x] jR.toList):∃c,jR=#[c]/\RV ρ G w x c:=by
 obtain⟨cx,l,e,h1,h2⟩:=(by simpa only [RVs] using h)
 subst h2;exact⟨cx,zb5.1 (by simpa using e),h1⟩
def acV:AV:=.s (.slice none 0 0)
def acW(ks:List Int):AV:=if ks=[] then acV else .vs ks.length 1 ((ks.mergeSort λx y=> decide (x<=y)).map λn=> .s (.int .i64 n))
def yP(kf vf:List Nat)(args:List AV)(H:ah):Option (AV × ah):=
 match args with
 | [.fn (.func f) [] [.ref r g 0]]=>
  match H.get r with
  | .blk g' ty [.mp m]=> match H.get m with
   | .map .i64 es=> if g'=g/\ty < gB/\f≠0/\f∈kf/\(es.map (·.1)).Nodup/\(es.all λe=> (Lit.int .i64 e.1).wf)=true/\es.length<=1000000 then some (acW (es.map (·.1)),H) else none
   | _=> none
  | .blk g' ty [.s (.slice none 0 0)]=> if g'=g/\ty < gB/\f≠0/\f∈vf then some (acV,H) else none
  | _=> none
 | _=> none
structure Node where
 aC:Cache
 bW:Proc
 home:Home
 aF:dL
 num:Int
structure bH where
 c:Cfg
 au:List Node
 fab:Fab
 trace:List Evn
def Cfg.iO(c:Cfg)(me:Int):Nat->Rows
 | 0=> []
 | n+1=> if c.aQ n=me then qA (c.iO me n) n ⟨0,-1,c.first n⟩ else c.iO me n
def Home.new(c:Cfg)(me:Int):Home:=⟨c.iO me c.aG.toNat,⟨[],[]⟩⟩
def Node.new(c:Cfg)(me:Int)(l:List Opn):Node:=⟨⟨[],c.sets,c.ways,0⟩,⟨l,[],false⟩,.new c me,.zero,0⟩
def Fab.new(c:Cfg):Fab:=⟨c.out,c.inn,List.replicate c.au.toNat .zero⟩
def bH.new(c:Cfg)(ps:List (List Opn)):bH:=⟨c,ps.mapIdx λi l=> .new c i l,.new c,[]⟩
structure fM where
 owner:List (Int × Int)
 wait:List (Int × Int × Int)
structure fF where
 dF:List Row
 aT:fM
structure iU where
 aC:Cache
 homes:fF
 ops:List Opn
 eG:Bool
 bf:List Int
 has:Bool
 aF:dL
 num:Int
structure jJ where
 c:Cfg
 fab:List Port
 au:List iU
 ev:List Evn
def fF.new(c:Cfg):fF:=⟨(List.range c.aG.toNat).map λ(i:Nat)=> (⟨0,-1,c.first (i:Int)⟩:Row),⟨[],[]⟩⟩
def iU.new(c:Cfg)(l:List Opn):iU:=⟨⟨[],c.sets,c.ways,0⟩,.new c,l,false,[],false,.zero,0⟩
def jJ.new(c:Cfg)(ps:List (List Opn)):jJ:=⟨c,List.replicate c.au.toNat .zero,ps.map (.new c),[]⟩
inductive vU {α:Type} (R:α->List AV->Prop):List α->List AV->Prop
 | nil:vU R [] []
 | cons {a:α} {l:List α} {cs cells:List AV}:R a cs->vU R l cells->vU R (a::l) (cs++cells)
section
variable {α:Type}{R:α->List AV->Prop}{l:List α}{cells:List AV}
theorem vU.length {m:Nat}(hm:∀a cs,R a cs->cs.length=m)(h:vU R l cells):cells.length=l.length*m:=by
 induction h with
 | nil=> simp
 | cons h1 _ ih=> rw [zal,hm _ _ h1,ih,zam,zbA,Nat.add_comm]
theorem vU.all(hm:∀a cs,R a cs->cs.all AV.aJ=true)(h:vU R l cells):cells.all AV.aJ=true:=by
 induction h with
 | nil=> rfl
 | cons h1 _ ih=> rw [za1,hm _ _ h1,ih];rfl
theorem vU.append {l':List α}{cells':List AV}(h:vU R l cells)(h':vU R l' cells'):vU R (l++l') (cells++cells'):=by
 induction h with
 | nil=> exact h'
 | cons h1 _ ih=> rw [zbf,zbl];exact .cons h1 ih
theorem vU.one {a:α}{cs:List AV}(h:R a cs):vU R [a] cs:=by
 have:=vU.cons h (vU.nil (R:=R))
 rwa [za7] at this
theorem vU.mono {R':α->List AV->Prop}(hr:∀a cs,a∈l->R a cs->R' a cs)(h:vU R l cells):vU R' l cells:=by
 induction h with
 | nil=> exact .nil
 | cons h1 _ ih=> exact .cons (hr _ _ (by simp) h1) (ih λa cs ha=> hr a cs (by simp [ha]))
theorem vU.get {m:Nat}(hm:∀a cs,R a cs->cs.length=m)(h:vU R l cells):∀{i:Nat} {a:α},l[i]?=some a->R a ((cells.drop (i*m)).take m):=by
 induction h with
 | nil=> intro i a hi;simp at hi
 | cons h1 _ ih=>
  intro i a hi;have hl:=hm _ _ h1;cases i with
  | zero=>
   simp only [za2,zaa] at hi;subst hi;rw [zbi,zaM,zb2 (by omega),zau (by omega)];exact h1
  | succ i=>
   rw [zbA,List.drop_append,zaJ (by omega),zaS,hl,Nat.add_sub_cancel];exact ih (by simpa using hi)
theorem vU.plain {enc:α->List AV}:∀l:List α,vU (λa cs=> cs=enc a) l (l.flatMap enc)
 | []=> .nil
 | a::l=> .cons rfl (vU.plain l)
theorem vU.of {enc:α->List AV}(hr:∀a,a∈l->R a (enc a)):vU R l (l.flatMap enc):=
 (vU.plain (enc:=enc) l).mono λa cs ha (h:cs=enc a)=> by rw [h];exact hr a ha
end
def Pkt.avx(p:Pkt)(x:AV):List AV:=[I p.aS,I p.src,I p.dst,I p.id,I p.aj,I p.ptr,I p.aW,B p.flag,x]
def Ent.avx(e:Ent)(x:AV):List AV:=[I e.fwd,I e.back,I e.aj,I e.used,B e.bG,x]
def Row.avx(r:Row)(x:AV):List AV:=[I r.aW,I r.head,x]
def dL.avx(d:dL)(x:AV):List AV:=[I d.aS,I d.aj,I d.id,I d.step,I d.aW,I d.head,x,I d.next,I d.told]
def ql(g:bJ)(x:AV)(l:List Int):Prop:=x=dat l∨∃q ex,l≠[]/\x=.sl q 0 0 1 l.length l.length ex/\g q=some (l.map λn=> .av (I n))
def SL(cs:List Cell):Prop:=∃c∈cs,∀n,c≠.av (I n)
section
variable {b:Nat}{H:ah}{g g':bJ}{x:AV}{l:List Int}
theorem ql.dat:ql g (dat l) l:=.inl rfl
theorem ql.one(h:ql g x l):One x:=by
 rcases h with rfl | ⟨q,ex,_,rfl,_⟩
 ·exact Il
 ·exact pW
theorem ql.sub(h:ql g x l)(hg:∀q cs,g q=some cs->¬SL cs->g' q=some cs):ql g' x l:=by
 rcases h with rfl | ⟨q,ex,h0,rfl,h⟩
 ·exact .inl rfl
 ·refine .inr ⟨q,ex,h0,rfl,hg _ _ h λ⟨c,hc,hn⟩=> ?_⟩;obtain⟨n,_,rfl⟩:=zaD.1 hc;exact hn n rfl
theorem ql.upd {q:Nat}{cs cs':List Cell}(h:ql g x l)(hq:g q=some cs)(hn:SL cs):ql (upd g q cs') x l:=
 h.sub λq' ds h1 h2=> by
  rw [bP];exact h1;intro e;subst e;rw [hq] at h1;cases h1;exact h2 hn
theorem ql.nil(h:ql g x l)(h0:l=[]):x=zN:=by
 rcases h with rfl | ⟨q,ex,h1,_⟩
 ·rw [h0,Proofs.YtgplhpgkompkmaaGreat.dat,jo]
 ·exact absurd h0 h1
theorem ql.is(G:Good b H g)(h:ql g x l):aA H x 1 l.length (l.map I):=by
 rcases h with rfl | ⟨q,ex,_,rfl,h⟩
 ·exact gW H l
 ·obtain⟨_,τ,hR⟩:=G;have R:=hR q _ h;obtain⟨ty,xs,h1,h2,h3,h4⟩:=R.blk;have:xs=l.map I:=by
   apply zbD
   intro i;rcases zaP i l.length with hi | hi
   ·have hx:xs[i]?=some (xs[i]'(by simp at h2;omega)):=zab _;have:=h4 i (.av (I l[i])) _ (by simp [hi]) hx;simp only [CR] at this;rw [hx,this];simp [hi]
   ·rw [zaN (by simp at h2;omega),zaN (by simp;omega)]
  subst this;exact⟨by simp,rfl,rfl,⟨R.hi,zac _⟩,ty,_,h1,by simp,by simp [zau]⟩
end
def alp(g:bJ)(p:Pkt)(cs:List AV):Prop:=∃x,ql g x p.data/\cs=p.avx x
def alq(g:bJ)(e:Ent)(cs:List AV):Prop:=∃x,ql g x e.data/\cs=e.avx x
def ai7(g:bJ)(r:Row)(cs:List AV):Prop:=∃x,ql g x r.data/\cs=r.avx x
def ai8(g:bJ)(d:dL)(cs:List AV):Prop:=∃x,ql g x d.data/\cs=d.avx x
theorem acX {g:bJ}(p:Row):ai7 g p p.av:=⟨_,.dat,rfl⟩
def yQ(c:Cache)(cells:List AV):List Cell:=[.av (I c.sets),.av (I c.ways),.av (I c.dH),.seq 6 cells]
def mX(c:Cfg)(me:Int)(dF:List AV)(t:fM):List Cell:=c.av.map .av++[.av (I me),.seq 3 dF,.seq 2 (t.owner.flatMap λe=> [I e.1,I e.2]),.seq 3 (t.wait.flatMap λe=> [I e.1,I e.2.1,I e.2.2])]
def zK(a:Nat->Nat)(c:Cfg)(me:Int)(n:iU)(d:List AV):List Cell:=
 c.av.map .av++[.av (I me),.av (.ref (a 1) 0 0),.av (.ref (a 2) 0 0),.seq 3 (n.ops.flatMap Opn.av),.av (B n.eG),.seq 1 (n.bf.map I),.av (B n.has)]++d.map .av++[.av (I n.num)]
def SN(c:Cfg)(ls:List (List AV)):List Cell:=c.av.map .av++[.aax 4 9 ls]
def nU(f:Nat)(N:Nat->Nat->Nat)(c:Cfg)(n:Nat)(ev:List Evn):List Cell:=c.av.map .av++[.av (.ref f 0 0),.seq 1 ((List.range n).map λi=> .ref (N i 0) 0 0),.seq 4 (ev.flatMap Evn.av)]
structure lV(g:bJ)(a:Nat->Nat)(c:Cfg)(me:Int)(n:iU):Prop where
 dG:∃d,ai8 g n.aF d/\g (a 0)=some (zK a c me n d)
 aC:∃cells,vU (alq g) n.aC.l cells/\g (a 1)=some (yQ n.aC cells)
 homes:∃dF,vU (ai7 g) n.homes.dF dF/\g (a 2)=some (mX c me dF n.homes.aT)
def ai9(N:Nat->Nat->Nat)(n:Nat):Prop:=∀i j s t,i < n->j < n->s < 3->t < 3->N i s=N j t->i=j/\s=t
def aaR(p:Port):List (List Pkt):=[p.rq,p.an,p.rin,p.ain]
structure Dx(g:bJ)(q f:Nat)(N:Nat->Nat->Nat)(m:jJ):Prop where
 iV:g q=some (nU f N m.c m.au.length m.ev)
 fab:∃ls:List (List AV),g f=some (SN m.c ls)/\ls.length=4*m.fab.length/\∀(i:Nat) l cells,(m.fab.flatMap aaR)[i]?=some l->ls[i]?=some cells->vU (alp g) l cells
 dG:∀(i:Nat) n,m.au[i]?=some n->lV g (N i) m.c i n
 inj:ai9 N m.au.length
def zL(x:Int):List Int->List Int
 | []=> [x]
 | y::rp=> if x < y then y::zL x rp else x::y::rp
def srt:List Int->List Int->List Int
 | rp,[]=> rp.reverse
 | rp,x::l=> srt (zL x rp) l
def Ent.word(e:Ent)(w:Int):Int:=if 0<=w/\w < e.data.length then e.data.getD w.toNat 0 else 0
def Ent.write(e:Ent)(w v:Int):Ent:=if e.bG=true/\0<=w/\w < e.data.length then { e with data:=e.data.set w.toNat v } else e
def Home.ready(h:Home):List Int:=h.aT.ready (srt [] (h.aT.wait.map (·.1)))
def Home.grant(dG:Int)(h:Home):Home × Pkt × Bool:=
 match h.ready with
 | []=> (h,.zero,false)
 | aj::_=> match h.aT.next aj with
  | (t,some w)=> ({ h with aT:=t },granted h.dF dG aj w.1 w.2,true)
  | (_,none)=> (h,.zero,false)
def Proc.idx(p:Proc):Int:=match p.cur with
 | some _=> p.bf.length
 | none=> 0
def Proc.op(p:Proc):Opn:=p.cur.getD .zero
def Proc.EP(p:Proc)(v:Int):Proc:=if p.eG then⟨p.ops,p.bf++[v],false⟩ else p
abbrev NT:=Node × List Evn
def Node.done(me:Int)(n:Node)(t:List Evn)(v:Int):NT:=({ n with bW:=n.bW.EP v },t++[⟨me,n.bW.idx,true,v⟩])
def dS(e:Ent)(o:Opn)(w:Int):Ent:=if o.aS=2 then e.write w o.value else if o.aS=3 then e.write w (w64 (e.word w+o.value)) else e
def Node.effect(c:Cfg)(me:Int)(n:Node)(t:List Evn):NT:=
 let o:=n.bW.op;let e:=(n.aC.find (c.bn o.addr)).getD .zero;let n':={ n with aC:=(n.aC.put (dS e o (c.bM o.addr))).1 }
 n'.done me t (if o.aS=2 then 0 else e.word (c.bM o.addr))
def Node.acY(c:Cfg)(me:Int)(n:Node)(f:Fab):Fab:=(f.send (n.aF.ask me (c.aQ n.aF.aj))).1
def Node.after(me:Int)(n:Node)(p:Pkt):Nxt:=
 if n.aF.aS=1 then iI n.aF me n.aC p else if n.aF.aS=2 then jy n.aF me n.aC p else if n.aF.aS=3 then kE n.aF n.aC p else vP n.aC
abbrev NFT:=Node × Fab × List Evn
def Node.answered(c:Cfg)(me:Int)(n:Node)(f:Fab)(t:List Evn)(p:Pkt):NFT:=
 match n.after me p with
 | (ca,d,ok)=>
  if ok=false then({ n with aC:=ca },f,t) else
  let n:={ n with aC:=ca,aF:=d }
  if d.step=0 then(if d.aS=3/\n.bW.op.aS=4 then((n.done me t 0).1,f,(n.done me t 0).2) else(n,f,t))
  else
   let nt:=if d.step=6/\d.aS≠3 then n.effect c me t else(n,t)
   (nt.1,nt.1.acY c me f,nt.2)
def Node.begin_(c:Cfg)(me:Int)(n:Node)(f:Fab)(aS aj:Int):Node × Fab:=
 let n:={ n with aF:=.begin aS aj n.num,num:=(n.num+1).tmod 4096 }
 (n,n.acY c me f)
def Node.asked(c:Cfg)(me:Int)(n:Node)(f:Fab)(p:Pkt):Node × Fab:=
 if p.aS=1∨p.aS=2 then
  match n.home.handle c me p with
  | (h,out,ok,e)=> ({ n with home:=h },if ok=true/\e=0 then(f.send out).1 else f)
 else
  match qj n.aC p with
  | (ca,out,e)=> ({ n with aC:=ca },if e=0 then(f.send out).1 else f)
def Node.work(c:Cfg)(me:Int)(n:Node)(f:Fab)(t:List Evn)(o:Opn):NFT:=
 let t:=if n.bW.eG then t else t++[⟨me,n.bW.bf.length,false,0⟩]
 let n:={ n with bW:={ n.bW with eG:=true } }
 let aj:=c.bn o.addr;let e:=n.aC.find aj
 if o.aS=4/\e=none then((n.done me t 0).1,f,(n.done me t 0).2)
 else if o.aS=4 then((n.begin_ c me f 3 aj).1,(n.begin_ c me f 3 aj).2,t)
 else if e.isSome=true/\(o.aS=1∨(e.getD .zero).bG=true) then
  let n:={ n with aC:=n.aC.touch aj }
  ((n.effect c me t).1,f,(n.effect c me t).2)
 else if n.aC.full aj=true then((n.begin_ c me f 3 ((n.aC.wR aj).getD 0)).1,(n.begin_ c me f 3 ((n.aC.wR aj).getD 0)).2,t)
 else if o.aS=1 then((n.begin_ c me f 1 aj).1,(n.begin_ c me f 1 aj).2,t)
 else((n.begin_ c me f 2 aj).1,(n.begin_ c me f 2 aj).2,t)
def Node.step(c:Cfg)(me:Int)(n:Node)(f:Fab)(t:List Evn):NFT × Int:=
 match f.take me false with
 | (f',some p)=> (n.answered c me f' t p,1)
 | (_,none)=>
  if n.home.ready≠[]/\f.roomOf me false≠0 then
   (({ n with home:=(n.home.grant me).1 },(f.send (n.home.grant me).2.1).1,t),2)
  else
   match(if f.roomOf me false=0 then(f,none) else f.take me true) with
   | (f',some p)=> (((n.asked c me f' p).1,(n.asked c me f' p).2,t),3)
   | (_,none)=>
    match n.bW.cur with
    | some o=> if n.aF.step=0 then(n.work c me f t o,4) else((n,f,t),0)
    | none=> ((n,f,t),0)
def bH.dG(m:bH)(i:Int):Option Node:=if 0<=i then m.au[i.toNat]? else none
def bH.step(m:bH)(i:Int):bH × Int:=
 match m.dG i with
 | none=> (m,0)
 | some n=> match n.step m.c i m.fab m.trace with
  | ((n',f,t),k)=> ({ m with au:=m.au.set i.toNat n',fab:=f,trace:=t },k)
def aT(bytes:Nat)(bit mask:Int):Bool:=(List.range 16).any λi=> decide ((mask.toNat >>> (15 - i)) % 2=1) && decide (0<=bit+i) && decide (bit+i < 8*bytes)
def Pkt.bytes(p:Pkt):Nat:=12+8*p.data.length
def Port.drop(p:Port)(req:Bool)(k:Nat):Port:=p.lF req ((p.sort req).eraseIdx k)
def Fab.remove(f:Fab)(at_:Nat):Fab:=match aaQ f.l 0 at_ with
 | some (i,req,k)=> f.put i ((f.port i).drop req k)
 | none=> f
def Fab.deliver(f:Fab)(at_ bit mask:Int):Fab × Int:=
 if at_ < 0 then(f,3) else
 match f.all[at_.toNat]? with
 | none=> (f,3)
 | some p=>
  if aT p.bytes bit mask=true then(f,2) else
  if f.room (wQ p.aS)<=((f.port p.dst).YK (wQ p.aS)).length then(f,5) else
  ((f.put p.dst ((f.port p.dst).yO (wQ p.aS) ((f.port p.dst).YK (wQ p.aS)++[p]))).remove at_.toNat,0)
def bH.deliver(m:bH)(at_ bit mask:Int):bH × Int:=({ m with fab:=(m.fab.deliver at_ bit mask).1 },(m.fab.deliver at_ bit mask).2)
def bH.do_(m:bH)(p:Pck):bH × Bool:=
 if p.deliver then((m.deliver p.at_ p.bit p.mask).1,decide ((m.deliver p.at_ p.bit p.mask).2=0))
 else((m.step p.at_).1,decide ((m.step p.at_).2≠0))
def vV(e:Ent):List Ent->List Ent
 | []=> [e]
 | x::l=> if e.aj < x.aj then e::x::l else x::vV e l
def Cache.Ui(c:Cache)(e:Ent):Cache × Int:=
 if e.aj < 0 then(c,1) else
 match c.at_ e.aj with
 | some i=> ({ c with l:=c.l.set i { e with used:=(c.l.getD i .zero).used } },0)
 | none=> if c.ways<=(c.oM e.aj).length then(c,5) else({ c with l:=vV { e with used:=c.dH+1 } c.l,dH:=c.dH+1 },0)
def Cache.Iw(c:Cache)(aj:Int):Int:=((mW (c.oM aj)).map (·.aj)).getD (-1)
def fM.gJ(t:fM)(aj:Int):Int:=((t.owner.find? λo=> decide (o.1=aj)).map (·.2)).getD (-1)
def fM.waits(t:fM)(aj:Int):List (Int × Int):=(t.wait.filter λw=> decide (w.1=aj)).map (·.2)
def fM.ask(t:fM)(aj who id:Int):fM × Bool:=
 if who < 0 then(t,false) else
 if t.gJ aj=-1/\t.waits aj=[] then({ t with owner:=t.owner++[(aj,who)] },true)
 else({ t with wait:=t.wait++[(aj,who,id)] },false)
def kF {α:Type}(p:α->Bool):List α->List α
 | []=> []
 | x::l=> if p x then l else x::kF p l
def fM.release(t:fM)(aj who:Int):fM × Bool:=
 if(t.owner.any λo=> decide (o.1=aj) && decide (o.2=who))=true then({ t with owner:=kF (λo=> decide (o.1=aj) && decide (o.2=who)) t.owner },true) else(t,false)
def fM.next(t:fM)(aj:Int):fM × Option (Int × Int):=
 if t.gJ aj≠-1 then(t,none) else
 match t.wait.find? λw=> decide (w.1=aj) with
 | some w=> (⟨t.owner++[(aj,w.2.1)],kF (λw=> decide (w.1=aj)) t.wait⟩,some w.2)
 | none=> (t,none)
def kG(x:Int):List Int->List Int
 | []=> [x]
 | y::l=> if y < x then y::kG x l else if y=x then y::l else x::y::l
def fM.ready(t:fM):List Int:=t.wait.foldl (λout w=> if t.gJ w.1≠-1 then out else kG w.1 out) []
def jS(c:Cfg)(me aj:Int):Bool:=decide (0<=aj) && decide (aj < c.aG) && decide (aj % c.au=me)
def fF.row(h:fF)(aj:Int):Row:=h.dF.getD aj.toNat .zero
def fF.oM(c:Cfg)(me:Int)(h:fF)(aj aW head:Int)(data:List Int):fF × Int:=
 if jS c me aj=false then(h,3) else
 if aW < 0∨2 < aW∨head < -1∨c.au<=head∨¬(aW=0↔head=-1)∨(data≠[]/\(data.length:Int)≠c.aH) then(h,1) else
 ({ h with dF:=h.dF.set aj.toNat ⟨aW,head,if data=[] then(h.row aj).data else data⟩ },0)
def fF.granted(me:Int)(h:fF)(aj who id:Int):Pkt:=⟨7,me,who,id,aj,(h.row aj).head,(h.row aj).aW,false,(h.row aj).data⟩
def fF.handle(c:Cfg)(me:Int)(h:fF)(p:Pkt):fF × Pkt × Bool × Int:=
 if p.ok=false∨p.dst≠me∨c.au<=p.src∨(p.aS≠1/\p.aS≠2) then(h,.zero,false,1)
 else if jS c me p.aj=false then(h,.zero,false,3)
 else if p.aS=1 then
  let a:=h.aT.ask p.aj p.src p.id
  if a.2=true then({ h with aT:=a.1 },h.granted me p.aj p.src p.id,true,0) else({ h with aT:=a.1 },.zero,false,0)
 else if h.aT.gJ p.aj≠p.src then(h,.zero,false,6)
 else
  let r:=h.oM c me p.aj p.aW p.ptr (if p.flag then p.data else [])
  if r.2=0 then({ r.1 with aT:=(r.1.aT.release p.aj p.src).1 },⟨8,me,p.src,p.id,p.aj,0,0,false,[]⟩,true,0) else(h,.zero,false,r.2)
def fF.grant(me:Int)(h:fF):fF × Pkt × Bool:=
 match h.aT.ready with
 | []=> (h,.zero,false)
 | aj::_=> match h.aT.next aj with
  | (t,w)=> ({ h with aT:=t },h.granted me aj (w.getD (0,0)).1 (w.getD (0,0)).2,true)
def acZ(c:Cache)(p:Pkt):Cache × Pkt × Int:=
 if p.ok=false∨p.aS < 3∨6 < p.aS then(c,.zero,1) else
 match c.find p.aj with
 | none=> (c,.zero,3)
 | some e=>
  let out:Pkt:=⟨Qp p.aS,p.dst,p.src,p.id,p.aj,0,0,false,[]⟩
  if p.aS=3 then((c.Ui { e with bG:=false,back:=p.ptr }).1,{ out with data:=e.data,flag:=e.bG },0)
  else if p.aS=4 then((c.Ui { e with fwd:=p.ptr }).1,out,0)
  else if p.aS=5 then((c.Ui { e with back:=p.ptr }).1,out,0)
  else(c.drop p.aj,{ out with data:=e.data,flag:=e.bG,ptr:=e.fwd },0)
def aja(d:dL)(dG:Int)(c:Cache)(p:Pkt):Nxt:=
 if d.step=1/\d.aW=0 then((c.Ui ⟨-1,-1,d.aj,0,false,d.data⟩).1,{ d with step:=6,aW:=1,head:=dG,data:=[] },true)
 else if d.step=1 then(c,{ d with step:=2 },true)
 else if d.step=2 then((c.Ui ⟨d.head,-1,d.aj,0,false,p.data⟩).1,{ d with step:=6,aW:=1,head:=dG,data:=if p.flag then p.data else [] },true)
 else vP c
def afQ(d:dL)(dG:Int)(c:Cache):Nxt:=
 let d:dL:=match c.find d.aj with
  | some own=> if d.next=dG then { d with next:=own.fwd } else d
  | none=> d
 if d.next≠-1 then(c,{ d with step:=3 },true)
 else((c.Ui ⟨-1,-1,d.aj,0,true,d.data⟩).1,{ d with step:=6,aW:=2,head:=dG,data:=[] },true)
def afR(d:dL)(dG:Int)(c:Cache)(p:Pkt):Nxt:=
 if d.step=1 then afQ { d with data:=(match c.find d.aj with | some own=> own.data | none=> d.data),next:=d.head } dG c
 else if d.step=3 then afQ { d with data:=(match c.find d.aj with | some _=> d.data | none=> p.data),next:=p.ptr } dG c
 else vP c
def Iy(d:dL)(c:Cache)(head:Int):Nxt:=(c.drop d.aj,{ d with step:=6,aW:=1,head:=head,data:=[] },true)
def ajb(d:dL)(c:Cache):Nxt:=
 if d.step=1 then
  match c.find d.aj with
  | none=> (c,{ d with step:=6,data:=[] },true)
  | some e=>
   if e.back=-1/\e.fwd=-1 then(c.drop d.aj,{ d with step:=6,aW:=0,head:=-1,data:=if e.bG then e.data else [] },true)
   else if e.back=-1 then(c,{ d with data:=[],head:=-1,next:=e.fwd,step:=5 },true)
   else(c,{ d with data:=[],head:=e.back,next:=e.fwd,step:=4 },true)
 else if d.step=4 then
  if d.next≠-1 then(c,{ d with step:=5 },true) else Iy d c d.told
 else if d.step=5 then
  if d.head=-1 then Iy d c d.next else Iy d c d.told
 else vP c
def ajc(d:dL)(dG:Int)(c:Cache)(p:Pkt):Nxt:=
 if d.fits p=false∨d.aS < 1∨3 < d.aS then vP c else
 if d.step=6 then(c,{ d with step:=0 },true) else
 let d:=if d.step=1 then { d with aW:=p.aW,head:=p.ptr,told:=p.ptr,data:=p.data } else d
 if d.aS=1 then aja d dG c p else if d.aS=2 then afR d dG c p else ajb d c
abbrev RNT:=iU × List Evn
def iU.done(me:Int)(n:iU)(t:List Evn)(v:Int):RNT:=({ n with bf:=n.bf++[v],eG:=false },t++[⟨me,n.bf.length,true,v⟩])
def ac0(e:Ent)(o:Opn)(w:Nat):Ent:=
 if o.aS=2 then { e with data:=e.data.set w o.value } else if o.aS=3 then { e with data:=e.data.set w (w64 (e.data.getD w 0+o.value)) } else e
def iU.effect(c:Cfg)(n:iU)(o:Opn):iU × Int:=
 let i:=(n.aC.at_ (o.addr.tdiv c.aH)).getD 0;let e:=n.aC.l.getD i .zero;let w:=(o.addr.tmod c.aH).toNat
 ({ n with aC:={ n.aC with l:=n.aC.l.set i (ac0 e o w) } },if o.aS=2 then 0 else e.data.getD w 0)
def iU.acY(c:Cfg)(me:Int)(n:iU)(f:Fab):Fab:=(f.send (n.aF.ask me (n.aF.aj.tmod c.au))).1
def iU.begin_(c:Cfg)(me:Int)(n:iU)(f:Fab)(aS aj:Int):iU × Fab:=
 let n:={ n with has:=true,aF:=.begin aS aj n.num,num:=(n.num+1).tmod 4096 }
 (n,n.acY c me f)
abbrev ajd:=iU × Fab × List Evn
def iU.answered(c:Cfg)(me:Int)(n:iU)(f:Fab)(t:List Evn)(p:Pkt):ajd:=
 if n.has=false then(n,f,t) else
 match ajc n.aF me n.aC p with
 | (ca,d,ok)=>
  if ok=false then({ n with aC:=ca },f,t) else
  let n:={ n with aC:=ca,aF:=d }
  if d.step=0 then
   let n:={ n with has:=false,aF:=.zero }
   match n.ops[n.bf.length]? with
   | some o=> if n.eG=true/\o.aS=4 then((n.done me t 0).1,f,(n.done me t 0).2) else(n,f,t)
   | none=> (n,f,t)
  else
   let nt:=if d.step=6/\d.aS≠3 then let ev:=n.effect c (n.ops.getD n.bf.length .zero);ev.1.done me t ev.2 else(n,t)
   (nt.1,nt.1.acY c me f,nt.2)
def iU.work(c:Cfg)(me:Int)(n:iU)(f:Fab)(t:List Evn)(o:Opn):ajd:=
 let t:=if n.eG then t else t++[⟨me,n.bf.length,false,0⟩]
 let n:={ n with eG:=true }
 let aj:=o.addr.tdiv c.aH;let e:=n.aC.find aj
 if o.aS=4/\e=none then((n.done me t 0).1,f,(n.done me t 0).2)
 else if o.aS=4 then((n.begin_ c me f 3 aj).1,(n.begin_ c me f 3 aj).2,t)
 else if e.isSome=true/\(o.aS=1∨(e.getD .zero).bG=true) then
  let n:={ n with aC:=n.aC.touch aj }
  let ev:=n.effect c o
  ((ev.1.done me t ev.2).1,f,(ev.1.done me t ev.2).2)
 else if e=none/\0<=aj/\n.aC.ways<=(n.aC.oM aj).length then((n.begin_ c me f 3 (n.aC.Iw aj)).1,(n.begin_ c me f 3 (n.aC.Iw aj)).2,t)
 else if o.aS=1 then((n.begin_ c me f 1 aj).1,(n.begin_ c me f 1 aj).2,t)
 else((n.begin_ c me f 2 aj).1,(n.begin_ c me f 2 aj).2,t)
def iU.asked(c:Cfg)(me:Int)(n:iU)(f:Fab)(p:Pkt):iU × Fab:=
 if p.aS=1∨p.aS=2 then
  match n.homes.handle c me p with
  | (h,out,ok,e)=> ({ n with homes:=h },if ok=true/\e=0 then(f.send out).1 else f)
 else
  match acZ n.aC p with
  | (ca,out,e)=> ({ n with aC:=ca },if e=0 then(f.send out).1 else f)
def iU.step(c:Cfg)(me:Int)(n:iU)(f:Fab)(t:List Evn):ajd × Int:=
 match f.take me false with
 | (f',some p)=> (n.answered c me f' t p,1)
 | (_,none)=>
  if 0 < f.roomOf me false/\n.homes.aT.ready≠[] then
   (({ n with homes:=(n.homes.grant me).1 },(f.send (n.homes.grant me).2.1).1,t),2)
  else if 0 < f.roomOf me false/\0 < f.waiting me true then
   match f.take me true with
   | (f',p)=> (((n.asked c me f' (p.getD .zero)).1,(n.asked c me f' (p.getD .zero)).2,t),3)
  else
   match n.ops[n.bf.length]? with
   | some o=> if n.has=false then(n.work c me f t o,4) else((n,f,t),0)
   | none=> ((n,f,t),0)
def jJ.aje(m:jJ):Fab:=⟨m.c.out,m.c.inn,m.fab⟩
def jJ.all(m:jJ):List Pkt:=m.fab.flatMap λp=> p.rq++p.an
def jJ.left(m:jJ):Int:=(m.au.map λn=> (n.ops.length:Int) - n.bf.length).sum
def jJ.busy(m:jJ)(i:Nat):Bool:=match m.au[i]?,m.fab[i]? with
 | some n,some p=> n.eG || n.has || decide (0 < p.rin.length) || decide (0 < p.ain.length)
 | _,_=> false
def jJ.quiet(m:jJ):Bool:=decide (m.all.length=0) && (List.range m.au.length).all λi=> !m.busy i
def jJ.step(m:jJ)(i:Int):jJ × Int:=
 match(if 0<=i then m.au[i.toNat]? else none) with
 | none=> (m,0)
 | some n=> match n.step m.c i m.aje m.ev with
  | ((n',f,t),k)=> ({ m with au:=m.au.set i.toNat n',fab:=f.l,ev:=t },k)
def jJ.deliver(m:jJ)(at_ bit mask:Int):jJ × Int:=({ m with fab:=(m.aje.deliver at_ bit mask).1.l },(m.aje.deliver at_ bit mask).2)
def jJ.do_(m:jJ)(p:Pck):jJ × Bool:=
 if p.deliver then((m.deliver p.at_ p.bit p.mask).1,decide ((m.deliver p.at_ p.bit p.mask).2=0))
 else((m.step p.at_).1,decide ((m.step p.at_).2≠0))
structure aiB(c:Cfg)(me:Int)(n:Node)(r:iU):Prop where
 ops:r.ops=n.bW.ops
 bf:r.bf=n.bW.bf
 eG:r.eG=n.bW.eG
 has:r.has=!decide (n.aF.step=0)
 aF:r.aF=if n.aF.step=0 then .zero else n.aF
 num:r.num=n.num
 sets:r.aC.sets=n.aC.sets
 ways:r.aC.ways=n.aC.ways
 dH:r.aC.dH=n.aC.dH
 sorted:r.aC.l.Pairwise λa b=> a.aj < b.aj
 perm:n.aC.l.Perm r.aC.l
 dF:∀aj,jS c me aj=true->∃row,jq n.home.dF aj=some row/\r.homes.dF[aj.toNat]?=some row
 none:∀aj,jS c me aj=false->jq n.home.dF aj=none
 owner:∀aj,n.home.aT.owner aj=r.homes.aT.gJ aj
 waits:∀aj,n.home.aT.ws aj=r.homes.aT.waits aj
structure Sim(m:bH)(r:jJ):Prop where
 c:r.c=m.c
 len:r.au.length=m.au.length
 fab:r.fab=m.fab.l
 ev:r.ev=m.trace
 dG:∀(i:Nat) n rn,m.au[i]?=some n->r.au[i]?=some rn->aiB m.c i n rn
structure zO(c r:Cache):Prop where
 sets:r.sets=c.sets
 ways:r.ways=c.ways
 dH:r.dH=c.dH
 sorted:r.l.Pairwise λa b=> a.aj < b.aj
 perm:c.l.Perm r.l
def Lines(l:List Ent):Prop:=l.Pairwise λa b=> a.aj≠b.aj
theorem sQ {l:List Ent}(h:l.Pairwise λa b=> a.aj < b.aj):Lines l:=h.imp λh=> by omega
theorem Lines.perm {l l':List Ent}(h:Lines l)(p:l.Perm l'):Lines l':=(p.pairwise_iff (λh=> Ne.symm h)).1 h
theorem zO.aG {c r:Cache}(S:zO c r):Lines c.l:=(sQ S.sorted).perm S.perm.symm
theorem zO.Qr {c r:Cache}(S:zO c r):Lines r.l:=sQ S.sorted
theorem Lines.inj:∀{l:List Ent},Lines l->∀{a b:Ent},a∈l->b∈l->a.aj=b.aj->a=b
 | [],_,a,_,ha,_,_=> by cases ha
 | x::l,h,a,b,ha,hb,e=> by
  have h1:=za3.1 h;rcases zai.1 ha with ha' | ha'
  ·rcases zai.1 hb with hb' | hb'
   ·rw [ha',hb']
   ·rw [ha'] at e;exact absurd e (h1.1 b hb')
  ·rcases zai.1 hb with hb' | hb'
   ·rw [hb'] at e;exact absurd e.symm (h1.1 a ha')
   ·exact Lines.inj h1.2 ha' hb' e
theorem fQ {l:List Ent}(h:Lines l){aj:Int}{e:Ent}:(l.find? λx=> decide (x.aj=aj))=some e↔e∈l/\e.aj=aj:=by
 constructor
 ·intro hf;exact⟨zbH hf,by simpa using zbM hf⟩
 ·rintro⟨he,hl⟩;cases hf:l.find? λx=> decide (x.aj=aj) with
  | none=>
   have:=zbv.1 hf e he;simp [hl] at this
  | some x=>
   have h1:=zbH hf;have h2:x.aj=aj:=by simpa using zbM hf
   rw [h.inj h1 he (by rw [h2,hl])]
theorem qm {l:List Ent}{aj:Int}:(l.find? λx=> decide (x.aj=aj))=none↔∀e∈l,e.aj≠aj:=by
 rw [zbv];simp
theorem zO.find {c r:Cache}(S:zO c r)(aj:Int):r.find aj=c.find aj:=by
 unfold Cache.find;cases hf:c.l.find? λx=> decide (x.aj=aj) with
 | none=>
  rw [qm] at hf ⊢;exact λe he=> hf e (S.perm.mem_iff.2 he)
 | some e=>
  rw [fQ S.aG] at hf;rw [fQ S.Qr];exact⟨S.perm.mem_iff.1 hf.1,hf.2⟩
theorem zO.count {c r:Cache}(S:zO c r)(aj:Int):(r.oM aj).length=(c.oM aj).length:=by
 unfold Cache.oM;rw [S.sets];exact(S.perm.filter _).length_eq.symm
theorem zO.full {c r:Cache}(S:zO c r)(aj:Int):r.full aj=c.full aj:=by
 unfold Cache.full;rw [S.find,S.count,S.ways]
theorem vW {c:Cache}{aj:Int}:c.at_ aj=none↔c.find aj=none:=by
 unfold Cache.at_ Cache.find;rw [List.findIdx?_eq_none_iff,zbv];simp
theorem yR {c:Cache}{aj:Int}{i:Nat}(h:c.at_ aj=some i):∃e,c.l[i]?=some e/\c.find aj=some e/\e.aj=aj:=by
 unfold Cache.at_ at h;have hi:=List.findIdx?_eq_some_iff_getElem.1 h;obtain⟨hl,h1,h2⟩:=hi;refine⟨c.l[i],zab hl,?_,by simpa using h1⟩;unfold Cache.find;rw [List.find?_eq_some_iff_getElem];exact⟨h1,i,hl,rfl,λj hj=> by simpa using h2 j hj⟩
theorem ug {c:Cache}{aj:Int}{e:Ent}(h:c.find aj=some e):∃i,c.at_ aj=some i/\c.l[i]?=some e:=by
 cases ha:c.at_ aj with
 | none=> rw [vW.1 ha] at h;cases h
 | some i=>
  obtain⟨e',h1,h2,_⟩:=yR ha;rw [h] at h2;cases h2;exact⟨i,rfl,h1⟩
theorem Iz:∀{l:List Ent},Lines l->∀{i:Nat} {e v:Ent},l[i]?=some e->l.set i v=l.map λx=> if x.aj=e.aj then v else x
 | [],_,i,e,v,h=> by simp at h
 | x::l,hl,i,e,v,h=> by
  have h1:=za3.1 hl;cases i with
  | zero=>
   simp only [za2,zaa] at h;subst h;simp only [zb8,zaA,if_true]
   congr 1
   have:∀y∈l,(if y.aj=x.aj then v else y)=y:=λy hy=> if_neg (Ne.symm (h1.1 y hy));rw [zbd this];simp
  | succ i=>
   simp only [zbx] at h;have hx:x.aj≠e.aj:=h1.1 e (zat h);simp only [zb9,zaA,if_neg hx];rw [Iz h1.2 h]
theorem zQ:∀{l:List Ent},Lines l->∀{i:Nat} {e:Ent},l[i]?=some e->l.eraseIdx i=l.filter λx=> decide (x.aj≠e.aj)
 | [],_,i,e,h=> by simp at h
 | x::l,hl,i,e,h=> by
  have h1:=za3.1 hl;cases i with
  | zero=>
   simp only [za2,zaa] at h;subst h;simp only [List.eraseIdx_cons_zero,zby,ne_eq,not_true,decide_false,zaj,if_false];rw [List.filter_eq_self.2];intro y hy;have:=h1.1 y hy;simp only [decide_eq_true_eq];exact λe=> this e.symm
  | succ i=>
   simp only [zbx] at h;have hx:x.aj≠e.aj:=h1.1 e (zat h);simp only [List.eraseIdx_cons_succ,zby,hx,ne_eq,not_false_eq_true,decide_true,if_true];rw [zQ h1.2 h]
theorem sS(e:Ent):∀l,(vV e l).Perm (e::l)
 | []=> .refl _
 | x::l=> by
  rw [vV];split
  ·exact .refl _
  ·exact((sS e l).cons x).trans (.swap e x l)
theorem uS(e:Ent):∀l:List Ent,(l.Pairwise λa b=> a.aj < b.aj)->(∀x∈l,x.aj≠e.aj)->(vV e l).Pairwise λa b=> a.aj < b.aj
 | [],_,_=> by simp [vV]
 | x::l,h,hn=> by
  have h1:=za3.1 h;rw [vV];split
  ·rename_i hlt;refine za3.2 ⟨λy hy=> ?_,h⟩;rcases zai.1 hy with rfl | hy
   ·exact hlt
   ·have:=h1.1 y hy;omega
  ·rename_i hlt;refine za3.2 ⟨λy hy=> ?_,uS e l h1.2 λy hy=> hn y (by simp [hy])⟩;rcases zai.1 ((sS e l).mem_iff.1 hy) with rfl | hy
   ·have:=hn x (by simp);omega
   ·exact h1.1 y hy
theorem YM {l:List Ent}{f:Ent->Ent}(hf:∀x∈l,(f x).aj=x.aj)(h:l.Pairwise λa b=> a.aj < b.aj):(l.map f).Pairwise λa b=> a.aj < b.aj:=by
 rw [zb0];exact h.imp_of_mem λha hb hab=> by rw [hf _ ha,hf _ hb];exact hab
theorem zO.mapped {c r:Cache}(S:zO c r){f:Ent->Ent}(hf:∀x∈c.l,(f x).aj=x.aj)(k:Int):zO { c with l:=c.l.map f,dH:=k } { r with l:=r.l.map f,dH:=k }:=
 ⟨S.sets,S.ways,rfl,YM (λx hx=> hf x (S.perm.mem_iff.2 hx)) S.sorted,S.perm.map f⟩
theorem jX {c:Cache}(hl:Lines c.l){e x:Ent}(h0:0<=e.aj)(h:c.find e.aj=some x):c.put e=({ c with l:=c.l.map λy=> if y.aj=e.aj then { e with used:=x.used } else y },0):=by
 obtain⟨i,h1,h2⟩:=ug h;have hx:x.aj=e.aj:=by
  obtain⟨y,k1,_,k3⟩:=yR h1;rw [h2] at k1;cases k1;exact k3
 unfold Cache.put;rw [if_neg (by omega),h1];simp only;rw [zaq,h2,zax,Iz hl h2,hx]
theorem SQ {c:Cache}(hl:Lines c.l){e x:Ent}(h0:0<=e.aj)(h:c.find e.aj=some x):c.Ui e=({ c with l:=c.l.map λy=> if y.aj=e.aj then { e with used:=x.used } else y },0):=by
 obtain⟨i,h1,h2⟩:=ug h;have hx:x.aj=e.aj:=by
  obtain⟨y,k1,_,k3⟩:=yR h1;rw [h2] at k1;cases k1;exact k3
 unfold Cache.Ui;rw [if_neg (by omega),h1];simp only;rw [zaq,h2,zax,Iz hl h2,hx]
theorem zO.put {c r:Cache}(S:zO c r)(e:Ent):zO (c.put e).1 (r.Ui e).1/\(r.Ui e).2=(c.put e).2:=by
 by_cases h0:e.aj < 0
 ·unfold Cache.put Cache.Ui;rw [if_pos h0,if_pos h0];exact⟨S,rfl⟩
 cases hf:c.find e.aj with
 | some x=>
  rw [jX S.aG (by omega) hf,SQ S.Qr (by omega) (by rw [S.find,hf])];refine⟨?_,rfl⟩;have:=S.mapped (f:=λy=> if y.aj=e.aj then { e with used:=x.used } else y) (λy _=> by
   try simp only
   split
   ·rename_i h;exact h.symm
   ·rfl) c.dH
  rw [<-S.dH] at this;have e2:({ c with l:=c.l.map λy=> if y.aj=e.aj then { e with used:=x.used } else y }:Cache)={ c with l:=c.l.map λy=> if y.aj=e.aj then { e with used:=x.used } else y,dH:=r.dH }:=by rw [S.dH]
  rw [e2];exact this
 | none=>
  have h1:=vW.2 hf;have h2:r.at_ e.aj=none:=vW.2 (by rw [S.find,hf]);unfold Cache.put Cache.Ui;rw [if_neg h0,if_neg h0,h1,h2];have hc:(r.ways<=((r.oM e.aj).length:Int))=(c.full e.aj=true):=by
   simp only [Cache.full,hf,zcL,zaG,S.count,S.ways,decide_eq_true_eq]
  simp only [hc];split
  ·exact⟨S,rfl⟩
  ·refine⟨⟨S.sets,S.ways,by simp only [S.dH],?_,?_⟩,rfl⟩
   ·simp only [S.dH];refine uS _ _ S.sorted λx hx=> ?_;have:=qm.1 (show(c.l.find? λx=> decide (x.aj=e.aj))=none from hf);exact this x (S.perm.mem_iff.2 hx)
   ·simp only [S.dH];refine(List.perm_append_comm.trans ?_).trans (sS _ _).symm;exact S.perm.cons _
theorem Dy {c:Cache}(hl:Lines c.l)(aj:Int):c.drop aj={ c with l:=c.l.filter λx=> decide (x.aj≠aj) }:=by
 unfold Cache.drop;cases ha:c.at_ aj with
 | none=>
  have:=qm.1 (show(c.l.find? λx=> decide (x.aj=aj))=none from vW.1 ha);simp only;rw [List.filter_eq_self.2 λx hx=> by simpa using this x hx]
 | some i=>
  obtain⟨e,h1,_,h3⟩:=yR ha;simp only;rw [zQ hl h1,h3]
theorem zO.drop {c r:Cache}(S:zO c r)(aj:Int):zO (c.drop aj) (r.drop aj):=by
 rw [Dy S.aG,Dy S.Qr];exact⟨S.sets,S.ways,S.dH,S.sorted.filter _,S.perm.filter _⟩
theorem uh {c:Cache}(hl:Lines c.l){aj:Int}{e:Ent}(h:c.find aj=some e):c.touch aj={ c with l:=c.l.map λx=> if x.aj=aj then { e with used:=c.dH+1 } else x,dH:=c.dH+1 }:=by
 obtain⟨i,h1,h2⟩:=ug h;obtain⟨y,k1,_,k3⟩:=yR h1;rw [h2] at k1;cases k1;unfold Cache.touch;rw [h1];simp only;rw [zaq,h2,zax,Iz hl h2,k3]
theorem zO.touch {c r:Cache}(S:zO c r){aj:Int}{e:Ent}(h:c.find aj=some e):zO (c.touch aj) (r.touch aj):=by
 have he:e.aj=aj:=by
  obtain⟨i,h1,h2⟩:=ug h;obtain⟨y,k1,_,k3⟩:=yR h1;rw [h2] at k1;cases k1;exact k3
 rw [uh S.aG h,uh S.Qr (by rw [S.find,h]),S.dH];exact S.mapped (λx _=> by
  try simp only
  split
  ·rename_i hx;rw [hx];exact he
  ·rfl) _
theorem Dz:∀(l:List Ent) (m:Ent),(l.foldl (λm x=> if x.used < m.used then x else m) m)∈m::l/\∀x∈m::l,(l.foldl (λm x=> if x.used < m.used then x else m) m).used<=x.used
 | [],m=> by simp
 | x::l,m=> by
  rw [zcp];obtain⟨h1,h2⟩:=Dz l (if x.used < m.used then x else m);refine⟨?_,λy hy=> ?_⟩
  ·rcases zai.1 h1 with h | h
   ·rw [h];split <;> simp
   ·simp [h]
  ·have hle:(if x.used < m.used then x else m).used<=x.used/\(if x.used < m.used then x else m).used<=m.used:=by
    split
    ·omega
    ·omega
   have h3:=h2 _ (List.mem_cons_self ..);rcases zai.1 hy with hy | hy
   ·rw [hy];exact Int.le_trans h3 hle.2
   ·rcases zai.1 hy with hy | hy
    ·rw [hy];exact Int.le_trans h3 hle.1
    ·exact h2 y (by simp [hy])
theorem oN {l:List Ent}{e:Ent}(h:mW l=some e):e∈l/\∀x∈l,e.used<=x.used:=by
 cases l with
 | nil=> cases h
 | cons m l=>
  simp only [mW,zaa] at h;subst h;exact Dz l m
def DC(l:List Ent):Prop:=l.Pairwise λa b=> a.used≠b.used
theorem DC.inj:∀{l:List Ent},DC l->∀{a b:Ent},a∈l->b∈l->a.used=b.used->a=b
 | [],_,a,_,ha,_,_=> by cases ha
 | x::l,h,a,b,ha,hb,e=> by
  have h1:=za3.1 h;rcases zai.1 ha with ha' | ha'
  ·rcases zai.1 hb with hb' | hb'
   ·rw [ha',hb']
   ·rw [ha'] at e;exact absurd e (h1.1 b hb')
  ·rcases zai.1 hb with hb' | hb'
   ·rw [hb'] at e;exact absurd e.symm (h1.1 a ha')
   ·exact DC.inj h1.2 ha' hb' e
theorem KR {l l':List Ent}(p:l.Perm l')(h:DC l):mW l'=mW l:=by
 cases hl:mW l with
 | none=>
  cases l with
  | nil=> rw [List.nil_perm.1 p];rfl
  | cons m l=> cases hl
 | some e=>
  obtain⟨h1,h2⟩:=oN hl;cases hl':mW l' with
  | none=>
   cases l' with
   | nil=> rw [List.perm_nil.1 p] at h1;cases h1
   | cons m l=> cases hl'
  | some e'=>
   obtain⟨h3,h4⟩:=oN hl';have h5:=h2 e' (p.mem_iff.2 h3);have h6:=h4 e (p.mem_iff.1 h1);rw [h.inj h1 (p.mem_iff.2 h3) (by omega)]
theorem zO.wR {c r:Cache}(S:zO c r)(h:DC c.l)(aj:Int):r.Iw aj=(c.wR aj).getD (-1):=by
 unfold Cache.Iw Cache.wR;have:mW (r.oM aj)=mW (c.oM aj):=by
  unfold Cache.oM;rw [S.sets];exact KR (S.perm.filter _) (h.filter _)
 rw [this]
theorem vX(x:Int):∀l,(zL x l).Perm (x::l)
 | []=> List.Perm.refl _
 | y::l=> by
  simp only [zL];split
  ·exact((vX x l).cons y).trans (List.Perm.swap x y l)
  ·exact List.Perm.refl _
theorem wX(x:Int):∀l,l.Pairwise (· ≥ ·)->(zL x l).Pairwise (· ≥ ·)
 | [],_=> by simp [zL]
 | y::l,h=> by
  simp only [zL];rw [za3] at h;split
  ·rename_i hxy;refine za3.2 ⟨λz hz=> ?_,wX x l h.2⟩;rcases zai.1 ((vX x l).mem_iff.1 hz) with rfl | hz
   ·omega
   ·exact h.1 z hz
  ·rename_i hxy;refine za3.2 ⟨λz hz=> ?_,za3.2 h⟩;rcases zai.1 hz with rfl | hz
   ·omega
   ·have:=h.1 z hz;omega
theorem wY:∀(l rp:List Int),rp.Pairwise (· ≥ ·)->(srt rp l).Perm (rp++l)/\(srt rp l).Pairwise (· <= ·)
 | [],rp,h=> by
  simp only [srt,za7];exact⟨List.reverse_perm rp,List.pairwise_reverse.2 (h.imp λh=> h)⟩
 | x::l,rp,h=> by
  have:=wY l (zL x rp) (wX x rp h);simp only [srt];refine⟨this.1.trans ?_,this.2⟩;refine((vX x rp).append_right l).trans ?_;rw [zbf];exact(zcX (a:=x) (l₁:=rp) (l₂:=l)).symm
theorem afS {l l':List Int}(hp:l.Perm l')(hs:l'.Pairwise (· <= ·)):srt [] l=l':=by
 obtain⟨h1,h2⟩:=wY l [] List.Pairwise.nil;exact(h1.trans hp).eq_of_pairwise (λa b _ _ h1 h2=> Int.le_antisymm h1 h2) h2 hs
theorem fO {α:Type}:∀(l:List (Int × α)) (n m:Int) (x:α),jq (qA l n x) m=if n=m then some x else jq l m
 | [],n,m,x=> by simp [qA,jq]
 | (k,v)::l,n,m,x=> by
  simp only [qA];by_cases h:k=n
  ·subst h;simp only [if_true,jq];by_cases h2:k=m <;> simp [h2]
  ·simp only [h,if_false,jq];rw [fO l n m x];by_cases h2:k=m
   ·subst h2;simp only [if_true];rw [if_neg (λe=> h e.symm)]
   ·simp [h2]
theorem yS {α:Type}:∀(l:List (Int × α)) (n:Int),(yN l n).map (·.1)=(l.map (·.1)).erase n
 | [],n=> rfl
 | (k,v)::l,n=> by
  simp only [yN,zaA,List.erase_cons];by_cases h:k=n
  ·simp [h]
  ·simp [h,yS l n]
theorem KT {α:Type}:∀(l:List (Int × α)) (n:Int) (x:α),(qA l n x).map (·.1)=if n∈l.map (·.1) then l.map (·.1) else l.map (·.1)++[n]
 | [],n,x=> by simp [qA]
 | (k,v)::l,n,x=> by
  simp only [qA,zaA,zai];by_cases h:k=n
  ·simp [h]
  ·have h':¬n=k:=λe=> h e.symm;simp only [h,if_false,zaA,h',false_or,KT l n x];split <;> simp
theorem kR {α:Type}{l:List (Int × α)}(h:(l.map (·.1)).Nodup)(n:Int)(x:α):((qA l n x).map (·.1)).Nodup:=by
 rw [KT];split
 ·exact h
 ·rename_i hn;rw [zbj];refine⟨h,by simp,λa ha b hb=> ?_⟩;simp only [zaI] at hb;subst hb;intro e;subst e;exact hn ha
theorem yT {α:Type}:∀{l:List (Int × α)},(l.map (·.1)).Nodup->∀(n m:Int),jq (yN l n) m=if n=m then none else jq l m
 | [],_,n,m=> by simp [yN,jq]
 | (k,v)::l,h,n,m=> by
  rw [zaA,zaW] at h;simp only [yN];by_cases hk:k=n
  ·subst hk;simp only [if_true,jq];by_cases h2:k=m
   ·subst h2;simp only [if_true];exact F9.2 h.1
   ·simp [h2]
  ·simp only [hk,if_false,jq];rw [yT h.2 n m];by_cases h2:k=m
   ·subst h2;simp only [if_true];rw [if_neg λe=> hk e.symm]
   ·simp [h2]
where
 F9 {α:Type}:∀{es:List (Int × α)} {n:Int},jq es n=none↔n∉es.map (·.1)
 | [],n=> by simp [jq]
 | (k,v)::l,n=> by
  simp only [jq,zaA,zai,not_or];by_cases h:k=n
  ·simp [h]
  ·simp only [h,if_false];rw [F9 (es:=l)];exact⟨λh'=> ⟨λe=> h e.symm,h'⟩,λh'=> h'.2⟩
theorem mF {α:Type}:∀{l:List (Int × α)} {n:Int} {x:α},jq l n=some x->(n,x)∈l
 | [],n,x,h=> by cases h
 | (k,v)::l,n,x,h=> by
  simp only [jq] at h;split at h
  ·rename_i e;cases h;subst e;simp
  ·simp [mF h]
theorem kH {α:Type}:∀{l:List (Int × α)} {n:Int} {x:α} {e:Int × α},e∈qA l n x->e=(n,x)∨e∈l
 | [],n,x,e,h=> by simp [qA] at h;exact .inl h
 | (k,v)::l,n,x,e,h=> by
  simp only [qA] at h;split at h
  ·rcases zai.1 h with h | h
   ·exact .inl h
   ·exact .inr (by simp [h])
  ·rcases zai.1 h with h | h
   ·exact .inr (by simp [h])
   ·rcases kH h with h | h
    ·exact .inl h
    ·exact .inr (by simp [h])
theorem DF {α:Type}:∀{l:List (Int × α)} {n:Int} {e:Int × α},e∈yN l n->e∈l
 | [],n,e,h=> by cases h
 | (k,v)::l,n,e,h=> by
  simp only [yN] at h;split at h
  ·simp [h]
  ·rcases zai.1 h with h | h
   ·simp [h]
   ·simp [DF h]
structure DI(t:Turns):Prop where
 ok:(t.gX.map (·.1)).Nodup
 oge:∀e∈t.gX,0<=e.2
 wk:(t.wait.map (·.1)).Nodup
 wge:∀e∈t.wait,∀w∈e.2,0<=w.1
structure Oc(t:Turns)(r:fM):Prop where
 owner:∀aj,t.owner aj=r.gJ aj
 waits:∀aj,t.ws aj=r.waits aj
 rok:(r.owner.map (·.1)).Nodup
 rge:∀o∈r.owner,0<=o.2
theorem DI.owned {t:Turns}(h:DI t)(aj:Int):t.owned aj=true↔t.owner aj≠-1:=by
 unfold Turns.owned Turns.owner;cases ha:jq t.gX aj with
 | none=> simp
 | some v=>
  have:=h.oge _ (mF ha);simp only [zct,zax,true_iff];simp only at this;omega
theorem uT {l:List (Int × Int)}{aj who m:Int}(hn:∀o∈l,o.1≠aj):(((l++[(aj,who)]).find? λo=> decide (o.1=m)).map (·.2)).getD (-1)=if m=aj then who else((l.find? λo=> decide (o.1=m)).map (·.2)).getD (-1):=by
 rw [zdl];by_cases h:m=aj
 ·subst h;have:(l.find? λo=> decide (o.1=m))=none:=by
   rw [zbv];intro o ho;simpa using hn o ho
  rw [this];simp
 ·rw [if_neg h];cases hf:l.find? λo=> decide (o.1=m) with
  | some o=> simp
  | none=>
   have h':¬aj=m:=λe=> h e.symm;simp [h']
theorem Oc.free {t:Turns}{r:fM}(S:Oc t r){aj:Int}(h:r.gJ aj=-1):∀o∈r.owner,o.1≠aj:=by
 intro o ho e;unfold fM.gJ at h;cases hf:r.owner.find? λo=> decide (o.1=aj) with
 | none=>
  have:=zbv.1 hf o ho;simp [e] at this
 | some o'=>
  rw [hf] at h;have:=S.rge o' (zbH hf);simp only [zaf,zax] at h;omega
theorem Gf {l:List (Int × Int)}(h:(l.map (·.1)).Nodup){aj who:Int}(hn:∀o∈l,o.1≠aj):((l++[(aj,who)]).map (·.1)).Nodup:=by
 rw [zbb,zbj];refine⟨h,by simp,λa ha b hb=> ?_⟩;obtain⟨o,ho,rfl⟩:=zaD.1 ha;simp only [zaA,zbz,zaI] at hb;subst hb;exact hn o ho
theorem Oc.ask {t:Turns}{r:fM}(S:Oc t r)(h:DI t)(aj who id:Int):Oc (t.ask aj who id).1 (r.ask aj who id).1/\(r.ask aj who id).2=(t.ask aj who id).2/\DI (t.ask aj who id).1:=by
 unfold Turns.ask fM.ask;by_cases h0:who < 0
 ·rw [if_pos h0,if_pos h0];exact⟨S,rfl,h⟩
 rw [if_neg h0,if_neg h0];have ho:=h.owned aj;by_cases hc:(t.owned aj || !(t.ws aj).isEmpty)=true
 ·have hr:¬(r.gJ aj=-1/\r.waits aj=[]):=by
   rintro⟨h1,h2⟩;simp only [zbc,za9] at hc;rcases hc with hc | hc
   ·exact ho.1 hc (by rw [S.owner,h1])
   ·rw [S.waits,h2] at hc;cases hc
  rw [if_pos hc,if_neg hr];refine⟨⟨S.owner,λm=> ?_,S.rok,S.rge⟩,rfl,⟨h.ok,h.oge,kR h.wk _ _,λe he w hw=> ?_⟩⟩
  ·show(jq (qA t.wait aj (t.ws aj++[(who,id)])) m).getD []=((r.wait++[(aj,who,id)]).filter λw=> decide (w.1=m)).map (·.2);have hm:=S.waits m;unfold Turns.ws fM.waits at hm;rw [fO,zcs,zbb,<-hm];by_cases hl:aj=m
   ·subst hl;simp [Turns.ws]
   ·simp [hl]
  ·rcases kH he with rfl | he
   ·rcases zaO.1 hw with hw | hw
    ·unfold Turns.ws at hw;cases ha:jq t.wait aj with
     | none=> rw [ha] at hw;cases hw
     | some ws=> rw [ha] at hw;exact h.wge _ (mF ha) w hw
    ·simp only [zaI] at hw;subst hw;simp only;omega
   ·exact h.wge e he w hw
 ·have hc':t.owned aj=false/\t.ws aj=[]:=by
   simp only [zbc,za9,not_or,zcW,zce,List.isEmpty_iff] at hc;exact hc
  have hr:r.gJ aj=-1/\r.waits aj=[]:=by
   refine⟨?_,by rw [<-S.waits];exact hc'.2⟩;rw [<-S.owner];rcases Classical.em (t.owner aj=-1) with e | e
   ·exact e
   ·rw [ho.2 e] at hc';cases hc'.1
  rw [if_neg hc,if_pos hr];refine⟨⟨λm=> ?_,S.waits,Gf S.rok (S.free hr.1),λo ho=> ?_⟩,rfl,⟨kR h.ok _ _,λe he=> ?_,h.wk,h.wge⟩⟩
  ·show(jq (qA t.gX aj who) m).getD (-1)=(((r.owner++[(aj,who)]).find? λo=> decide (o.1=m)).map (·.2)).getD (-1);rw [uT (S.free hr.1),fO];by_cases hl:aj=m
   ·subst hl;simp
   ·rw [if_neg hl,if_neg λe=> hl e.symm];exact S.owner m
  ·rcases zaO.1 ho with ho | ho
   ·exact S.rge o ho
   ·simp only [zaI] at ho;subst ho;simp only;omega
  ·rcases kH he with rfl | he
   ·simp only;omega
   ·exact h.oge e he
theorem wZ:∀{l:List (Int × Int)},(l.map (·.1)).Nodup->∀{aj who:Int},(aj,who)∈l->∀m,(((kF (λo=> decide (o.1=aj) && decide (o.2=who)) l).find? λo=> decide (o.1=m)).map (·.2)).getD (-1)=if m=aj then -1 else((l.find? λo=> decide (o.1=m)).map (·.2)).getD (-1)
 | [],_,aj,who,h,m=> by cases h
 | (k,v)::l,hn,aj,who,h,m=> by
  rw [zaA,zaW] at hn;simp only [kF];by_cases hk:k=aj
  ·subst hk;have hv:v=who:=by
    rcases zai.1 h with e | e
    ·cases e;rfl
    ·exact absurd (zaD.2 ⟨_,e,rfl⟩) hn.1
   subst hv;simp only [decide_true,zcn,if_true,List.find?_cons];by_cases hm:m=k
   ·subst hm;have:(l.find? λo=> decide (o.1=m))=none:=by
     rw [zbv];intro o ho;simp only [decide_eq_true_eq];intro e;exact hn.1 (zaD.2 ⟨o,ho,e⟩)
    rw [this];simp
   ·have:¬k=m:=λe=> hm e.symm;simp [hm,this]
  ·have h':(aj,who)∈l:=by
    rcases zai.1 h with e | e
    ·cases e;exact absurd rfl hk
    ·exact e
   simp only [hk,decide_false,zaF,zaj,if_false,List.find?_cons];by_cases hm:k=m
   ·subst hm;simp [hk]
   ·simp only [hm,decide_false];exact wZ hn.2 h' m
theorem sU {α:Type}(p:α->Bool):∀l:List α,(kF p l).Sublist l
 | []=> .slnil
 | x::l=> by
  simp only [kF];split
  ·exact List.sublist_cons_self x l
  ·exact(sU p l).cons_cons x
theorem Oc.release {t:Turns}{r:fM}(S:Oc t r)(h:DI t){aj who:Int}(hw:t.owner aj=who)(h0:0<=who):Oc (t.release aj who).1 (r.release aj who).1/\(t.release aj who).2=0/\DI (t.release aj who).1:=by
 have ha:jq t.gX aj=some who:=by
  unfold Turns.owner at hw;cases e:jq t.gX aj with
  | none=> rw [e] at hw;simp at hw;omega
  | some v=> rw [e] at hw;simp at hw;rw [hw]
 have hm:(aj,who)∈r.owner:=by
  have:=S.owner aj;rw [hw] at this;unfold fM.gJ at this;cases e:r.owner.find? λo=> decide (o.1=aj) with
  | none=> rw [e] at this;simp at this;omega
  | some o=>
   rw [e] at this;have h1:=zbH e;have h2:o.1=aj:=by simpa using zbM e
   simp at this;have:o=(aj,who):=by rw [Prod.ext_iff];exact⟨h2,this.symm⟩
   rw [<-this];exact h1
 have hany:(r.owner.any λo=> decide (o.1=aj) && decide (o.2=who))=true:=zcE.2 ⟨_,hm,by simp⟩;unfold Turns.release fM.release;rw [if_pos ha,if_pos hany];refine⟨⟨λm=> ?_,S.waits,(S.rok.sublist ((sU _ _).map _)),λo ho=> S.rge o ((sU _ _).subset ho)⟩,rfl,⟨?_,λe he=> h.oge e (DF he),h.wk,h.wge⟩⟩
 ·show(jq (yN t.gX aj) m).getD (-1)=_;rw [yT h.ok];show _=(((kF (λo=> decide (o.1=aj) && decide (o.2=who)) r.owner).find? λo=> decide (o.1=m)).map (·.2)).getD (-1);rw [wZ S.rok hm];by_cases hl:aj=m
  ·subst hl;simp
  ·rw [if_neg hl,if_neg λe=> hl e.symm];exact S.owner m
 ·show((yN t.gX aj).map (·.1)).Nodup;rw [yS];exact h.ok.erase _
theorem vY:∀(l:List (Int × Int × Int)) (aj m:Int),((kF (λw=> decide (w.1=aj)) l).filter λw=> decide (w.1=m))=if m=aj then(l.filter λw=> decide (w.1=m)).tail else l.filter λw=> decide (w.1=m)
 | [],aj,m=> by simp [kF]
 | w::l,aj,m=> by
  simp only [kF];by_cases hw:w.1=aj
  ·simp only [hw,decide_true,if_true,zby];by_cases hm:m=aj
   ·subst hm;simp
   ·have:¬aj=m:=λe=> hm e.symm;simp [hm,this]
  ·simp only [hw,decide_false,zaj,if_false,zby];by_cases hm:w.1=m
   ·have hml:¬m=aj:=λe=> hw (by rw [hm,e]);simp only [hm,decide_true,if_true,hml,if_false];rw [vY l aj m,if_neg hml]
   ·simp only [hm,decide_false,zaj,if_false];exact vY l aj m
theorem Oc.next {t:Turns}{r:fM}(S:Oc t r)(h:DI t)(aj:Int):Oc (t.next aj).1 (r.next aj).1/\(r.next aj).2=(t.next aj).2/\DI (t.next aj).1:=by
 unfold Turns.next fM.next
 by_cases ho:t.owned aj=true
 ·rw [if_pos ho,if_pos (by rw [<-S.owner];exact(h.owned aj).1 ho)];exact⟨S,rfl,h⟩
 ·have hr:r.gJ aj=-1:=by
   rw [<-S.owner];rcases Classical.em (t.owner aj=-1) with e | e
   ·exact e
   ·exact absurd ((h.owned aj).2 e) ho
  rw [if_neg ho,if_neg (by rw [hr];simp)];have hw:=S.waits aj;unfold fM.waits at hw;cases hf:r.wait.find? λw=> decide (w.1=aj) with
  | none=>
   have:(r.wait.filter λw=> decide (w.1=aj))=[]:=by
    rw [List.filter_eq_nil_iff];exact λw hw=> zbv.1 hf w hw
   rw [this] at hw;rw [hw];exact⟨S,rfl,h⟩
  | some w=>
   have hfil:(r.wait.filter λw=> decide (w.1=aj))=w::(r.wait.filter λw=> decide (w.1=aj)).tail:=by
    have h1:(r.wait.filter λw=> decide (w.1=aj)).head?=some w:=by rw [List.head?_filter];exact hf
    cases hl:r.wait.filter λw=> decide (w.1=aj) with
    | nil=> rw [hl] at h1;cases h1
    | cons a b=> rw [hl] at h1;cases h1;rfl
   rw [hfil,zaA] at hw;rw [hw];have hwl:w.1=aj:=by simpa using zbM hf
   have hmem:∃ws,jq t.wait aj=some ws/\ws=w.2::(r.wait.filter λw=> decide (w.1=aj)).tail.map (·.2):=by
    unfold Turns.ws at hw;cases e:jq t.wait aj with
    | none=> rw [e] at hw;cases hw
    | some ws=> rw [e] at hw;exact⟨ws,rfl,hw⟩
   obtain⟨ws,hws,hws2⟩:=hmem;have hge:∀x∈ws,0<=x.1:=h.wge _ (mF hws);have hw0:0<=w.2.1:=hge w.2 (by rw [hws2];simp);refine⟨⟨λm=> ?_,λm=> ?_,Gf S.rok (S.free hr),λo ho=> ?_⟩,rfl,⟨kR h.ok _ _,λe he=> ?_,kR h.wk _ _,λe he x hx=> ?_⟩⟩
   ·show(jq (qA t.gX aj w.2.1) m).getD (-1)=(((r.owner++[(aj,w.2.1)]).find? λo=> decide (o.1=m)).map (·.2)).getD (-1);rw [uT (S.free hr),fO];by_cases hl:aj=m
    ·subst hl;simp
    ·rw [if_neg hl,if_neg λe=> hl e.symm];exact S.owner m
   ·show(jq (qA t.wait aj _) m).getD []=((kF (λw=> decide (w.1=aj)) r.wait).filter λw=> decide (w.1=m)).map (·.2);rw [fO,vY];by_cases hl:aj=m
    ·subst hl;simp
    ·rw [if_neg hl,if_neg λe=> hl e.symm];exact S.waits m
   ·rcases zaO.1 ho with ho | ho
    ·exact S.rge o ho
    ·simp only [zaI] at ho;subst ho;exact hw0
   ·rcases kH he with rfl | he
    ·exact hw0
    ·exact h.oge e he
   ·rcases kH he with rfl | he
    ·exact hge x (by rw [hws2];exact zaZ _ hx)
    ·exact h.wge e he x hx
theorem sV {x y:Int}:∀{l:List Int},y∈kG x l↔y=x∨y∈l
 | []=> by simp [kG]
 | z::l=> by
  simp only [kG];split
  ·rw [zai,sV (l:=l),zai];constructor
   ·rintro(h | h | h) <;> simp [h]
   ·rintro(h | h | h) <;> simp [h]
  ·split
   ·rename_i h;subst h;simp
   ·simp
theorem sW {x:Int}:∀{l:List Int},l.Pairwise (· < ·)->(kG x l).Pairwise (· < ·)
 | [],_=> by simp [kG]
 | z::l,h=> by
  have h1:=za3.1 h;simp only [kG];split
  ·rename_i hlt;refine za3.2 ⟨λy hy=> ?_,sW h1.2⟩;rcases sV.1 hy with rfl | hy
   ·exact hlt
   ·exact h1.1 y hy
  ·split
   ·exact h
   ·refine za3.2 ⟨λy hy=> ?_,h⟩;rcases zai.1 hy with rfl | hy
    ·omega
    ·have:=h1.1 y hy;omega
theorem yU(t:fM):∀(l:List (Int × Int × Int)) (out:List Int),out.Pairwise (· < ·)->
  (l.foldl (λout w=> if t.gJ w.1≠-1 then out else kG w.1 out) out).Pairwise (· < ·)/\
  ∀x,x∈l.foldl (λout w=> if t.gJ w.1≠-1 then out else kG w.1 out) out↔x∈out∨(t.gJ x=-1/\∃w∈l,w.1=x)
 | [],out,h=> ⟨h,λx=> by simp⟩
 | w::l,out,h=> by
  rw [zcp];by_cases hw:t.gJ w.1≠-1
  ·rw [if_pos hw];obtain⟨h1,h2⟩:=yU t l out h;refine⟨h1,λx=> ?_⟩;rw [h2 x];constructor
   ·rintro(h | ⟨h,w',h',e⟩)
    ·exact .inl h
    ·exact .inr ⟨h,w',by simp [h'],e⟩
   ·rintro(h | ⟨h,w',h',e⟩)
    ·exact .inl h
    ·rcases zai.1 h' with e' | h'
     ·rw [<-e,e'] at h;exact absurd h hw
     ·exact .inr ⟨h,w',h',e⟩
  ·rw [if_neg hw];obtain⟨h1,h2⟩:=yU t l (kG w.1 out) (sW h);refine⟨h1,λx=> ?_⟩;rw [h2 x,sV];have hw:t.gJ w.1=-1:=by
    rcases Classical.em (t.gJ w.1=-1) with e | e
    ·exact e
    ·exact absurd e hw
   constructor
   ·rintro((h | h) | ⟨h,w',h',e⟩)
    ·exact .inr ⟨by rw [h];exact hw,w,by simp,h.symm⟩
    ·exact .inl h
    ·exact .inr ⟨h,w',by simp [h'],e⟩
   ·rintro(h | ⟨h,w',h',e⟩)
    ·exact .inl (.inr h)
    ·rcases zai.1 h' with e' | h'
     ·exact .inl (.inl (by rw [<-e,e']))
     ·exact .inr ⟨h,w',h',e⟩
theorem SS {l l':List Int}(h:l.Pairwise (· < ·))(h':l'.Pairwise (· < ·))(hm:∀x,x∈l↔x∈l'):l=l':=by
 have n1:l.Nodup:=h.imp λh=> by omega
 have n2:l'.Nodup:=h'.imp λh=> by omega
 exact((List.perm_ext_iff_of_nodup n1 n2).2 hm).eq_of_pairwise (λa b _ _ h1 h2=> by omega) h h'
theorem afT {l:List Int}(h:l.Nodup):(srt [] l).Pairwise (· < ·)/\∀x,x∈srt [] l↔x∈l:=by
 obtain⟨h1,h2⟩:=wY l [] List.Pairwise.nil;rw [zaS] at h1;have n:(srt [] l).Nodup:=h1.nodup_iff.2 h;exact⟨h2.imp₂ (λa b h1 h2=> by omega) n,λx=> h1.mem_iff⟩
theorem Oc.ready {t:Turns}{r:fM}(S:Oc t r)(h:DI t):r.ready=t.ready (srt [] (t.wait.map (·.1))):=by
 obtain⟨r1,r2⟩:=yU r r.wait [] List.Pairwise.nil;obtain⟨k1,k2⟩:=afT h.wk;refine SS r1 (k1.filter _) λx=> ?_;show x∈r.wait.foldl (λout w=> if r.gJ w.1≠-1 then out else kG w.1 out) []↔x∈(srt [] (t.wait.map (·.1))).filter λaj=> !t.owned aj && !(t.ws aj).isEmpty;rw [r2 x,za6,k2];have ho:t.owned x=false↔r.gJ x=-1:=by
  rw [<-S.owner];have:=h.owned x;cases hx:t.owned x
  ·simp only [hx,zaj,false_iff,ne_eq,Decidable.not_not] at this;simp [this]
  ·simp only [hx,true_iff] at this;simp [this]
 have hw:(t.ws x).isEmpty=false↔∃w∈r.wait,w.1=x:=by
  rw [S.waits];unfold fM.waits;constructor
  ·intro hh;cases hf:r.wait.filter λw=> decide (w.1=x) with
   | nil=> rw [hf] at hh;cases hh
   | cons a l=>
    have:a∈r.wait.filter λw=> decide (w.1=x):=by rw [hf];simp
    rw [za6] at this;exact⟨a,this.1,by simpa using this.2⟩
  ·rintro⟨w,h1,h2⟩;have:w∈r.wait.filter λw=> decide (w.1=x):=za6.2 ⟨h1,by simp [h2]⟩;cases hf:r.wait.filter λw=> decide (w.1=x) with
   | nil=> rw [hf] at this;cases this
   | cons a l=> rfl
 simp only [zaK,false_or,zae,za9];constructor
 ·rintro⟨h1,h2⟩;refine⟨?_,ho.2 h1,hw.2 h2⟩;have:=hw.2 h2;unfold Turns.ws at this;cases ha:jq t.wait x with
  | none=> rw [ha] at this;cases this
  | some v=> exact zaD.2 ⟨_,mF ha,rfl⟩
 ·rintro⟨_,h1,h2⟩;exact⟨ho.1 h1,hw.1 h2⟩
structure IB(c:Cfg)(me:Int)(h:Home)(r:fF):Prop where
 dF:∀aj,jS c me aj=true->∃row,jq h.dF aj=some row/\r.dF[aj.toNat]?=some row
 none:∀aj,jS c me aj=false->jq h.dF aj=none
 aT:Oc h.aT r.aT
structure Uj(c:Cfg)(me:Int)(h:Home):Prop where
 aT:DI h.aT
 here:∀e∈h.aT.wait,jS c me e.1=true
theorem IB.row {c:Cfg}{me:Int}{h:Home}{r:fF}(S:IB c me h r){aj:Int}(hl:jS c me aj=true):r.row aj=jg h.dF aj:=by
 obtain⟨row,h1,h2⟩:=S.dF aj hl;unfold fF.row jg;rw [h1,zaq,h2];first | done | rfl
theorem IB.granted {c:Cfg}{me:Int}{h:Home}{r:fF}(S:IB c me h r){aj:Int}(hl:jS c me aj=true)(who id:Int):r.granted me aj who id=Proofs.YtgplhpgkompkmaaGreat.granted h.dF me aj who id:=by
 unfold fF.granted Proofs.YtgplhpgkompkmaaGreat.granted;rw [S.row hl]
theorem IB.DJ {c:Cfg}{me:Int}{h:Home}{r:fF}(S:IB c me h r){t:Turns}{rt:fM}(T:Oc t rt):IB c me { h with aT:=t } { r with aT:=rt }:=⟨S.dF,S.none,T⟩
theorem Qs {t:Turns}{aj who id:Int}{e:Int × List (Int × Int)}(h:e∈(t.ask aj who id).1.wait):e.1=aj∨e∈t.wait:=by
 unfold Turns.ask at h;split at h
 ·exact .inr h
 ·split at h
  ·rcases kH h with rfl | h
   ·exact .inl rfl
   ·exact .inr h
  ·exact .inr h
theorem zS {t:Turns}{aj who:Int}:(t.release aj who).1.wait=t.wait:=by
 unfold Turns.release;split <;> rfl
theorem KU {t:Turns}{aj:Int}{e:Int × List (Int × Int)}(h:e∈(t.next aj).1.wait):e∈t.wait∨(e.1=aj/\t.ws aj≠[]):=by
 unfold Turns.next at h
 split at h
 ·exact .inl h
 ·split at h
  ·exact .inl h
  ·rename_i w ws hw;rcases kH h with rfl | h
   ·exact .inr ⟨rfl,by rw [hw];simp⟩
   ·exact .inl h
theorem xg {c:Cfg}(hc:c.ok=true){me aj:Int}(h0:0<=aj):(c.aQ aj≠me∨c.aG<=aj)↔jS c me aj=false:=by
 have he:c.aQ aj=aj % c.au:=by unfold Cfg.aQ sO;rw [if_neg (by omega)]
 unfold jS;rw [he];constructor
 ·rintro(h | h)
  ·simp [h]
  ·have:¬aj < c.aG:=by omega
   simp [this]
 ·intro h;simp only [zcZ,decide_eq_false_iff_not] at h;rcases h with(h | h) | h
  ·omega
  ·right;omega
  ·exact .inl h
theorem IB.set {c:Cfg}{me:Int}{h:Home}{r:fF}(S:IB c me h r)(aj aW head:Int)(data:List Int):
  (r.oM c me aj aW head data).2=(rG c h.dF aj aW head data).2/\IB c me { h with dF:=(rG c h.dF aj aW head data).1 } (r.oM c me aj aW head data).1/\(r.oM c me aj aW head data).1.aT=r.aT:=by
 unfold fF.oM rG;by_cases hh:jS c me aj=true
 ·obtain⟨row,h1,h2⟩:=S.dF aj hh;rw [if_neg (by rw [hh];simp),h1];simp only;by_cases hA:aW < 0∨2 < aW∨head < -1∨c.au<=head
  ·rw [if_pos (by rcases hA with h | h | h | h <;> simp [h]),if_pos hA];exact⟨rfl,S,rfl⟩
  ·rw [if_neg hA];have hB:(aW < 0∨2 < aW∨head < -1∨c.au<=head∨¬(aW=0↔head=-1)∨(data≠[]/\(data.length:Int)≠c.aH))↔((decide (head=-1) !=decide (aW=0)) || (decide (data≠[]) && decide ((data.length:Int)≠c.aH)))=true:=by
    simp only [not_or] at hA;simp only [hA.1,hA.2.1,hA.2.2.1,hA.2.2.2,false_or,zbc,zae,decide_eq_true_eq,bne_iff_ne,ne_eq,decide_eq_decide];constructor
    ·rintro(h | h)
     ·exact .inl λe=> h e.symm
     ·exact .inr h
    ·rintro(h | h)
     ·exact .inl λe=> h e.symm
     ·exact .inr h
   by_cases hC:((decide (head=-1) !=decide (aW=0)) || (decide (data≠[]) && decide ((data.length:Int)≠c.aH)))=true
   ·rw [if_pos (hB.2 hC),if_pos hC];exact⟨rfl,S,rfl⟩
   ·rw [if_neg λe=> hC (hB.1 e),if_neg hC];refine⟨rfl,⟨λm hm=> ?_,λm hm=> ?_,S.aT⟩,rfl⟩
    ·obtain⟨row',k1,k2⟩:=S.dF m hm;have h0:0<=aj:=by simp only [jS,zae,decide_eq_true_eq] at hh;exact hh.1.1
     have hm0:0<=m:=by simp only [jS,zae,decide_eq_true_eq] at hm;exact hm.1.1
     simp only;rw [fO];by_cases hl:aj=m
     ·subst hl;rw [if_pos rfl];refine⟨_,rfl,?_⟩;have hlt:=(zah.1 h2).1;rw [zba hlt];have:r.row aj=row:=by unfold fF.row;rw [zaq,h2];rfl
      rw [this]
     ·rw [if_neg hl,zbg (by omega)];exact⟨row',k1,k2⟩
    ·simp only;rw [fO,if_neg λe=> by subst e;rw [hh] at hm;cases hm];exact S.none m hm
 ·have hh:jS c me aj=false:=by simpa using hh
  rw [if_pos hh,S.none aj hh];exact⟨rfl,S,rfl⟩
theorem IB.handle {c:Cfg}(hc:c.ok=true){me:Int}{h:Home}{r:fF}(S:IB c me h r)(I:Uj c me h)(p:Pkt):
  IB c me (h.handle c me p).1 (r.handle c me p).1/\(r.handle c me p).2=(h.handle c me p).2/\Uj c me (h.handle c me p).1:=by
 unfold Home.handle fF.handle;by_cases h1:p.ok=false∨p.dst≠me∨c.au<=p.src∨(p.aS≠1/\p.aS≠2)
 ·rw [if_pos h1,if_pos (by
   rcases h1 with h | h | h | h
   ·simp [h]
   ·simp [h]
   ·have:¬p.src < c.au:=by omega
    simp [this]
   ·simp [h])]
  exact⟨S,rfl,I⟩
 rw [if_neg h1,if_neg (by
  simp only [not_or] at h1;obtain⟨a1,a2,a3,a4⟩:=h1;have a5:p.src < c.au:=by omega
  have a1:p.ok=true:=by simpa using a1
  simp only [ne_eq,Decidable.not_not] at a2;simp only [a1,a2,a5,decide_true,zcn,zar,zbK,zae,decide_eq_true_eq];exact a4)]
 simp only [not_or] at h1;have hok:p.ok=true:=by simpa using h1.1
 have hl0:0<=p.aj:=by
  simp only [Pkt.ok,zae,decide_eq_true_eq] at hok;omega
 have hs0:0<=p.src:=by
  simp only [Pkt.ok,zae,decide_eq_true_eq] at hok;omega
 by_cases hh:jS c me p.aj=false
 ·rw [if_pos hh,if_pos ((xg hc hl0).2 hh)];exact⟨S,rfl,I⟩
 rw [if_neg hh,if_neg λe=> hh ((xg hc hl0).1 e)];have hh:jS c me p.aj=true:=by simpa using hh
 by_cases hk:p.aS=1
 ·rw [if_pos hk,if_pos hk];obtain⟨t1,t2,t3⟩:=S.aT.ask I.aT p.aj p.src p.id;have IC:∀e∈(h.aT.ask p.aj p.src p.id).1.wait,jS c me e.1=true:=λe he=> by
   rcases Qs he with h | h
   ·rw [h];exact hh
   ·exact I.here e h
  simp only [t2];split
  ·exact⟨S.DJ t1,by simp only;rw [S.granted hh],⟨t3,IC⟩⟩
  ·exact⟨S.DJ t1,rfl,⟨t3,IC⟩⟩
 rw [if_neg hk,if_neg hk];unfold Home.unlock;generalize (if p.flag=true then p.data else [])=dat;by_cases ho:h.aT.owner p.aj≠p.src
 ·simp only [if_pos ho,if_pos (show r.aT.gJ p.aj≠p.src by rw [<-S.aT.owner];exact ho)];exact⟨S,rfl,I⟩
 ·simp only [if_neg ho,if_neg (show¬r.aT.gJ p.aj≠p.src by rw [<-S.aT.owner];exact ho)];have ho:h.aT.owner p.aj=p.src:=by simpa using ho
  obtain⟨s1,s2,s3⟩:=S.set p.aj p.aW p.ptr dat;obtain⟨r1,r2,r3⟩:=S.aT.release I.aT ho hs0;have rw_:(h.aT.release p.aj p.src).1.wait=h.aT.wait:=zS;rw [s1];by_cases he:(rG c h.dF p.aj p.aW p.ptr dat).2=0
  ·simp only [if_pos he,r2,if_true];refine⟨⟨s2.dF,s2.none,?_⟩,by first | trivial | rfl,⟨r3,by rw [rw_];exact I.here⟩⟩;simp only;rw [s3];exact r1
  ·simp only [if_neg he];exact⟨S,by first | trivial | rfl,I⟩
theorem IB.ready {c:Cfg}{me:Int}{h:Home}{r:fF}(S:IB c me h r)(I:Uj c me h):r.aT.ready=h.ready:=S.aT.ready I.aT
theorem xk {h:Home}{aj:Int}{l:List Int}(hr:h.ready=aj::l):h.aT.owned aj=false/\h.aT.ws aj≠[]/\aj∈h.aT.wait.map (·.1):=by
 have:aj∈h.ready:=by rw [hr];simp
 unfold Home.ready Turns.ready at this;rw [za6] at this;obtain⟨h1,h2⟩:=this;simp only [zae,za9] at h2;refine⟨h2.1,λe=> by rw [e] at h2;exact absurd h2.2 (by simp),?_⟩;have:=(wY (h.aT.wait.map (·.1)) [] List.Pairwise.nil).1;rw [zaS] at this;exact this.mem_iff.1 h1
theorem IB.grant {c:Cfg}{me:Int}{h:Home}{r:fF}(S:IB c me h r)(I:Uj c me h):
  IB c me (h.grant me).1 (r.grant me).1/\(r.grant me).2.1=(h.grant me).2.1/\Uj c me (h.grant me).1:=by
 unfold Home.grant fF.grant;rw [S.ready I];cases hr:h.ready with
 | nil=> exact⟨S,rfl,I⟩
 | cons aj l=>
  obtain⟨m1,m2,m3⟩:=xk hr;obtain⟨t1,t2,t3⟩:=S.aT.next I.aT aj
  have hh:jS c me aj=true:=by
   obtain⟨e,he,rfl⟩:=zaD.1 m3;exact I.here e he
  have IC:∀e∈(h.aT.next aj).1.wait,jS c me e.1=true:=λe he=> by
   rcases KU he with h | h
   ·exact I.here e h
   ·rw [h.1];exact hh
  obtain⟨w,hw⟩:∃w,(h.aT.next aj).2=some w:=by
   unfold Turns.next
   rw [if_neg (by rw [m1];simp)];cases hws:h.aT.ws aj with
   | nil=> exact absurd hws m2
   | cons w ws=> exact⟨w,rfl⟩
  simp only;cases ha:h.aT.next aj with
  | mk t o=>
   cases hb:r.aT.next aj with
   | mk rt ro=>
    rw [ha,hb] at t1 t2;rw [ha] at t3 IC hw;simp only at t1 t2 t3 IC hw;subst t2;subst hw;simp only [zax];exact⟨S.DJ t1,S.granted hh _ _,⟨t3,IC⟩⟩
def zT(d:dL)(dG:Int)(c:Cache)(p:Pkt):Nxt:=
 if d.aS=1 then iI d dG c p else if d.aS=2 then jy d dG c p else if d.aS=3 then kE d c p else vP c
def I64(z:Int):Prop:=-9223372036854775808<=z/\z<=9223372036854775807
theorem afU(z:Int):I64 (w64 z):=by
 show -9223372036854775808<=IntKind.wrap .i64 z/\IntKind.wrap .i64 z<=9223372036854775807;simp only [IntKind.wrap,IntKind.bits,IntKind.signed];simp;split <;> constructor <;> omega
def mY(c:Cfg)(d:List Int):Prop:=(d.length:Int)=c.aH/\∀v∈d,I64 v
structure yV(c:Cfg)(p:Pkt):Prop where
 ok:p.ok=true
 dat:p.aS=7∨p.aS=9->mY c p.data
 num:∀v∈p.data,I64 v
structure Gg(c:Cfg)(p:Port):Prop where
 rq:(p.rq.length:Int)<=c.out
 an:(p.an.length:Int)<=c.out
 rin:(p.rin.length:Int)<=c.inn
 ain:(p.ain.length:Int)<=1
 pkt:∀q,q∈p.rq∨q∈p.an∨q∈p.rin∨q∈p.ain->yV c q
structure Gh(c:Cfg)(f:Fab):Prop where
 out:f.out=c.out
 inn:f.inn=c.inn
 len:(f.l.length:Int)=c.au
 port:∀p∈f.l,Gg c p
theorem jY {c:Cfg}(h:c.ok=true):(1<=c.au/\c.au<=6)/\(1<=c.aG/\c.aG<=8)/\(1<=c.aH/\c.aH<=4)/\(1<=c.sets/\c.sets<=4)/\(1<=c.ways/\c.ways<=3)/\(1<=c.out/\c.out<=8)/\(1<=c.inn/\c.inn<=8):=by
 unfold Cfg.ok at h;simp only [zae,decide_eq_true_eq] at h;omega
theorem Gh.get {c:Cfg}{f:Fab}(F:Gh c f){i:Int}(h:f.is i=true):Gg c (f.port i):=by
 unfold Fab.is at h;simp only [zae,decide_eq_true_eq] at h;have hi:i.toNat < f.l.length:=by omega
 unfold Fab.port;rw [zaq,zab hi,zax];exact F.port _ (zcU hi)
theorem Gh.put {c:Cfg}{f:Fab}(F:Gh c f)(i:Int){p:Port}(h:Gg c p):Gh c (f.put i p):=by
 refine⟨F.out,F.inn,by simp only [Fab.put,zbX];exact F.len,λq hq=> ?_⟩;simp only [Fab.put] at hq;rcases zbG hq with hq | hq
 ·exact F.port q hq
 ·rw [hq];exact h
theorem Gh.send {c:Cfg}{f:Fab}(F:Gh c f){p:Pkt}(hp:p.ok=true->yV c p):Gh c (f.send p).1:=by
 unfold Fab.send;split
 ·exact F
 ·rename_i h;simp only [zbc,za9,not_or,zce] at h;obtain⟨⟨h1,h2⟩,h3⟩:=h;have P:=F.get h2;have Q:=hp h1;split
  ·exact F
  ·rename_i hr;refine F.put _ ?_;rw [F.out] at hr;cases hk:wQ p.aS with
   | true=>
    rw [hk] at hr;simp only [Port.sort,if_true] at hr;refine⟨?_,P.an,P.rin,P.ain,λq hq=> ?_⟩
    ·simp only [Port.lF,Port.sort,if_true,zal,zam,zak];omega
    ·simp only [Port.lF,Port.sort,if_true,zaO,zaI] at hq;rcases hq with(hq | hq) | hq
     ·exact P.pkt q (.inl hq)
     ·rw [hq];exact Q
     ·exact P.pkt q (.inr hq)
   | false=>
    rw [hk] at hr;simp only [Port.sort,zaj,if_false] at hr;refine⟨P.rq,?_,P.rin,P.ain,λq hq=> ?_⟩
    ·simp only [Port.lF,Port.sort,zaj,if_false,zal,zam,zak];omega
    ·simp only [Port.lF,Port.sort,zaj,if_false,zaO,zaI] at hq;rcases hq with hq | (hq | hq) | hq
     ·exact P.pkt q (.inl hq)
     ·exact P.pkt q (.inr (.inl hq))
     ·rw [hq];exact Q
     ·exact P.pkt q (.inr (.inr hq))
theorem Gh.take {c:Cfg}{f:Fab}(F:Gh c f)(i:Int)(req:Bool):Gh c (f.take i req).1/\∀p,(f.take i req).2=some p->yV c p:=by
 unfold Fab.take;split
 ·rename_i h;have P:=F.get h;cases hl:(f.port i).YK req with
  | nil=> exact⟨F,λp hp=> by cases hp⟩
  | cons p l=>
   simp only;cases req with
   | true=>
    simp only [Port.YK,if_true] at hl;have h1:=P.rin;rw [hl] at h1;simp only [zam] at h1;refine⟨F.put _ ⟨P.rq,P.an,?_,P.ain,λq hq=> ?_⟩,λp' hp=> ?_⟩
    ·simp only [Port.yO,if_true];omega
    ·simp only [Port.yO,if_true] at hq;rcases hq with hq | hq | hq | hq
     ·exact P.pkt q (.inl hq)
     ·exact P.pkt q (.inr (.inl hq))
     ·exact P.pkt q (.inr (.inr (.inl (by rw [hl];simp [hq]))))
     ·exact P.pkt q (.inr (.inr (.inr hq)))
    ·cases hp;exact P.pkt _ (.inr (.inr (.inl (by rw [hl];simp))))
   | false=>
    simp only [Port.YK,zaj,if_false] at hl;have h1:=P.ain;rw [hl] at h1;simp only [zam] at h1;refine⟨F.put _ ⟨P.rq,P.an,P.rin,?_,λq hq=> ?_⟩,λp' hp=> ?_⟩
    ·simp only [Port.yO,zaj,if_false];omega
    ·simp only [Port.yO,zaj,if_false] at hq;rcases hq with hq | hq | hq | hq
     ·exact P.pkt q (.inl hq)
     ·exact P.pkt q (.inr (.inl hq))
     ·exact P.pkt q (.inr (.inr (.inl hq)))
     ·exact P.pkt q (.inr (.inr (.inr (by rw [hl];simp [hq]))))
    ·cases hp;exact P.pkt _ (.inr (.inr (.inr (by rw [hl];simp))))
 ·exact⟨F,λp hp=> by cases hp⟩
theorem Gh.room {c:Cfg}{f:Fab}(F:Gh c f)(i:Int)(req:Bool):0<=f.roomOf i req:=by
 unfold Fab.roomOf;split
 ·rename_i h;have P:=F.get h;have h1:=P.rq;have h2:=P.an;rw [F.out];cases req <;> simp only [Port.sort,if_true,zaj,if_false] <;> omega
 ·exact zbe _
theorem xq {α:Type}{l:List α}{i:Nat}{a:α}(h:a∈l.eraseIdx i):a∈l:=(zcA l i).subset h
theorem Gg.drop {c:Cfg}{p:Port}(P:Gg c p)(req:Bool)(k:Nat):Gg c (p.drop req k):=by
 have hl:∀(l:List Pkt),((l.eraseIdx k).length:Int)<=l.length:=λl=> by
  have:=(zcA l k).length_le;omega
 cases req with
 | true=>
  refine⟨?_,P.an,P.rin,P.ain,λq hq=> ?_⟩
  ·have:=hl p.rq;have:=P.rq;simp only [Port.drop,Port.lF,Port.sort,if_true];omega
  ·simp only [Port.drop,Port.lF,Port.sort,if_true] at hq;rcases hq with hq | hq
   ·exact P.pkt q (.inl (xq hq))
   ·exact P.pkt q (.inr hq)
 | false=>
  refine⟨P.rq,?_,P.rin,P.ain,λq hq=> ?_⟩
  ·have:=hl p.an;have:=P.an;simp only [Port.drop,Port.lF,Port.sort,zaj,if_false];omega
  ·simp only [Port.drop,Port.lF,Port.sort,zaj,if_false] at hq;rcases hq with hq | hq | hq
   ·exact P.pkt q (.inl hq)
   ·exact P.pkt q (.inr (.inl (xq hq)))
   ·exact P.pkt q (.inr (.inr hq))
structure ajf(c:Cfg)(k:Int)(e:Ent):Prop where
 lo:0<=e.aj
 hi:e.aj < c.aG
 used:e.used<=k
 u0:0<=e.used
 dat:mY c e.data
structure DK(c:Cfg)(ca:Cache):Prop where
 sets:ca.sets=c.sets
 ways:ca.ways=c.ways
 aG:Lines ca.l
 YN:DC ca.l
 ent:∀e∈ca.l,ajf c ca.dH e
 room:∀aj,((ca.oM aj).length:Int)<=ca.ways
 aeC:0<=ca.dH
structure afV(c:Cfg)(n:Node):Prop where
 eG:n.bW.eG=true
 op:∃o,n.bW.cur=some o/\c.bn o.addr=n.aF.aj/\(n.aF.aS=1->o.aS=1)/\(n.aF.aS=2->o.aS=2∨o.aS=3)
 full:n.aC.full n.aF.aj=false
structure aaS(c:Cfg)(n:Node):Prop where
 lo:0<=n.aF.aj
 hi:n.aF.aj < c.aG
 aS:1<=n.aF.aS/\n.aF.aS<=3
 dat:n.aF.data=[]∨mY c n.aF.data
 ac3:n.aF.aS=2->n.aF.step=3->mY c n.aF.data
 roll:n.aF.aS=3->n.bW.eG=true
 work:n.aF.aS≠3->n.aF.step≠6->afV c n
 rest:n.aF.aS≠3->n.aF.step=6->n.bW.eG=false
structure ajg(c:Cfg)(p:Proc):Prop where
 most:p.ops.length<=24
 right:∀o∈p.ops,c.right o=true/\I64 o.value
 vals:p.bf.length<=p.ops.length
 eG:p.eG=true->p.bf.length < p.ops.length
structure aaT(c:Cfg)(me:Int)(n:Node):Prop where
 bW:ajg c n.bW
 aC:DK c n.aC
 dF:∀e∈n.home.dF,mY c e.2.data
 home:Uj c me n.home
 aF:n.aF.step≠0->aaS c n
 clk:n.aC.dH<=n.bW.bf.length
theorem VD {l:List Ent}{f:Ent->Ent}(h:DC l)(hf:∀x∈l,(f x).used=x.used):DC (l.map f):=by
 unfold DC;rw [zb0];exact h.imp_of_mem λha hb hab=> by rw [hf _ ha,hf _ hb];exact hab
theorem xu {l:List Ent}{f:Ent->Ent}(h:Lines l)(hf:∀x∈l,(f x).aj=x.aj):Lines (l.map f):=by
 unfold Lines;rw [zb0];exact h.imp_of_mem λha hb hab=> by rw [hf _ ha,hf _ hb];exact hab
theorem xw(ca:Cache)(aj:Int){q:Ent->Bool}:(({ ca with l:=ca.l.filter q }:Cache).oM aj).length<=(ca.oM aj).length:=by
 unfold Cache.oM;rw [zdf];have:(ca.l.filter λe=> (decide (0<=aj) && decide (e.aj.tmod ca.sets=aj.tmod ca.sets)) && q e)=((ca.l.filter λe=> decide (0<=aj) && decide (e.aj.tmod ca.sets=aj.tmod ca.sets))).filter q:=by
  rw [zdf]
  apply zcR
  intro x _;rw [Bool.and_comm]
 rw [this];exact zc0 _ _
theorem DL(ca:Cache)(aj k:Int){f:Ent->Ent}(hf:∀x∈ca.l,(f x).aj=x.aj):(({ ca with l:=ca.l.map f,dH:=k }:Cache).oM aj).length=(ca.oM aj).length:=by
 unfold Cache.oM;rw [List.filter_map,zay]
 congr 1
 apply zcR
 intro y hy;simp only [Function.comp,hf y hy]
theorem DK.put {c:Cfg}{ca:Cache}(I:DK c ca){e:Ent}(h0:0<=e.aj)(h1:e.aj < c.aG)(hd:mY c e.data):DK c (ca.put e).1:=by
 cases hf:ca.find e.aj with
 | some x=>
  obtain⟨hx,hxl⟩:=(fQ I.aG).1 hf;rw [jX I.aG h0 hf];refine⟨I.sets,I.ways,xu I.aG λy _=> ?_,VD I.YN λy hy=> ?_,λy hy=> ?_,λaj=> ?_,I.aeC⟩
  ·split
   ·rename_i h;exact h.symm
   ·rfl
  ·split
   ·rename_i h;rw [I.aG.inj hy hx (by rw [h,hxl])]
   ·rfl
  ·obtain⟨z,hz,rfl⟩:=zaD.1 hy;split
   ·exact⟨h0,h1,(I.ent x hx).used,(I.ent x hx).u0,hd⟩
   ·exact I.ent z hz
  ·have:=DL ca aj ca.dH (f:=λy=> if y.aj=e.aj then { e with used:=x.used } else y) (λy _=> by
    split
    ·rename_i h;exact h.symm
    ·rfl)
   have h2:=I.room aj;rw [<-this] at h2;exact h2
 | none=>
  unfold Cache.put;rw [if_neg (by omega),vW.2 hf];simp only;split
  ·exact I
  ·rename_i hfull;have hn:=qm.1 (show(ca.l.find? λx=> decide (x.aj=e.aj))=none from hf);refine⟨I.sets,I.ways,?_,?_,λy hy=> ?_,λaj=> ?_,by have:=I.aeC;simp only;omega⟩
   ·unfold Lines;rw [List.pairwise_append];exact⟨I.aG,by simp,λa ha b hb=> by rw [zaI.1 hb];exact hn a ha⟩
   ·unfold DC;rw [List.pairwise_append];refine⟨I.YN,by simp,λa ha b hb=> ?_⟩;rw [zaI.1 hb];have:=(I.ent a ha).used;simp only;omega
   ·rcases zaO.1 hy with hy | hy
    ·have:=I.ent y hy;exact⟨this.lo,this.hi,by have:=this.used;simp only;omega,this.u0,this.dat⟩
    ·rw [zaI.1 hy];exact⟨h0,h1,by simp only;omega,by have:=I.aeC;simp only;omega,hd⟩
   ·simp only [Cache.full,hf,zcL,zaG,decide_eq_true_eq] at hfull;have hr:=I.room aj;unfold Cache.oM at hfull hr ⊢;simp only [zcs,zal];by_cases hs:(decide (0<=aj) && decide (e.aj.tmod ca.sets=aj.tmod ca.sets))=true
    ·simp only [zae,decide_eq_true_eq] at hs;have:(ca.l.filter λx=> decide (0<=aj) && decide (x.aj.tmod ca.sets=aj.tmod ca.sets))=ca.l.filter λx=> decide (0<=e.aj) && decide (x.aj.tmod ca.sets=e.aj.tmod ca.sets):=by
      apply zcR
      intro x _;rw [hs.2];simp [hs.1,h0]
     rw [this];have h1:(([({ e with used:=ca.dH+1 }:Ent)].filter λx=> decide (0<=aj) && decide (x.aj.tmod ca.sets=aj.tmod ca.sets)).length)<=1:=zc0 _ _;omega
    ·have:([({ e with used:=ca.dH+1 }:Ent)].filter λx=> decide (0<=aj) && decide (x.aj.tmod ca.sets=aj.tmod ca.sets))=[]:=by
      simp only [zby,List.filter_nil];rw [if_neg hs]
     rw [this];simp only [zak,zbU];exact hr
theorem DK.drop {c:Cfg}{ca:Cache}(I:DK c ca)(line':Int):DK c (ca.drop line'):=by
 rw [Dy I.aG];refine⟨I.sets,I.ways,I.aG.filter _,I.YN.filter _,λe he=> I.ent e (za6.1 he).1,λaj=> ?_,I.aeC⟩;have:=I.room aj;have h2:(({ ca with l:=ca.l.filter λx=> decide (x.aj≠line') }:Cache).oM aj).length<=(ca.oM aj).length:=xw _ _;simp only at h2 ⊢;omega
theorem DK.touch {c:Cfg}{ca:Cache}(I:DK c ca){aj:Int}{e:Ent}(h:ca.find aj=some e):DK c (ca.touch aj):=by
 obtain⟨he,hl⟩:=(fQ I.aG).1 h;rw [uh I.aG h];refine⟨I.sets,I.ways,xu I.aG λy _=> ?_,?_,λy hy=> ?_,λline'=> ?_,by have:=I.aeC;simp only;omega⟩
 ·split
  ·rename_i h;rw [h];exact hl
  ·rfl
 ·unfold DC;rw [zb0];refine(I.aG.and I.YN).imp_of_mem λ{a b} ha hb hab=> ?_;have ua:=(I.ent a ha).used;have ub:=(I.ent b hb).used;split <;> split
  ·rename_i h1 h2;exact absurd (by rw [h1,h2]) hab.1
  ·simp only;omega
  ·simp only;omega
  ·exact hab.2
 ·obtain⟨z,hz,rfl⟩:=zaD.1 hy;split
  ·have:=I.ent e he;exact⟨this.lo,this.hi,by simp only;omega,by have:=I.aeC;simp only;omega,this.dat⟩
  ·have:=I.ent z hz;exact⟨this.lo,this.hi,by have:=this.used;simp only;omega,this.u0,this.dat⟩
 ·have:=DL ca line' (ca.dH+1) (f:=λx=> if x.aj=aj then { e with used:=ca.dH+1 } else x) (λy _=> by
   split
   ·rename_i h;rw [h];exact hl
   ·rfl)
  have h2:=I.room line';rw [<-this] at h2;exact h2
theorem YO {ca:Cache}(hl:Lines ca.l){e x:Ent}(h0:0<=e.aj)(hf:ca.find e.aj=some x)(aj:Int):(ca.put e).1.full aj=ca.full aj:=by
 obtain⟨hx,hxl⟩:=(fQ hl).1 hf;rw [jX hl h0 hf];have hm:∀y∈ca.l,(if y.aj=e.aj then { e with used:=x.used } else y).aj=y.aj:=λy _=> by
  split
  ·rename_i h;exact h.symm
  ·rfl
 have h1:({ ca with l:=ca.l.map λy=> if y.aj=e.aj then { e with used:=x.used } else y }:Cache).find aj=none↔ca.find aj=none:=by
  unfold Cache.find;rw [qm,qm];constructor
  ·intro h y hy;have:=h _ (zaD.2 ⟨y,hy,rfl⟩)
   rwa [hm y hy] at this
  ·intro h y hy;obtain⟨z,hz,rfl⟩:=zaD.1 hy;rw [hm z hz];exact h z hz
 have h2:(({ ca with l:=ca.l.map λy=> if y.aj=e.aj then { e with used:=x.used } else y }:Cache).oM aj).length=(ca.oM aj).length:=by
  unfold Cache.oM;rw [List.filter_map,zay]
  congr 1
  apply zcR
  intro y hy;simp only [Function.comp,hm y hy]
 unfold Cache.full;rw [h2]
 congr 1
 cases ha:ca.find aj with
 | none=> rw [h1.2 ha]
 | some u=>
  cases hb:({ ca with l:=ca.l.map λy=> if y.aj=e.aj then { e with used:=x.used } else y }:Cache).find aj with
  | none=> rw [h1.1 hb] at ha;cases ha
  | some v=> rfl
theorem xB {α:Type}{p q:α->Bool}:∀{l:List α},(∀x∈l,q x=true->p x=true)->∀{a:α},a∈l->p a=true->q a=false->(l.filter q).length < (l.filter p).length
 | [],_,a,h,_,_=> by cases h
 | x::l,hs,a,h,hp,hq=> by
  have hle:∀{l:List α},(∀x∈l,q x=true->p x=true)->(l.filter q).length<=(l.filter p).length:=by
   intro l hs
   induction l with
   | nil=> simp
   | cons y l ih=>
    have:=ih λz hz=> hs z (by simp [hz]);simp only [zby];cases h1:q y
    ·simp only [zaj,if_false];split
     ·simp only [zam];omega
     ·exact this
    ·rw [hs y (by simp) h1];simp only [if_true,zam];omega
  simp only [zby];rcases zai.1 h with e | h
  ·subst e;rw [hp,hq];simp only [if_true,zaj,if_false,zam];have:=hle λz hz=> hs z (zaZ _ hz);omega
  ·have ih:=xB (λz hz=> hs z (zaZ _ hz)) h hp hq;cases h1:q x
   ·simp only [zaj,if_false];split
    ·simp only [zam];omega
    ·exact ih
   ·rw [hs x (by simp) h1];simp only [if_true,zam];omega
theorem VE {c:Cfg}(hc:c.ok=true){ca:Cache}(I:DK c ca){l' aj:Int}(h:ca.full aj=false):(ca.drop l').full aj=false:=by
 rw [Dy I.aG];unfold Cache.full at h ⊢;have hle:(({ ca with l:=ca.l.filter λx=> decide (x.aj≠l') }:Cache).oM aj).length<=(ca.oM aj).length:=xw _ _;cases hn:ca.find aj with
 | none=>
  rw [hn] at h;simp only [zcL,zaG,decide_eq_false_iff_not] at h;simp only [zcZ,decide_eq_false_iff_not];right;omega
 | some e=>
  obtain⟨he,hl⟩:=(fQ I.aG).1 hn;by_cases hll:aj=l'
  ·subst hll;simp only [zcZ,decide_eq_false_iff_not];right;have hr:=I.room aj;have h0:=(I.ent e he).lo;have hlt:(({ ca with l:=ca.l.filter λx=> decide (x.aj≠aj) }:Cache).oM aj).length < (ca.oM aj).length:=by
    unfold Cache.oM;rw [zdf];refine xB (λx _ h=> ?_) he ?_ ?_
    ·simp only [zae] at h ⊢;exact h.1
    ·rw [hl];simp;omega
    ·simp [hl]
   omega
  ·have:({ ca with l:=ca.l.filter λx=> decide (x.aj≠l') }:Cache).find aj=some e:=by
    unfold Cache.find;rw [fQ (I.aG.filter _)];refine⟨za6.2 ⟨he,?_⟩,hl⟩;simp only [decide_eq_true_eq];omega
   rw [this];rfl
abbrev By:=BitVec 8
abbrev S16:=BitVec 16
def shS(s:S16):S16:=(s <<< 1) ^^^ (if s.msb then 0x1021#16 else 0#16)
def shN:Nat->S16->S16
 | 0,s=> s
 | n+1,s=> shN n (shS s)
def ajh(s:S16)(c:By):S16:=shN 8 (s ^^^ (c.setWidth 16 <<< 8))
def Oe(s:S16)(l:List By):S16:=l.foldl ajh s
def aaU(s:S16):By:=(s >>> 8).setWidth 8
def aaV(s:S16):By:=s.setWidth 8
def rM(l:List By):List By:=l++[aaU (Oe 0xffff#16 l),aaV (Oe 0xffff#16 l)]
def by8(n:Int):By:=BitVec.ofInt 8 n
def qo(n:Int):List By:=[by8 (n.fdiv (2 ^ 56)),by8 (n.fdiv (2 ^ 48)),by8 (n.fdiv (2 ^ 40)),by8 (n.fdiv (2 ^ 32)),by8 (n.fdiv (2 ^ 24)),by8 (n.fdiv (2 ^ 16)),by8 (n.fdiv (2 ^ 8)),by8 (n.fdiv (2 ^ 0))]
def dY(p:Pkt):List By:=[by8 p.aS,by8 p.src,by8 p.dst,by8 (p.id.fdiv 256),by8 p.id,by8 p.aj,by8 (p.ptr+1),by8 p.aW,by8 (if p.flag then 1 else 0),by8 p.data.length]++p.data.flatMap qo
def ER(p:Pkt):List By:=rM (dY p)
theorem iP(n:Int):(qo n).length=8:=rfl
theorem KW(p:Pkt):(ER p).length=p.bytes:=by
 unfold ER rM dY Pkt.bytes;rw [zal,zal,dX IE];simp;omega
where
 IE:∀n,(qo n).length=8:=λ_=> rfl
 dX {α β:Type} {f:α->List β} {m:Nat} (h:∀a,(f a).length=m):∀{l:List α},(l.flatMap f).length=l.length*m:=by
  intro l
  induction l with
  | nil=> simp
  | cons a l ih=> rw [zaV,zal,h,ih,zam,zbA];omega
section
variable {P:Program}{t:TypeId}{k k':IntKind}{a b n:Int}
theorem VF(h:0<=n):nH P .shl t (.s (.int k a)) (.s (.int k' n))=some (.s (.int k (k.wrap (a*2 ^ (min n.toNat k.bits))))):=by
 have:¬n < 0:=by omega
 simp [nH,AV.val?,eqGuard,binOp,Op.shift,bV,this]
theorem Og(h:0<=n):nH P .shr t (.s (.int k a)) (.s (.int k' n))=some (.s (.int k (a.fdiv (2 ^ (min n.toNat k.bits))))):=by
 have:¬n < 0:=by omega
 simp [nH,AV.val?,eqGuard,binOp,Op.shift,bV,this]
theorem ac4:nH P .xor t (.s (.int k a)) (.s (.int k b))=some (.s (.int k (k.wrap (BitVec.ofInt k.bits a ^^^ BitVec.ofInt k.bits b).toNat))):=by
 simp [nH,AV.val?,eqGuard,binOp,Op.intBits,bV]
theorem aaW:nH P .or t (.s (.int k a)) (.s (.int k b))=some (.s (.int k (k.wrap (BitVec.ofInt k.bits a ||| BitVec.ofInt k.bits b).toNat))):=by
 simp [nH,AV.val?,eqGuard,binOp,Op.intBits,bV]
end
def U(k:IntKind)(v:BitVec k.bits):AV:=.s (.int k (v.toNat:Int))
abbrev Y(c:By):AV:=U .u8 c
abbrev U16(s:S16):AV:=U .u16 s
abbrev U64(s:BitVec 64):AV:=U .u64 s
theorem aaX {k:IntKind}(hk:k.signed=false)(z:Int):k.wrap z=z % (2 ^ k.bits:Int):=by simp [IntKind.wrap,hk]
theorem AX {k:IntKind}(hk:k.signed=false)(m:Nat):k.wrap (m:Int)=((BitVec.ofNat k.bits m).toNat:Int):=by
 rw [aaX hk,zcu]
 norm_cast
theorem qU {w:Nat}(v:BitVec w):BitVec.ofInt w (v.toNat:Int)=v:=by
 rw [zc6,zdg,BitVec.setWidth_eq]
theorem Qu {k:IntKind}(hk:k.signed=false)(v:BitVec k.bits):k.wrap (v.toNat:Int)=(v.toNat:Int):=by
 rw [AX hk,zdg,BitVec.setWidth_eq]
section
variable {P:Program}{t:TypeId}{k k':IntKind}
theorem afW(hk:k.signed=false)(x y:BitVec k.bits):nH P .xor t (U k x) (U k y)=some (U k (x ^^^ y)):=by
 unfold U;rw [ac4,qU,qU,Qu hk]
theorem alr(hk:k.signed=false)(x y:BitVec k.bits):nH P .or t (U k x) (U k y)=some (U k (x ||| y)):=by
 unfold U;rw [aaW,qU,qU,Qu hk]
theorem ac5(hk:k.signed=false)(x:BitVec k.bits)(n:Int)(h0:0<=n)(h:n<=k.bits):nH P .shl t (U k x) (.s (.int k' n))=some (U k (x <<< n.toNat)):=by
 unfold U;rw [VF h0,show min n.toNat k.bits=n.toNat by omega];have:((x.toNat:Int)*2 ^ n.toNat)=((x.toNat*2 ^ n.toNat:Nat):Int):=by norm_cast
 rw [this,AX hk,zcu,BitVec.toNat_shiftLeft,zcY]
theorem afX(x:BitVec k.bits)(n:Int)(h0:0<=n)(h:n<=k.bits):nH P .shr t (U k x) (.s (.int k' n))=some (U k (x >>> n.toNat)):=by
 unfold U;rw [Og h0,show min n.toNat k.bits=n.toNat by omega,BitVec.toNat_ushiftRight,Nat.shiftRight_eq_div_pow];have:(2:Int) ^ n.toNat=((2 ^ n.toNat:Nat):Int):=by norm_cast
 rw [this,zcG _ (Int.natCast_nonneg _)]
 norm_cast
theorem aji(hk:k.signed=false)(x y:BitVec k.bits):nH P .mul t (U k x) (U k y)=some (U k (x*y)):=by
 unfold U;rw [iT];have:((x.toNat:Int)*y.toNat)=((x.toNat*y.toNat:Nat):Int):=by norm_cast
 rw [this,AX hk,zcu,BitVec.toNat_mul]
theorem aiC(hk:k'.signed=false)(x:BitVec k.bits):(AV.s (.int k' (k'.wrap (x.toNat:Int))))=U k' (x.setWidth k'.bits):=by
 unfold U;rw [AX hk,zdg]
end
theorem YP(l:List By):(l.map Y).all AV.aJ=true:=by
 rw [za0];intro x hx;obtain⟨c,_,rfl⟩:=zaD.1 hx;rfl
def yOf:AV->Option By
 | .s (.int .u8 n)=> if 0<=n/\n < 256 then some (BitVec.ofInt 8 n) else none
 | _=> none
def Oh(x:AV)(H:ah):Option (List By):=
 match x with
 | .sl r g off esz n _ _=> match H.get r with
  | .blk g' _ cells=> if esz=1/\g'=g/\off+n<=cells.length/\0 < n/\n<=800 then((cells.drop off).take n).mapM yOf else none
  | _=> none
 | _=> none
structure Pkt.fit(p:Pkt):Prop where
 ok:p.ok=true
 num:∀v∈p.data,I64 v
open Classical in
def IG(args:List AV)(H:ah):Option (AV × ah):=
 match args with
 | [x]=> match Oh x H with
  | some l=> if h:∃p:Pkt,p.fit/\ER p=l then some (.tup [.agg (Classical.choose h).av,I 0],H)
   else if(∀y,l≠rM y) then some (.tup [.agg Pkt.zero.av,I 2],H) else none
  | none=> none
 | _=> none
def ac6:List Nat:=[
 36,
 116,
 132,
 70,
 235,
 159,
 102,
 59,
 60,
 106,
 108,
 109,
 148,
 57,
 42,
 204,
 30,
 51,
 17,
 21,
 68,
 27,
 119,
 33,
 34,
 120,
 76,
 121,
 77,
 173,
 24,
 259,
 266,
 83,
 189,
 82,
 201,
 41,
 151,
 152,
 31,
 124,
 80,
 26,
 55,
 69,
 28,
 236,
 196,
 192,
 200,
 216,
 174,
 92,
 229,
 90,
 193,
 140,
 126,
 203,
 85,
 225,
 226,
 43,
 25,
 9,
 16,
 37,
 38,
 39,
 10,
 11,
 12,
 13,
 47,
 89,
 53,
 100,
 58,
 19,
 18,
 54,
 56,
 103,
 154,
 40,
 81,
 44,
 88,
 99,
 153,
 14,
 0]
def Gi:List Nat:=[
 239,
 0]
def zU:List Nat:=[
 87,
 0]
def ajj:Pol:=⟨λ_=> false,λ_=> none⟩
def cl0:ak:=callω Tryz.prog ajj
def ac7:List (Nat × (List AV->ah->Option (AV × ah))):=[
 (45,yP Gi zU),
 (190,cl0 190),
 (129,IG),
 (128,cl0 128),
 (130,cl0 130),
 (0,λ_ _=> none)]
def pol:Pol:=⟨λf=> ac6.contains f,λf=> ac7.lookup f⟩
def cl:ak:=callω Tryz.prog pol
def Qv(f:FuncId)(p:List AV->ah->Option (AV × ah)):Prop:=
 oC Tryz.prog (λg args H=> if g=f then p args H else none)/\∀args H v H',p args H=some (v,H')->Keeps H H'
theorem ac8(f:FuncId):Qv f (cl0 f):=by
 have hc:=callω_ok (P:=Tryz.prog) (L:=ajj) (λf p h=> by cases h) (by kernel_rfl);refine⟨λg args H v H' h=> ?_,λargs H v H' h=> hc.2 f args H v H' h⟩;simp only at h;split at h
 ·rename_i e;subst e;exact hc.1 _ args H v H' h
 ·cases h
theorem gK {f:FuncId}{args:List AV}{H:ah}{r:AV × ah}(h:yu Tryz.prog cl0 f args H=some r):cl0 f args H=some r:=Z4 rfl rfl h
theorem dU {f:FuncId}{args:List AV}{H:ah}{r:AV × ah}(h1:pol.X0 f=none)(h2:pol.pure f=false)(h:yu Tryz.prog cl f args H=some r):cl f args H=some r:=Z4 h1 h2 h
theorem iJ {f:FuncId}{args:List AV}{H H1:ah}{v v':AV}(h1:pol.X0 f=none)(h2:pol.pure f=true)(h:yu Tryz.prog cl f args H.guard=some (v,H1))(hz:bD H1 H.next 9 v=some v'):cl f args H=some (v',H):=acK h1 h2 h hz
theorem aaY {f:FuncId}{args:List AV}{H:ah}{v:AV}{Q:ah->Prop}{sh:Option (AV × ah)}(h1:pol.X0 f=none)(h2:pol.pure f=false)(rn:∀{r},sh=some r->yu Tryz.prog cl f args H=some r)(h:∃H',sh=some (v,H')/\Q H'):∃H',cl f args H=some (v,H')/\Q H':=by
 obtain⟨H',e,q⟩:=h;exact⟨H',dU h1 h2 (rn e),q⟩
theorem bC {f:FuncId}{args:List AV}{H:ah}{v:AV}{sh:Option (AV × ah)}(h1:pol.X0 f=none)(h2:pol.pure f=true)(rn:∀{r},sh=some r->yu Tryz.prog cl f args H.guard=some r)(h:sh.map Prod.fst=some v)(hz:Frz 9 v):cl f args H=some (v,H):=by
 cases hs:sh with
 | none=> rw [hs] at h;cases h
 | some r=>
  rw [hs] at h;simp only [zaf,zaa] at h;subst h;exact iJ h1 h2 (rn hs) (hz _ _)
open Go.RowKit
structure Cho where
 do_:Int
 at_:Int
 bit:Int
 mask:Int
def Cho.av(c:Cho):List AV:=[I c.do_,I c.at_,I c.bit,.s (.int .u16 c.mask)]
end
end Go.Proofs.YtgplhpgkompkmaaGreat
