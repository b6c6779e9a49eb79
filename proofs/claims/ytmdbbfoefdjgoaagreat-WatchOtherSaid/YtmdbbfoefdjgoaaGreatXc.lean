/-
  Own work: an interpreter over named blocks, its soundness, and what the functions of this seat compute (part 3 of 11).
  Conditions: those of the statement alone.
-/
import Derived.Test.YtmdbbfoefdjgoaaGreatProg
import Derived.KernelRfl
import Derived.ProofKit
import Derived.Below
import Derived.Test.YtmdbbfoefdjgoaaGreatXb
set_option linter.all false
set_option linter.unusedSectionVars false
set_option linter.unusedVariables false
set_option linter.unusedSimpArgs false
namespace Go.Proofs.YtmdbbfoefdjgoaaGreat
noncomputable section
abbrev bi(op:BinOp)(t:TypeId)(x y:AV):Option AV:=nV Tryz.prog op t x y
abbrev un(op:UnOp)(x:AV):Option AV:=unA Tryz.prog op x
abbrev cv(s d:TypeId)(x:AV):AM AV:=jH Tryz.prog s d x
def stk:AM AV:=λ_=> none
abbrev bd(t:TypeId)(ps:List (Nat × AV)):Option AV:=gG Tryz.prog t ps
abbrev bs(t:TypeId)(n:Nat)(ps:List (Nat × AV)):AM AV:=dn Tryz.prog t n ps
def Rn0(f:FuncId)(s:aA->ah->OA):Prop:=∀C H {r:AV × ah},s C H=some r->xP Tryz.prog C f [] H=some r
def Rn1(f:FuncId)(s:aA->AV->ah->OA):Prop:=∀C a0 H {r:AV × ah},s C a0 H=some r->xP Tryz.prog C f [a0] H=some r
def Rn2(f:FuncId)(s:aA->AV->AV->ah->OA):Prop:=∀C a0 a1 H {r:AV × ah},s C a0 a1 H=some r->xP Tryz.prog C f [a0,a1] H=some r
def Rn3(f:FuncId)(s:aA->AV->AV->AV->ah->OA):Prop:=∀C a0 a1 a2 H {r:AV × ah},s C a0 a1 a2 H=some r->xP Tryz.prog C f [a0,a1,a2] H=some r
def Rn4(f:FuncId)(s:aA->AV->AV->AV->AV->ah->OA):Prop:=∀C a0 a1 a2 a3 H {r:AV × ah},s C a0 a1 a2 a3 H=some r->xP Tryz.prog C f [a0,a1,a2,a3] H=some r
def Rn5(f:FuncId)(s:aA->AV->AV->AV->AV->AV->ah->OA):Prop:=∀C a0 a1 a2 a3 a4 H {r:AV × ah},s C a0 a1 a2 a3 a4 H=some r->xP Tryz.prog C f [a0,a1,a2,a3,a4] H=some r
theorem LD {n:Nat}{ps:List (Nat × AV)}{H:ah}(h:n*1<=16777216):dn Tryz.prog 22 n ps H=bsl 3 1 [zI] n ps H:=tC (by kernel_rfl) (by kernel_rfl) (by kernel_rfl) rfl h
theorem WT {n:Nat}{ps:List (Nat × AV)}{H:ah}(h:n*3<=16777216):dn Tryz.prog 27 n ps H=bsl 26 3 [zI,zI,zI] n ps H:=tC (by kernel_rfl) (by kernel_rfl) (by kernel_rfl) rfl h
theorem ae9 {n:Nat}{ps:List (Nat × AV)}{H:ah}(h:n*1<=16777216):dn Tryz.prog 40 n ps H=bsl 27 1 [zN] n ps H:=tC (by kernel_rfl) (by kernel_rfl) (by kernel_rfl) rfl h
theorem ahF {n:Nat}{ps:List (Nat × AV)}{H:ah}(h:n*1<=16777216):dn Tryz.prog 48 n ps H=bsl 51 1 [zP] n ps H:=tC (by kernel_rfl) (by kernel_rfl) (by kernel_rfl) rfl h
theorem aaN {n:Nat}{ps:List (Nat × AV)}{H:ah}(h:n*4<=16777216):dn Tryz.prog 69 n ps H=bsl 137 4 [zI,zI,zB,zI] n ps H:=tC (by kernel_rfl) (by kernel_rfl) (by kernel_rfl) rfl h
theorem amE {n:Nat}{ps:List (Nat × AV)}{H:ah}(h:n*4<=16777216):dn Tryz.prog 82 n ps H=bsl 92 4 [zP,zP,zP,zP] n ps H:=tC (by kernel_rfl) (by kernel_rfl) (by kernel_rfl) rfl h
theorem WU {n:Nat}{ps:List (Nat × AV)}{H:ah}(h:n*6<=16777216):dn Tryz.prog 127 n ps H=bsl 117 6 [zI,zI,zI,zI,zB,zN] n ps H:=tC (by kernel_rfl) (by kernel_rfl) (by kernel_rfl) rfl h
theorem acI {n:Nat}{ps:List (Nat × AV)}{H:ah}(h:n*9<=16777216):dn Tryz.prog 144 n ps H=bsl 99 9 [zI,zI,zI,zI,zI,zI,zI,zB,zN] n ps H:=tC (by kernel_rfl) (by kernel_rfl) (by kernel_rfl) rfl h
theorem Rz {n:Nat}{ps:List (Nat × AV)}{H:ah}(h:n*1<=16777216):dn Tryz.prog 158 n ps H=bsl 5 1 [.s (.int .u8 0)] n ps H:=tC (by kernel_rfl) (by kernel_rfl) (by kernel_rfl) rfl h
theorem ahG {n:Nat}{ps:List (Nat × AV)}{H:ah}(h:n*2<=16777216):dn Tryz.prog 164 n ps H=bsl 90 2 [zP,zP] n ps H:=tC (by kernel_rfl) (by kernel_rfl) (by kernel_rfl) rfl h
theorem acJ {n:Nat}{ps:List (Nat × AV)}{H:ah}(h:n*2<=16777216):dn Tryz.prog 249 n ps H=bsl 251 2 [zI,zI] n ps H:=tC (by kernel_rfl) (by kernel_rfl) (by kernel_rfl) rfl h
theorem ahH {n:Nat}{ps:List (Nat × AV)}{H:ah}(h:n*1<=16777216):dn Tryz.prog 262 n ps H=bsl 158 1 [zN] n ps H:=tC (by kernel_rfl) (by kernel_rfl) (by kernel_rfl) rfl h
def afa:Nat->Option (Nat × Nat)
 | 0=> some (0,1)
 | 1=> some (1,1)
 | 2=> some (2,1)
 | 3=> some (3,1)
 | 4=> some (4,1)
 | 5=> some (5,1)
 | 6=> some (6,1)
 | 7=> some (7,1)
 | _=> none
theorem ahI {ps:List (Nat × AV)}:gG Tryz.prog 24 ps=jo afa [zI,zI,zI,zI,zI,zI,zI,zN] ps:=jw (by kernel_rfl) Tryz.underlying24 (by kernel_rfl) (by funext i;rcases i with _ | _ | _ | _ | _ | _ | _ | _ | i <;> kernel_rfl)
def aaO:Nat->Option (Nat × Nat)
 | 0=> some (0,1)
 | 1=> some (1,1)
 | 2=> some (2,1)
 | _=> none
theorem aaP {ps:List (Nat × AV)}:gG Tryz.prog 26 ps=jo aaO [zI,zI,zI] ps:=jw (by kernel_rfl) Tryz.underlying26 (by kernel_rfl) (by funext i;rcases i with _ | _ | _ | i <;> kernel_rfl)
def ahJ:Nat->Option (Nat × Nat)
 | 0=> some (0,1)
 | 1=> some (1,1)
 | 2=> some (2,1)
 | 3=> some (3,1)
 | _=> none
theorem ahK {ps:List (Nat × AV)}:gG Tryz.prog 35 ps=jo ahJ [zB,zI,zI,.s (.int .u16 0)] ps:=jw (by kernel_rfl) Tryz.underlying35 (by kernel_rfl) (by funext i;rcases i with _ | _ | _ | _ | i <;> kernel_rfl)
def afb:Nat->Option (Nat × Nat)
 | 0=> some (0,1)
 | 1=> some (1,1)
 | 2=> some (2,8)
 | 3=> some (10,1)
 | _=> none
theorem ahL {ps:List (Nat × AV)}:gG Tryz.prog 50 ps=jo afb [zP,zP,zI,zI,zI,zI,zI,zI,zI,zN,zN] ps:=jw (by kernel_rfl) Tryz.underlying50 (by kernel_rfl) (by funext i;rcases i with _ | _ | _ | _ | i <;> kernel_rfl)
def ahM:Nat->Option (Nat × Nat)
 | 0=> some (0,1)
 | _=> none
theorem amF {ps:List (Nat × AV)}:gG Tryz.prog 60 ps=jo ahM [zP] ps:=jw (by kernel_rfl) Tryz.underlying60 (by kernel_rfl) (by funext i;rcases i with _ | i <;> kernel_rfl)
def ahN:Nat->Option (Nat × Nat)
 | 0=> some (0,1)
 | 1=> some (1,1)
 | 2=> some (2,1)
 | 3=> some (3,1)
 | 4=> some (4,1)
 | 5=> some (5,1)
 | 6=> some (6,1)
 | 7=> some (7,1)
 | 8=> some (8,1)
 | _=> none
theorem WV {ps:List (Nat × AV)}:gG Tryz.prog 62 ps=jo ahN [zI,zI,zI,zI,zI,zI,zN,zI,zI] ps:=jw (by kernel_rfl) Tryz.underlying62 (by kernel_rfl) (by funext i;rcases i with _ | _ | _ | _ | _ | _ | _ | _ | _ | i <;> kernel_rfl)
def ahO:Nat->Option (Nat × Nat)
 | 0=> some (0,1)
 | 1=> some (1,1)
 | 2=> some (2,8)
 | 3=> some (10,1)
 | 4=> some (11,1)
 | 5=> some (12,9)
 | 6=> some (21,1)
 | _=> none
theorem amG {ps:List (Nat × AV)}:gG Tryz.prog 64 ps=jo ahO [zP,zP,zI,zI,zI,zI,zI,zI,zI,zN,zI,zP,zI,zI,zI,zI,zI,zI,zN,zI,zI,zI] ps:=jw (by kernel_rfl) Tryz.underlying64 (by kernel_rfl) (by funext i;rcases i with _ | _ | _ | _ | _ | _ | _ | i <;> kernel_rfl)
def amH:Nat->Option (Nat × Nat)
 | 0=> some (0,1)
 | _=> none
theorem amI {ps:List (Nat × AV)}:gG Tryz.prog 84 ps=jo amH [zN] ps:=jw (by kernel_rfl) Tryz.underlying84 (by kernel_rfl) (by funext i;rcases i with _ | i <;> kernel_rfl)
def ahP:Nat->Option (Nat × Nat)
 | 0=> some (0,1)
 | 1=> some (1,1)
 | _=> none
theorem ahQ {ps:List (Nat × AV)}:gG Tryz.prog 90 ps=jo ahP [zP,zP] ps:=jw (by kernel_rfl) Tryz.underlying90 (by kernel_rfl) (by funext i;rcases i with _ | _ | i <;> kernel_rfl)
def ahR:Nat->Option (Nat × Nat)
 | 0=> some (0,2)
 | 1=> some (2,2)
 | _=> none
theorem amJ {ps:List (Nat × AV)}:gG Tryz.prog 92 ps=jo ahR [zP,zP,zP,zP] ps:=jw (by kernel_rfl) Tryz.underlying92 (by kernel_rfl) (by funext i;rcases i with _ | _ | i <;> kernel_rfl)
def ahS:Nat->Option (Nat × Nat)
 | 0=> some (0,1)
 | _=> none
theorem amK {ps:List (Nat × AV)}:gG Tryz.prog 94 ps=jo ahS [zN] ps:=jw (by kernel_rfl) Tryz.underlying94 (by kernel_rfl) (by funext i;rcases i with _ | i <;> kernel_rfl)
def PG:Nat->Option (Nat × Nat)
 | 0=> some (0,1)
 | 1=> some (1,1)
 | 2=> some (2,1)
 | 3=> some (3,1)
 | 4=> some (4,1)
 | 5=> some (5,1)
 | 6=> some (6,1)
 | 7=> some (7,1)
 | 8=> some (8,1)
 | _=> none
theorem xw {ps:List (Nat × AV)}:gG Tryz.prog 99 ps=jo PG [zI,zI,zI,zI,zI,zI,zI,zB,zN] ps:=jw (by kernel_rfl) Tryz.underlying99 (by kernel_rfl) (by funext i;rcases i with _ | _ | _ | _ | _ | _ | _ | _ | _ | i <;> kernel_rfl)
def acK:Nat->Option (Nat × Nat)
 | 0=> some (0,1)
 | 1=> some (1,1)
 | 2=> some (2,1)
 | _=> none
theorem ahT {ps:List (Nat × AV)}:gG Tryz.prog 111 ps=jo acK [zN,zN,zB] ps:=jw (by kernel_rfl) Tryz.underlying111 (by kernel_rfl) (by funext i;rcases i with _ | _ | _ | i <;> kernel_rfl)
def acL:Nat->Option (Nat × Nat)
 | 0=> some (0,1)
 | 1=> some (1,1)
 | _=> none
theorem ahU {ps:List (Nat × AV)}:gG Tryz.prog 115 ps=jo acL [zI,zI] ps:=jw (by kernel_rfl) Tryz.underlying115 (by kernel_rfl) (by funext i;rcases i with _ | _ | i <;> kernel_rfl)
def acM:Nat->Option (Nat × Nat)
 | 0=> some (0,2)
 | 1=> some (2,1)
 | 2=> some (3,1)
 | 3=> some (4,1)
 | 4=> some (5,1)
 | _=> none
theorem WW {ps:List (Nat × AV)}:gG Tryz.prog 117 ps=jo acM [zI,zI,zI,zI,zB,zN] ps:=jw (by kernel_rfl) Tryz.underlying117 (by kernel_rfl) (by funext i;rcases i with _ | _ | _ | _ | _ | i <;> kernel_rfl)
def acN:Nat->Option (Nat × Nat)
 | 0=> some (0,1)
 | 1=> some (1,1)
 | 2=> some (2,1)
 | _=> none
theorem ahV {ps:List (Nat × AV)}:gG Tryz.prog 130 ps=jo acN [zI,zI,zN] ps:=jw (by kernel_rfl) Tryz.underlying130 (by kernel_rfl) (by funext i;rcases i with _ | _ | _ | i <;> kernel_rfl)
def WX:Nat->Option (Nat × Nat)
 | 0=> some (0,1)
 | 1=> some (1,1)
 | 2=> some (2,1)
 | 3=> some (3,1)
 | _=> none
theorem acO {ps:List (Nat × AV)}:gG Tryz.prog 137 ps=jo WX [zI,zI,zB,zI] ps:=jw (by kernel_rfl) Tryz.underlying137 (by kernel_rfl) (by funext i;rcases i with _ | _ | _ | _ | i <;> kernel_rfl)
def acP:Nat->Option (Nat × Nat)
 | 0=> some (0,1)
 | 1=> some (1,1)
 | _=> none
theorem ahW {ps:List (Nat × AV)}:gG Tryz.prog 146 ps=jo acP [zN,zI] ps:=jw (by kernel_rfl) Tryz.underlying146 (by kernel_rfl) (by funext i;rcases i with _ | _ | i <;> kernel_rfl)
def acQ:Nat->Option (Nat × Nat)
 | 0=> some (0,1)
 | 1=> some (1,1)
 | _=> none
theorem ahX {ps:List (Nat × AV)}:gG Tryz.prog 148 ps=jo acQ [zN,zI] ps:=jw (by kernel_rfl) Tryz.underlying148 (by kernel_rfl) (by funext i;rcases i with _ | _ | i <;> kernel_rfl)
def acR:Nat->Option (Nat × Nat)
 | 0=> some (0,1)
 | 1=> some (1,1)
 | 2=> some (2,1)
 | 3=> some (3,1)
 | _=> none
theorem ahY {ps:List (Nat × AV)}:gG Tryz.prog 150 ps=jo acR [zN,zI,zI,zI] ps:=jw (by kernel_rfl) Tryz.underlying150 (by kernel_rfl) (by funext i;rcases i with _ | _ | _ | _ | i <;> kernel_rfl)
def acS:Nat->Option (Nat × Nat)
 | 0=> some (0,1)
 | 1=> some (1,1)
 | 2=> some (2,8)
 | 3=> some (10,1)
 | _=> none
theorem ahZ {ps:List (Nat × AV)}:gG Tryz.prog 157 ps=jo acS [zP,zP,zI,zI,zI,zI,zI,zI,zI,zN,zI] ps:=jw (by kernel_rfl) Tryz.underlying157 (by kernel_rfl) (by funext i;rcases i with _ | _ | _ | _ | i <;> kernel_rfl)
def acT:Nat->Option (Nat × Nat)
 | 0=> some (0,8)
 | 1=> some (8,1)
 | _=> none
theorem ah0 {ps:List (Nat × AV)}:gG Tryz.prog 195 ps=jo acT [zI,zI,zI,zI,zI,zI,zI,zN,zN] ps:=jw (by kernel_rfl) Tryz.underlying195 (by kernel_rfl) (by funext i;rcases i with _ | _ | i <;> kernel_rfl)
def acU:Nat->Option (Nat × Nat)
 | 0=> some (0,8)
 | 1=> some (8,1)
 | _=> none
theorem ah1 {ps:List (Nat × AV)}:gG Tryz.prog 199 ps=jo acU [zI,zI,zI,zI,zI,zI,zI,zN,zM] ps:=jw (by kernel_rfl) Tryz.underlying199 (by kernel_rfl) (by funext i;rcases i with _ | _ | i <;> kernel_rfl)
def acV:Nat->Option (Nat × Nat)
 | 0=> some (0,1)
 | 1=> some (1,1)
 | _=> none
theorem ah2 {ps:List (Nat × AV)}:gG Tryz.prog 204 ps=jo acV [zM,zM] ps:=jw (by kernel_rfl) Tryz.underlying204 (by kernel_rfl) (by funext i;rcases i with _ | _ | i <;> kernel_rfl)
def acW:Nat->Option (Nat × Nat)
 | 0=> some (0,1)
 | 1=> some (1,1)
 | _=> none
theorem ah3 {ps:List (Nat × AV)}:gG Tryz.prog 251 ps=jo acW [zI,zI] ps:=jw (by kernel_rfl) Tryz.underlying251 (by kernel_rfl) (by funext i;rcases i with _ | _ | i <;> kernel_rfl)
theorem acX {k:IntKind}{n:Int}{H:ah}:jH Tryz.prog 3 5 (.s (.int k n)) H=some (.s (.int .u8 (IntKind.wrap .u8 n)),H):=AU (by kernel_rfl) Tryz.underlying3 Tryz.underlying5
theorem ah4 {k:IntKind}{n:Int}{H:ah}:jH Tryz.prog 5 3 (.s (.int k n)) H=some (.s (.int .i64 (IntKind.wrap .i64 n)),H):=AU (by kernel_rfl) Tryz.underlying5 Tryz.underlying3
theorem afc {k:IntKind}{n:Int}{H:ah}:jH Tryz.prog 5 33 (.s (.int k n)) H=some (.s (.int .u16 (IntKind.wrap .u16 n)),H):=AU (by kernel_rfl) Tryz.underlying5 Tryz.underlying33
theorem aaQ {k:IntKind}{n:Int}{H:ah}:jH Tryz.prog 5 242 (.s (.int k n)) H=some (.s (.int .u64 (IntKind.wrap .u64 n)),H):=AU (by kernel_rfl) Tryz.underlying5 Tryz.underlying242
theorem WY {k:IntKind}{n:Int}{H:ah}:jH Tryz.prog 33 5 (.s (.int k n)) H=some (.s (.int .u8 (IntKind.wrap .u8 n)),H):=AU (by kernel_rfl) Tryz.underlying33 Tryz.underlying5
theorem WZ {k:IntKind}{n:Int}{H:ah}:jH Tryz.prog 33 216 (.s (.int k n)) H=some (.s (.int .u32 (IntKind.wrap .u32 n)),H):=AU (by kernel_rfl) Tryz.underlying33 Tryz.underlying216
theorem aaR {k:IntKind}{n:Int}{H:ah}:jH Tryz.prog 216 5 (.s (.int k n)) H=some (.s (.int .u8 (IntKind.wrap .u8 n)),H):=AU (by kernel_rfl) Tryz.underlying216 Tryz.underlying5
theorem aaS {k:IntKind}{n:Int}{H:ah}:jH Tryz.prog 242 3 (.s (.int k n)) H=some (.s (.int .i64 (IntKind.wrap .i64 n)),H):=AU (by kernel_rfl) Tryz.underlying242 Tryz.underlying3
inductive Cell where
 | av (x:AV)
 | seq (m:Nat) (cells:List AV)
 | map (k:IntKind) (es:List (Int × AV))
 | maps (k:IntKind) (m:Nat) (es:List (Int × List AV))
 | al9 (w m:Nat) (ls:List (List AV))
abbrev Tag:=Nat × Nat × Nat × Int
section
variable (b:Nat)(H:ah)(τ:Nat->Option Tag)
def OS(T:Tag)(x:AV)(m:Nat)(cells:List AV):Prop:=
 (x=zN/\cells=[])∨∃r g off n cap ex ty all,x=.sl r g off m n cap ex/\τ r=some T/\b<=r/\r < H.next/\n<=cap/\H.get r=.blk g ty all/\off+cap*m<=all.length/\all.all AV.aU=true/\cells=(all.drop off).take (n*m)
def OM(T:Tag)(x:AV)(k:IntKind)(es:List (Int × AV)):Prop:=∃r,x=.mp r/\τ r=some T/\b<=r/\r < H.next/\H.get r=.map k es
def CR(q i:Nat):Cell->AV->Prop
 | .av x,y=> y=x
 | .seq m cells,y=> OS b H τ (q,i+1,0,0) y m cells
 | .map k es,y=> OM b H τ (q,i+1,0,0) y k es
 | .maps k m es,y=>∃aes:List (Int × AV),OM b H τ (q,i+1,0,0) y k aes/\aes.map (·.1)=es.map (·.1)/\∀(j:Nat) n cells x,es[j]?=some (n,cells)->aes[j]?=some (n,x)->OS b H τ (q,i+1,1,n) x m cells
 | .al9 w m ls,y=>∃xs:List AV,OS b H τ (q,i+1,0,0) y w xs/\xs.length=ls.length/\∀(j:Nat) cells x,ls[j]?=some cells->xs[j]?=some x->OS b H τ (q,i+1,1,(j:Int)) x m cells
structure aha(q:Nat)(cs:List Cell):Prop where
 tag:τ q=some (q,0,0,0)
 lo:b<=q
 hi:q < H.next
 tyl:∀gg ty xs,H.get q=.blk gg ty xs->ty < fQ
 blk:∃ty xs,H.get q=.blk 0 ty xs/\xs.length=cs.length/\xs.all AV.aU=true/\∀(i:Nat) c x,cs[i]?=some c->xs[i]?=some x->CR b H τ q i c x
end
abbrev bg:=Nat->Option (List Cell)
def Good(b:Nat)(H:ah)(g:bg):Prop:=b<=H.next/\∃τ,∀q cs,g q=some cs->aha b H τ q cs
def upd(g:bg)(q:Nat)(cs:List Cell):bg:=λx=> if x=q then some cs else g x
section
variable {b:Nat}{H H':ah}{g:bg}{q:Nat}{cs:List Cell}
theorem aN:upd g q cs q=some cs:=by simp [upd]
theorem aY {x:Nat}(h:x≠q):upd g q cs x=g x:=by simp [upd,h]
theorem qB {ds:List Cell}:upd (upd g q cs) q ds=upd g q ds:=by funext x;simp only [upd];split <;> rfl
theorem eU(h:g q=some cs):upd g q cs=g:=by
 funext x
 simp only [upd];split
 ·rename_i e;rw [e,h]
 ·rfl
theorem OS.keep {τ τ':Nat->Option Tag}{T:Tag}{x:AV}{m:Nat}{cells:List AV}(h:OS b H τ T x m cells)(hn:H.next<=H'.next)(hg:∀r,r < H.next->τ r=some T->τ' r=some T/\H'.get r=H.get r):OS b H' τ' T x m cells:=by
 rcases h with h | ⟨r,g,off,n,cap,ex,ty,all,rfl,h1,h2,h3,h4,h5,h6,h7,h8⟩
 ·exact .inl h
 ·obtain⟨k1,k2⟩:=hg r h3 h1;exact .inr ⟨r,g,off,n,cap,ex,ty,all,rfl,k1,h2,by omega,h4,by rw [k2];exact h5,h6,h7,h8⟩
theorem OM.keep {τ τ':Nat->Option Tag}{T:Tag}{x:AV}{k:IntKind}{es:List (Int × AV)}(h:OM b H τ T x k es)(hn:H.next<=H'.next)(hg:∀r,r < H.next->τ r=some T->τ' r=some T/\H'.get r=H.get r):OM b H' τ' T x k es:=by
 obtain⟨r,rfl,h1,h2,h3,h4⟩:=h;obtain⟨k1,k2⟩:=hg r h3 h1;exact⟨r,rfl,k1,h2,by omega,by rw [k2];exact h4⟩
theorem CR.keep {τ τ':Nat->Option Tag}{i:Nat}:∀{c:Cell} {x:AV},CR b H τ q i c x->H.next<=H'.next->(∀r s t,r < H.next->τ r=some (q,i+1,s,t)->τ' r=some (q,i+1,s,t)/\H'.get r=H.get r)->CR b H' τ' q i c x
 | .av _,_,h,_,_=> h
 | .seq _ _,_,h,hn,hg=> OS.keep h hn λr h1 h2=> hg r 0 0 h1 h2
 | .map _ _,_,h,hn,hg=> OM.keep h hn λr h1 h2=> hg r 0 0 h1 h2
 | .maps _ _ _,_,⟨aes,h1,h2,h3⟩,hn,hg=> ⟨aes,h1.keep hn λr h1 h2=> hg r 0 0 h1 h2,h2,λj n cells x hj hx=> (h3 j n cells x hj hx).keep hn λr h1 h2=> hg r 1 n h1 h2⟩
 | .al9 _ _ _,_,⟨xs,h1,h2,h3⟩,hn,hg=> ⟨xs,h1.keep hn λr h1 h2=> hg r 0 0 h1 h2,h2,λj cells x hj hx=> (h3 j cells x hj hx).keep hn λr h1 h2=> hg r 1 j h1 h2⟩
theorem wM {ty:Nat}{xs:List AV}(h:H.get q=.blk 0 ty xs)(ht:ty < fQ):∀gg ty' xs',H.get q=.blk gg ty' xs'->ty' < fQ:=λ_ _ _ e=> by
 rw [h] at e;cases e;exact ht
theorem aha.keep {τ τ':Nat->Option Tag}(h:aha b H τ q cs)(hn:H.next<=H'.next)(hg:∀r i s t,r < H.next->τ r=some (q,i,s,t)->τ' r=some (q,i,s,t)/\H'.get r=H.get r):aha b H' τ' q cs:=by
 obtain⟨k1,k2⟩:=hg q 0 0 0 h.hi h.tag;obtain⟨ty,xs,h1,h2,h3,h4⟩:=h.blk;exact⟨k1,h.lo,by have:=h.hi;omega,wM (by rw [k2];exact h1) (h.tyl _ _ _ h1),ty,xs,by rw [k2];exact h1,h2,h3,λi c x hc hx=> (h4 i c x hc hx).keep hn λr s t hr ht=> hg r (i+1) s t hr ht⟩
theorem Good.lt(G:Good b H g)(h:g q=some cs):q < H.next:=(G.2.choose_spec q cs h).hi
theorem Good.le(G:Good b H g)(h:g q=some cs):b<=q:=(G.2.choose_spec q cs h).lo
theorem Good.isNone(G:Good b H g)(h:H.next<=q):g q=none:=by
 cases hq:g q with
 | none=> rfl
 | some cs=> have:=G.lt hq;omega
theorem Good.ne(G:Good b H g)(h:g q=some cs):q≠H.next:=by have:=G.lt h;omega
theorem Good.ext(G:Good b H g)(hn:H.next<=H'.next)(hg:∀r,r < H.next->H'.get r=H.get r):Good b H' g:=by
 obtain⟨h0,τ,h⟩:=G;exact⟨by omega,τ,λq cs hq=> (h q cs hq).keep hn λr i s t hr ht=> ⟨ht,hg r hr⟩⟩
theorem Good.new(G:Good b H g)(o:fD):Good b (H.new o) g:=G.ext (za8 _) λr hr=> by rw [iM,if_neg (by omega)]
theorem Good.guard(G:Good b H g):Good b H.guard g:=G.ext (zac _) λ_ _=> rfl
theorem Good.sub(G:Good b H g){g':bg}(h:∀q cs,g' q=some cs->g q=some cs):Good b H g':=by
 obtain⟨h0,τ,h1⟩:=G;exact⟨h0,τ,λq cs hq=> h1 q cs (h q cs hq)⟩
theorem Good.empty(H:ah):Good H.next H λ_=> none:=⟨zac _,λ_=> none,λ_ _ h=> by cases h⟩
theorem Good.empty' {b:Nat}(h:b<=H.next):Good b H λ_=> none:=⟨h,λ_=> none,λ_ _ h=> by cases h⟩
theorem Good.weak(G:Good b H g){b':Nat}(h:b'<=b):Good b' H g:=by
 obtain⟨h0,τ,h1⟩:=G;have os:∀{T x m cells},OS b H τ T x m cells->OS b' H τ T x m cells:=by
  intro T x m cells ho;rcases ho with ho | ⟨r,g,off,n,cap,ex,ty,all,h2,h3,h4,h5⟩
  ·exact .inl ho
  ·exact .inr ⟨r,g,off,n,cap,ex,ty,all,h2,h3,by omega,h5⟩
 have om:∀{T x k es},OM b H τ T x k es->OM b' H τ T x k es:=by
  intro T x k es ⟨r,h2,h3,h4,h5⟩;exact⟨r,h2,h3,by omega,h5⟩
 refine⟨by omega,τ,λq cs hq=> ?_⟩;have R:=h1 q cs hq;obtain⟨ty,xs,k1,k2,k3,k4⟩:=R.blk;refine⟨R.tag,by have:=R.lo;omega,R.hi,R.tyl,ty,xs,k1,k2,k3,λi c x hc hx=> ?_⟩;have:=k4 i c x hc hx;cases c with
 | av _=> exact this
 | seq _ _=> exact os this
 | map _ _=> exact om this
 | maps _ _ _=>
  obtain⟨aes,a1,a2,a3⟩:=this;exact⟨aes,om a1,a2,λj n cells x hj hx=> os (a3 j n cells x hj hx)⟩
 | al9 _ _ _=>
  obtain⟨ys,a1,a2,a3⟩:=this;exact⟨ys,os a1,a2,λj cells x hj hx=> os (a3 j cells x hj hx)⟩
structure Step(b:Nat)(H H':ah):Prop where
 base:H'.base=H.base
 next:H.next<=H'.next
 low:∀r,r < b->H'.get r=H.get r
theorem Step.refl(b:Nat)(H:ah):Step b H H:=⟨rfl,zac _,λ_ _=> rfl⟩
theorem Step.trans {b:Nat}{H H' H'':ah}(s:Step b H H')(t:Step b H' H''):Step b H H'':=⟨t.base.trans s.base,zas s.next t.next,λr hr=> by rw [t.low r hr,s.low r hr]⟩
theorem Step.new {b:Nat}{H:ah}(o:fD)(h:b<=H.next):Step b H (H.new o):=⟨rfl,za8 _,λr hr=> by rw [iM,if_neg (by omega)]⟩
theorem Step.put {b:Nat}{H:ah}{r:Nat}(o:fD)(h:b<=r):Step b H (H.put r o):=⟨rfl,zac _,λx hx=> by rw [bQ,if_neg (by omega)]⟩
theorem Good.newObj(G:Good b H g){ty:TypeId}{xs:List AV}(hc:xs.all AV.aU=true)(ht:ty < fQ:=by decide):Good b (H.new (.blk 0 ty xs)) (upd g H.next (xs.map .av)):=by
 obtain⟨h0,τ,h⟩:=G;refine⟨by rw [BQ];omega,λr=> if r=H.next then some (r,0,0,0) else τ r,λq cs hq=> ?_⟩;by_cases hqn:q=H.next
 ·subst hqn;rw [aN] at hq;cases hq;refine⟨by simp,h0,by rw [BQ];omega,wM (xs:=xs) (by simp [iM]) ht,ty,xs,by simp [iM],by simp,hc,λi c x hci hx=> ?_⟩;rw [zaD,hx] at hci;simp only [zai,zaa] at hci;subst hci;exact rfl
 ·rw [aY hqn] at hq;have R:=h q cs hq;exact R.keep (H':=H.new (.blk 0 ty xs)) (za8 _) λr i s t hr ht=> ⟨by rw [if_neg (by omega)];exact ht,by rw [iM,if_neg (by omega)]⟩
theorem dR {r off g:Nat}{ty:TypeId}{xs:List AV}(h:H.get r=.blk g ty xs):ld (.ref r g off) H=(xs[off]?).map λv=> (v,H):=by
 simp only [ld,jT,bD,zai,ldO,h,if_true]
theorem fO {r off g n:Nat}{ty:TypeId}{xs:List AV}(h:H.get r=.blk g ty xs)(hl:off+n<=xs.length):lda n (.ref r g off) H=some (.agg ((xs.drop off).take n),H):=by
 simp only [lda,jT,bD,zai,al7,h,if_true,hl]
theorem ah5 {cells:List AV}:ld (.ip cells) H=(cells[0]?).map λv=> (v,H):=by simp only [ld,jT,ldO]
theorem ah6 {cells:List AV}{n:Nat}(h:n<=cells.length):lda n (.ip cells) H=some (.agg (cells.take n),H):=by
 simp only [lda,jT,al7,za5,h,if_true,zaO,zai]
theorem Good.load(G:Good b H g)(h:g q=some cs){i:Nat}{x:AV}(hi:cs[i]?=some (.av x)):ld (.ref q 0 i) H=some (x,H):=by
 obtain⟨_,τ,hR⟩:=G;obtain⟨ty,xs,h1,h2,h3,h4⟩:=(hR q cs h).blk;rw [dR h1];have hlt:i < xs.length:=by rw [h2];exact(zak.1 hi).1
 have hx:xs[i]?=some (xs[i]'hlt):=zab hlt;have:=h4 i _ _ hi hx;simp only [CR] at this;rw [hx,this];rfl
theorem Good.loads(G:Good b H g)(h:g q=some cs){i n:Nat}{xs:List AV}(hi:(cs.drop i).take n=xs.map .av)(hn:xs.length=n)(hp:0 < n):lda n (.ref q 0 i) H=some (.agg xs,H):=by
 obtain⟨_,τ,hR⟩:=G;obtain⟨ty,ys,h1,h2,h3,h4⟩:=(hR q cs h).blk;have hl:=congrArg List.length hi;simp only [zav,zaN,zax] at hl
 ·rw [fO h1 (by omega)]
  congr 2
  congr 1
  apply zbg
  intro j;rcases zaW j n with hj | hj
  ·have hx:xs[j]?=some (xs[j]'(by omega)):=zab _;have hc:cs[i+j]?=some (.av (xs[j]'(by omega))):=by
    have:=congrArg (λl=> l[j]?) hi;simp only [zay,hj,if_true,zaA,zaD,hx,zai] at this;exact this
   have hlt:i+j < ys.length:=by omega
   have hy:ys[i+j]?=some (ys[i+j]'hlt):=zab hlt;have:=h4 _ _ _ hc hy;simp only [CR] at this;rw [zay,if_pos hj,zaA,hy,this,hx]
  ·rw [zay,if_neg (by omega),zaK (by omega)]
end
def aH(H:ah)(x:AV)(m n:Nat)(cells:List AV):Prop:=
 cells.length=n*m/\
 match x with
 | .sl r g off esz len cap _=> esz=m/\len=n/\(r < H.next/\len<=cap)/\∃ty all,H.get r=.blk g ty all/\off+n*m<=all.length/\cells=(all.drop off).take (n*m)
 | .vs k esz cs=> esz=m/\k=n/\cs=cells
 | .s (.slice none a b)=> a=0/\b=0/\n=0
 | _=> False
def dW(x:AV)(i:Nat):AV:=
 match x with
 | .sl r g off esz _ _ _=> .ref r g (off+i*esz)
 | .vs _ esz cs=> .ip (cs.drop (i*esz))
 | _=> aO
section
variable {P:Program}{H:ah}{x:AV}{m n:Nat}{cells:List AV}
theorem aH.AX(h:aH H x m n cells):jG x=some n/\bM H x=some cells:=by
 obtain⟨hl,h⟩:=h;cases x with
 | sl r g off esz len cap ex=>
  obtain⟨rfl,rfl,_,ty,all,h1,h2,h3⟩:=h;refine⟨rfl,?_⟩;simp only [bM,h1];rw [if_pos ⟨trivial,h2⟩,h3]
 | vs k esz cs=> obtain⟨rfl,rfl,rfl⟩:=h;exact⟨rfl,rfl⟩
 | s v=>
  cases v with
  | slice a b c=>
   cases a with
   | none=>
    obtain⟨rfl,rfl,rfl⟩:=h;refine⟨rfl,?_⟩;have:cells=[]:=zan (by omega);rw [this];rfl
   | some a=> exact h.elim
  | _=> exact h.elim
 | _=> exact h.elim
def iP:AV->Option Nat
 | .sl r _ _ _ _ _ _=> some r
 | _=> none
theorem aH.fV {H':ah}(h:aH H x m n cells)(hn:H.next<=H'.next)(hg:∀r,iP x=some r->r < H.next->H'.get r=H.get r):aH H' x m n cells:=by
 obtain⟨hl,h⟩:=h;refine⟨hl,?_⟩;cases x with
 | sl r g off esz len cap ex=>
  obtain⟨h0,h1,hr,ty,all,h2,h3,h4⟩:=h;exact⟨h0,h1,⟨zau hr.1 hn,hr.2⟩,ty,all,by rw [hg r rfl hr.1];exact h2,h3,h4⟩
 | s v=>
  cases v with
  | slice a b c=> cases a <;> exact h
  | _=> exact h
 | _=> exact h
theorem aH.new(h:aH H x m n cells)(o:fD):aH (H.new o) x m n cells:=
 h.fV (za8 _) λr _ hr=> by rw [iM,if_neg (by omega)]
theorem aH.guard(h:aH H x m n cells):aH H.guard x m n cells:=h
theorem aH.nil {m:Nat}:aH H (.s (.slice none 0 0)) m 0 []:=⟨by simp,rfl,rfl,rfl⟩
theorem aH.vs {m n:Nat}{cs:List AV}(h:cs.length=n*m):aH H (.vs n m cs) m n cs:=⟨h,rfl,rfl,rfl⟩
end
theorem PI {α:Type}{enc:α->List AV}{m:Nat}(he:∀a,(enc a).length=m)(l:List α):(l.flatMap enc).length=l.length*m:=by
 induction l with
 | nil=> simp
 | cons a l ih=> simp only [zaQ,zaq,he,ih,zah,zbz];omega
theorem sG {α:Type}{enc:α->List AV}{m:Nat}(he:∀a,(enc a).length=m):∀(l:List α) (i:Nat) (a:α),l[i]?=some a->((l.flatMap enc).drop (i*m)).take m=enc a
 | [],i,a,h=> by simp at h
 | b::l,0,a,h=> by
  simp only [za2,zaa] at h;subst h;rw [zbe,zaO,zaQ,zb3 (by rw [he];omega),zaE (by rw [he];omega)]
 | b::l,i+1,a,h=> by
  simp only [zbo] at h;have e1:(enc b).drop ((i+1)*m)=[]:=zaF (by rw [he,zbz];omega);have e2:(i+1)*m - (enc b).length=i*m:=by rw [he,zbz];omega
  rw [zaQ,List.drop_append,e1,e2,zaU];exact sG he l i a h
section
variable {b:Nat}{H H':ah}{g:bg}{q:Nat}{cs:List Cell}
theorem vH {τ τ':Nat->Option Tag}{cs':List Cell}(h0:b<=H.next)(h:∀q cs,g q=some cs->aha b H τ q cs)(hn:H.next<=H'.next)
  (hk:∀r,r < H.next->(∀i s t,τ r≠some (q,i,s,t))->τ' r=τ r/\H'.get r=H.get r) (hR:aha b H' τ' q cs'):Good b H' (upd g q cs'):=by
 refine⟨by omega,τ',λq2 cs2 hq2=> ?_⟩;by_cases e:q2=q
 ·subst e;rw [aN] at hq2;cases hq2;exact hR
 ·rw [aY e] at hq2;refine(h q2 cs2 hq2).keep hn λr i s t hr ht=> ?_;obtain⟨k1,k2⟩:=hk r hr λi' s' t' h'=> by rw [ht] at h';cases h';exact e rfl
  exact⟨by rw [k1];exact ht,k2⟩
theorem lH {α:Type}{l:List α}{i j:Nat}{a x:α}(h:(l.set i a)[j]?=some x):(j=i/\x=a)∨(j≠i/\l[j]?=some x):=by
 by_cases e:i=j
 ·subst e;have hl:i < l.length:=by
   have:=(zak.1 h).1
   simpa using this
  rw [zcb hl] at h;cases h;exact .inl ⟨rfl,rfl⟩
 ·rw [zcm e] at h;exact .inr ⟨λe'=> e e'.symm,h⟩
theorem Xa {l:List AV}(h:l.all AV.aU=true){v:AV}(hv:v.aU=true)(i:Nat):(l.set i v).all AV.aU=true:=by
 rw [zaZ] at h ⊢;intro x hx;rcases zcn hx with hx | rfl
 ·exact h x hx
 ·exact hv
theorem D9 {l:List AV}{i:Nat}{v:AV}(hi:i < l.length):aG l i [v]=l.set i v:=by
 rw [zdb];simp only [aG,hi,if_true,zah,zam];rfl
def One(v:AV):Prop:=v.cells=[v]/\v.aU=true
theorem dw {k:IntKind}{n:Int}:One (.s (.int k n)):=⟨rfl,rfl⟩
theorem BR {x:Bool}:One (.s (.bool x)):=⟨rfl,rfl⟩
theorem mZ {r g off esz len cap:Nat}{ex:Bool}:One (.sl r g off esz len cap ex):=⟨rfl,rfl⟩
theorem acY {n esz:Nat}{cells:List AV}:One (.vs n esz cells):=⟨rfl,rfl⟩
theorem qC:One zN:=⟨rfl,rfl⟩
theorem LG {r gg off:Nat}{v:AV}{ty:TypeId}{xs:List AV}(hv:One v)(h:H.get r=.blk gg ty xs)(hb:H.base<=r)(hl:off < xs.length):st 1 (.ref r gg off) v H=some (aO,H.put r (.blk gg ty (xs.set off v))):=by
 show(match H.get r with
  | .blk g' ty cells=> if g'=gg/\H.base<=r/\some 1=some v.cells.length/\v.cells.all AV.aU=true/\off+v.cells.length<=cells.length then some (aO,H.put r (.blk gg ty (aG cells off v.cells))) else none
  | .map ..=> none)=_
 rw [h];simp only;rw [if_pos ⟨trivial,hb,by rw [hv.1];rfl,by rw [hv.1];simp [hv.2],by rw [hv.1];exact hl⟩,hv.1,D9 hl]
theorem RD {r gg off n:Nat}{vs:List AV}{ty:TypeId}{xs:List AV}(hv:vs.all AV.aU=true)(hn:vs.length=n)(h:H.get r=.blk gg ty xs)(hb:H.base<=r)(hl:off+n<=xs.length):st n (.ref r gg off) (.agg vs) H=some (aO,H.put r (.blk gg ty (aG xs off vs))):=by
 show(match H.get r with
  | .blk g' ty cells=> if g'=gg/\H.base<=r/\some n=some (AV.agg vs).cells.length/\(AV.agg vs).cells.all AV.aU=true/\off+(AV.agg vs).cells.length<=cells.length then some (aO,H.put r (.blk gg ty (aG cells off (AV.agg vs).cells))) else none
  | .map ..=> none)=_
 rw [h];simp only [eH];rw [if_pos ⟨trivial,hb,by rw [hn],hv,by omega⟩]
theorem Good.store(G:Good b H g)(hb:H.base<=b)(h:g q=some cs){i:Nat}(hi:i < cs.length){v:AV}(hv:One v):
  ∃H',st 1 (.ref q 0 i) v H=some (aO,H')/\Good b H' (upd g q (cs.set i (.av v)))/\Step b H H'/\H'.next=H.next:=by
 obtain⟨h0,τ,hR⟩:=G;have R:=hR q cs h;obtain⟨ty,xs,h1,h2,h3,h4⟩:=R.blk;have lo:=R.lo;refine⟨_,LG hv h1 (by omega) (by omega),?_,Step.put _ lo,rfl⟩;refine vH (τ':=τ) h0 hR (zac _) (λr hr ht=> ⟨rfl,?_⟩) ⟨R.tag,R.lo,R.hi,wM (xs:=xs.set i v) (by rw [bQ,if_pos rfl]) (R.tyl _ _ _ h1),ty,xs.set i v,by rw [bQ,if_pos rfl],by simp [h2],Xa h3 hv.2 i,λj c x hc hx=> ?_⟩
 ·rw [bQ,if_neg];intro e;subst e;exact ht 0 0 0 R.tag
 ·rcases lH hc with⟨rfl,rfl⟩ | ⟨hj,hc⟩
  ·rcases lH hx with⟨_,rfl⟩ | ⟨hj,_⟩
   ·exact rfl
   ·exact absurd rfl hj
  ·rcases lH hx with⟨rfl,_⟩ | ⟨_,hx⟩
   ·exact absurd rfl hj
   ·refine(h4 j c x hc hx).keep (zac _) λr s t hr ht=> ⟨ht,?_⟩
    rw [bQ,if_neg];intro e;subst e;rw [R.tag] at ht;cases ht
def pO(cs:List Cell)(i:Nat)(vs:List AV):List Cell:=cs.take i++(vs.map .av++cs.drop (i+vs.length))
theorem mW {l:List AV}{i:Nat}{vs:List AV}(h:i+vs.length<=l.length)(j:Nat):(aG l i vs)[j]?=if i<=j/\j < i+vs.length then vs[j - i]? else l[j]?:=by
 unfold aG;rcases zaW j i with hj | hj
 ·rw [zaP (by rw [zav];omega),zay,if_pos hj,if_neg (by omega)]
 ·have h1:(l.take i).length=i:=by rw [zav];omega
  rw [za4 (by omega),h1];rcases zaW j (i+vs.length) with hk | hk
  ·rw [if_pos ⟨hj,hk⟩,zaP (by omega)]
  ·rw [if_neg (by omega),za4 (by omega),zaA]
   congr 1;omega
theorem UF {i:Nat}{vs:List AV}(h:i+vs.length<=cs.length)(j:Nat):(pO cs i vs)[j]?=if i<=j/\j < i+vs.length then(vs[j - i]?).map .av else cs[j]?:=by
 unfold pO;rcases zaW j i with hj | hj
 ·rw [zaP (by rw [zav];omega),zay,if_pos hj,if_neg (by omega)]
 ·have h1:(cs.take i).length=i:=by rw [zav];omega
  rw [za4 (by omega),h1];rcases zaW j (i+vs.length) with hk | hk
  ·rw [if_pos ⟨hj,hk⟩,zaP (by rw [zax];omega),zaD]
  ·rw [if_neg (by omega),za4 (by rw [zax];omega),zax,zaA]
   congr 1;omega
theorem lZ {l:List AV}{i:Nat}{vs:List AV}(h:i+vs.length<=l.length):(aG l i vs).length=l.length:=by
 simp only [aG,zaq,zav,zaN];omega
theorem I4 {i:Nat}{vs:List AV}(h:i+vs.length<=cs.length):(pO cs i vs).length=cs.length:=by
 simp only [pO,zaq,zav,zaN,zax];omega
theorem uF {l vs:List AV}(h:l.all AV.aU=true)(hv:vs.all AV.aU=true)(i:Nat):(aG l i vs).all AV.aU=true:=by
 rw [zaZ] at h hv ⊢;intro x hx;simp only [aG,za3] at hx;rcases hx with hx | hx | hx
 ·exact h x (zdl hx)
 ·exact hv x hx
 ·exact h x (List.mem_of_mem_drop hx)
theorem Good.stores(G:Good b H g)(hb:H.base<=b)(h:g q=some cs){i n:Nat}{vs:List AV}(hi:i+n<=cs.length)(hn:vs.length=n)(hv:vs.all AV.aU=true):
  ∃H',st n (.ref q 0 i) (.agg vs) H=some (aO,H')/\Good b H' (upd g q (pO cs i vs))/\Step b H H'/\H'.next=H.next:=by
 obtain⟨h0,τ,hR⟩:=G;have R:=hR q cs h;obtain⟨ty,xs,h1,h2,h3,h4⟩:=R.blk;have lo:=R.lo;refine⟨_,RD hv hn h1 (by omega) (by omega),?_,Step.put _ lo,rfl⟩;refine vH (τ':=τ) h0 hR (zac _) (λr hr ht=> ⟨rfl,?_⟩) ⟨R.tag,R.lo,R.hi,wM (xs:=aG xs i vs) (by rw [bQ,if_pos rfl]) (R.tyl _ _ _ h1),ty,aG xs i vs,by rw [bQ,if_pos rfl],by rw [lZ (by omega),I4 (by omega),h2],uF h3 hv i,λj c x hc hx=> ?_⟩
 ·rw [bQ,if_neg];intro e;subst e;exact ht 0 0 0 R.tag
 ·rw [UF (by omega)] at hc;rw [mW (by omega)] at hx;split at hc
  ·rename_i hj;rw [if_pos hj] at hx;rw [hx] at hc;simp only [zai,zaa] at hc;subst hc;exact rfl
  ·rename_i hj;rw [if_neg hj] at hx;refine(h4 j c x hc hx).keep (zac _) λr s t hr ht=> ⟨ht,?_⟩
   rw [bQ,if_neg];intro e;subst e;rw [R.tag] at ht;cases ht
structure Cur(b:Nat)(H:ah)(q i:Nat)(x:AV)(m:Nat)(l:List AV):Prop where
 at_:∃ty xs,H.get q=.blk 0 ty xs/\xs[i]?=some x
 own:(x=zN/\l=[])∨∃r g off n cap ex ty all,x=.sl r g off m n cap ex/\r≠q/\b<=r/\r < H.next/\n<=cap/\H.get r=.blk g ty all/\off+cap*m<=all.length/\all.all AV.aU=true/\l=(all.drop off).take (n*m)
 lt:q < H.next
theorem Good.seq(G:Good b H g)(h:g q=some cs){i m:Nat}{l:List AV}(hi:cs[i]?=some (.seq m l)):∃x,ld (.ref q 0 i) H=some (x,H)/\Cur b H q i x m l:=by
 obtain⟨_,τ,hR⟩:=G;have R:=hR q cs h;obtain⟨ty,xs,h1,h2,h3,h4⟩:=R.blk;have hlt:i < xs.length:=by rw [h2];exact(zak.1 hi).1
 have hx:xs[i]?=some (xs[i]'hlt):=zab hlt;refine⟨xs[i]'hlt,by rw [dR h1,hx];rfl,⟨ty,xs,h1,hx⟩,?_,R.hi⟩;have:=h4 i _ _ hi hx;simp only [CR] at this;rcases this with h5 | ⟨r,gg,off,n,cap,ex,ty,all,h5,h6,h7⟩
 ·exact .inl h5
 ·refine .inr ⟨r,gg,off,n,cap,ex,ty,all,h5,?_,h7⟩;intro e;subst e;rw [R.tag] at h6;cases h6
theorem Cur.load {i m:Nat}{x:AV}{l:List AV}(c:Cur b H q i x m l):ld (.ref q 0 i) H=some (x,H):=by
 obtain⟨ty,xs,h1,h2⟩:=c.at_;rw [dR h1,h2];rfl
theorem Cur.ext {i m:Nat}{x:AV}{l:List AV}(c:Cur b H q i x m l)(hn:H.next<=H'.next)(hg:∀r,r < H.next->H'.get r=H.get r):Cur b H' q i x m l:=by
 obtain⟨ty,xs,h1,h2⟩:=c.at_;refine⟨⟨ty,xs,by rw [hg q c.lt];exact h1,h2⟩,?_,by have:=c.lt;omega⟩;rcases c.own with h | ⟨r,g,off,n,cap,ex,ty,all,k0,k1,k2,k3,k4,k5,k6⟩
 ·exact .inl h
 ·exact .inr ⟨r,g,off,n,cap,ex,ty,all,k0,k1,k2,by omega,k4,by rw [hg r k3];exact k5,k6⟩
theorem Cur.new {i m:Nat}{x:AV}{l:List AV}(c:Cur b H q i x m l)(o:fD):Cur b (H.new o) q i x m l:=c.ext (za8 _) λr hr=> by rw [iM,if_neg (by omega)]
theorem Cur.one {i m:Nat}{x:AV}{l:List AV}(c:Cur b H q i x m l):One x:=by
 rcases c.own with⟨rfl,_⟩ | ⟨r,g,off,n,cap,ex,ty,all,rfl,_⟩
 ·exact qC
 ·exact mZ
theorem Cur.is {i m n:Nat}{x:AV}{l:List AV}(c:Cur b H q i x m l)(hm:0 < m)(hl:l.length=n*m):aH H x m n l:=by
 refine⟨hl,?_⟩;rcases c.own with⟨rfl,rfl⟩ | ⟨r,g,off,n',cap,ex,ty,all,rfl,k1,k2,k3,k4,k5,k6,k7,rfl⟩
 ·refine⟨rfl,rfl,?_⟩;simp only [zam] at hl;rcases zcY.1 hl.symm with h | h <;> omega
 ·have h1:n'*m<=cap*m:=zaz _ k4;rw [zav,zaN,zbq (by omega)] at hl;have:n'=n:=zbA hm hl;subst this;exact⟨rfl,rfl,⟨k3,k4⟩,ty,all,k5,by omega,rfl⟩
theorem Cur.low {i m r:Nat}{x:AV}{l:List AV}(c:Cur b H q i x m l)(hr:r < b):iP x≠some r:=by
 rcases c.own with⟨rfl,_⟩ | ⟨r',g,off,n,cap,ex,ty,all,rfl,k1,k2,_⟩
 ·intro e;cases e
 ·intro e;simp only [iP,zaa] at e;omega
def Fit(H H1:ah)(x0 x:AV)(m:Nat)(l:List AV):Prop:=
 (x=zN/\l=[])∨∃r g off n cap ex ty all,x=.sl r g off m n cap ex/\(iP x0=some r∨H.next<=r)/\r < H1.next/\n<=cap/\H1.get r=.blk g ty all/\off+cap*m<=all.length/\all.all AV.aU=true/\l=(all.drop off).take (n*m)
theorem Good.seat(G:Good b H g)(h:g q=some cs){i m:Nat}{l0:List AV}(hi:cs[i]?=some (.seq m l0)){x0:AV}(c:Cur b H q i x0 m l0){H1:ah}(hn:H.next<=H1.next)(hb:H1.base<=b)
  (hk:∀r,r < H.next->iP x0≠some r->H1.get r=H.get r) {x:AV} {m':Nat} {l:List AV} (hx:Fit H H1 x0 x m' l):
  ∃H',st 1 (.ref q 0 i) x H1=some (aO,H')/\Good b H' (upd g q (cs.set i (.seq m' l)))/\Step b H1 H'/\H'.next=H1.next:=by
 obtain⟨h0,τ,hR⟩:=G;have R:=hR q cs h;obtain⟨ty,xs,h1,h2,h3,h4⟩:=R.blk;have lo:=R.lo;have hi':=R.hi;have il:i < cs.length:=(zak.1 hi).1;have hx0:xs[i]?=some x0:=by
  obtain⟨ty',xs',e1,e2⟩:=c.at_;rw [h1] at e1;cases e1;exact e2
 have htag:∀r,iP x0=some r->τ r=some (q,i+1,0,0)/\b<=r:=by
  intro r hr;have:=h4 i _ _ hi hx0;simp only [CR] at this;rcases this with⟨rfl,_⟩ | ⟨r',gg,off,n,cap,ex,ty',all,rfl,k1,k2,_⟩
  ·cases hr
  ·simp only [iP,zaa] at hr;subst hr;exact⟨k1,k2⟩
 have hqx:iP x0≠some q:=λe=> by have:=(htag q e).1;rw [R.tag] at this;cases this
 have hq1:H1.get q=.blk 0 ty xs:=by rw [hk q hi' hqx];exact h1
 have hone:One x:=by
  rcases hx with⟨rfl,_⟩ | ⟨r,gg,off,n,cap,ex,ty',all,rfl,_⟩
  ·exact qC
  ·exact mZ
 refine⟨_,LG hone hq1 (by omega) (by omega),?_,Step.put _ lo,rfl⟩;refine vH (τ':=λr=> if H.next<=r then some (q,i+1,0,0) else τ r) h0 hR (show H.next<=H1.next from hn) (λr hr ht=> ⟨by rw [if_neg (by omega)],?_⟩)
  ⟨by rw [if_neg (by omega)];exact R.tag,R.lo,show q < H1.next by omega,wM (xs:=xs.set i x) (by rw [bQ,if_pos rfl]) (R.tyl _ _ _ h1),ty,xs.set i x,by rw [bQ,if_pos rfl],by simp [h2],Xa h3 hone.2 i,λj cc y hc hy=> ?_⟩
 ·rw [bQ,if_neg (by intro e;subst e;exact ht 0 0 0 R.tag)];exact hk r hr λe=> ht (i+1) 0 0 (htag r e).1
 ·rcases lH hc with⟨rfl,rfl⟩ | ⟨hj,hc⟩
  ·rcases lH hy with⟨_,rfl⟩ | ⟨hj,_⟩
   ·rcases hx with hx | ⟨r,gg,off,n,cap,ex,ty',all,rfl,k1,k2,k3,k4,k5⟩
    ·exact .inl hx
    ·have hrq:r≠q:=by
      rcases k1 with k1 | k1
      ·intro e;subst e;exact hqx k1
      ·omega
     refine .inr ⟨r,gg,off,n,cap,ex,ty',all,rfl,?_,?_,k2,k3,by rw [bQ,if_neg hrq];exact k4,k5⟩
     ·show(if H.next<=r then some (q,j+1,0,0) else τ r)=some (q,j+1,0,0);split
      ·rfl
      ·rcases k1 with k1 | k1
       ·exact(htag r k1).1
       ·omega
     ·rcases k1 with k1 | k1
      ·exact(htag r k1).2
      ·omega
   ·exact absurd rfl hj
  ·rcases lH hy with⟨rfl,_⟩ | ⟨_,hy⟩
   ·exact absurd rfl hj
   ·refine(h4 j cc y hc hy).keep (show H.next<=H1.next from hn) λr s t hr ht=> ⟨by rw [if_neg (by omega)];exact ht,?_⟩
    rw [bQ,if_neg (by intro e;subst e;rw [R.tag] at ht;cases ht)];refine hk r hr λe=> ?_;have:=(htag r e).1;rw [this] at ht;simp only [zaa,zae,zbU] at ht;exact hj ht.2.1.symm
end
section
variable {b:Nat}{H H':ah}{g:bg}{q:Nat}{cs:List Cell}
theorem aH.lnS {x:AV}{m n:Nat}{cells:List AV}(h:aH H x m n cells):lnS x H=some (I n,H):=by
 obtain⟨_,h⟩:=h;unfold Go.Proofs.YtmdbbfoefdjgoaaGreat.lnS jT amC;cases x with
 | sl r g off esz len cap ex=> simp only;rw [h.2.1];rfl
 | vs k esz cs=> simp only;rw [h.2.1];rfl
 | s v=>
  cases v with
  | slice a b c=>
   cases a with
   | none=> simp only;rw [h.2.2,h.1];rfl
   | some a=> exact h.elim
  | _=> exact h.elim
 | _=> exact h.elim
theorem aH.ix {x:AV}{m n:Nat}{cells:List AV}(h:aH H x m n cells){k:IntKind}{i:Int}(h0:0<=i)(h1:i < n):ix m x (.s (.int k i)) H=some (dW x i.toNat,H):=by
 obtain⟨_,h⟩:=h;unfold Go.Proofs.YtmdbbfoefdjgoaaGreat.ix jT ixO;cases x with
 | sl r g off esz len cap ex=>
  obtain⟨rfl,rfl,_,ty,all,h2,h3,h4⟩:=h;simp only [bD,zai,h2,al1,fD.gen,true_and];rw [if_pos ⟨h0,by omega⟩];rfl
 | vs k' esz cs=>
  obtain⟨rfl,rfl,rfl⟩:=h;simp only [true_and];rw [if_pos ⟨h0,by omega⟩];rfl
 | s v=>
  cases v with
  | slice a b c=>
   cases a with
   | none=> obtain⟨rfl,rfl,rfl⟩:=h;omega
   | some a=> exact h.elim
  | _=> exact h.elim
 | _=> exact h.elim
theorem aH.ld {x:AV}{n:Nat}{cells:List AV}(h:aH H x 1 n cells){i:Nat}(hi:i < n):ld (dW x i) H=(cells[i]?).map λv=> (v,H):=by
 obtain⟨_,h⟩:=h;cases x with
 | sl r g off esz len cap ex=>
  obtain⟨rfl,rfl,_,ty,all,h2,h3,h4⟩:=h;simp only [dW];rw [dR h2,h4,zay,if_pos (by omega),zaA,zbi]
 | vs k' esz cs=>
  obtain⟨rfl,rfl,rfl⟩:=h;simp only [dW];rw [ah5,zaA,zbi,zbp]
 | s v=>
  cases v with
  | slice a b c=>
   cases a with
   | none=> obtain⟨rfl,rfl,rfl⟩:=h;omega
   | some a=> exact h.elim
  | _=> exact h.elim
 | _=> exact h.elim
theorem aH.acZ {x:AV}{m n:Nat}{cells:List AV}(h:aH H x m n cells){i o:Nat}(hi:i < n)(ho:o < m):(ak (dW x i) o).bind (λp=> Go.Proofs.YtmdbbfoefdjgoaaGreat.ld p H)=(cells[i*m+o]?).map λv=> (v,H):=by
 obtain⟨hl,h⟩:=h;have him:i*m+m<=n*m:=by
  have:(i+1)*m<=n*m:=zaz _ hi
  rwa [zbz] at this
 cases x with
 | sl r g off esz len cap ex=>
  obtain⟨rfl,rfl,_,ty,all,h2,h3,h4⟩:=h;simp only [dW,pK,za0];rw [dR h2,h4,zay,if_pos (by omega),zaA,zcy]
 | vs k' esz cs=>
  obtain⟨rfl,rfl,rfl⟩:=h;simp only [dW,xk,za0];rw [ah5,zbC,zaA,zbp]
 | s v=>
  cases v with
  | slice a b c=>
   cases a with
   | none=> obtain⟨rfl,rfl,rfl⟩:=h;omega
   | some a=> exact h.elim
  | _=> exact h.elim
 | _=> exact h.elim
theorem aH.lda {x:AV}{m n:Nat}{cells:List AV}(h:aH H x m n cells){i:Nat}(hi:i < n):lda m (dW x i) H=some (.agg ((cells.drop (i*m)).take m),H):=by
 obtain⟨hl,h⟩:=h;have him:i*m+m<=n*m:=by
  have:(i+1)*m<=n*m:=zaz _ hi
  rwa [zbz] at this
 cases x with
 | sl r g off esz len cap ex=>
  obtain⟨rfl,rfl,_,ty,all,h2,h3,h4⟩:=h;simp only [dW];rw [fO h2 (by omega),h4,zcr,zb9,zbC,zbq (by omega)]
 | vs k' esz cs=>
  obtain⟨rfl,rfl,rfl⟩:=h;simp only [dW];rw [ah6 (by rw [zaN];omega)]
 | s v=>
  cases v with
  | slice a b c=>
   cases a with
   | none=> obtain⟨rfl,rfl,rfl⟩:=h;omega
   | some a=> exact h.elim
  | _=> exact h.elim
 | _=> exact h.elim
theorem Ea {all new:List AV}{off n:Nat}(h:off+n+new.length<=all.length):((aG all (off+n) new).drop off).take (n+new.length)=(all.drop off).take n++new:=by
 have hl:(aG all (off+n) new).length=all.length:=lZ (by omega)
 apply zbg
 intro j;rcases zaW j n with h1 | h1
 ·rw [zay,if_pos (by omega),zaA,mW (by omega),if_neg (by omega),zaP (by rw [zav,zaN];omega),zay,if_pos h1,zaA]
 ·rcases zaW j (n+new.length) with h2 | h2
  ·rw [zay,if_pos h2,zaA,mW (by omega),if_pos (by omega),za4 (by rw [zav,zaN];omega),zav,zaN]
   congr 1;omega
  ·rw [zay,if_neg (by omega),za4 (by rw [zav,zaN];omega),zav,zaN,zaK (by omega)]
theorem all_append {l l':List AV}(h:l.all AV.aU=true)(h':l'.all AV.aU=true):(l++l').all AV.aU=true:=by rw [zbF,h,h'];rfl
theorem BU {l:List AV}(h:l.all AV.aU=true)(n:Nat):(l.take n).all AV.aU=true:=by
 rw [zaZ] at h ⊢;exact λx hx=> h x (zdl hx)
theorem yh {l:List AV}(h:l.all AV.aU=true)(n:Nat):(l.drop n).all AV.aU=true:=by
 rw [zaZ] at h ⊢;exact λx hx=> h x (List.mem_of_mem_drop hx)
def Own(b:Nat)(H:ah)(x:AV)(m:Nat)(l:List AV):Prop:=
 (x=zN/\l=[])∨∃r g off n cap ex ty all,x=.sl r g off m n cap ex/\b<=r/\r < H.next/\n<=cap/\H.get r=.blk g ty all/\off+cap*m<=all.length/\all.all AV.aU=true/\l=(all.drop off).take (n*m)
theorem Own.app {m n k:Nat}{x y:AV}{l new:List AV}(c:Own b H x m l)(hb:H.base<=b)(hm:0 < m)(hl:l.length=n*m)(hy:aH H y m k new)(hc:new.all AV.aU=true){e:TypeId}{by_:Nat}(h1:n+k<=most)(h2:(n+k)*by_<=most):
  ∃x' H1,app e m by_ x y H=some (x',H1)/\Fit H H1 x x' m (l++new)/\H.next<=H1.next/\H1.base=H.base/\∀r,r < H.next->iP x≠some r->H1.get r=H.get r:=by
 obtain⟨c1,c2⟩:=hy.AX;have c3:=hy.1;have key:Go.Proofs.YtmdbbfoefdjgoaaGreat.app e m by_ x y H=dJ e m by_ x k new H:=by simp only [Go.Proofs.YtmdbbfoefdjgoaaGreat.app,c1,c2]
 rw [key];unfold dJ;rw [if_pos ⟨c3,hc⟩];rcases c with⟨rfl,rfl⟩ | ⟨r,gg,off,n',cap,ex,ty,all,rfl,k2,k3,k4,k5,k6,k7,rfl⟩
 ·simp only [zam] at hl;have hn:n=0:=by rcases zcY.1 hl.symm with h | h <;> omega
  subst hn;rw [za5] at h1 h2;by_cases hk:k=0
  ·subst hk;rw [zbe] at c3;have:new=[]:=zan c3;subst this;exact⟨zN,H,by simp only [if_true],.inl ⟨rfl,rfl⟩,zac _,rfl,λ_ _ _=> rfl⟩
  ·refine⟨.sl H.next 0 0 m k k false,H.new (.blk 0 (e+fQ) new),by simp only [hk,h1,h2,and_self,if_true,if_false],.inr ⟨H.next,0,0,k,k,false,e+fQ,new,rfl,.inr (zac _),by rw [BQ];omega,zac _,by simp [iM],by omega,hc,?_⟩,za8 _,rfl,λr hr _=> by rw [iM,if_neg (by omega)]⟩;rw [zaU,zaO,zaE (by omega)]
 ·have hcm:n'*m<=cap*m:=zaz _ k4;rw [zav,zaN,zbq (by omega)] at hl;have hn:n'=n:=zbA hm hl;subst hn;simp only [k5];rw [if_pos ⟨trivial,trivial,by omega⟩];by_cases hk:k=0
  ·subst hk;rw [zbe] at c3;have:new=[]:=zan c3;subst this;exact⟨_,H,by rw [if_pos rfl],.inr ⟨r,gg,off,n',cap,ex,ty,all,rfl,.inl rfl,k3,k4,k5,k6,k7,by rw [zbb]⟩,zac _,rfl,λ_ _ _=> rfl⟩
  ·rw [if_neg hk];by_cases hf:n'+k<=cap
   ·have hfm:(n'+k)*m<=cap*m:=zaz _ hf;rw [if_pos hf,if_pos ⟨by omega,by omega⟩];refine⟨_,_,rfl,.inr ⟨r,gg,off,n'+k,cap,ex,ty,aG all (off+n'*m) new,rfl,.inl rfl,k3,hf,by rw [bQ,if_pos rfl],?_,uF k7 hc _,?_⟩,zac _,rfl,λr' hr hne=> ?_⟩
    ·rw [zbx] at hfm;rw [lZ (by omega)];exact k6
    ·rw [zbx] at hfm ⊢;rw [<-c3,Ea (by omega)]
    ·rw [bQ,if_neg];intro e';subst e';exact hne rfl
   ·rw [if_neg hf,if_pos ⟨h1,h2⟩];have e1:((all.drop off).take (n'*m)).length=n'*m:=by rw [zav,zaN];omega
    have e2:((all.drop off).take (n'*m)++new).length=(n'+k)*m:=by rw [zaq,e1,c3,zbx]
    cases ex with
    | true=>
     simp only [if_true];refine⟨_,_,rfl,.inr ⟨H.next,0,0,n'+k,n'+k,false,e+fQ,(all.drop off).take (n'*m)++new,rfl,.inr (zac _),by rw [BQ];omega,zac _,by simp only [iM,if_true],by rw [e2,za5];exact zac _,all_append (BU (yh k7 _) _) hc,?_⟩,za8 _,rfl,λr' hr _=> by rw [iM,if_neg (by omega)]⟩;rw [zaO,zaE (Nat.le_of_eq e2)]
    | false=>
     simp only [zal,if_false];rw [if_pos (by omega)];refine⟨_,_,rfl,.inr ⟨r,gg+1,0,n'+k,n'+k,false,grT e ty off,(all.drop off).take (n'*m)++new,rfl,.inl rfl,k3,zac _,by simp only [bQ,if_true],by rw [e2,za5];exact zac _,all_append (BU (yh k7 _) _) hc,?_⟩,zac _,rfl,λr' hr hne=> ?_⟩
     ·rw [zaO,zaE (Nat.le_of_eq e2)]
     ·rw [bQ,if_neg];intro e';subst e';exact hne rfl
theorem Cur.amL {i m:Nat}{x:AV}{l:List AV}(c:Cur b H q i x m l):Own b H x m l:=by
 rcases c.own with h | ⟨r,gg,off,n',cap,ex,ty,all,k0,k1,k2⟩
 ·exact .inl h
 ·exact .inr ⟨r,gg,off,n',cap,ex,ty,all,k0,k2⟩
theorem Cur.app {i m n k:Nat}{x y:AV}{l new:List AV}(c:Cur b H q i x m l)(hb:H.base<=b)(hm:0 < m)(hl:l.length=n*m)(hy:aH H y m k new)(hc:new.all AV.aU=true){e:TypeId}{by_:Nat}(h1:n+k<=most)(h2:(n+k)*by_<=most):
  ∃x' H1,app e m by_ x y H=some (x',H1)/\Fit H H1 x x' m (l++new)/\H.next<=H1.next/\H1.base=H.base/\∀r,r < H.next->iP x≠some r->H1.get r=H.get r:=
 c.amL.app hb hm hl hy hc h1 h2
theorem Own.step {m n k:Nat}{x y:AV}{l new:List AV}(c:Own b H x m l)(hbn:b<=H.next)(hb:H.base<=b)(hm:0 < m)(hl:l.length=n*m)(hy:aH H y m k new)(hc:new.all AV.aU=true){e:TypeId}{by_:Nat}(h1:n+k<=most)(h2:(n+k)*by_<=most):
  ∃x' H1,Go.Proofs.YtmdbbfoefdjgoaaGreat.app e m by_ x y H=some (x',H1)/\Own b H1 x' m (l++new)/\Step b H H1:=by
 obtain⟨x',H1,e1,f,n1,b1,k1⟩:=c.app hb hm hl hy hc (e:=e) (by_:=by_) h1 h2;have hx:∀r,iP x=some r->b<=r:=λr hr=> by
  rcases c with⟨rfl,_⟩ | ⟨r',g,off,n',cap,ex,ty,all,rfl,k2,_⟩
  ·cases hr
  ·simp only [iP,zaa] at hr;omega
 refine⟨x',H1,e1,?_,b1,n1,λr hr=> k1 r (by omega) λe=> by have:=hx r e;omega⟩;rcases f with f | ⟨r,g,off,n',cap,ex,ty,all,rfl,f1,f2⟩
 ·exact .inl f
 ·exact .inr ⟨r,g,off,n',cap,ex,ty,all,rfl,f1.elim (hx r) λf1=> by omega,f2⟩
theorem Own.is {m n:Nat}{x:AV}{l:List AV}(c:Own b H x m l)(hm:0 < m)(hl:l.length=n*m):aH H x m n l:=by
 refine⟨hl,?_⟩;rcases c with⟨rfl,rfl⟩ | ⟨r,g,off,n',cap,ex,ty,all,rfl,k2,k3,k4,k5,k6,k7,rfl⟩
 ·refine⟨rfl,rfl,?_⟩;simp only [zam] at hl;rcases zcY.1 hl.symm with h | h <;> omega
 ·have hcm:n'*m<=cap*m:=zaz _ k4;rw [zav,zaN,zbq (by omega)] at hl;have hn:n'=n:=zbA hm hl;subst hn;exact⟨rfl,rfl,⟨k3,k4⟩,ty,all,k5,by omega,rfl⟩
theorem Own.ext {m:Nat}{x:AV}{l:List AV}(c:Own b H x m l)(hn:H.next<=H'.next)(hg:∀r,r < H.next->H'.get r=H.get r):Own b H' x m l:=by
 rcases c with h | ⟨r,g,off,n,cap,ex,ty,all,k0,k2,k3,k4,k5,k6⟩
 ·exact .inl h
 ·exact .inr ⟨r,g,off,n,cap,ex,ty,all,k0,k2,by omega,k4,by rw [hg r k3];exact k5,k6⟩
theorem Own.new {m:Nat}{x:AV}{l:List AV}(c:Own b H x m l)(o:fD):Own b (H.new o) x m l:=c.ext (za8 _) λr hr=> by rw [iM,if_neg (by omega)]
theorem Good.append(G:Good b H g)(hb:H.base<=b)(h:g q=some cs){i m n k:Nat}{l new:List AV}(hi:cs[i]?=some (.seq m l))(hm:0 < m)(hl:l.length=n*m){x y:AV}(c:Cur b H q i x m l)(hy:aH H y m k new)(hc:new.all AV.aU=true){e:TypeId}{by_:Nat}(h1:n+k<=most)(h2:(n+k)*by_<=most):
  ∃x' H1 H2,app e m by_ x y H=some (x',H1)/\st 1 (.ref q 0 i) x' H1=some (aO,H2)/\Good b H2 (upd g q (cs.set i (.seq m (l++new))))/\Step b H H2:=by
 obtain⟨x',H1,e1,f,n1,b1,k1⟩:=c.app hb hm hl hy hc (e:=e) (by_:=by_) h1 h2;obtain⟨H2,e2,G2,b2,n2⟩:=G.seat h hi c n1 (by omega) k1 f;have hb0:=G.1;exact⟨x',H1,H2,e1,e2,G2,Step.trans ⟨b1,n1,λr hr=> k1 r (by omega) (c.low hr)⟩ b2⟩
theorem Good.elem(G:Good b H g)(hb:H.base<=b)(h:g q=some cs){i m n:Nat}{l:List AV}(hi:cs[i]?=some (.seq m l))(hm:0 < m)(hl:l.length=n*m){x:AV}(c:Cur b H q i x m l){j:Nat}(hj:j < n):
  ∃r gg off,dW x j=.ref r gg off/\∀(w o:Nat) (v:AV),v.cells.length=w->v.cells.all AV.aU=true->o+w<=m->
   ∃H',st w (.ref r gg (off+o)) v H=some (aO,H')/\Good b H' (upd g q (cs.set i (.seq m (aG l (j*m+o) v.cells))))/\Step b H H'/\H'.next=H.next:=by
 have him:j*m+m<=n*m:=by
  have:(j+1)*m<=n*m:=zaz _ hj
  rwa [zbz] at this
 rcases c.own with⟨rfl,rfl⟩ | ⟨r,gg,off,n',cap,ex,ty,all,rfl,k1,k2,k3,k4,k5,k6,k7,rfl⟩
 ·simp only [zam] at hl;omega
 ·have hcm:n'*m<=cap*m:=zaz _ k4;rw [zav,zaN,zbq (by omega)] at hl;have hn:n'=n:=zbA hm hl;subst hn;refine⟨r,gg,off+j*m,rfl,λw o v hw hv ho=> ?_⟩;obtain⟨h0,τ,hR⟩:=G;have R:=hR q cs h;obtain⟨ty',xs,h1,h2,h3,h4⟩:=R.blk;have hx0:xs[i]?=some (.sl r gg off m n' cap ex):=by
   obtain⟨ap1,xs',e1,e2⟩:=c.at_;rw [h1] at e1;cases e1;exact e2
  have htag:τ r=some (q,i+1,0,0):=by
   have:=h4 i _ _ hi hx0;simp only [CR] at this;rcases this with⟨h,_⟩ | ⟨_,_,_,_,_,_,_,_,h,k,_⟩
   ·cases h
   ·cases h;exact k
  refine⟨H.put r (.blk gg ty (aG all (off+j*m+o) v.cells)),?_,?_,Step.put _ k2,rfl⟩
  ·show(match H.get r with
    | .blk g' ty cells=> if g'=gg/\H.base<=r/\some w=some v.cells.length/\v.cells.all AV.aU=true/\off+j*m+o+v.cells.length<=cells.length then some (aO,H.put r (.blk gg ty (aG cells (off+j*m+o) v.cells))) else none
    | .map ..=> none)=_
   rw [k5];simp only;rw [if_pos ⟨trivial,by omega,by rw [hw],hv,by omega⟩]
  ·refine vH (τ':=τ) h0 hR (zac _) (λr' hr ht=> ⟨rfl,?_⟩) ⟨R.tag,R.lo,R.hi,wM (xs:=xs) (by rw [bQ,if_neg (λe=> k1 e.symm)];exact h1) (R.tyl _ _ _ h1),ty',xs,by rw [bQ,if_neg (λe=> k1 e.symm)];exact h1,by simp [h2],h3,λj' cc y hcc hy=> ?_⟩
   ·rw [bQ,if_neg];intro e;subst e;exact ht _ _ _ htag
   ·rcases lH hcc with⟨rfl,rfl⟩ | ⟨hj',hcc⟩
    ·rw [hx0] at hy;cases hy;refine .inr ⟨r,gg,off,n',cap,ex,ty,_,rfl,htag,k2,k3,k4,by rw [bQ,if_pos rfl],by rw [lZ (by omega)];exact k6,uF k7 hv _,?_⟩
     apply zbg
     intro p;have hlen:((all.drop off).take (n'*m)).length=n'*m:=by rw [zav,zaN];omega
     rw [mW (by omega)];rcases zaW p (n'*m) with hp | hp
     ·rw [zay,if_pos hp,zaA,zay,if_pos hp,zaA,mW (by omega)];by_cases hc1:j*m+o<=p/\p < j*m+o+v.cells.length
      ·rw [if_pos hc1,if_pos (by omega)];congr 1;omega
      ·rw [if_neg hc1,if_neg (by omega)]
     ·rw [zay,if_neg (by omega),zay,if_neg (by omega),if_neg (by omega)]
    ·refine(h4 j' cc y hcc hy).keep (zac _) λr' s t hr ht=> ⟨ht,?_⟩
     rw [bQ,if_neg];intro e;subst e;rw [htag] at ht;simp only [zaa,zae,zbU] at ht;exact hj' ht.2.1.symm
theorem Good.map(G:Good b H g)(h:g q=some cs){i:Nat}{k:IntKind}{es:List (Int × AV)}(hi:cs[i]?=some (.map k es)):
  ∃r,ld (.ref q 0 i) H=some (.mp r,H)/\(∀z n ok,lk k z (.mp r) (.s (.int k n)) ok H=some ((match oD es n with
   | some v=> if ok then .tup [v,.s (.bool true)] else v
   | none=> if ok then .tup [.s z,.s (.bool false)] else .s z),H))/\lnM (.mp r) H=some (I es.length,H)/\(H.base<=b->
   (∀n v,∃H',mup k (.mp r) (.s (.int k n)) v H=some (aO,H')/\Good b H' (upd g q (cs.set i (.map k (Io es n v))))/\Step b H H'/\H'.next=H.next)/\
   (∀n,∃H',del k (.mp r) (.s (.int k n)) H=some (.tup [],H')/\Good b H' (upd g q (cs.set i (.map k (xU es n))))/\Step b H H'/\H'.next=H.next)):=by
 obtain⟨h0,τ,hR⟩:=G;have R:=hR q cs h;obtain⟨ty,xs,h1,h2,h3,h4⟩:=R.blk;have hlt:i < xs.length:=by rw [h2];exact(zak.1 hi).1
 have hx:xs[i]?=some (xs[i]'hlt):=zab hlt;have:=h4 i _ _ hi hx;simp only [CR] at this;obtain⟨r,e,t1,t2,t3,t4⟩:=this;rw [e] at hx;have hrq:q≠r:=by intro e;subst e;rw [R.tag] at t1;cases t1
 have put:∀es',Good b (H.put r (.map k es')) (upd g q (cs.set i (.map k es'))):=by
  intro es';refine vH (τ':=τ) h0 hR (zac _) (λr' hr ht=> ⟨rfl,?_⟩) ⟨R.tag,R.lo,R.hi,wM (xs:=xs) (by rw [bQ,if_neg hrq];exact h1) (R.tyl _ _ _ h1),ty,xs,by rw [bQ,if_neg hrq];exact h1,by simp [h2],h3,λj c y hc hy=> ?_⟩
  ·rw [bQ,if_neg];intro e;subst e;exact ht _ _ _ t1
  ·rcases lH hc with⟨rfl,rfl⟩ | ⟨hj,hc⟩
   ·rw [hx] at hy;cases hy;exact⟨r,rfl,t1,t2,t3,by rw [bQ,if_pos rfl]⟩
   ·refine(h4 j c y hc hy).keep (zac _) λr' s t hr ht=> ⟨ht,?_⟩
    rw [bQ,if_neg];intro e;subst e;rw [t1] at ht;simp only [zaa,zae,zbU] at ht;exact hj ht.2.1.symm
 refine⟨r,by rw [dR h1,hx];rfl,λz n ok=> ?_,?_,λhb=> ⟨λn v=> ⟨H.put r (.map k (Io es n v)),?_,put _,Step.put _ t2,rfl⟩,λn=> ⟨H.put r (.map k (xU es n)),?_,put _,Step.put _ t2,rfl⟩⟩⟩
 ·simp only [lk,jT,bD,zai,lkO,t4,and_self,if_true];cases oD es n <;> rfl
 ·simp only [lnM,jT,bD,zai,amD,t4]
 ·simp only [mup,t4];rw [if_pos ⟨trivial,trivial,by omega⟩]
 ·simp only [del,t4];rw [if_pos ⟨trivial,trivial,by omega⟩]
end
abbrev w64(n:Int):Int:=IntKind.wrap .i64 n
structure Cfg where
 aP:Int
 aW:Int
 aQ:Int
 sets:Int
 ways:Int
 out:Int
 inn:Int
 init:List Int
structure Pkt where
 bf:Int
 src:Int
 dst:Int
 id:Int
 aB:Int
 ptr:Int
 state:Int
 flag:Bool
 data:List Int
 deriving DecidableEq
structure Opn where
 bf:Int
 addr:Int
 value:Int
 deriving DecidableEq
structure Evn where
 bn:Int
 index:Int
 done:Bool
 value:Int
 deriving DecidableEq
structure Ent where
 fwd:Int
 back:Int
 aB:Int
 used:Int
 fB:Bool
 data:List Int
 deriving DecidableEq
structure Row where
 state:Int
 head:Int
 data:List Int
 deriving DecidableEq
structure dF where
 bf:Int
 aB:Int
 id:Int
 step:Int
 state:Int
 head:Int
 data:List Int
 next:Int
 told:Int
 deriving DecidableEq
structure Pck where
 deliver:Bool
 at_:Int
 bit:Int
 mask:Int
def vsl {α:Type}(m:Nat)(enc:α->List AV)(l:List α):AV:=if l=[] then zN else .vs l.length m (l.flatMap enc)
def ama(n:Int):List AV:=[I n]
def dat(l:List Int):AV:=vsl 1 ama l
def Cfg.av(c:Cfg):List AV:=[I c.aP,I c.aW,I c.aQ,I c.sets,I c.ways,I c.out,I c.inn,dat c.init]
def Pkt.av(p:Pkt):List AV:=[I p.bf,I p.src,I p.dst,I p.id,I p.aB,I p.ptr,I p.state,B p.flag,dat p.data]
def Opn.av(o:Opn):List AV:=[I o.bf,I o.addr,I o.value]
def Evn.av(e:Evn):List AV:=[I e.bn,I e.index,B e.done,I e.value]
def Ent.av(e:Ent):List AV:=[I e.fwd,I e.back,I e.aB,I e.used,B e.fB,dat e.data]
def Row.av(r:Row):List AV:=[I r.state,I r.head,dat r.data]
def dF.av(d:dF):List AV:=[I d.bf,I d.aB,I d.id,I d.step,I d.state,I d.head,dat d.data,I d.next,I d.told]
def Pck.av(p:Pck):List AV:=[B p.deliver,I p.at_,I p.bit,.s (.int .u16 p.mask)]
def Pkt.zero:Pkt:=⟨0,0,0,0,0,0,0,false,[]⟩
def Opn.zero:Opn:=⟨0,0,0⟩
def Ent.zero:Ent:=⟨0,0,0,0,false,[]⟩
def Row.zero:Row:=⟨0,0,[]⟩
def dF.zero:dF:=⟨0,0,0,0,0,0,[],0,0⟩
theorem dh {α:Type}{enc:α->List AV}{m:Nat}(he:∀a,(enc a).length=m)(l:List α):(l.flatMap enc).length=l.length*m:=PI he l
theorem Gt {α:Type}{enc:α->List AV}{m:Nat}(he:∀a,(enc a).length=m)(H:ah)(l:List α):aH H (vsl m enc l) m l.length (l.flatMap enc):=by
 unfold vsl;split
 ·rename_i h;subst h;exact aH.nil
 ·exact aH.vs (dh he l)
theorem gB {α:Type}{enc:α->List AV}{m:Nat}:vsl m enc ([]:List α)=zN:=by simp [vsl]
theorem I5 {α:Type}{enc:α->List AV}{m:Nat}{l:List α}(h:l≠[]):vsl m enc l=.vs l.length m (l.flatMap enc):=by simp [vsl,h]
theorem PK {α:Type}{enc:α->List AV}{m:Nat}{l:List α}:One (vsl m enc l):=by
 unfold vsl;split
 ·exact qC
 ·exact acY
theorem qE {l:List Int}:One (dat l):=PK
theorem aaT(n:Int):(ama n).length=1:=rfl
theorem LH(l:List Int):l.flatMap ama=l.map I:=by
 induction l with
 | nil=> rfl
 | cons a l ih=> rw [zaQ,ih];rfl
theorem gI(H:ah)(l:List Int):aH H (dat l) 1 l.length (l.map I):=by
 have:=Gt aaT H l;rw [LH] at this;exact this
theorem bH(p:Pkt):p.av.length=9:=rfl
theorem fH(p:Opn):p.av.length=3:=rfl
theorem mg(p:Evn):p.av.length=4:=rfl
theorem bT(p:Ent):p.av.length=6:=rfl
theorem Gu(p:Row):p.av.length=3:=rfl
theorem Gv(p:Cfg):p.av.length=8:=rfl
theorem Eb(p:dF):p.av.length=9:=rfl
theorem Gw(p:Pck):p.av.length=4:=rfl
theorem ac0(p:Cfg):p.av.take 8=p.av:=rfl
theorem LJ(p:Pkt):p.av.take 9=p.av:=rfl
theorem ac3(p:Opn):p.av.take 3=p.av:=rfl
theorem ac4(p:Evn):p.av.take 4=p.av:=rfl
theorem ac5(p:Ent):p.av.take 6=p.av:=rfl
theorem ac6(p:Row):p.av.take 3=p.av:=rfl
theorem Xb(p:dF):p.av.take 9=p.av:=rfl
theorem ac7(p:Pck):p.av.take 4=p.av:=rfl
theorem LK {l:List Int}:(dat l).cells=[dat l]:=qE.1
theorem mD {l:List Int}:(dat l).aU=true:=qE.2
theorem Ec {α:Type}{enc:α->List AV}{m:Nat}{l:List α}:(vsl m enc l).cells=[vsl m enc l]:=PK.1
theorem Gx {α:Type}{enc:α->List AV}{m:Nat}{l:List α}:(vsl m enc l).aU=true:=PK.2
theorem eu(c:Cfg):c.av.all AV.aU=true:=by simp [Cfg.av,gX,mD]
theorem aK(p:Pkt):p.av.all AV.aU=true:=by simp [Pkt.av,gX,jP,mD]
theorem nK(p:Opn):p.av.all AV.aU=true:=by simp [Opn.av,gX]
theorem xB(p:Evn):p.av.all AV.aU=true:=by simp [Evn.av,gX,jP]
theorem jf(p:Ent):p.av.all AV.aU=true:=by simp [Ent.av,gX,jP,mD]
theorem PL(p:Row):p.av.all AV.aU=true:=by simp [Row.av,gX,mD]
theorem aZ(p:dF):p.av.all AV.aU=true:=by simp [dF.av,gX,mD]
theorem Ed(p:Pck):p.av.all AV.aU=true:=by simp [Pck.av,gX,jP]
theorem RF {α:Type}{enc:α->List AV}(h:∀a,(enc a).all AV.aU=true)(l:List α):(l.flatMap enc).all AV.aU=true:=by
 rw [zaZ];intro x hx;obtain⟨a,_,ha⟩:=zbd.1 hx;exact zaZ.1 (h a) x ha
theorem iU {H:ah}{n d:Nat}:∀(l:List AV),(∀x∈l,bF H n d x=some x)->l.mapM (bF H n d)=some l
 | [],_=> rfl
 | x::l,h=> by
  rw [zbv,iU l λy hy=> h y (by simp [hy]),h x (by simp)];rfl
theorem jg {H:ah}{n d:Nat}{v:Value}:bF H n (d+1) (.s v)=some (.s v):=by rw [bF]
theorem Xc {H:ah}{n d k m:Nat}{l:List AV}(h:∀x∈l,bF H n d x=some x):bF H n (d+1) (.vs k m l)=some (.vs k m l):=by
 rw [bF];simp only [iU l h,zai]
theorem Gy {H:ah}{n d:Nat}{l:List AV}(h:∀x∈l,bF H n d x=some x):bF H n (d+1) (.agg l)=some (.agg l):=by
 rw [bF];simp only [iU l h,zai]
theorem Gz {H:ah}{n d:Nat}{l:List AV}(h:∀x∈l,bF H n d x=some x):bF H n (d+1) (.tup l)=some (.tup l):=by
 rw [bF];simp only [iU l h,zai]
theorem ng {H:ah}{n d r g off esz len cap:Nat}{ex:Bool}{l:List AV}(hr:n<=r){cells:List AV}(hc:bM H (.sl r g off esz len cap ex)=some cells)(hl:cells.mapM (bF H n d)=some l):bF H n (d+1) (.sl r g off esz len cap ex)=some (.vs len esz l):=by
 rw [bF];simp only [if_neg (zdD.2 hr),hc,hl,zai]
def Frz(d:Nat)(x:AV):Prop:=∀H n,bF H n d x=some x
theorem dQ {v:Value}{d:Nat}:Frz (d+1) (.s v):=λ_ _=> jg
theorem ac8 {d k m:Nat}{l:List AV}(h:∀x∈l,Frz d x):Frz (d+1) (.vs k m l):=λH n=> Xc λx hx=> h x hx H n
theorem lI {d:Nat}{l:List AV}(h:∀x∈l,Frz d x):Frz (d+1) (.agg l):=λH n=> Gy λx hx=> h x hx H n
theorem sH {d:Nat}{l:List AV}(h:∀x∈l,Frz d x):Frz (d+1) (.tup l):=λH n=> Gz λx hx=> h x hx H n
theorem afd {α:Type}{enc:α->List AV}{m d:Nat}{l:List α}(h:∀a,∀x∈enc a,Frz (d+1) x):Frz (d+2) (vsl m enc l):=by
 unfold vsl;split
 ·exact dQ
 ·refine ac8 λx hx=> ?_;obtain⟨a,_,ha⟩:=zbd.1 hx;exact h a x ha
theorem nM {l:List Int}{d:Nat}:Frz (d+2) (dat l):=afd λa x hx=> by
 simp only [ama,zaM] at hx;subst hx;exact dQ
section
variable {β:Type}{x:Option (AV × ah)}{H:ah}{k:AV->ah->Option β}
theorem ah7:gdA (some (.s (.bool true))) true x H k=bnd x k:=rfl
theorem ah8:gdA (some (.s (.bool true))) false x H k=k aO H:=rfl
theorem ah9:gdA (some (.s (.bool false))) true x H k=k aO H:=rfl
theorem aia:gdA (some (.s (.bool false))) false x H k=bnd x k:=rfl
theorem aoO {a b:AV}:bG (.s (.bool true)) a b=some a:=rfl
theorem aoP {a b:AV}:bG (.s (.bool false)) a b=some b:=rfl
end
theorem Xd {r g o:Nat}:au (.ref r g o)=some (.ref r g o):=rfl
theorem ac9 {l:List AV}:au (.ip l)=some (.ip l):=rfl
theorem ada {f:FuncId}{a c:List AV}:au (.fn (.func f) a c)=some (.fn (.func f) a c):=rfl
theorem adb {l:List AV}{i:Nat}:aF (.tup l) i=l[i]?:=rfl
theorem ade {l:List AV}{o:Nat}:fl (.agg l) o=l[o]?:=rfl
theorem adf {r g off:Nat}{H:ah}:ld (.ref r g off) H=match H.get r with
  | .blk g' _ cells=> if g'=g then(cells[off]?).map λv=> (v,H) else none
  | .map ..=> none:=by
 simp only [ld,jT,bD,zai,ldO];cases H.get r with
 | map k es=> rfl
 | blk g' ty cells=> simp only;split <;> rfl
theorem PN {r g off n:Nat}{H:ah}:lda n (.ref r g off) H=match H.get r with
  | .blk g' _ cells=> if g'=g then(if off+n<=cells.length then some (.agg ((cells.drop off).take n),H) else none) else none
  | .map ..=> none:=by
 simp only [lda,jT,bD,zai,al7];cases H.get r with
 | map k es=> rfl
 | blk g' ty cells=>
  simp only;split
  ·split <;> rfl
  ·rfl
theorem aC {t:TypeId}{l:List AV}{H:ah}(h:l.all AV.aU=true)(ht:t < 1000000000):fM t (.agg l) H=some (.ref H.next 0 0,H.new (.blk 0 t l)):=Rl h ht
theorem adg {t:TypeId}{z:List AV}{H:ah}:alc t z H=some (.ref H.next 0 0,H.new (.blk 0 t z)):=rfl
theorem adh {k:IntKind}{H:ah}:mkm k H=some (.mp H.next,H.new (.map k [])):=rfl
theorem leS {a b:Nat}(h:a<=b):a<=b+1:=by omega
theorem ltS {a b:Nat}(h:a < b):a < b+1:=by omega
theorem dL {H:ah}{o:fD}:(H.new o).next=H.next+1:=Eq.trans rfl rfl
theorem amM {H:ah}{r:Nat}{o:fD}:(H.put r o).next=H.next:=Eq.trans rfl rfl
theorem iC {H:ah}{o:fD}:(H.new o).base=H.base:=Eq.trans rfl rfl
theorem aoQ {H:ah}{r:Nat}{o:fD}:(H.put r o).base=H.base:=Eq.trans rfl rfl
theorem tZ {H:ah}:H.guard.next=H.next:=Eq.trans rfl rfl
theorem adi {H:ah}:H.guard.base=H.next:=Eq.trans rfl rfl
theorem Xe {H:ah}:H.guard.get=H.get:=Eq.trans rfl rfl
theorem oK {H:ah}{o:fD}:(H.new o).get H.next=o:=by rw [iM,if_pos rfl]
theorem aJ {H:ah}{o:fD}{r:Nat}(h:r=H.next):(H.new o).get r=o:=by rw [iM,if_pos h]
theorem aS {H:ah}{o:fD}{r:Nat}(h:r < H.next):(H.new o).get r=H.get r:=by rw [iM,if_neg (by omega)]
theorem LM {H:ah}{o:fD}{r:Nat}:(H.put r o).get r=o:=by rw [bQ,if_pos rfl]
theorem PO {n r off:Nat}{v:AV}{H:ah}:st n (.ref r 0 off) v H=match H.get r with
  | .blk g' ty cells=> if g'=0/\H.base<=r/\n=v.cells.length/\v.cells.all AV.aU=true/\off+v.cells.length<=cells.length then some (aO,H.put r (.blk 0 ty (aG cells off v.cells))) else none
  | .map ..=> none:=by
 unfold st;simp only [zaa];cases H.get r <;> rfl
theorem adk {H:ah}{r off:Nat}{ty:TypeId}{cells:List AV}(h:r=H.next):ld (.ref r 0 off) (H.new (.blk 0 ty cells))=(cells[off]?).map λv=> (v,H.new (.blk 0 ty cells)):=dR (aJ h)
theorem Xf {H:ah}{r off n:Nat}{ty:TypeId}{cells:List AV}(h:r=H.next):lda n (.ref r 0 off) (H.new (.blk 0 ty cells))=if off+n<=cells.length then some (.agg ((cells.drop off).take n),H.new (.blk 0 ty cells)) else none:=by
 split
 ·rename_i hl;exact fO (aJ h) hl
 ·rename_i hl;rw [PN,aJ h];simp only [if_true,hl,if_false]
theorem adl {H:ah}{r off:Nat}{o:fD}(h:r < H.next):ld (.ref r 0 off) (H.new o)=(ld (.ref r 0 off) H).map λp=> (p.1,H.new o):=by
 rw [adf,adf,aS h];cases H.get r with
 | map k es=> rfl
 | blk g ty cells=> simp only;split <;> first | rfl | (cases cells[off]? <;> rfl)
theorem Xg {H:ah}{r off n:Nat}{o:fD}(h:r < H.next):lda n (.ref r 0 off) (H.new o)=(lda n (.ref r 0 off) H).map λp=> (p.1,H.new o):=by
 rw [PN,PN,aS h];cases H.get r with
 | map k es=> rfl
 | blk g ty cells=> simp only;split <;> first | rfl | (split <;> rfl)
theorem PS {H:ah}{a b:fD}:(H.new a).put H.next b=H.new b:=by
 unfold ah.put ah.new;simp only
 congr 1
 funext x
 split <;> rfl
theorem aib {H:ah}{r:Nat}{a b:fD}(h:r < H.next):(H.new a).put r b=(H.put r b).new a:=by
 unfold ah.put ah.new;simp only
 congr 1
 funext x
 split <;> split <;> first | rfl | (exfalso;omega)
theorem lS {n:Nat}{H:ah}{r off:Nat}{v:AV}{ty:TypeId}{cells:List AV}(h:r=H.next):st n (.ref r 0 off) v (H.new (.blk 0 ty cells))=if H.base<=r/\n=v.cells.length/\v.cells.all AV.aU=true/\off+v.cells.length<=cells.length then some (aO,H.new (.blk 0 ty (aG cells off v.cells))) else none:=by
 subst h;rw [PO,aJ rfl];simp only [true_and,iC,PS]
theorem LP {n:Nat}{H:ah}{r off:Nat}{v:AV}{o:fD}(h:r < H.next):st n (.ref r 0 off) v (H.new o)=(st n (.ref r 0 off) v H).map λp=> (p.1,p.2.new o):=by
 rw [PO,PO,aS h];cases H.get r with
 | map k es=> rfl
 | blk g ty cells=>
  simp only [iC];split
  ·simp only [zai,aib h]
  ·rfl
theorem adn {r off n:Nat}{v:AV}{ty:TypeId}{xs:List AV}{H:ah}(h:H.get r=.blk 0 ty xs)(hb:H.base<=r)(hv:v.cells.all AV.aU=true)(hn:v.cells.length=n)(hl:off+n<=xs.length):st n (.ref r 0 off) v H=some (aO,H.put r (.blk 0 ty (aG xs off v.cells))):=by
 show(match H.get r with
  | .blk g' ty cells=> if g'=0/\H.base<=r/\some n=some v.cells.length/\v.cells.all AV.aU=true/\off+v.cells.length<=cells.length then some (aO,H.put r (.blk 0 ty (aG cells off v.cells))) else none
  | .map ..=> none)=_
 rw [h];simp only;rw [if_pos ⟨trivial,hb,by rw [hn],hv,by omega⟩]
theorem dH {pl:Nat->Option (Nat × Nat)}{z:List AV}:fJ pl z []=some z:=rfl
theorem Ee {pl:Nat->Option (Nat × Nat)}{z:List AV}{i off:Nat}{v:AV}{ps:List (Nat × AV)}(hp:pl i=some (off,1))(hv:v.cells=[v])(hl:off < z.length):fJ pl z ((i,v)::ps)=fJ pl (z.set off v) ps:=by
 rw [fJ];simp only [hp,hv,zah,zam];rw [if_pos ⟨trivial,by omega⟩,D9 hl]
theorem xE {e m:Nat}{z:List AV}{H:ah}:bsl e m z 0 [] H=some (.sl H.next 0 0 m 0 0 true,H.new (.blk 0 e [])):=rfl
theorem gZ {e m:Nat}{z:List AV}{v:AV}{H:ah}(hz:z.length=m)(hv:v.cells.length=m)(hc:v.cells.all AV.aU=true):bsl e m z 1 [(0,v)] H=some (.sl H.next 0 0 m 1 1 true,H.new (.blk 0 e v.cells)):=by
 have h1:(dI z 1).length=m:=by simp [dI,hz]
 unfold bsl;rw [fJ];simp only [zbe,hv,h1,za5,zac,and_self,if_true,fJ];have:aG (dI z 1) 0 v.cells=v.cells:=by
  simp only [aG,zds,zaU,za5];rw [zaF (by omega),zbb]
 rw [this,if_pos hc]
theorem jI {e m n:Nat}{l:List AV}{H:ah}{ex:Bool}(h:l.length=n*m):aH (H.new (.blk 0 e l)) (.sl H.next 0 0 m n n ex) m n l:=
 ⟨h,rfl,rfl,⟨by rw [dL];omega,zac _⟩,e,l,by simp [iM],by omega,by rw [zaO,zaE (by omega)]⟩
theorem qQ {e m by_ r n ty:Nat}{y:AV}{cells:List AV}{H:ah}(hx:H.get r=.blk 0 ty [])(hy:aH H y m n cells)(hc:cells.all AV.aU=true)(hn:n≠0)(h1:n<=most)(h2:n*by_<=most):
  app e m by_ (.sl r 0 0 m 0 0 true) y H=some (.sl H.next 0 0 m n n false,H.new (.blk 0 (e+fQ) cells)):=by
 obtain⟨c1,c2⟩:=hy.AX;simp only [app,c1,c2];unfold dJ;rw [if_pos ⟨hy.1,hc⟩];simp only [hx];rw [if_pos ⟨trivial,trivial,by simp⟩,if_neg hn,if_neg (by omega),if_pos ⟨by omega,by rw [za5];exact h2⟩];simp
theorem afe {e m by_ n:Nat}{y:AV}{cells:List AV}{H:ah}(hy:aH H y m n cells)(hc:cells.all AV.aU=true)(hn:n≠0)(h1:n<=most)(h2:n*by_<=most):
  app e m by_ zN y H=some (.sl H.next 0 0 m n n false,H.new (.blk 0 (e+fQ) cells)):=by
 obtain⟨c1,c2⟩:=hy.AX;simp only [app,c1,c2];unfold dJ;rw [if_pos ⟨hy.1,hc⟩];simp only;rw [if_neg hn,if_pos ⟨h1,h2⟩]
theorem qR {P:Program}{t e:TypeId}{n m:Nat}{l:List AV}(h:P.underlying t=some (.slice e)):nV P .eql t (.vs n m l) (.s (.slice none 0 0))=some (B false):=by
 simp [nV,AV.val?,J9,h]
theorem zO {P:Program}{t e:TypeId}{r g o m n c:Nat}{ex:Bool}(h:P.underlying t=some (.slice e)):nV P .eql t (.sl r g o m n c ex) (.s (.slice none 0 0))=some (B false):=by
 simp [nV,AV.val?,J9,h]
theorem ny {P:Program}{C:aA}{f:FuncId}{a c args:List AV}{H:ah}(h:oG P f=true):oH P C (.fn (.func f) a c) args H=C f (a++args++c) H:=aaG h
theorem wrap_i64 {a:Int}(h1:-9223372036854775808<=a)(h2:a<=9223372036854775807):IntKind.wrap .i64 a=a:=ahw h1 h2
theorem xq_:(type_of% @acH)/\(type_of% @ahE)/\(type_of% @Rh)/\(type_of% @WS)/\(type_of% @Gs)/\(type_of% @D8)/\(type_of% @La)/\(type_of% @decide_true)/\
 (type_of% @decide_false)/\(type_of% @ah7)/\(type_of% @ah8)/\(type_of% @ah9)/\(type_of% @aia)/\(type_of% @Rn)/\
 (type_of% @Ld)/\(type_of% @Rj)/\(type_of% @Option.map_some.{0,0})/\(type_of% @Option.bind_some.{0,0})/\(type_of% @pK)/\(type_of% @xk)/\
 (type_of% @Xd)/\(type_of% @ac9)/\(type_of% @ada)/\(type_of% @adb)/\(type_of% @ade)/\(type_of% @List.getElem?_cons_zero.{0})/\
 (type_of% @List.getElem?_cons_succ.{0})/\(type_of% @Nat.zero_add)/\(type_of% @Nat.add_zero)/\(type_of% @aoO)/\(type_of% @aoP)/\(type_of% @Wy)/\
 (type_of% @WA)/\(type_of% @Pv)/\(type_of% @IW)/\(type_of% @WB)/\(type_of% @WC)/\(type_of% @Rk)/\
 (type_of% @beq_self_eq_true.{0})/\(type_of% @if_true.{1})/\(type_of% @Bool.false_eq_true)/\(type_of% @if_false.{1})/\(type_of% @List.nil_append.{0})/\(type_of% @List.cons_append.{0})/\
 (type_of% @List.append_nil.{0})/\(type_of% @adg)/\(type_of% @adh)/\(type_of% @dL)/\(type_of% @amM)/\(type_of% @iC)/\
 (type_of% @aoQ)/\(type_of% @tZ)/\(type_of% @adi):=
 ⟨@acH,@ahE,@Rh,@WS,@Gs,@D8,@La,@decide_true,@decide_false,@ah7,@ah8,@ah9,@aia,@Rn,@Ld,@Rj,@Option.map_some.{0,0},@Option.bind_some.{0,0},@pK,@xk,@Xd,@ac9,@ada,@adb,@ade,@List.getElem?_cons_zero.{0},@List.getElem?_cons_succ.{0},@Nat.zero_add,@Nat.add_zero,@aoO,@aoP,@Wy,@WA,@Pv,@IW,@WB,@WC,@Rk,@beq_self_eq_true.{0},@if_true.{1},@Bool.false_eq_true,@if_false.{1},@List.nil_append.{0},@List.cons_append.{0},@List.append_nil.{0},@adg,@adh,@dL,@amM,@iC,@aoQ,@tZ,@adi⟩
theorem hq_:(type_of% @adk)/\(type_of% @adl)/\(type_of% @Xf)/\(type_of% @Xg)/\(type_of% @lS)/\(type_of% @LP)/\
 (type_of% @Nat.lt_add_one)/\(type_of% @ne_eq.{1})/\(type_of% @nx1)/\(type_of% @nx2)/\(type_of% @nx3)/\(type_of% @ny1)/\
 (type_of% @ny2)/\(type_of% @ny3)/\(type_of% @not_false_eq_true)/\(type_of% @List.length_cons.{0})/\(type_of% @List.length_nil.{0})/\(type_of% @List.take_succ_cons.{0})/\
 (type_of% @List.take_zero.{0})/\(type_of% @List.drop_succ_cons.{0})/\(type_of% @List.drop_zero.{0})/\(type_of% @LK)/\(type_of% @Lh)/\(type_of% @Gh)/\
 (type_of% @eH)/\(type_of% @List.all_cons.{0})/\(type_of% @List.all_nil.{0})/\(type_of% @gX)/\(type_of% @jP)/\(type_of% @mD)/\
 (type_of% @Gj)/\(type_of% @Gl)/\(type_of% @Gx)/\(type_of% @Ec)/\(type_of% @Gv)/\(type_of% @bH)/\
 (type_of% @fH)/\(type_of% @mg)/\(type_of% @bT)/\(type_of% @Gu)/\(type_of% @Eb)/\(type_of% @Gw)/\
 (type_of% @ac0)/\(type_of% @LJ)/\(type_of% @ac3)/\(type_of% @ac4)/\(type_of% @ac5)/\(type_of% @ac6)/\
 (type_of% @Xb)/\(type_of% @ac7)/\(type_of% @eu)/\(type_of% @aK)/\(type_of% @nK)/\(type_of% @xB)/\
 (type_of% @jf)/\(type_of% @PL)/\(type_of% @aZ)/\(type_of% @Ed)/\(type_of% @List.drop_nil.{0})/\(type_of% @Bool.and_true)/\
 (type_of% @Bool.and_self)/\(type_of% @and_self)/\(type_of% @Nat.le_refl)/\(type_of% @true_and)/\(type_of% @and_true)/\(type_of% @Nat.le_add_right)/\
 (type_of% @leS)/\(type_of% @ltS):=
 ⟨@adk,@adl,@Xf,@Xg,@lS,@LP,@Nat.lt_add_one,@ne_eq.{1},@nx1,@nx2,@nx3,@ny1,@ny2,@ny3,@not_false_eq_true,@List.length_cons.{0},@List.length_nil.{0},@List.take_succ_cons.{0},@List.take_zero.{0},@List.drop_succ_cons.{0},@List.drop_zero.{0},@LK,@Lh,@Gh,@eH,@List.all_cons.{0},@List.all_nil.{0},@gX,@jP,@mD,@Gj,@Gl,@Gx,@Ec,@Gv,@bH,@fH,@mg,@bT,@Gu,@Eb,@Gw,@ac0,@LJ,@ac3,@ac4,@ac5,@ac6,@Xb,@ac7,@eu,@aK,@nK,@xB,@jf,@PL,@aZ,@Ed,@List.drop_nil.{0},@Bool.and_true,@Bool.and_self,@and_self,@Nat.le_refl,@true_and,@and_true,@Nat.le_add_right,@leS,@ltS⟩
def uf(g g':bg):Prop:=∀q cs,g q=some cs->g' q=some cs
theorem uf.refl(g:bg):uf g g:=λ_ _ h=> h
theorem uf.more {g g':bg}(h:uf g g'){n:Nat}(hn:g n=none)(c:List Cell):uf g (upd g' n c):=λq cs hq=> by
 rw [aY (λe=> by rw [e,hn] at hq;cases hq)];exact h q cs hq
theorem uf.both {g g':bg}(h:uf g g')(n:Nat)(c:List Cell):uf (upd g n c) (upd g' n c):=λq cs hq=> by
 by_cases e:q=n
 ·subst e;rw [aN] at hq ⊢;exact hq
 ·rw [aY e] at hq ⊢;exact h q cs hq
theorem yj {g:bg}{q n:Nat}{c:List Cell}(h:g n=none)(hne:n≠q):upd g q c n=none:=by rw [aY hne];exact h
section
variable {b:Nat}{H H':ah}{g:bg}{q:Nat}{cs:List Cell}
theorem Cur.length {i m n:Nat}{x:AV}{l:List AV}(c:Cur b H q i x m l)(hm:0 < m)(hl:l.length=n*m):(x=zN/\n=0)∨∃r g off cap ex ty all,x=.sl r g off m n cap ex/\r≠q/\b<=r/\r < H.next/\n<=cap/\H.get r=.blk g ty all/\off+cap*m<=all.length/\all.all AV.aU=true/\l=(all.drop off).take (n*m):=by
 rcases c.own with⟨rfl,rfl⟩ | ⟨r,g,off,n',cap,ex,ty,all,rfl,k1,k2,k3,k4,k5,k6,k7,rfl⟩
 ·left;simp only [zam] at hl;refine⟨rfl,?_⟩;rcases zcY.1 hl.symm with h | h <;> omega
 ·right;have h1:n'*m<=cap*m:=zaz _ k4;rw [zav,zaN,zbq (by omega)] at hl;have:n'=n:=zbA hm hl;subst this;exact⟨r,g,off,cap,ex,ty,all,rfl,k1,k2,k3,k4,k5,k6,k7,rfl⟩
theorem aic {r gg off m len cap:Nat}{ex:Bool}{k1 k2:IntKind}{lo hi:Int}(h0:0<=lo)(h1:lo<=hi)(h2:hi<=cap):slS m (.sl r gg off m len cap ex) (some (.s (.int k1 lo))) (some (.s (.int k2 hi))) none=some (.sl r gg (off+lo.toNat*m) m (hi.toNat - lo.toNat) (cap - lo.toNat) ex):=by
 have h3:0<=hi:=by omega
 simp only [slS,iO,h0,h3,if_true,isNone,zad,zdc];rw [if_pos ⟨trivial,by omega,by omega,by omega,by simp⟩]
theorem Xh {r gg off m len cap:Nat}{ex:Bool}{k2:IntKind}{hi:Int}(h0:0<=hi)(h2:hi<=cap):slS m (.sl r gg off m len cap ex) none (some (.s (.int k2 hi))) none=some (.sl r gg off m hi.toNat cap ex):=by
 simp only [slS,iO,h0,if_true,isNone,zad,zdc];rw [if_pos ⟨trivial,by omega,by omega,by omega,by simp⟩];simp
theorem BX {r gg off m len cap:Nat}{ex:Bool}{k1:IntKind}{lo:Int}(h0:0<=lo)(h1:lo<=len)(h2:len<=cap):slS m (.sl r gg off m len cap ex) (some (.s (.int k1 lo))) none none=some (.sl r gg (off+lo.toNat*m) m (len - lo.toNat) (cap - lo.toNat) ex):=by
 simp only [slS,iO,h0,if_true,isNone,zad,zdc];rw [if_pos ⟨trivial,by omega,by omega,by omega,by simp⟩]
theorem aff {r gg off m len cap:Nat}{ex:Bool}{k1 k2 k3:IntKind}{lo hi mx:Int}(h0:0<=lo)(h1:lo<=hi)(h2:hi<=mx)(h3:mx<=cap):slS m (.sl r gg off m len cap ex) (some (.s (.int k1 lo))) (some (.s (.int k2 hi))) (some (.s (.int k3 mx)))=some (.sl r gg (off+lo.toNat*m) m (hi.toNat - lo.toNat) (mx.toNat - lo.toNat) true):=by
 have h4:0<=hi:=by omega
 have h5:0<=mx:=by omega
 simp only [slS,iO,h0,h4,h5,if_true,isNone,zaf,zcO];rw [if_pos ⟨trivial,by omega,by omega,by omega,by simp⟩]
theorem zQ {z:List AV}(h:z.all AV.aU=true):∀n,(dI z n).all AV.aU=true
 | 0=> rfl
 | n+1=> by rw [dI,zbF,h,zQ h n];rfl
theorem RG {i m n:Nat}{x:AV}{l z:List AV}(c:Cur b H q i x m l)(hb:H.base<=b)(hm:0 < m)(hl:l.length=n*m)(hn:n < 1000000000){j:Nat}(hj:j < n)(hz:z.length=m)(hzc:z.all AV.aU=true){e:TypeId}{by_:Nat}(hby:by_ < 1000):
  ∃y x1 x2 x3 H1 x4 H2,slS m x (some (I j)) (some (I (j+1))) (some (I n))=some y/\slS m x none (some (I j)) none=some x1/\slS m x (some (I (j+1))) none none=some x2/\app e m by_ x1 x2 H=some (x3,H1)/\
   lnS x3 H1=some (I ((n:Int) - 1),H1)/\slS m x3 (some (I ((n:Int) - 1))) (some (I n)) none=some x4/\clr m z x4 H1=some (.tup [],H2)/\
   Fit H H2 x x3 m (l.take (j*m)++l.drop ((j+1)*m))/\H2.next=H.next/\H2.base=H.base/\∀r,iP x≠some r->H2.get r=H.get r:=by
 rcases c.length hm hl with⟨_,h0⟩ | ⟨r,gg,off,cap,ex,ty,all,rfl,k1,k2,k3,k4,k5,k6,k7,rfl⟩
 ·omega
 have hjm:(j+1)*m<=n*m:=zaz _ hj;have hcm:n*m<=cap*m:=zaz _ k4;have hj1:(j+1)*m=j*m+m:=zbz j m;have hnj:(n - (j+1))*m=n*m - (j+1)*m:=Nat.sub_mul n (j+1) m;have hn1:(n - 1)*m=n*m - m:=by rw [Nat.sub_mul,zbm]
 let new:=(all.drop (off+(j+1)*m)).take ((n - (j+1))*m);have hnew:new.length=(n - (j+1))*m:=by simp only [new];rw [zav,zaN];omega
 let all1:=aG all (off+j*m) new;have aie:all1.length=all.length:=lZ (by omega);let all2:=aG all1 (off+(n - 1)*m) (dI z 1);have hz1:(dI z 1).length=m:=by simp [dI,hz]
 have ape:all2.length=all.length:=by rw [lZ (by omega)];exact aie
 have hc1:all1.all AV.aU=true:=uF k7 (BU (yh k7 _) _) _;have hc2:all2.all AV.aU=true:=uF hc1 (zQ hzc 1) _;have happ:app e m by_ (.sl r gg off m j cap ex) (.sl r gg (off+(j+1)*m) m (n - (j+1)) (cap - (j+1)) ex) H=some (.sl r gg off m (n - 1) cap ex,H.put r (.blk gg ty all1)):=by
  have hs:bM H (.sl r gg (off+(j+1)*m) m (n - (j+1)) (cap - (j+1)) ex)=some new:=by
   simp only [bM,k5];rw [if_pos ⟨trivial,by omega⟩]
  simp only [app,jG,hs];unfold dJ;rw [if_pos ⟨hnew,BU (yh k7 _) _⟩];simp only [k5];rw [if_pos ⟨trivial,trivial,by omega⟩];by_cases h0:n - (j+1)=0
  ·rw [if_pos h0];have hn0:new=[]:=zan (by rw [hnew,h0,zbe]);have:all1=all:=by
    simp only [all1,hn0,aG,zaU,zam,zbp,zcP]
   rw [this,show j=n - 1 by omega]
   congr 2
   ·unfold ah.put;have:(λx=> if x=r then fD.blk gg ty all else H.get x)=H.get:=by
     funext x
     split
     ·rename_i e;rw [e,k5]
     ·rfl
    rw [this]
  ·rw [if_neg h0,if_pos (by omega),if_pos ⟨by omega,by
    have:(j+(n - (j+1)))*m<=cap*m:=zaz _ (by omega);omega⟩]
   rw [show j+(n - (j+1))=n - 1 by omega]
 refine⟨_,.sl r gg off m j cap ex,.sl r gg (off+(j+1)*m) m (n - (j+1)) (cap - (j+1)) ex,.sl r gg off m (n - 1) cap ex,H.put r (.blk gg ty all1),.sl r gg (off+(n - 1)*m) m 1 (cap - (n - 1)) ex,(H.put r (.blk gg ty all1)).put r (.blk gg ty all2),aff (by omega) (by omega) (by omega) (by omega),?_,?_,happ,?_,?_,?_,.inr ⟨r,gg,off,n - 1,cap,ex,ty,all2,rfl,.inl rfl,k3,by omega,by simp [bQ],by omega,hc2,?_⟩,rfl,rfl,?_⟩
 ·exact Xh (by omega) (by omega)
 ·have:=BX (r:=r) (gg:=gg) (off:=off) (m:=m) (len:=n) (cap:=cap) (ex:=ex) (k1:=.i64) (lo:=(j:Int)+1) (by omega) (by omega) k4;rw [show((j:Int)+1).toNat=j+1 by omega] at this;exact this
 ·simp only [lnS,jT,amC,zai]
  congr 5
  omega
 ·have:=aic (r:=r) (gg:=gg) (off:=off) (m:=m) (len:=n - 1) (cap:=cap) (ex:=ex) (k1:=.i64) (k2:=.i64) (lo:=(n:Int) - 1) (hi:=n) (by omega) (by omega) (by omega);rw [show((n:Int) - 1).toNat=n - 1 by omega,show(n:Int).toNat=n by omega,show n - (n - 1)=1 by omega] at this;exact this
 ·simp only [clr,Nat.one_ne_zero,if_false,bQ,if_true];rw [if_pos ⟨trivial,trivial,by rw [aaH];omega,hz,hzc,by rw [aie];omega⟩]
 ·-- what is there then
  apply zbg
  intro p;have hlt:((all.drop off).take (n*m)).length=n*m:=by rw [zav,zaN];omega
  rcases zaW p (j*m) with h1 | h1
  ·rw [zaP (by rw [zav];omega),zay,if_pos h1,zay,if_pos (by omega),zay,if_pos (by omega),zaA,zaA];rw [mW (by omega),if_neg (by omega),mW (by omega),if_neg (by omega)]
  ·rw [za4 (by rw [zav];omega),zav,hlt,zbq (by omega),zaA];rcases zaW p ((n - 1)*m) with h2 | h2
   ·rw [zay,if_pos (by omega),zaA,zay,if_pos h2,zaA];rw [mW (by omega),if_neg (by omega),mW (by omega),if_pos (by omega)];simp only [new];rw [zay,if_pos (by omega),zaA]
    congr 1;omega
   ·rw [zaK (by rw [hlt];omega),zaK (by rw [zav,zaN];omega)]
 ·intro r' hr';have:r'≠r:=λe=> hr' (by rw [e];rfl);rw [bQ,if_neg this,bQ,if_neg this]
theorem ado {e m by_:Nat}{z:List AV}{n:Int}{H:ah}(hz:z.length=m)(hc:z.all AV.aU=true)(h0:0<=n)(h1:n<=1000000)(hb:by_<=1000):mks e m by_ z (I n) (I n) H=some (.sl H.next 0 0 m n.toNat n.toNat true,H.new (.blk 0 e (dI z n.toNat))):=by
 have h3:(by_:Int)*n<=140737488355328:=by
  have:(by_:Int)*n<=1000*1000000:=zca (by omega) h1 h0 (by omega);omega
 simp only [mks];rw [if_pos ⟨hz,hc,h0,zby _,by omega,h3⟩]
theorem oC {v:AV}:∀n,dI [v] n=List.replicate n v
 | 0=> rfl
 | n+1=> by rw [dI,oC n];rfl
theorem aH.from_ {x:AV}{m n:Nat}{cells:List AV}(h:aH H x m n cells){k:IntKind}{lo:Int}(h0:0<=lo)(h1:lo<=n):∃y,slS m x (some (.s (.int k lo))) none none=some y/\aH H y m (n - lo.toNat) (cells.drop (lo.toNat*m)):=by
 obtain⟨hl,h⟩:=h;have hlm:lo.toNat*m<=n*m:=zaz _ (by omega);have hsub:(n - lo.toNat)*m=n*m - lo.toNat*m:=Nat.sub_mul n lo.toNat m;cases x with
 | sl r g off esz len cap ex=>
  obtain⟨rfl,rfl,⟨hr,hc⟩,ty,all,h2,h3,h4⟩:=h;refine⟨_,BX h0 h1 hc,by rw [zaN,hl,hsub],rfl,rfl,⟨hr,by omega⟩,ty,all,h2,by rw [hsub];omega,?_⟩;rw [h4,zcr,zbC,hsub]
 | vs k' esz cs=>
  obtain⟨rfl,rfl,rfl⟩:=h;refine⟨.vs (k' - lo.toNat) esz ((cs.drop (lo.toNat*esz)).take ((k' - lo.toNat)*esz)),?_,by rw [zaN,hl,hsub],rfl,rfl,?_⟩
  ·simp only [slS,iO,h0,if_true];rw [if_pos ⟨trivial,by omega,by omega⟩]
  ·rw [zaE (by rw [zaN,hl,hsub];exact zac _)]
 | s v=>
  cases v with
  | slice a b c=>
   cases a with
   | none=>
    obtain⟨rfl,rfl,rfl⟩:=h;have h3:lo=0:=by omega
    subst h3;refine⟨zN,by simp [slS,iO],?_,rfl,rfl,rfl⟩
    simpa using hl
   | some a=> exact h.elim
  | _=> exact h.elim
 | _=> exact h.elim
theorem aif {r g off m len cap ty n:Nat}{ex:Bool}{cells new:List AV}{y:AV}(hx:H.get r=.blk g ty cells)(hb:H.base<=r)(hl:off+len*m<=cells.length)(hy:aH H y m n new)(hc:new.all AV.aU=true):
  ∃H',cpy m (.sl r g off m len cap ex) y H=some (I ((min n len:Nat):Int),H')/\H'.get r=.blk g ty (aG cells off (new.take (min n len*m)))/\(∀r',r'≠r->H'.get r'=H.get r')/\H'.next=H.next/\H'.base=H.base:=by
 obtain⟨c1,c2⟩:=hy.AX;have c3:=hy.1;have s1:jG (AV.sl r g off m len cap ex)=some len:=rfl;simp only [cpy,s1,c1,c2];rw [if_pos ⟨c3,hc⟩];by_cases hk:min n len=0
 ·refine⟨H,by rw [if_pos hk,hk];rfl,?_,λ_ _=> rfl,rfl,rfl⟩;rw [hx,hk,zbe,zds];simp only [aG,zaU,zam,zbp,zcP]
 ·rw [if_neg hk];simp only [hx];rw [if_pos ⟨trivial,trivial,hb,hl⟩];exact⟨_,rfl,by rw [bQ,if_pos rfl],λr' hr=> by rw [bQ,if_neg hr],rfl,rfl⟩
end
def jM {α:Type}:List (Int × α)->Int->Option α
 | [],_=> none
 | (k,v)::l,n=> if k=n then some v else jM l n
def nC {α:Type}:List (Int × α)->Int->α->List (Int × α)
 | [],n,x=> [(n,x)]
 | (k,v)::l,n,x=> if k=n then(n,x)::l else(k,v)::nC l n x
def FB {α:Type}:List (Int × α)->Int->List (Int × α)
 | [],_=> []
 | (k,v)::l,n=> if k=n then l else(k,v)::FB l n
section
variable {α:Type}(f:α->AV)
def LQ(l:List (Int × α)):List (Int × AV):=l.map λe=> (e.1,f e.2)
theorem sJ:∀(l:List (Int × α)) (n:Int),oD (LQ f l) n=(jM l n).map f
 | [],_=> rfl
 | (k,v)::l,n=> by
  simp only [LQ,zaC,oD,jM];by_cases h:k=n
  ·simp [h]
  ·simp only [h,if_false];exact sJ l n
theorem zS:∀(l:List (Int × α)) (n:Int) (x:α),Io (LQ f l) n (f x)=LQ f (nC l n x)
 | [],_,_=> rfl
 | (k,v)::l,n,x=> by
  simp only [LQ,zaC,Io,nC];by_cases h:k=n
  ·simp [h]
  ·simp only [h,if_false,zaC,zbJ,true_and];exact zS l n x
theorem RH:∀(l:List (Int × α)) (n:Int),xU (LQ f l) n=LQ f (FB l n)
 | [],_=> rfl
 | (k,v)::l,n=> by
  simp only [LQ,zaC,xU,FB];by_cases h:k=n
  ·simp [h]
  ·simp only [h,if_false,zaC,zbJ,true_and];exact RH l n
end
abbrev pR(n most:Int):Bool:=decide (1<=n) && decide (n<=most)
def Cfg.ok(c:Cfg):Bool:=
 pR c.aP 6 && pR c.aW 8 && pR c.aQ 4 && pR c.sets 4 && pR c.ways 3 && pR c.out 8 && pR c.inn 8 && decide ((c.init.length:Int)<=c.aW*c.aQ)
def AY(aB by_:Int):Int:=if aB < 0 then -1 else aB % by_
def Cfg.fA(c:Cfg)(aB:Int):Int:=AY aB c.aP
def Cfg.iF(c:Cfg):Int:=c.aW*c.aQ
def Cfg.dS(c:Cfg)(a:Int):Int:=if a < 0∨c.iF<=a then -1 else a / c.aQ
def Cfg.jJ(c:Cfg)(a:Int):Int:=if a < 0∨c.iF<=a then 0 else a % c.aQ
def Cfg.first(c:Cfg)(aB:Int):List Int:=
 if aB < 0∨c.aW<=aB then [] else(List.range c.aQ.toNat).map λi=> c.init.getD ((aB*c.aQ).toNat+i) 0
def Cfg.right(c:Cfg)(o:Opn):Bool:=decide (1<=o.bf) && decide (o.bf<=4) && decide (c.dS o.addr≠-1) && (decide (o.value=0) || decide (o.bf=2) || decide (o.bf=3))
def Cfg.mF(c:Cfg)(ps:List (List Opn)):Bool:=(ps.all λl=> decide (l.length<=24) && l.all c.right) && decide ((ps.length:Int)=c.aP)
def Ef(k:Int):Bool:=decide (1<=k) && decide (k<=6)
def J5(k:Int):Int:=if k=1 then 7 else if k=2∨k=4∨k=5 then 8 else if k=3∨k=6 then 9 else 0
def Pkt.ok(p:Pkt):Bool:=
 decide (0<=p.src) && decide (p.src < 6) && decide (0<=p.dst) && decide (p.dst < 6) && decide (0<=p.id) && decide (p.id < 4096) && decide (1<=p.bf) && decide (p.bf < 10) && decide (0<=p.aB) && decide (p.aB < 8) &&
 decide (-1<=p.ptr) && decide (p.ptr < 6) && decide (0<=p.state) && decide (p.state < 3) && decide (p.data.length<=4)
structure Cache where
 l:List Ent
 sets:Int
 ways:Int
 dD:Int
def Cache.at_(c:Cache)(aB:Int):Option Nat:=c.l.findIdx? λe=> decide (e.aB=aB)
def Cache.uG(c:Cache)(aB:Int):List Ent:=c.l.filter λe=> decide (0<=aB) && decide (e.aB.tmod c.sets=aB.tmod c.sets)
def Cache.find(c:Cache)(aB:Int):Option Ent:=c.l.find? λe=> decide (e.aB=aB)
def Cache.full(c:Cache)(aB:Int):Bool:=(c.find aB).isNone && decide (c.ways<=(c.uG aB).length)
def Cache.put(c:Cache)(e:Ent):Cache × Int:=
 if e.aB < 0 then(c,1) else
 match c.at_ e.aB with
 | some i=> ({ c with l:=c.l.set i { e with used:=(c.l.getD i .zero).used } },0)
 | none=> if c.full e.aB then(c,5) else({ c with l:=c.l++[{ e with used:=c.dD+1 }],dD:=c.dD+1 },0)
def Cache.drop(c:Cache)(aB:Int):Cache:=
 match c.at_ aB with
 | some i=> { c with l:=c.l.eraseIdx i }
 | none=> c
def Cache.touch(c:Cache)(aB:Int):Cache:=
 match c.at_ aB with
 | some i=> { c with l:=c.l.set i { c.l.getD i .zero with used:=c.dD+1 },dD:=c.dD+1 }
 | none=> c
def zT:List Ent->Option Ent
 | []=> none
 | e::l=> some (l.foldl (λm x=> if x.used < m.used then x else m) e)
def Cache.qU(c:Cache)(aB:Int):Option Int:=(zT (c.uG aB)).map (·.aB)
structure Turns where
 jQ:List (Int × Int)
 wait:List (Int × List (Int × Int))
def Turns.owner(t:Turns)(aB:Int):Int:=(jM t.jQ aB).getD (-1)
def Turns.owned(t:Turns)(aB:Int):Bool:=(jM t.jQ aB).isSome
def Turns.ws(t:Turns)(aB:Int):List (Int × Int):=(jM t.wait aB).getD []
def Turns.ask(t:Turns)(aB who id:Int):Turns × Bool:=
 if who < 0 then(t,false) else
 if t.owned aB || !(t.ws aB).isEmpty then({ t with wait:=nC t.wait aB (t.ws aB++[(who,id)]) },false)
 else({ t with jQ:=nC t.jQ aB who },true)
def Turns.release(t:Turns)(aB who:Int):Turns × Int:=
 if jM t.jQ aB=some who then({ t with jQ:=FB t.jQ aB },0) else(t,6)
def Turns.next(t:Turns)(aB:Int):Turns × Option (Int × Int):=
 if t.owned aB then(t,none) else
 match t.ws aB with
 | []=> (t,none)
 | w::ws=> ({ jQ:=nC t.jQ aB w.1,wait:=nC t.wait aB ws },some w)
def Turns.ready(t:Turns)(keys:List Int):List Int:=keys.filter λaB=> !t.owned aB && !(t.ws aB).isEmpty
abbrev Rows:=List (Int × Row)
def iY(c:Cfg)(eF:Rows)(aB state head:Int)(data:List Int):Rows × Int:=
 match jM eF aB with
 | none=> (eF,3)
 | some r=>
  if state < 0∨2 < state∨head < -1∨c.aP<=head then(eF,1)
  else if(decide (head=-1) !=decide (state=0)) || (decide (data≠[]) && decide ((data.length:Int)≠c.aQ)) then(eF,1)
  else(nC eF aB ⟨state,head,if data=[] then r.data else data⟩,0)
structure Home where
 eF:Rows
 bV:Turns
def oL(eF:Rows)(aB:Int):Row:=(jM eF aB).getD .zero
def qF(eF:Rows)(bn aB who id:Int):Pkt:=⟨7,bn,who,id,aB,(oL eF aB).head,(oL eF aB).state,false,(oL eF aB).data⟩
def Home.unlock(c:Cfg)(h:Home)(p:Pkt):Home × Int:=
 if h.bV.owner p.aB≠p.src then(h,6) else
 let r:=iY c h.eF p.aB p.state p.ptr (if p.flag then p.data else [])
 if r.2=0 then(⟨r.1,(h.bV.release p.aB p.src).1⟩,(h.bV.release p.aB p.src).2) else(h,r.2)
def Home.handle(c:Cfg)(bn:Int)(h:Home)(p:Pkt):Home × Pkt × Bool × Int:=
 if !(p.ok && decide (p.dst=bn) && decide (p.src < c.aP)) || (decide (p.bf≠1) && decide (p.bf≠2)) then(h,.zero,false,1)
 else if c.fA p.aB≠bn∨c.aW<=p.aB then(h,.zero,false,3)
 else if p.bf=1 then
  let a:=h.bV.ask p.aB p.src p.id
  if a.2=true then({ h with bV:=a.1 },qF h.eF bn p.aB p.src p.id,true,0) else({ h with bV:=a.1 },.zero,false,0)
 else
  let u:=h.unlock c p
  if u.2=0 then(u.1,⟨8,bn,p.src,p.id,p.aB,0,0,false,[]⟩,true,0) else(u.1,.zero,false,u.2)
def fP(c:Cache)(p:Pkt):Cache × Pkt × Int:=
 if !p.ok || decide (p.bf < 3) || decide (6 < p.bf) then(c,.zero,1) else
 match c.find p.aB with
 | none=> (c,.zero,2+1)
 | some e=>
  let out:Pkt:=⟨J5 p.bf,p.dst,p.src,p.id,p.aB,0,0,false,[]⟩
  if p.bf=3 then let r:=c.put { e with fB:=false,back:=p.ptr };(r.1,{ out with data:=e.data,flag:=e.fB },r.2)
  else if p.bf=4 then let r:=c.put { e with fwd:=p.ptr };(r.1,out,r.2)
  else if p.bf=5 then let r:=c.put { e with back:=p.ptr };(r.1,out,r.2)
  else(c.drop p.aB,{ out with data:=e.data,flag:=e.fB,ptr:=e.fwd },0)
def dF.begin(bf aB id:Int):dF:=⟨bf,aB,id,1,0,-1,[],-1,-1⟩
def OH(step:Int):Int:=if step=1 then 1 else if step=2 then 3 else if step=3 then 6 else if step=4 then 4 else if step=5 then 5 else if step=6 then 2 else 0
def dF.ask(d:dF)(bn home:Int):Pkt:=
 if d.step=1 then⟨1,bn,home,d.id,d.aB,0,0,false,[]⟩
 else if d.step=2 then⟨3,bn,d.head,d.id,d.aB,bn,0,false,[]⟩
 else if d.step=3 then⟨6,bn,d.next,d.id,d.aB,0,0,false,[]⟩
 else if d.step=4 then⟨4,bn,d.head,d.id,d.aB,d.next,0,false,[]⟩
 else if d.step=5 then⟨5,bn,d.next,d.id,d.aB,d.head,0,false,[]⟩
 else if d.step=6 then⟨2,bn,home,d.id,d.aB,d.head,d.state,decide (d.data≠[]),d.data⟩
 else .zero
def dF.fits(d:dF)(p:Pkt):Bool:=
 decide (J5 (OH d.step)≠0) && decide (p.bf=J5 (OH d.step)) && decide (p.id=d.id) && decide (p.aB=d.aB)
abbrev Nxt:=Cache × dF × Bool
def wB(c:Cache):Nxt:=(c,.zero,false)
def dN(d:dF)(bn:Int)(c:Cache)(p:Pkt):Nxt:=
 if d.bf≠1∨d.fits p=false then wB c
 else if d.step=1 then
  if p.state≠0 then(c,{ d with state:=p.state,head:=p.ptr,told:=p.ptr,data:=p.data,step:=2 },true)
  else((c.put ⟨-1,-1,d.aB,0,false,p.data⟩).1,{ d with told:=p.ptr,step:=6,state:=1,head:=bn,data:=[] },true)
 else if d.step=2 then
  ((c.put ⟨d.head,-1,d.aB,0,false,p.data⟩).1,{ d with step:=6,state:=1,head:=bn,data:=if p.flag then p.data else [] },true)
 else if d.step=6 then(c,{ d with step:=0 },true)
 else wB c
def bP(d:dF)(bn:Int)(c:Cache):Cache × dF:=
 let d:dF:=match c.find d.aB with
  | some own=> if d.next=bn then { d with next:=own.fwd } else d
  | none=> d
 if d.next≠-1 then(c,{ d with step:=3 })
 else((c.put ⟨-1,-1,d.aB,0,true,d.data⟩).1,{ d with step:=6,state:=2,head:=bn,data:=[] })
def dM(d:dF)(bn:Int)(c:Cache)(p:Pkt):Nxt:=
 if d.bf≠2∨d.fits p=false then wB c
 else if d.step=1 then
  let r:=bP { d with state:=p.state,head:=p.ptr,told:=p.ptr,data:=(match c.find d.aB with | some own=> own.data | none=> p.data),next:=p.ptr } bn c
  (r.1,r.2,true)
 else if d.step=3 then
  let r:=bP { d with data:=(match c.find d.aB with | some _=> d.data | none=> p.data),next:=p.ptr } bn c
  (r.1,r.2,true)
 else if d.step=6 then(c,{ d with step:=0 },true)
 else wB c
def ig(d:dF)(c:Cache)(head:Int):Nxt:=(c.drop d.aB,{ d with step:=6,state:=1,head:=head,data:=[] },true)
def dX(d:dF)(c:Cache)(p:Pkt):Nxt:=
 if d.bf≠3∨d.fits p=false then wB c
 else if d.step=1 then
  let d:dF:={ d with state:=p.state,head:=p.ptr,told:=p.ptr,data:=[],step:=6 }
  match c.find d.aB with
  | none=> (c,d,true)
  | some e=>
   if e.back=-1/\e.fwd=-1 then(c.drop d.aB,{ d with state:=0,head:=-1,data:=if e.fB then e.data else [] },true)
   else if e.back=-1 then(c,{ d with head:=-1,next:=e.fwd,step:=5 },true)
   else(c,{ d with head:=e.back,next:=e.fwd,step:=4 },true)
 else if d.step=4 then
  if d.next=-1 then ig d c d.told else(c,{ d with step:=5 },true)
 else if d.step=5 then
  if d.head=-1 then ig d c d.next else ig d c d.told
 else if d.step=6 then(c,{ d with step:=0 },true)
 else wB c
structure Proc where
 ops:List Opn
 dP:List Int
 gK:Bool
def Proc.cur(p:Proc):Option Opn:=p.ops[p.dP.length]?
def Proc.left(p:Proc):Int:=(p.ops.length:Int) - p.dP.length
structure Port where
 rq:List Pkt
 rin:List Pkt
 an:List Pkt
 ain:List Pkt
def Port.sort(p:Port)(req:Bool):List Pkt:=if req then p.rq else p.an
def Port.vI(p:Port)(req:Bool):List Pkt:=if req then p.rin else p.ain
def Port.nD(p:Port)(req:Bool)(l:List Pkt):Port:=if req then { p with rq:=l } else { p with an:=l }
def Port.nN(p:Port)(req:Bool)(l:List Pkt):Port:=if req then { p with rin:=l } else { p with ain:=l }
def Port.zero:Port:=⟨[],[],[],[]⟩
structure Fab where
 out:Int
 inn:Int
 l:List Port
def Fab.is(f:Fab)(bn:Int):Bool:=decide (0<=bn) && decide (bn < f.l.length)
def Fab.port(f:Fab)(bn:Int):Port:=f.l.getD bn.toNat .zero
def Fab.room(f:Fab)(req:Bool):Int:=if req then f.inn else 1
def Fab.put(f:Fab)(bn:Int)(p:Port):Fab:={ f with l:=f.l.set bn.toNat p }
def Fab.send(f:Fab)(p:Pkt):Fab × Int:=
 if !p.ok || !f.is p.src || !f.is p.dst then(f,1) else
 if(f.out:Int)<=((f.port p.src).sort (Ef p.bf)).length then(f,5)
 else(f.put p.src ((f.port p.src).nD (Ef p.bf) ((f.port p.src).sort (Ef p.bf)++[p])),0)
def Fab.kR(f:Fab):List (List Pkt):=f.l.flatMap λp=> [p.rq,p.an]
def Fab.all(f:Fab):List Pkt:=f.l.flatMap λp=> p.rq++p.an
def Eh:List Port->Nat->Nat->Option (Nat × Bool × Nat)
 | [],_,_=> none
 | p::l,i,k=> if k < p.rq.length then some (i,true,k) else if k < p.rq.length+p.an.length then some (i,false,k - p.rq.length) else Eh l (i+1) (k - (p.rq.length+p.an.length))
def Fab.take(f:Fab)(bn:Int)(req:Bool):Fab × Option Pkt:=
 if f.is bn then
  match(f.port bn).vI req with
  | []=> (f,none)
  | p::l=> (f.put bn ((f.port bn).nN req l),some p)
 else(f,none)
def Fab.roomOf(f:Fab)(bn:Int)(req:Bool):Int:=if f.is bn then f.out - ((f.port bn).sort req).length else 0
open Go.ChangeShapes Go.WideShapes Go.ChangeAt Go.RowKit
abbrev ρ0:Ren:=λ_=> none
abbrev G0:Nat->Nat:=λ_=> 0
theorem Xi {w:World}(hg:Z8 ρ0 w):Rel ρ0 ah.empty w:=⟨λr _=> ⟨rfl,rfl⟩,λr b sh h=> (by cases h),λr r' b sh sh' h=> (by cases h),hg⟩
theorem Xj {P:Program}{L:Pol}(hL:UA P L)(hm:P.follows .mixedOrders=true){k:FuncId}{xs:List AV}{b:Bool}{H':ah}(h:callω P L k xs ah.empty=some (.s (.bool b),H')){W:World}{args:Array Value}(hg:Z8 ρ0 W)(ha:RVs ρ0 G0 W xs args.toList):
  Calls P k args W λe W'=> e=.returned (.bool b)/\Below W.heap.size W W':=by
 refine((callω_ok hL hm).1 k xs _ _ H' h ρ0 W args (Xi hg) ha).mono λe w' he=> ?_;obtain⟨cv,ρ',rfl,_,r2,r3⟩:=he;simp only [RV] at r2;subst r2;exact⟨rfl,r3.os,r3.tape,r3.output,r3.size,λk hk=> r3.frame k hk λr sh h=> (by cases h)⟩
section
variable {H:Type}{enc:TypeId × Value->H}{P:Program}
theorem yt(hl:laidOutB P=true){W W':World}(hb:Below W.heap.size W W'):∀{ts:List TypeId} {vs:List Value} {ds:List (DataW H)} {ps:List MemPlace},ts.all (λt=> P.readableRec t && decide (t < P.types.size))=true->
  DataW.TrodAll enc P W 0 (λ_=> true) true ts vs ds ps->(∀x∈ps,x.block < W.heap.size)->DataW.TrodAll enc P W' 0 (λb=> decide (b < W.heap.size)) true ts vs ds ps
 | [],vs,ds,ps,_,h,_=> by
  obtain⟨rfl,rfl,rfl⟩:=trodAll_nil h;exact trodAll_mk0
 | t::ts,vs,ds,ps,ht,h,hlt=> by
  simp only [zb2,zaj,decide_eq_true_eq] at ht;obtain⟨v,vs',d,ds',p,q,rfl,rfl,rfl,h1,h2⟩:=trodAll_cons h;exact⟨p,q,Below.trod hl ht.1.1 ht.1.2 h1 hb λx hx=> hlt x (by simp [hx]),yt hl hb (by simpa using ht.2) h2 λx hx=> hlt x (by simp [hx]),rfl⟩
theorem Xk {f:Func}{s:ChangeSpec}{W W':World}{args:Array Value}{ds gs:List (DataW H)}{before:List MemPlace}{tb:TypeId}(hl:laidOutB P=true)
  (hp:f.params.toList.all (λt=> P.readableRec t && decide (t < P.types.size))=true) (hr:f.resultTypes=#[tb]) (hb:P.underlying tb=some .bool)
  (hW:DataW.Whole enc P f.params.toList s.vars false W args.toList ds gs before) (hv:s.vars=[])
  (h1:(s.fn H ds).results=[.lit (.bool true)]) (h2:(s.fn H ds).args=ds) (h3:(s.fn H ds).vars=[]) (B:Below W.heap.size W W'):
  s.post enc P f false true false false W args (.bool true) W':=by
 have hlt:∀x∈before,x.block < W.heap.size:=λx hx=> hW.lt x hx;have hW':=hW;obtain⟨p,q,hA,hV,rfl,_,_⟩:=hW;rw [hv] at hV;obtain⟨rfl,rfl⟩:=trodVars_none hV;rw [zbb] at hlt;refine⟨ds,[],p++[],[],p,[],hW',?_,?_,?_,B.frame _,λh=> by cases h⟩
 ·rw [zbb,h1,hr];exact trodAll_mk1 (shut_bool hb true)
 ·rw [zbb,h2];exact yt hl B hp hA hlt
 ·rw [zbb,h3,hv];exact rfl
theorem aii {W:World}{k:IntKind}{n:Int}:RV ρ0 G0 W (.s (.int k n)) (.int k n):=by simp [RV]
theorem amN {W:World}{x:AV}{v:Value}{xs:List AV}{vs:List Value}(h:RV ρ0 G0 W x v)(h':RVs ρ0 G0 W xs vs):RVs ρ0 G0 W (x::xs) (v::vs):=by
 simp only [RVs];exact⟨v,vs,rfl,h,h'⟩
theorem apf {W:World}:RVs ρ0 G0 W [] []:=by simp only [RVs]
abbrev BZ(z:Int):Prop:=-9223372036854775808<=z/\z<=9223372036854775807
theorem apg {z:Int}(h:(Lit.int .i64 z).wf=true):BZ z:=by
 simp [Lit.wf,IntKind.min,IntKind.max,IntKind.signed,IntKind.bits] at h;exact⟨by omega,by omega⟩
end
open Go.RowKit
variable {P:Program}{ρ:Ren}{H:ah}{w w':World}
theorem GH {f:FuncId}{p:List AV->ah->Option (AV × ah)}
  (h:∀args H v H',p args H=some (v,H')->∀(ρ:Ren) (w:World) (jZ:Array Value),Rel ρ H w->RVs ρ H.gen w args jZ.toList->
   Calls P f jZ w λe w'=>∃cv ρ',e=.returned cv/\Rel ρ' H' w'/\RV ρ' H'.gen w' v cv/\Ext ρ H w ρ' H' w'):oZ P (λg args H=> if g=f then p args H else none):=by
 intro g args H v H' he ρ w jZ R ha;simp only at he;split at he
 ·rename_i e;subst e;exact h args H v H' he ρ w jZ R ha
 ·cases he
theorem uH(R:Rel ρ H w)(B:Below w.heap.size w w'):Rel ρ H w'/\Ext ρ H w ρ H w':=by
 have E:Ext ρ H w ρ H w':=⟨zac _,λ_=> zac _,λ_ _ h _=> h,λ_ _ h=> h,λ_ _ sh h=> .inr ⟨sh,h⟩,B.size,λb hb _=> B.block b hb,λb hb=> by rw [dY,dY,B.block b hb],B.os,B.tape,B.output⟩
 exact⟨⟨R.out,λr b sh h=> wH.mono E.toMono (B.block b (R.block h)) (R.obj r b sh h),R.inj,R.gl.ext E⟩,E⟩
theorem LU(R:Rel ρ H w){b:Nat}(hb:w.heap.size<=b):Imm ρ b:=λr sh h=> by
 have:=R.block h;omega
theorem PU {G:Nat->Nat}{x:AV}{jZ:Array Value}(h:RVs ρ G w [x] jZ.toList):∃c,jZ=#[c]/\RV ρ G w x c:=by
 obtain⟨cx,l,e,h1,h2⟩:=(by simpa only [RVs] using h)
 subst h2;exact⟨cx,zb7.1 (by simpa using e),h1⟩
def aaU:AV:=.s (.slice none 0 0)
def LV(ks:List Int):AV:=if ks=[] then aaU else .vs ks.length 1 ((ks.mergeSort λx y=> decide (x<=y)).map λn=> .s (.int .i64 n))
def Ei:List AV->Option (List Int)
 | []=> some []
 | .s (.int .i64 n)::l=> (Ei l).map (n:: ·)
 | _=> none
theorem Ej:∀l:List Int,Ei (l.map λn=> .s (.int .i64 n))=some l
 | []=> rfl
 | n::l=> by simp only [zaC,Ei,Ej l,zai]
theorem LW:∀{cells:List AV} {zs:List Int},Ei cells=some zs->cells=zs.map λn=> .s (.int .i64 n)
 | [],_,h=> by cases h;rfl
 | x::l,zs,h=> by
  unfold Ei at h;split at h
  ·rename_i e;cases e
  ·rename_i n l' e;cases e;obtain⟨zs',h1,rfl⟩:=zbM.1 h;rw [LW h1];rfl
  ·cases h
def qG(kf vf:List Nat)(args:List AV)(H:ah):Option (AV × ah):=
 match args with
 | [.fn (.func f) [] [.ref r g 0]]=>
  match H.get r with
  | .blk g' ty [.mp m]=> match H.get m with
   | .map .i64 es=> if g'=g/\ty < fQ/\f≠0/\f∈kf/\(es.map (·.1)).Nodup/\(es.all λe=> (Lit.int .i64 e.1).wf)=true/\es.length<=1000000 then some (LV (es.map (·.1)),H) else none
   | _=> none
  | .blk g' ty [.vs n 1 cells]=> match Ei cells with
   | some zs=> if g'=g/\ty < fQ/\f≠0/\f∈vf/\n=zs.length/\n<=1000 then some (LV zs,H) else none
   | none=> none
  | .blk g' ty [.s (.slice none 0 0)]=> if g'=g/\ty < fQ/\f≠0/\f∈vf then some (aaU,H) else none
  | _=> none
 | _=> none
structure Node where
 aT:Cache
 dK:Proc
 home:Home
 dO:dF
 num:Int
structure dG where
 c:Cfg
 aP:List Node
 fab:Fab
 trace:List Evn
def Cfg.nG(c:Cfg)(me:Int):Nat->Rows
 | 0=> []
 | n+1=> if c.fA n=me then nC (c.nG me n) n ⟨0,-1,c.first n⟩ else c.nG me n
def Home.new(c:Cfg)(me:Int):Home:=⟨c.nG me c.aW.toNat,⟨[],[]⟩⟩
def Node.new(c:Cfg)(me:Int)(l:List Opn):Node:=⟨⟨[],c.sets,c.ways,0⟩,⟨l,[],false⟩,.new c me,.zero,0⟩
def Fab.new(c:Cfg):Fab:=⟨c.out,c.inn,List.replicate c.aP.toNat .zero⟩
def dG.new(c:Cfg)(ps:List (List Opn)):dG:=⟨c,ps.mapIdx λi l=> .new c i l,.new c,[]⟩
structure aij where
 owner:List (Int × Int)
 wait:List (Int × Int × Int)
structure aik where
 eF:List Row
 bV:aij
structure amO where
 aT:Cache
 homes:aik
 ops:List Opn
 gK:Bool
 dP:List Int
 has:Bool
 dO:dF
 num:Int
structure aph where
 c:Cfg
 fab:List Port
 aP:List amO
 ev:List Evn
def Pkt.avx(p:Pkt)(x:AV):List AV:=[I p.bf,I p.src,I p.dst,I p.id,I p.aB,I p.ptr,I p.state,B p.flag,x]
def Ent.avx(e:Ent)(x:AV):List AV:=[I e.fwd,I e.back,I e.aB,I e.used,B e.fB,x]
def AZ(x:Int):List Int->List Int
 | []=> [x]
 | y::rp=> if x < y then y::AZ x rp else x::y::rp
def srt:List Int->List Int->List Int
 | rp,[]=> rp.reverse
 | rp,x::l=> srt (AZ x rp) l
def Ent.word(e:Ent)(w:Int):Int:=if 0<=w/\w < e.data.length then e.data.getD w.toNat 0 else 0
def Ent.write(e:Ent)(w v:Int):Ent:=if e.fB=true/\0<=w/\w < e.data.length then { e with data:=e.data.set w.toNat v } else e
def Home.ready(h:Home):List Int:=h.bV.ready (srt [] (h.bV.wait.map (·.1)))
def Home.grant(bn:Int)(h:Home):Home × Pkt × Bool:=
 match h.ready with
 | []=> (h,.zero,false)
 | aB::_=> match h.bV.next aB with
  | (t,some w)=> ({ h with bV:=t },qF h.eF bn aB w.1 w.2,true)
  | (_,none)=> (h,.zero,false)
def Proc.idx(p:Proc):Int:=match p.cur with
 | some _=> p.dP.length
 | none=> 0
def Proc.op(p:Proc):Opn:=p.cur.getD .zero
def Proc.VH(p:Proc)(v:Int):Proc:=if p.gK then⟨p.ops,p.dP++[v],false⟩ else p
def Proc.yu(p:Proc):Proc:=if p.gK=true∨p.cur=none then p else { p with gK:=true }
abbrev NT:=Node × List Evn
def Node.done(me:Int)(n:Node)(t:List Evn)(v:Int):NT:=({ n with dK:=n.dK.VH v },t++[⟨me,n.dK.idx,true,v⟩])
def kV(e:Ent)(o:Opn)(w:Int):Ent:=if o.bf=2 then e.write w o.value else if o.bf=3 then e.write w (w64 (e.word w+o.value)) else e
def Node.effect(c:Cfg)(me:Int)(n:Node)(t:List Evn):NT:=
 let o:=n.dK.op;let e:=(n.aT.find (c.dS o.addr)).getD .zero;let n':={ n with aT:=(n.aT.put (kV e o (c.jJ o.addr))).1 }
 n'.done me t (if o.bf=2 then 0 else e.word (c.jJ o.addr))
def Node.ail(c:Cfg)(me:Int)(n:Node)(f:Fab):Fab:=(f.send (n.dO.ask me (c.fA n.dO.aB))).1
def Node.after(me:Int)(n:Node)(p:Pkt):Nxt:=
 if n.dO.bf=1 then dN n.dO me n.aT p else if n.dO.bf=2 then dM n.dO me n.aT p else if n.dO.bf=3 then dX n.dO n.aT p else wB n.aT
abbrev NFT:=Node × Fab × List Evn
def Node.answered(c:Cfg)(me:Int)(n:Node)(f:Fab)(t:List Evn)(p:Pkt):NFT:=
 match n.after me p with
 | (ca,d,ok)=>
  if ok=false then({ n with aT:=ca },f,t) else
  let n:={ n with aT:=ca,dO:=d }
  if d.step=0 then(if d.bf=3/\n.dK.op.bf=4 then((n.done me t 0).1,f,(n.done me t 0).2) else(n,f,t))
  else
   let nt:=if d.step=6/\d.bf≠3 then n.effect c me t else(n,t)
   (nt.1,nt.1.ail c me f,nt.2)
def Node.begin_(c:Cfg)(me:Int)(n:Node)(f:Fab)(bf aB:Int):Node × Fab:=
 let n:={ n with dO:=.begin bf aB n.num,num:=(n.num+1).tmod 4096 }
 (n,n.ail c me f)
def Node.asked(c:Cfg)(me:Int)(n:Node)(f:Fab)(p:Pkt):Node × Fab:=
 if p.bf=1∨p.bf=2 then
  match n.home.handle c me p with
  | (h,out,ok,e)=> ({ n with home:=h },if ok=true/\e=0 then(f.send out).1 else f)
 else
  match fP n.aT p with
  | (ca,out,e)=> ({ n with aT:=ca },if e=0 then(f.send out).1 else f)
def Node.work(c:Cfg)(me:Int)(n:Node)(f:Fab)(t:List Evn)(o:Opn):NFT:=
 let t:=if n.dK.gK then t else t++[⟨me,n.dK.dP.length,false,0⟩]
 let n:={ n with dK:={ n.dK with gK:=true } }
 let aB:=c.dS o.addr;let e:=n.aT.find aB
 if o.bf=4/\e=none then((n.done me t 0).1,f,(n.done me t 0).2)
 else if o.bf=4 then((n.begin_ c me f 3 aB).1,(n.begin_ c me f 3 aB).2,t)
 else if e.isSome=true/\(o.bf=1∨(e.getD .zero).fB=true) then
  let n:={ n with aT:=n.aT.touch aB }
  ((n.effect c me t).1,f,(n.effect c me t).2)
 else if n.aT.full aB=true then((n.begin_ c me f 3 ((n.aT.qU aB).getD 0)).1,(n.begin_ c me f 3 ((n.aT.qU aB).getD 0)).2,t)
 else if o.bf=1 then((n.begin_ c me f 1 aB).1,(n.begin_ c me f 1 aB).2,t)
 else((n.begin_ c me f 2 aB).1,(n.begin_ c me f 2 aB).2,t)
def Node.step(c:Cfg)(me:Int)(n:Node)(f:Fab)(t:List Evn):NFT × Int:=
 match f.take me false with
 | (f',some p)=> (n.answered c me f' t p,1)
 | (_,none)=>
  if n.home.ready≠[]/\f.roomOf me false≠0 then
   (({ n with home:=(n.home.grant me).1 },(f.send (n.home.grant me).2.1).1,t),2)
  else
   match(if f.roomOf me false=0 then(f,none) else f.take me true) with
   | (f',some p)=> (((n.asked c me f' p).1,(n.asked c me f' p).2,t),3)
   | (_,none)=>
    match n.dK.cur with
    | some o=> if n.dO.step=0 then(n.work c me f t o,4) else((n,f,t),0)
    | none=> ((n,f,t),0)
def dG.bn(m:dG)(i:Int):Option Node:=if 0<=i then m.aP[i.toNat]? else none
def dG.step(m:dG)(i:Int):dG × Int:=
 match m.bn i with
 | none=> (m,0)
 | some n=> match n.step m.c i m.fab m.trace with
  | ((n',f,t),k)=> ({ m with aP:=m.aP.set i.toNat n',fab:=f,trace:=t },k)
def bV(bytes:Nat)(bit mask:Int):Bool:=(List.range 16).any λi=> decide ((mask.toNat >>> (15 - i)) % 2=1) && decide (0<=bit+i) && decide (bit+i < 8*bytes)
def Pkt.bytes(p:Pkt):Nat:=12+8*p.data.length
def Port.drop(p:Port)(req:Bool)(k:Nat):Port:=p.nD req ((p.sort req).eraseIdx k)
def Fab.remove(f:Fab)(at_:Nat):Fab:=match Eh f.l 0 at_ with
 | some (i,req,k)=> f.put i ((f.port i).drop req k)
 | none=> f
def Fab.deliver(f:Fab)(at_ bit mask:Int):Fab × Int:=
 if at_ < 0 then(f,3) else
 match f.all[at_.toNat]? with
 | none=> (f,3)
 | some p=>
  if bV p.bytes bit mask=true then(f,2) else
  if f.room (Ef p.bf)<=((f.port p.dst).vI (Ef p.bf)).length then(f,5) else
  ((f.put p.dst ((f.port p.dst).nN (Ef p.bf) ((f.port p.dst).vI (Ef p.bf)++[p]))).remove at_.toNat,0)
def dG.deliver(m:dG)(at_ bit mask:Int):dG × Int:=({ m with fab:=(m.fab.deliver at_ bit mask).1 },(m.fab.deliver at_ bit mask).2)
def dG.do_(m:dG)(p:Pck):dG × Bool:=
 if p.deliver then((m.deliver p.at_ p.bit p.mask).1,decide ((m.deliver p.at_ p.bit p.mask).2=0))
 else((m.step p.at_).1,decide ((m.step p.at_).2≠0))
def yw(c:Cfg)(me aB:Int):Bool:=decide (0<=aB) && decide (aB < c.aW) && decide (aB % c.aP=me)
def Lines(l:List Ent):Prop:=l.Pairwise λa b=> a.aB≠b.aB
theorem Lines.inj:∀{l:List Ent},Lines l->∀{a b:Ent},a∈l->b∈l->a.aB=b.aB->a=b
 | [],_,a,_,ha,_,_=> by cases ha
 | x::l,h,a,b,ha,hb,e=> by
  have h1:=zbR.1 h;rcases zar.1 ha with ha' | ha'
  ·rcases zar.1 hb with hb' | hb'
   ·rw [ha',hb']
   ·rw [ha'] at e;exact absurd e (h1.1 b hb')
  ·rcases zar.1 hb with hb' | hb'
   ·rw [hb'] at e;exact absurd e.symm (h1.1 a ha')
   ·exact Lines.inj h1.2 ha' hb' e
theorem jW {l:List Ent}(h:Lines l){aB:Int}{e:Ent}:(l.find? λx=> decide (x.aB=aB))=some e↔e∈l/\e.aB=aB:=by
 constructor
 ·intro hf;exact⟨zbh hf,by simpa using List.find?_some hf⟩
 ·rintro⟨he,hl⟩;cases hf:l.find? λx=> decide (x.aB=aB) with
  | none=>
   have:=zdw.1 hf e he;simp [hl] at this
  | some x=>
   have h1:=zbh hf;have h2:x.aB=aB:=by simpa using List.find?_some hf
   rw [h.inj h1 he (by rw [h2,hl])]
theorem yx {l:List Ent}{aB:Int}:(l.find? λx=> decide (x.aB=aB))=none↔∀e∈l,e.aB≠aB:=by
 rw [zdw];simp
theorem I7 {c:Cache}{aB:Int}:c.at_ aB=none↔c.find aB=none:=by
 unfold Cache.at_ Cache.find;rw [List.findIdx?_eq_none_iff,zdw];simp
theorem I8 {c:Cache}{aB:Int}{i:Nat}(h:c.at_ aB=some i):∃e,c.l[i]?=some e/\c.find aB=some e/\e.aB=aB:=by
 unfold Cache.at_ at h;have hi:=List.findIdx?_eq_some_iff_getElem.1 h;obtain⟨hl,h1,h2⟩:=hi;refine⟨c.l[i],zab hl,?_,by simpa using h1⟩;unfold Cache.find;rw [List.find?_eq_some_iff_getElem];exact⟨h1,i,hl,rfl,λj hj=> by simpa using h2 j hj⟩
theorem GI {c:Cache}{aB:Int}{e:Ent}(h:c.find aB=some e):∃i,c.at_ aB=some i/\c.l[i]?=some e:=by
 cases ha:c.at_ aB with
 | none=> rw [I7.1 ha] at h;cases h
 | some i=>
  obtain⟨e',h1,h2,_⟩:=I8 ha;rw [h] at h2;cases h2;exact⟨i,rfl,h1⟩
theorem PV:∀{l:List Ent},Lines l->∀{i:Nat} {e v:Ent},l[i]?=some e->l.set i v=l.map λx=> if x.aB=e.aB then v else x
 | [],_,i,e,v,h=> by simp at h
 | x::l,hl,i,e,v,h=> by
  have h1:=zbR.1 hl;cases i with
  | zero=>
   simp only [za2,zaa] at h;subst h;simp only [zcD,zaC,if_true]
   congr 1
   have:∀y∈l,(if y.aB=x.aB then v else y)=y:=λy hy=> if_neg (Ne.symm (h1.1 y hy));rw [zbk this];simp
  | succ i=>
   simp only [zbo] at h;have hx:x.aB≠e.aB:=h1.1 e (zaw h);simp only [zc0,zaC,if_neg hx];rw [PV h1.2 h]
theorem A8:∀{l:List Ent},Lines l->∀{i:Nat} {e:Ent},l[i]?=some e->l.eraseIdx i=l.filter λx=> decide (x.aB≠e.aB)
 | [],_,i,e,h=> by simp at h
 | x::l,hl,i,e,h=> by
  have h1:=zbR.1 hl;cases i with
  | zero=>
   simp only [za2,zaa] at h;subst h;simp only [List.eraseIdx_cons_zero,zbP,ne_eq,not_true,decide_false,zal,if_false];rw [List.filter_eq_self.2];intro y hy;have:=h1.1 y hy;simp only [decide_eq_true_eq];exact λe=> this e.symm
  | succ i=>
   simp only [zbo] at h;have hx:x.aB≠e.aB:=h1.1 e (zaw h);simp only [List.eraseIdx_cons_succ,zbP,hx,ne_eq,not_false_eq_true,decide_true,if_true];rw [A8 h1.2 h]
theorem uI {c:Cache}(hl:Lines c.l){e x:Ent}(h0:0<=e.aB)(h:c.find e.aB=some x):c.put e=({ c with l:=c.l.map λy=> if y.aB=e.aB then { e with used:=x.used } else y },0):=by
 obtain⟨i,h1,h2⟩:=GI h;have hx:x.aB=e.aB:=by
  obtain⟨y,k1,_,k3⟩:=I8 h1;rw [h2] at k1;cases k1;exact k3
 unfold Cache.put;rw [if_neg (by omega),h1];simp only;rw [zaJ,h2,zat,PV hl h2,hx]
theorem Xl {c:Cache}(hl:Lines c.l)(aB:Int):c.drop aB={ c with l:=c.l.filter λx=> decide (x.aB≠aB) }:=by
 unfold Cache.drop;cases ha:c.at_ aB with
 | none=>
  have:=yx.1 (show(c.l.find? λx=> decide (x.aB=aB))=none from I7.1 ha);simp only;rw [List.filter_eq_self.2 λx hx=> by simpa using this x hx]
 | some i=>
  obtain⟨e,h1,_,h3⟩:=I8 ha;simp only;rw [A8 hl h1,h3]
theorem I9 {c:Cache}(hl:Lines c.l){aB:Int}{e:Ent}(h:c.find aB=some e):c.touch aB={ c with l:=c.l.map λx=> if x.aB=aB then { e with used:=c.dD+1 } else x,dD:=c.dD+1 }:=by
 obtain⟨i,h1,h2⟩:=GI h;obtain⟨y,k1,_,k3⟩:=I8 h1;rw [h2] at k1;cases k1;unfold Cache.touch;rw [h1];simp only;rw [zaJ,h2,zat,PV hl h2,k3]
theorem Em:∀(l:List Ent) (m:Ent),(l.foldl (λm x=> if x.used < m.used then x else m) m)∈m::l/\∀x∈m::l,(l.foldl (λm x=> if x.used < m.used then x else m) m).used<=x.used
 | [],m=> by simp
 | x::l,m=> by
  rw [zbI];obtain⟨h1,h2⟩:=Em l (if x.used < m.used then x else m);refine⟨?_,λy hy=> ?_⟩
  ·rcases zar.1 h1 with h | h
   ·rw [h];split <;> simp
   ·simp [h]
  ·have hle:(if x.used < m.used then x else m).used<=x.used/\(if x.used < m.used then x else m).used<=m.used:=by
    split
    ·omega
    ·omega
   have h3:=h2 _ (List.mem_cons_self ..);rcases zar.1 hy with hy | hy
   ·rw [hy];exact Int.le_trans h3 hle.2
   ·rcases zar.1 hy with hy | hy
    ·rw [hy];exact Int.le_trans h3 hle.1
    ·exact h2 y (by simp [hy])
theorem LX {l:List Ent}{e:Ent}(h:zT l=some e):e∈l/\∀x∈l,e.used<=x.used:=by
 cases l with
 | nil=> cases h
 | cons m l=>
  simp only [zT,zaa] at h;subst h;exact Em l m
def UG(l:List Ent):Prop:=l.Pairwise λa b=> a.used≠b.used
theorem xF(x:Int):∀l,(AZ x l).Perm (x::l)
 | []=> List.Perm.refl _
 | y::l=> by
  simp only [AZ];split
  ·exact((xF x l).cons y).trans (List.Perm.swap x y l)
  ·exact List.Perm.refl _
theorem yA(x:Int):∀l,l.Pairwise (· ≥ ·)->(AZ x l).Pairwise (· ≥ ·)
 | [],_=> by simp [AZ]
 | y::l,h=> by
  simp only [AZ];rw [zbR] at h;split
  ·rename_i hxy;refine zbR.2 ⟨λz hz=> ?_,yA x l h.2⟩;rcases zar.1 ((xF x l).mem_iff.1 hz) with rfl | hz
   ·omega
   ·exact h.1 z hz
  ·rename_i hxy;refine zbR.2 ⟨λz hz=> ?_,zbR.2 h⟩;rcases zar.1 hz with rfl | hz
   ·omega
   ·have:=h.1 z hz;omega
theorem vJ:∀(l rp:List Int),rp.Pairwise (· ≥ ·)->(srt rp l).Perm (rp++l)/\(srt rp l).Pairwise (· <= ·)
 | [],rp,h=> by
  simp only [srt,zbb];exact⟨List.reverse_perm rp,List.pairwise_reverse.2 (h.imp λh=> h)⟩
 | x::l,rp,h=> by
  have:=vJ l (AZ x rp) (yA x rp h);simp only [srt];refine⟨this.1.trans ?_,this.2⟩;refine((xF x rp).append_right l).trans ?_;rw [zbc];exact(List.perm_middle (a:=x) (l₁:=rp) (l₂:=l)).symm
theorem adp {l l':List Int}(hp:l.Perm l')(hs:l'.Pairwise (· <= ·)):srt [] l=l':=by
 obtain⟨h1,h2⟩:=vJ l [] List.Pairwise.nil;exact(h1.trans hp).eq_of_pairwise (λa b _ _ h1 h2=> Int.le_antisymm h1 h2) h2 hs
theorem oM {α:Type}:∀(l:List (Int × α)) (n m:Int) (x:α),jM (nC l n x) m=if n=m then some x else jM l m
 | [],n,m,x=> by simp [nC,jM]
 | (k,v)::l,n,m,x=> by
  simp only [nC];by_cases h:k=n
  ·subst h;simp only [if_true,jM];by_cases h2:k=m <;> simp [h2]
  ·simp only [h,if_false,jM];rw [oM l n m x];by_cases h2:k=m
   ·subst h2;simp only [if_true];rw [if_neg (λe=> h e.symm)]
   ·simp [h2]
theorem GL {α:Type}:∀(l:List (Int × α)) (n:Int),(FB l n).map (·.1)=(l.map (·.1)).erase n
 | [],n=> rfl
 | (k,v)::l,n=> by
  simp only [FB,zaC,List.erase_cons];by_cases h:k=n
  ·simp [h]
  ·simp [h,GL l n]
theorem LY {α:Type}:∀(l:List (Int × α)) (n:Int) (x:α),(nC l n x).map (·.1)=if n∈l.map (·.1) then l.map (·.1) else l.map (·.1)++[n]
 | [],n,x=> by simp [nC]
 | (k,v)::l,n,x=> by
  simp only [nC,zaC,zar];by_cases h:k=n
  ·simp [h]
  ·have h':¬n=k:=λe=> h e.symm;simp only [h,if_false,zaC,h',false_or,LY l n x];split <;> simp
theorem vK {α:Type}{l:List (Int × α)}(h:(l.map (·.1)).Nodup)(n:Int)(x:α):((nC l n x).map (·.1)).Nodup:=by
 rw [LY];split
 ·exact h
 ·rename_i hn;rw [zcI];refine⟨h,by simp,λa ha b hb=> ?_⟩;simp only [zaM] at hb;subst hb;intro e;subst e;exact hn ha
theorem vM {α:Type}:∀{l:List (Int × α)} {n:Int} {x:α},jM l n=some x->(n,x)∈l
 | [],n,x,h=> by cases h
 | (k,v)::l,n,x,h=> by
  simp only [jM] at h;split at h
  ·rename_i e;cases h;subst e;simp
  ·simp [vM h]
theorem pU {α:Type}:∀{l:List (Int × α)} {n:Int} {x:α} {e:Int × α},e∈nC l n x->e=(n,x)∨e∈l
 | [],n,x,e,h=> by simp [nC] at h;exact .inl h
 | (k,v)::l,n,x,e,h=> by
  simp only [nC] at h;split at h
  ·rcases zar.1 h with h | h
   ·exact .inl h
   ·exact .inr (by simp [h])
  ·rcases zar.1 h with h | h
   ·exact .inr (by simp [h])
   ·rcases pU h with h | h
    ·exact .inl h
    ·exact .inr (by simp [h])
theorem LZ {α:Type}:∀{l:List (Int × α)} {n:Int} {e:Int × α},e∈FB l n->e∈l
 | [],n,e,h=> by cases h
 | (k,v)::l,n,e,h=> by
  simp only [FB] at h;split at h
  ·simp [h]
  ·rcases zar.1 h with h | h
   ·simp [h]
   ·simp [LZ h]
structure aad(t:Turns):Prop where
 ok:(t.jQ.map (·.1)).Nodup
 oge:∀e∈t.jQ,0<=e.2
 wk:(t.wait.map (·.1)).Nodup
 wge:∀e∈t.wait,∀w∈e.2,0<=w.1
structure afg(c:Cfg)(me:Int)(h:Home):Prop where
 bV:aad h.bV
 here:∀e∈h.bV.wait,yw c me e.1=true
theorem aaV {t:Turns}{aB who id:Int}{e:Int × List (Int × Int)}(h:e∈(t.ask aB who id).1.wait):e.1=aB∨e∈t.wait:=by
 unfold Turns.ask at h;split at h
 ·exact .inr h
 ·split at h
  ·rcases pU h with rfl | h
   ·exact .inl rfl
   ·exact .inr h
  ·exact .inr h
theorem L6 {t:Turns}{aB who:Int}:(t.release aB who).1.wait=t.wait:=by
 unfold Turns.release;split <;> rfl
theorem Xm {t:Turns}{aB:Int}{e:Int × List (Int × Int)}(h:e∈(t.next aB).1.wait):e∈t.wait∨(e.1=aB/\t.ws aB≠[]):=by
 unfold Turns.next at h
 split at h
 ·exact .inl h
 ·split at h
  ·exact .inl h
  ·rename_i w ws hw;rcases pU h with rfl | h
   ·exact .inr ⟨rfl,by rw [hw];simp⟩
   ·exact .inl h
theorem L8 {c:Cfg}(hc:c.ok=true){me aB:Int}(h0:0<=aB):(c.fA aB≠me∨c.aW<=aB)↔yw c me aB=false:=by
 have he:c.fA aB=aB % c.aP:=by unfold Cfg.fA AY;rw [if_neg (by omega)]
 unfold yw;rw [he];constructor
 ·rintro(h | h)
  ·simp [h]
  ·have:¬aB < c.aW:=by omega
   simp [this]
 ·intro h;simp only [zcQ,decide_eq_false_iff_not] at h;rcases h with(h | h) | h
  ·omega
  ·right;omega
  ·exact .inl h
theorem En {h:Home}{aB:Int}{l:List Int}(hr:h.ready=aB::l):h.bV.owned aB=false/\h.bV.ws aB≠[]/\aB∈h.bV.wait.map (·.1):=by
 have:aB∈h.ready:=by rw [hr];simp
 unfold Home.ready Turns.ready at this;rw [zbt] at this;obtain⟨h1,h2⟩:=this;simp only [zaj,zbf] at h2;refine⟨h2.1,λe=> by rw [e] at h2;exact absurd h2.2 (by simp),?_⟩;have:=(vJ (h.bV.wait.map (·.1)) [] List.Pairwise.nil).1;rw [zaU] at this;exact this.mem_iff.1 h1
def Ba(d:dF)(bn:Int)(c:Cache)(p:Pkt):Nxt:=
 if d.bf=1 then dN d bn c p else if d.bf=2 then dM d bn c p else if d.bf=3 then dX d c p else wB c
def I64(z:Int):Prop:=-9223372036854775808<=z/\z<=9223372036854775807
theorem aio(z:Int):I64 (w64 z):=by
 show -9223372036854775808<=IntKind.wrap .i64 z/\IntKind.wrap .i64 z<=9223372036854775807;simp only [IntKind.wrap,IntKind.bits,IntKind.signed];simp;split <;> constructor <;> omega
def nO(c:Cfg)(d:List Int):Prop:=(d.length:Int)=c.aQ/\∀v∈d,I64 v
structure wC(c:Cfg)(p:Pkt):Prop where
 ok:p.ok=true
 dat:p.bf=7∨p.bf=9->nO c p.data
 num:∀v∈p.data,I64 v
structure GN(c:Cfg)(p:Port):Prop where
 rq:(p.rq.length:Int)<=c.out
 an:(p.an.length:Int)<=c.out
 rin:(p.rin.length:Int)<=c.inn
 ain:(p.ain.length:Int)<=1
 pkt:∀q,q∈p.rq∨q∈p.an∨q∈p.rin∨q∈p.ain->wC c q
structure uJ(c:Cfg)(f:Fab):Prop where
 out:f.out=c.out
 inn:f.inn=c.inn
 len:(f.l.length:Int)=c.aP
 port:∀p∈f.l,GN c p
theorem wO {c:Cfg}(h:c.ok=true):(1<=c.aP/\c.aP<=6)/\(1<=c.aW/\c.aW<=8)/\(1<=c.aQ/\c.aQ<=4)/\(1<=c.sets/\c.sets<=4)/\(1<=c.ways/\c.ways<=3)/\(1<=c.out/\c.out<=8)/\(1<=c.inn/\c.inn<=8):=by
 unfold Cfg.ok at h;simp only [zaj,decide_eq_true_eq] at h;omega
theorem uJ.get {c:Cfg}{f:Fab}(F:uJ c f){i:Int}(h:f.is i=true):GN c (f.port i):=by
 unfold Fab.is at h;simp only [zaj,decide_eq_true_eq] at h;have hi:i.toNat < f.l.length:=by omega
 unfold Fab.port;rw [zaJ,zab hi,zat];exact F.port _ (zdf hi)
theorem uJ.put {c:Cfg}{f:Fab}(F:uJ c f)(i:Int){p:Port}(h:GN c p):uJ c (f.put i p):=by
 refine⟨F.out,F.inn,by simp only [Fab.put,zbV];exact F.len,λq hq=> ?_⟩;simp only [Fab.put] at hq;rcases zcn hq with hq | hq
 ·exact F.port q hq
 ·rw [hq];exact h
theorem uJ.send {c:Cfg}{f:Fab}(F:uJ c f){p:Pkt}(hp:p.ok=true->wC c p):uJ c (f.send p).1:=by
 unfold Fab.send;split
 ·exact F
 ·rename_i h;simp only [zbs,zbf,not_or,zc6] at h;obtain⟨⟨h1,h2⟩,h3⟩:=h;have P:=F.get h2;have Q:=hp h1;split
  ·exact F
  ·rename_i hr;refine F.put _ ?_;rw [F.out] at hr;cases hk:Ef p.bf with
   | true=>
    rw [hk] at hr;simp only [Port.sort,if_true] at hr;refine⟨?_,P.an,P.rin,P.ain,λq hq=> ?_⟩
    ·simp only [Port.nD,Port.sort,if_true,zaq,zah,zam];omega
    ·simp only [Port.nD,Port.sort,if_true,za3,zaM] at hq;rcases hq with(hq | hq) | hq
     ·exact P.pkt q (.inl hq)
     ·rw [hq];exact Q
     ·exact P.pkt q (.inr hq)
   | false=>
    rw [hk] at hr;simp only [Port.sort,zal,if_false] at hr;refine⟨P.rq,?_,P.rin,P.ain,λq hq=> ?_⟩
    ·simp only [Port.nD,Port.sort,zal,if_false,zaq,zah,zam];omega
    ·simp only [Port.nD,Port.sort,zal,if_false,za3,zaM] at hq;rcases hq with hq | (hq | hq) | hq
     ·exact P.pkt q (.inl hq)
     ·exact P.pkt q (.inr (.inl hq))
     ·rw [hq];exact Q
     ·exact P.pkt q (.inr (.inr hq))
theorem uJ.take {c:Cfg}{f:Fab}(F:uJ c f)(i:Int)(req:Bool):uJ c (f.take i req).1/\∀p,(f.take i req).2=some p->wC c p:=by
 unfold Fab.take;split
 ·rename_i h;have P:=F.get h;cases hl:(f.port i).vI req with
  | nil=> exact⟨F,λp hp=> by cases hp⟩
  | cons p l=>
   simp only;cases req with
   | true=>
    simp only [Port.vI,if_true] at hl;have h1:=P.rin;rw [hl] at h1;simp only [zah] at h1;refine⟨F.put _ ⟨P.rq,P.an,?_,P.ain,λq hq=> ?_⟩,λp' hp=> ?_⟩
    ·simp only [Port.nN,if_true];omega
    ·simp only [Port.nN,if_true] at hq;rcases hq with hq | hq | hq | hq
     ·exact P.pkt q (.inl hq)
     ·exact P.pkt q (.inr (.inl hq))
     ·exact P.pkt q (.inr (.inr (.inl (by rw [hl];simp [hq]))))
     ·exact P.pkt q (.inr (.inr (.inr hq)))
    ·cases hp;exact P.pkt _ (.inr (.inr (.inl (by rw [hl];simp))))
   | false=>
    simp only [Port.vI,zal,if_false] at hl;have h1:=P.ain;rw [hl] at h1;simp only [zah] at h1;refine⟨F.put _ ⟨P.rq,P.an,P.rin,?_,λq hq=> ?_⟩,λp' hp=> ?_⟩
    ·simp only [Port.nN,zal,if_false];omega
    ·simp only [Port.nN,zal,if_false] at hq;rcases hq with hq | hq | hq | hq
     ·exact P.pkt q (.inl hq)
     ·exact P.pkt q (.inr (.inl hq))
     ·exact P.pkt q (.inr (.inr (.inl hq)))
     ·exact P.pkt q (.inr (.inr (.inr (by rw [hl];simp [hq]))))
    ·cases hp;exact P.pkt _ (.inr (.inr (.inr (by rw [hl];simp))))
 ·exact⟨F,λp hp=> by cases hp⟩
theorem yB {α:Type}{l:List α}{i:Nat}{a:α}(h:a∈l.eraseIdx i):a∈l:=(zcM l i).subset h
theorem GN.drop {c:Cfg}{p:Port}(P:GN c p)(req:Bool)(k:Nat):GN c (p.drop req k):=by
 have hl:∀(l:List Pkt),((l.eraseIdx k).length:Int)<=l.length:=λl=> by
  have:=(zcM l k).length_le;omega
 cases req with
 | true=>
  refine⟨?_,P.an,P.rin,P.ain,λq hq=> ?_⟩
  ·have:=hl p.rq;have:=P.rq;simp only [Port.drop,Port.nD,Port.sort,if_true];omega
  ·simp only [Port.drop,Port.nD,Port.sort,if_true] at hq;rcases hq with hq | hq
   ·exact P.pkt q (.inl (yB hq))
   ·exact P.pkt q (.inr hq)
 | false=>
  refine⟨P.rq,?_,P.rin,P.ain,λq hq=> ?_⟩
  ·have:=hl p.an;have:=P.an;simp only [Port.drop,Port.nD,Port.sort,zal,if_false];omega
  ·simp only [Port.drop,Port.nD,Port.sort,zal,if_false] at hq;rcases hq with hq | hq | hq
   ·exact P.pkt q (.inl hq)
   ·exact P.pkt q (.inr (.inl (yB hq)))
   ·exact P.pkt q (.inr (.inr hq))
theorem L9:∀(l:List Port) (i k:Nat) {j:Nat} {req:Bool} {k':Nat},Eh l i k=some (j,req,k')->i<=j/\j < i+l.length
 | [],i,k,j,req,k',h=> by cases h
 | p::l,i,k,j,req,k',h=> by
  simp only [Eh] at h;split at h
  ·cases h;simp
  ·split at h
   ·cases h;simp
   ·have:=L9 l (i+1) _ h;simp only [zah];omega
theorem uJ.remove {c:Cfg}{f:Fab}(F:uJ c f)(k:Nat):uJ c (f.remove k):=by
 unfold Fab.remove;split
 ·rename_i i req k' h;have hi:=L9 _ _ _ h;refine F.put _ ((F.get ?_).drop _ _);unfold Fab.is;simp only [zaj,decide_eq_true_eq];omega
 ·exact F
theorem uJ.pkt {c:Cfg}{f:Fab}(F:uJ c f){p:Pkt}(h:p∈f.all):wC c p:=by
 unfold Fab.all at h;obtain⟨q,hq,hp⟩:=zbd.1 h;rcases za3.1 hp with hp | hp
 ·exact(F.port q hq).pkt p (.inl hp)
 ·exact(F.port q hq).pkt p (.inr (.inl hp))
theorem uJ.deliver {c:Cfg}{f:Fab}(F:uJ c f)(at_ bit mask:Int):uJ c (f.deliver at_ bit mask).1:=by
 unfold Fab.deliver;split
 ·exact F
 split
 ·exact F
 ·rename_i p hp;have Q:=F.pkt (zaw hp);split
  ·exact F
  split
  ·exact F
  ·rename_i hr;refine uJ.remove ?_ _;by_cases h:f.is p.dst=true
   ·have P:=F.get h;refine F.put _ ?_;cases hk:Ef p.bf with
    | true=>
     rw [hk] at hr;simp only [Fab.room,Port.vI,if_true,F.inn] at hr;refine⟨P.rq,P.an,?_,P.ain,λq hq=> ?_⟩
     ·simp only [Port.nN,Port.vI,if_true,zaq,zah,zam];omega
     ·simp only [Port.nN,Port.vI,if_true,za3,zaM] at hq;rcases hq with hq | hq | (hq | hq) | hq
      ·exact P.pkt q (.inl hq)
      ·exact P.pkt q (.inr (.inl hq))
      ·exact P.pkt q (.inr (.inr (.inl hq)))
      ·rw [hq];exact Q
      ·exact P.pkt q (.inr (.inr (.inr hq)))
    | false=>
     rw [hk] at hr;simp only [Fab.room,Port.vI,zal,if_false] at hr;refine⟨P.rq,P.an,P.rin,?_,λq hq=> ?_⟩
     ·simp only [Port.nN,Port.vI,zal,if_false,zaq,zah,zam];omega
     ·simp only [Port.nN,Port.vI,zal,if_false,za3,zaM] at hq;rcases hq with hq | hq | hq | (hq | hq)
      ·exact P.pkt q (.inl hq)
      ·exact P.pkt q (.inr (.inl hq))
      ·exact P.pkt q (.inr (.inr (.inl hq)))
      ·exact P.pkt q (.inr (.inr (.inr hq)))
      ·rw [hq];exact Q
   ·-- no such bn:nothing is put
    have hn:f.l.length<=p.dst.toNat:=by
     have hok:=Q.ok;simp only [Pkt.ok,zaj,decide_eq_true_eq] at hok;simp only [Fab.is,zaj,decide_eq_true_eq] at h;omega
    unfold Fab.put;rw [List.set_eq_of_length_le hn];exact⟨F.out,F.inn,F.len,F.port⟩
structure amP(c:Cfg)(k:Int)(e:Ent):Prop where
 lo:0<=e.aB
 hi:e.aB < c.aW
 used:e.used<=k
 u0:0<=e.used
 dat:nO c e.data
structure Cb(c:Cfg)(ca:Cache):Prop where
 sets:ca.sets=c.sets
 ways:ca.ways=c.ways
 aW:Lines ca.l
 aaW:UG ca.l
 ent:∀e∈ca.l,amP c ca.dD e
 room:∀aB,((ca.uG aB).length:Int)<=ca.ways
 afh:0<=ca.dD
structure aip(c:Cfg)(n:Node):Prop where
 gK:n.dK.gK=true
 op:∃o,n.dK.cur=some o/\c.dS o.addr=n.dO.aB/\(n.dO.bf=1->o.bf=1)/\(n.dO.bf=2->o.bf=2∨o.bf=3)
 full:n.aT.full n.dO.aB=false
structure adq(c:Cfg)(n:Node):Prop where
 lo:0<=n.dO.aB
 hi:n.dO.aB < c.aW
 bf:1<=n.dO.bf/\n.dO.bf<=3
 dat:n.dO.data=[]∨nO c n.dO.data
 afi:n.dO.bf=2->n.dO.step=3->nO c n.dO.data
 roll:n.dO.bf=3->n.dK.gK=true
 work:n.dO.bf≠3->n.dO.step≠6->aip c n
 rest:n.dO.bf≠3->n.dO.step=6->n.dK.gK=false
structure amb(c:Cfg)(p:Proc):Prop where
 most:p.ops.length<=24
 right:∀o∈p.ops,c.right o=true/\I64 o.value
 vals:p.dP.length<=p.ops.length
 gK:p.gK=true->p.dP.length < p.ops.length
structure UH(c:Cfg)(me:Int)(n:Node):Prop where
 dK:amb c n.dK
 aT:Cb c n.aT
 eF:∀e∈n.home.eF,nO c e.2.data
 home:afg c me n.home
 dO:n.dO.step≠0->adq c n
 clk:n.aT.dD<=n.dK.dP.length
theorem Xn {l:List Ent}{f:Ent->Ent}(h:UG l)(hf:∀x∈l,(f x).used=x.used):UG (l.map f):=by
 unfold UG;rw [zb1];exact h.imp_of_mem λha hb hab=> by rw [hf _ ha,hf _ hb];exact hab
theorem yC {l:List Ent}{f:Ent->Ent}(h:Lines l)(hf:∀x∈l,(f x).aB=x.aB):Lines (l.map f):=by
 unfold Lines;rw [zb1];exact h.imp_of_mem λha hb hab=> by rw [hf _ ha,hf _ hb];exact hab
theorem yD(ca:Cache)(aB:Int){q:Ent->Bool}:(({ ca with l:=ca.l.filter q }:Cache).uG aB).length<=(ca.uG aB).length:=by
 unfold Cache.uG;rw [zdx];have:(ca.l.filter λe=> (decide (0<=aB) && decide (e.aB.tmod ca.sets=aB.tmod ca.sets)) && q e)=((ca.l.filter λe=> decide (0<=aB) && decide (e.aB.tmod ca.sets=aB.tmod ca.sets))).filter q:=by
  rw [zdx]
  apply zc7
  intro x _;rw [Bool.and_comm]
 rw [this];exact zbS _ _
theorem Eo(ca:Cache)(aB k:Int){f:Ent->Ent}(hf:∀x∈ca.l,(f x).aB=x.aB):(({ ca with l:=ca.l.map f,dD:=k }:Cache).uG aB).length=(ca.uG aB).length:=by
 unfold Cache.uG;rw [List.filter_map,zax]
 congr 1
 apply zc7
 intro y hy;simp only [Function.comp,hf y hy]
theorem Cb.put {c:Cfg}{ca:Cache}(I:Cb c ca){e:Ent}(h0:0<=e.aB)(h1:e.aB < c.aW)(hd:nO c e.data):Cb c (ca.put e).1:=by
 cases hf:ca.find e.aB with
 | some x=>
  obtain⟨hx,hxl⟩:=(jW I.aW).1 hf;rw [uI I.aW h0 hf];refine⟨I.sets,I.ways,yC I.aW λy _=> ?_,Xn I.aaW λy hy=> ?_,λy hy=> ?_,λaB=> ?_,I.afh⟩
  ·split
   ·rename_i h;exact h.symm
   ·rfl
  ·split
   ·rename_i h;rw [I.aW.inj hy hx (by rw [h,hxl])]
   ·rfl
  ·obtain⟨z,hz,rfl⟩:=zaS.1 hy;split
   ·exact⟨h0,h1,(I.ent x hx).used,(I.ent x hx).u0,hd⟩
   ·exact I.ent z hz
  ·have:=Eo ca aB ca.dD (f:=λy=> if y.aB=e.aB then { e with used:=x.used } else y) (λy _=> by
    split
    ·rename_i h;exact h.symm
    ·rfl)
   have h2:=I.room aB;rw [<-this] at h2;exact h2
 | none=>
  unfold Cache.put;rw [if_neg (by omega),I7.2 hf];simp only;split
  ·exact I
  ·rename_i hfull;have hn:=yx.1 (show(ca.l.find? λx=> decide (x.aB=e.aB))=none from hf);refine⟨I.sets,I.ways,?_,?_,λy hy=> ?_,λaB=> ?_,by have:=I.afh;simp only;omega⟩
   ·unfold Lines;rw [List.pairwise_append];exact⟨I.aW,by simp,λa ha b hb=> by rw [zaM.1 hb];exact hn a ha⟩
   ·unfold UG;rw [List.pairwise_append];refine⟨I.aaW,by simp,λa ha b hb=> ?_⟩;rw [zaM.1 hb];have:=(I.ent a ha).used;simp only;omega
   ·rcases za3.1 hy with hy | hy
    ·have:=I.ent y hy;exact⟨this.lo,this.hi,by have:=this.used;simp only;omega,this.u0,this.dat⟩
    ·rw [zaM.1 hy];exact⟨h0,h1,by simp only;omega,by have:=I.afh;simp only;omega,hd⟩
   ·simp only [Cache.full,hf,zcZ,zaI,decide_eq_true_eq] at hfull;have hr:=I.room aB;unfold Cache.uG at hfull hr ⊢;simp only [zcc,zaq];by_cases hs:(decide (0<=aB) && decide (e.aB.tmod ca.sets=aB.tmod ca.sets))=true
    ·simp only [zaj,decide_eq_true_eq] at hs;have:(ca.l.filter λx=> decide (0<=aB) && decide (x.aB.tmod ca.sets=aB.tmod ca.sets))=ca.l.filter λx=> decide (0<=e.aB) && decide (x.aB.tmod ca.sets=e.aB.tmod ca.sets):=by
      apply zc7
      intro x _;rw [hs.2];simp [hs.1,h0]
     rw [this];have h1:(([({ e with used:=ca.dD+1 }:Ent)].filter λx=> decide (0<=aB) && decide (x.aB.tmod ca.sets=aB.tmod ca.sets)).length)<=1:=zbS _ _;omega
    ·have:([({ e with used:=ca.dD+1 }:Ent)].filter λx=> decide (0<=aB) && decide (x.aB.tmod ca.sets=aB.tmod ca.sets))=[]:=by
      simp only [zbP,List.filter_nil];rw [if_neg hs]
     rw [this];simp only [zam,zbp];exact hr
theorem Cb.drop {c:Cfg}{ca:Cache}(I:Cb c ca)(line':Int):Cb c (ca.drop line'):=by
 rw [Xl I.aW];refine⟨I.sets,I.ways,I.aW.filter _,I.aaW.filter _,λe he=> I.ent e (zbt.1 he).1,λaB=> ?_,I.afh⟩;have:=I.room aB;have h2:(({ ca with l:=ca.l.filter λx=> decide (x.aB≠line') }:Cache).uG aB).length<=(ca.uG aB).length:=yD _ _;simp only at h2 ⊢;omega
theorem Cb.touch {c:Cfg}{ca:Cache}(I:Cb c ca){aB:Int}{e:Ent}(h:ca.find aB=some e):Cb c (ca.touch aB):=by
 obtain⟨he,hl⟩:=(jW I.aW).1 h;rw [I9 I.aW h];refine⟨I.sets,I.ways,yC I.aW λy _=> ?_,?_,λy hy=> ?_,λline'=> ?_,by have:=I.afh;simp only;omega⟩
 ·split
  ·rename_i h;rw [h];exact hl
  ·rfl
 ·unfold UG;rw [zb1];refine(I.aW.and I.aaW).imp_of_mem λ{a b} ha hb hab=> ?_;have ua:=(I.ent a ha).used;have ub:=(I.ent b hb).used;split <;> split
  ·rename_i h1 h2;exact absurd (by rw [h1,h2]) hab.1
  ·simp only;omega
  ·simp only;omega
  ·exact hab.2
 ·obtain⟨z,hz,rfl⟩:=zaS.1 hy;split
  ·have:=I.ent e he;exact⟨this.lo,this.hi,by simp only;omega,by have:=I.afh;simp only;omega,this.dat⟩
  ·have:=I.ent z hz;exact⟨this.lo,this.hi,by have:=this.used;simp only;omega,this.u0,this.dat⟩
 ·have:=Eo ca line' (ca.dD+1) (f:=λx=> if x.aB=aB then { e with used:=ca.dD+1 } else x) (λy _=> by
   split
   ·rename_i h;rw [h];exact hl
   ·rfl)
  have h2:=I.room line';rw [<-this] at h2;exact h2
theorem aaX {ca:Cache}(hl:Lines ca.l){e x:Ent}(h0:0<=e.aB)(hf:ca.find e.aB=some x)(aB:Int):(ca.put e).1.full aB=ca.full aB:=by
 obtain⟨hx,hxl⟩:=(jW hl).1 hf;rw [uI hl h0 hf];have hm:∀y∈ca.l,(if y.aB=e.aB then { e with used:=x.used } else y).aB=y.aB:=λy _=> by
  split
  ·rename_i h;exact h.symm
  ·rfl
 have h1:({ ca with l:=ca.l.map λy=> if y.aB=e.aB then { e with used:=x.used } else y }:Cache).find aB=none↔ca.find aB=none:=by
  unfold Cache.find;rw [yx,yx];constructor
  ·intro h y hy;have:=h _ (zaS.2 ⟨y,hy,rfl⟩)
   rwa [hm y hy] at this
  ·intro h y hy;obtain⟨z,hz,rfl⟩:=zaS.1 hy;rw [hm z hz];exact h z hz
 have h2:(({ ca with l:=ca.l.map λy=> if y.aB=e.aB then { e with used:=x.used } else y }:Cache).uG aB).length=(ca.uG aB).length:=by
  unfold Cache.uG;rw [List.filter_map,zax]
  congr 1
  apply zc7
  intro y hy;simp only [Function.comp,hm y hy]
 unfold Cache.full;rw [h2]
 congr 1
 cases ha:ca.find aB with
 | none=> rw [h1.2 ha]
 | some u=>
  cases hb:({ ca with l:=ca.l.map λy=> if y.aB=e.aB then { e with used:=x.used } else y }:Cache).find aB with
  | none=> rw [h1.1 hb] at ha;cases ha
  | some v=> rfl
theorem yE {α:Type}{p q:α->Bool}:∀{l:List α},(∀x∈l,q x=true->p x=true)->∀{a:α},a∈l->p a=true->q a=false->(l.filter q).length < (l.filter p).length
 | [],_,a,h,_,_=> by cases h
 | x::l,hs,a,h,hp,hq=> by
  have hle:∀{l:List α},(∀x∈l,q x=true->p x=true)->(l.filter q).length<=(l.filter p).length:=by
   intro l hs
   induction l with
   | nil=> simp
   | cons y l ih=>
    have:=ih λz hz=> hs z (by simp [hz]);simp only [zbP];cases h1:q y
    ·simp only [zal,if_false];split
     ·simp only [zah];omega
     ·exact this
    ·rw [hs y (by simp) h1];simp only [if_true,zah];omega
  simp only [zbP];rcases zar.1 h with e | h
  ·subst e;rw [hp,hq];simp only [if_true,zal,if_false,zah];have:=hle λz hz=> hs z (zbH _ hz);omega
  ·have ih:=yE (λz hz=> hs z (zbH _ hz)) h hp hq;cases h1:q x
   ·simp only [zal,if_false];split
    ·simp only [zah];omega
    ·exact ih
   ·rw [hs x (by simp) h1];simp only [if_true,zah];omega
theorem Xo {c:Cfg}(hc:c.ok=true){ca:Cache}(I:Cb c ca){l' aB:Int}(h:ca.full aB=false):(ca.drop l').full aB=false:=by
 rw [Xl I.aW];unfold Cache.full at h ⊢;have hle:(({ ca with l:=ca.l.filter λx=> decide (x.aB≠l') }:Cache).uG aB).length<=(ca.uG aB).length:=yD _ _;cases hn:ca.find aB with
 | none=>
  rw [hn] at h;simp only [zcZ,zaI,decide_eq_false_iff_not] at h;simp only [zcQ,decide_eq_false_iff_not];right;omega
 | some e=>
  obtain⟨he,hl⟩:=(jW I.aW).1 hn;by_cases hll:aB=l'
  ·subst hll;simp only [zcQ,decide_eq_false_iff_not];right;have hr:=I.room aB;have h0:=(I.ent e he).lo;have hlt:(({ ca with l:=ca.l.filter λx=> decide (x.aB≠aB) }:Cache).uG aB).length < (ca.uG aB).length:=by
    unfold Cache.uG;rw [zdx];refine yE (λx _ h=> ?_) he ?_ ?_
    ·simp only [zaj] at h ⊢;exact h.1
    ·rw [hl];simp;omega
    ·simp [hl]
   omega
  ·have:({ ca with l:=ca.l.filter λx=> decide (x.aB≠l') }:Cache).find aB=some e:=by
    unfold Cache.find;rw [jW (I.aW.filter _)];refine⟨zbt.2 ⟨he,?_⟩,hl⟩;simp only [decide_eq_true_eq];omega
   rw [this];rfl
abbrev By:=BitVec 8
abbrev S16:=BitVec 16
def shS(s:S16):S16:=(s <<< 1) ^^^ (if s.msb then 0x1021#16 else 0#16)
def shN:Nat->S16->S16
 | 0,s=> s
 | n+1,s=> shN n (shS s)
def VI(s:S16)(c:By):S16:=shN 8 (s ^^^ (c.setWidth 16 <<< 8))
def sK(s:S16)(l:List By):S16:=l.foldl VI s
def VJ(s:S16):By:=(s >>> 8).setWidth 8
def VK(s:S16):By:=s.setWidth 8
def jh(l:List By):List By:=l++[VJ (sK 0xffff#16 l),VK (sK 0xffff#16 l)]
theorem aaY:shS 0#16=0#16:=by decide
theorem Xp(s t:S16):shS (s ^^^ t)=shS s ^^^ shS t:=by
 unfold shS;rw [BitVec.msb_xor,BitVec.shiftLeft_xor_distrib];cases s.msb <;> cases t.msb <;> simp
 ·rw [zbj]
 ·rw [zbj,zbj,BitVec.xor_comm (t <<< 1)]
 ·rw [zbj,<-zbj 4129#16,BitVec.xor_comm 4129#16,zbj,zcE,zdn]
theorem aaZ {s:S16}(h:shS s=0#16):s=0#16:=by
 unfold shS at h;cases hm:s.msb with
 | true=>
  rw [hm] at h;have:=congrArg (λv:S16=> v.getLsbD 0) h;simp at this
 | false=>
  rw [hm] at h;simp only [zal,if_false,zdn] at h
  apply zb4
  intro i hi;by_cases h15:i=15
  ·subst h15;have:s.getLsbD 15=s.msb:=by simp [BitVec.msb_eq_getLsbD_last]
   rw [this,hm];simp
  ·have:=congrArg (λv:S16=> v.getLsbD (i+1)) h;simp only [zbW,BitVec.getLsbD_zero] at this;have h1:i+1 < 16:=by omega
   simp [h1] at this
   simpa using this
theorem Ja:∀n,shN n 0#16=0#16
 | 0=> rfl
 | n+1=> by rw [shN,aaY,Ja n]
theorem Xq:∀n (s t:S16),shN n (s ^^^ t)=shN n s ^^^ shN n t
 | 0,_,_=> rfl
 | n+1,s,t=> by rw [shN,Xp,Xq n];rfl
theorem Jb:∀n {s:S16},shN n s=0#16->s=0#16
 | 0,_,h=> h
 | n+1,s,h=> aaZ (Jb n h)
def ahb(b:Bool):S16:=if b then 0x8000#16 else 0#16
def Bc(s:S16)(b:Bool):S16:=shS (s ^^^ ahb b)
def PW:List Bool->S16
 | []=> 0#16
 | b::l=> ahb b ^^^ (PW l >>> 1)
theorem afj:∀i:Fin 16,(0x8000#16).getLsbD i.val=decide (i.val=15):=by decide
theorem aa0(b:Bool){i:Nat}(h:i < 16):(ahb b).getLsbD i=(b && decide (i=15)):=by
 unfold ahb;cases b
 ·simp
 ·simp only [if_true,zaI];exact afj ⟨i,h⟩
theorem yF:∀(l:List Bool) (i:Nat),l.length<=16->i < 16->(PW l).getLsbD i=(l[15 - i]?).getD false
 | [],i,_,_=> by simp [PW]
 | b::l,i,h,hi=> by
  simp only [zah] at h;rw [PW,BitVec.getLsbD_xor,zcU,aa0 b hi];by_cases h15:i=15
  ·subst h15;have:(PW l).getLsbD (1+15)=false:=BitVec.getLsbD_of_ge _ _ (by omega);rw [this];simp
  ·rw [yF l (1+i) (by omega) (by omega)];have e:15 - i=(15 - (1+i))+1:=by omega
   rw [e,zbo];simp [h15]
theorem vN:∀(l:List Bool) (s:S16),l.length<=16->l.foldl Bc s=shN l.length (s ^^^ PW l)
 | [],s,_=> by simp [PW,shN]
 | b::l,s,h=> by
  simp only [zah] at h;rw [zbI,vN l _ (by omega)];show shN l.length (Bc s b ^^^ PW l)=shN l.length (shS (s ^^^ PW (b::l)))
  congr 1
  rw [PW,<-zbj,Xp];unfold Bc
  congr 1
  unfold shS;have hm:(PW l >>> 1).msb=false:=by simp [BitVec.msb_ushiftRight]
  rw [hm];simp only [zal,if_false,zdn];have h0:(PW l).getLsbD 0=false:=by
   rw [yF l 0 (by omega) (by omega),zaK (by omega)];rfl
  apply zb4
  intro i hi;rw [zbW,zcU];cases i with
  | zero=> rw [h0];simp
  | succ i=>
   have e:1+(i+1 - 1)=i+1:=by omega
   have e2:¬(i+1 < 1):=by omega
   rw [e];simp [hi,e2]
theorem Xr {l:List Bool}(h:l.length<=16)(h0:PW l=0#16):∀b∈l,b=false:=by
 intro b hb;obtain⟨k,hk,rfl⟩:=zcT.1 hb;have:=yF l (15 - k) h (by omega);rw [h0,show 15 - (15 - k)=k by omega,zab hk] at this
 simpa using this.symm
def uK(c:By):List Bool:=[c.getLsbD 7,c.getLsbD 6,c.getLsbD 5,c.getLsbD 4,c.getLsbD 3,c.getLsbD 2,c.getLsbD 1,c.getLsbD 0]
def wE(l:List By):List Bool:=l.flatMap uK
theorem Xt(c:By):PW (uK c)=c.setWidth 16 <<< 8:=by
 apply zb4
 intro i hi;rw [yF _ _ (by simp [uK]) hi,zbW,BitVec.getLsbD_setWidth];rcases(show i=0∨i=1∨i=2∨i=3∨i=4∨i=5∨i=6∨i=7∨i=8∨i=9∨i=10∨i=11∨i=12∨i=13∨i=14∨i=15 by omega) with h | h | h | h | h | h | h | h | h | h | h | h | h | h | h | h <;> subst h <;> simp [uK]
theorem Xu(s:S16)(c:By):VI s c=(uK c).foldl Bc s:=by
 rw [vN _ _ (by simp [uK]),Xt];rfl
theorem zU:∀(l:List By) (s:S16),sK s l=(wE l).foldl Bc s
 | [],s=> rfl
 | c::l,s=> by
  show sK (VI s c) l=_;rw [zU l,Xu];show _=(uK c++wE l).foldl Bc s;rw [zc8]
theorem pV(l:List By):(wE l).length=8*l.length:=by
 unfold wE
 induction l with
 | nil=> rfl
 | cons c l ih=> rw [zaQ,zaq,ih];simp [uK];omega
theorem Me(l:List By):sK 0xffff#16 (jh l)=0#16:=by
 unfold jh;obtain⟨s,hs⟩:∃s,s=sK 0xffff#16 l:=⟨_,rfl⟩
 rw [<-hs];unfold sK at hs ⊢;rw [zc8,<-hs];show sK s [VJ s,VK s]=0#16;rw [zU,vN _ _ (by rw [pV];simp)];have:PW (wE [VJ s,VK s])=s:=by
  apply zb4
  intro i hi;rw [yF _ _ (by rw [pV];simp) hi];have e:wE [VJ s,VK s]=[s.getLsbD 15,s.getLsbD 14,s.getLsbD 13,s.getLsbD 12,s.getLsbD 11,s.getLsbD 10,s.getLsbD 9,s.getLsbD 8,s.getLsbD 7,s.getLsbD 6,s.getLsbD 5,s.getLsbD 4,s.getLsbD 3,s.getLsbD 2,s.getLsbD 1,s.getLsbD 0]:=by
   simp [wE,uK,VJ,VK,zaQ]
  rw [e];rcases(show i=0∨i=1∨i=2∨i=3∨i=4∨i=5∨i=6∨i=7∨i=8∨i=9∨i=10∨i=11∨i=12∨i=13∨i=14∨i=15 by omega) with h | h | h | h | h | h | h | h | h | h | h | h | h | h | h | h <;> subst h <;> rfl
 rw [this,zcE,Ja]
def UJ(l m:List By):List By:=List.zipWith (· ^^^ ·) l m
theorem aa1(s t:S16)(c d:By):VI (s ^^^ t) (c ^^^ d)=VI s c ^^^ VI t d:=by
 unfold VI;rw [<-Xq]
 congr 1
 rw [BitVec.setWidth_xor,BitVec.shiftLeft_xor_distrib];rw [zbj,zbj]
 congr 1
 rw [<-zbj,<-zbj,BitVec.xor_comm t]
theorem MB:∀(l m:List By) (s t:S16),l.length=m.length->sK (s ^^^ t) (UJ l m)=sK s l ^^^ sK t m
 | [],[],s,t,_=> rfl
 | c::l,d::m,s,t,h=> by
  show sK (VI (s ^^^ t) (c ^^^ d)) (UJ l m)=sK (VI s c) l ^^^ sK (VI t d) m;rw [aa1,MB l m _ _ (by simpa using h)]
 | [],_::_,_,_,h=> by simp at h
 | _::_,[],_,_,h=> by simp at h
theorem zV:∀(l:List Bool) (s:S16),(∀b∈l,b=false)->l.foldl Bc s=shN l.length s
 | [],s,_=> rfl
 | b::l,s,h=> by
  have hb:=h b (by simp);subst hb;rw [zbI,zV l _ λb hb=> h b (by simp [hb])];show shN l.length (shS (s ^^^ ahb false))=shN l.length (shS s);simp [ahb]
theorem UK {B:List Bool}{a:Int}(h:∀(k:Nat),B[k]?=some true->a<=k/\(k:Int) < a+16)(h0:B.foldl Bc 0#16=0#16):∀b∈B,b=false:=by
 obtain⟨p,hp⟩:∃p,p=a.toNat:=⟨_,rfl⟩
 have hB:B=B.take p++((B.drop p).take 16++(B.drop p).drop 16):=by rw [zcP,zcP]
 have f1:∀b∈B.take p,b=false:=by
  intro b hb;obtain⟨k,hk,rfl⟩:=zcT.1 hb;cases hbk:(B.take p)[k] with
  | false=> rfl
  | true=>
   have hk':k < p:=by rw [zav] at hk;omega
   have:B[k]?=some true:=by
    rw [<-hbk,<-zab hk,zay,if_pos hk']
   have:=h k this;omega
 have f3:∀b∈(B.drop p).drop 16,b=false:=by
  intro b hb;obtain⟨k,hk,rfl⟩:=zcT.1 hb;cases hbk:((B.drop p).drop 16)[k] with
  | false=> rfl
  | true=>
   have:B[p+(16+k)]?=some true:=by
    rw [<-hbk,<-zab hk,zaA,zaA]
   have:=h _ this;omega
 rw [hB,zc8,zc8,zV _ _ f1,Ja,zV _ _ f3,vN _ _ (by rw [zav];omega),BitVec.zero_xor] at h0;have f2:=Xr (by rw [zav];omega) (Jb _ (Jb _ h0));intro b hb;rw [hB] at hb;rcases za3.1 hb with hb | hb
 ·exact f1 b hb
 ·rcases za3.1 hb with hb | hb
  ·exact f2 b hb
  ·exact f3 b hb
theorem aa2 {c d:By}(h:∀b∈uK (c ^^^ d),b=false):c=d:=by
 apply zb4
 intro i hi;have key:(c ^^^ d).getLsbD i=false:=by
  apply h
  rcases(show i=0∨i=1∨i=2∨i=3∨i=4∨i=5∨i=6∨i=7 by omega) with h | h | h | h | h | h | h | h <;> subst h <;> simp [uK]
 rw [BitVec.getLsbD_xor] at key;cases h1:c.getLsbD i <;> cases h2:d.getLsbD i <;> simp [h1,h2] at key ⊢
theorem Ep:∀{l m:List By},l.length=m.length->(∀b∈wE (UJ l m),b=false)->l=m
 | [],[],_,_=> rfl
 | c::l,d::m,h,hb=> by
  have hx:wE (UJ (c::l) (d::m))=uK (c ^^^ d)++wE (UJ l m):=rfl;rw [hx] at hb;rw [aa2 λb h=> hb b (zdm _ h),Ep (by simpa using h) λb h=> hb b (zdk _ h)]
 | [],_::_,h,_=> by simp at h
 | _::_,[],h,_=> by simp at h
theorem PX {x y:List By}{a:Int}(hl:(jh x).length=(jh y).length)(h:∀(k:Nat),(wE (UJ (jh x) (jh y)))[k]?=some true->a<=k/\(k:Int) < a+16):jh x=jh y:=by
 refine Ep hl (UK h ?_);rw [<-zU];have:=MB (jh x) (jh y) 0xffff#16 0xffff#16 hl;rw [zcE,Me,Me,zcE] at this;exact this
def adr(bit mask:Int)(k:Nat):Bool:=decide (0<=(k:Int) - bit) && decide ((k:Int) - bit < 16) && mask.toNat.testBit (15 - ((k:Int) - bit).toNat)
def sN(bit mask:Int)(at_:Nat):By:=
 if 8*(at_:Int) - bit<=-8∨16<=8*(at_:Int) - bit then 0#8 else(((BitVec.ofNat 32 mask.toNat) <<< 8 <<< (8*(at_:Int) - bit+8).toNat) >>> 24).setWidth 8
def oN(bit mask:Int)(l:List By):List By:=l.mapIdx λi c=> c ^^^ sN bit mask i
theorem PY {m k:Nat}(hm:m<=65535)(hk:16<=k):m.testBit k=false:=by
 apply Nat.testBit_lt_two_pow
 calc m < 2 ^ 16:=by omega
  _<=2 ^ k:=Nat.pow_le_pow_right (by decide) hk
theorem Xv {bit mask:Int}(h0:0<=mask)(h1:mask<=65535)(at_ j:Nat)(hj:j < 8):(sN bit mask at_).getLsbD j=adr bit mask (8*at_+(7 - j)):=by
 unfold sN adr;obtain⟨y,hy⟩:∃y:Int,y=8*(at_:Int) - bit:=⟨_,rfl⟩
 have hk:((8*at_+(7 - j):Nat):Int) - bit=y+(7 - (j:Int)):=by omega
 rw [<-hy,hk];by_cases h:y<=-8∨16<=y
 ·rw [if_pos h];simp only [BitVec.getLsbD_zero];rcases h with h | h
  ·have:¬(0<=y+(7 - (j:Int))):=by omega
   simp [this]
  ·have:¬(y+(7 - (j:Int)) < 16):=by omega
   simp [this]
 ·rw [if_neg h];simp only [not_or] at h;obtain⟨n,hn⟩:∃n:Nat,n=(y+8).toNat:=⟨_,rfl⟩
  rw [<-hn];rw [BitVec.getLsbD_setWidth,zcU,zbW,zbW,BitVec.getLsbD_ofNat];have a1:24+j < 32:=by omega
  have a2:¬(24+j < n):=by omega
  have a3:24+j - n < 32:=by omega
  by_cases hlo:24+j - n < 8
  ·have:¬(y+(7 - (j:Int)) < 16):=by omega
   simp [hlo,this]
  ·have a4:24+j - n - 8 < 32:=by omega
   have b1:y+(7 - (j:Int)) < 16:=by omega
   by_cases b0:0<=y+(7 - (j:Int))
   ·have e:24+j - n - 8=15 - (y+(7 - (j:Int))).toNat:=by omega
    simp only [hj,a1,a2,a3,a4,hlo,b0,b1,decide_true,decide_false,zaf,zaI,zcA];rw [e]
   ·have:mask.toNat.testBit (24+j - n - 8)=false:=PY (by omega) (by omega);simp [this,b0]
theorem iK(bit mask:Int)(l:List By):(oN bit mask l).length=l.length:=by simp [oN]
theorem Xw(c:By)(j:Nat)(hj:j < 8):(uK c)[j]?=some (c.getLsbD (7 - j)):=by
 rcases(show j=0∨j=1∨j=2∨j=3∨j=4∨j=5∨j=6∨j=7 by omega) with h | h | h | h | h | h | h | h <;> subst h <;> rfl
theorem Es:∀(l:List By) (k:Nat),(wE l)[k]?=(l[k / 8]?).map λc=> c.getLsbD (7 - k % 8)
 | [],k=> by simp [wE]
 | c::l,k=> by
  have hx:wE (c::l)=uK c++wE l:=rfl;rw [hx];by_cases h:k < 8
  ·rw [zaP (by simp [uK];exact h),Xw c k h,show k / 8=0 by omega,show k % 8=k by omega];rfl
  ·rw [za4 (by simp [uK];omega)];have:(uK c).length=8:=rfl;rw [this,Es l (k - 8),show k / 8=(k - 8) / 8+1 by omega,show k % 8=(k - 8) % 8 by omega];rfl
theorem zW {bit mask:Int}(h0:0<=mask)(h1:mask<=65535)(l:List By)(k:Nat)(hk:k < 8*l.length):(wE (UJ l (oN bit mask l)))[k]?=some (adr bit mask k):=by
 rw [Es];have hi:k / 8 < l.length:=by omega
 have:(UJ l (oN bit mask l))[k / 8]?=some (sN bit mask (k / 8)):=by
  unfold UJ oN;rw [List.getElem?_zipWith,za1,zab hi];simp only [zai]
  congr 1
  rw [<-zbj,zcE,BitVec.zero_xor]
 rw [this,zai,Xv h0 h1 _ _ (by omega)]
 congr 2
 omega
theorem MC {n:Nat}{bit mask:Int}:bV n bit mask=true↔∃k:Nat,k < 8*n/\adr bit mask k=true:=by
 unfold bV;rw [zb8];constructor
 ·rintro⟨i,hi,h⟩;rw [zaY] at hi;simp only [zaj,decide_eq_true_eq] at h;obtain⟨⟨a,b⟩,c⟩:=h;refine⟨(bit+i).toNat,by omega,?_⟩;unfold adr;have e:(((bit+i).toNat:Nat):Int) - bit=i:=by omega
  rw [e];simp only [zaj,decide_eq_true_eq];refine⟨⟨by omega,by omega⟩,?_⟩;rw [zao,zdi];rw [zco] at a
  simpa using a
 ·rintro⟨k,hk,h⟩;unfold adr at h;simp only [zaj,decide_eq_true_eq] at h;obtain⟨⟨a,b⟩,c⟩:=h;refine⟨((k:Int) - bit).toNat,zaY.2 (by omega),?_⟩;simp only [zaj,decide_eq_true_eq];refine⟨⟨?_,by omega⟩,by omega⟩;rw [zdi] at c;rw [zco]
  simpa using c
theorem UL {bit mask:Int}(h0:0<=mask)(h1:mask<=65535){l:List By}(h:bV l.length bit mask=false):oN bit mask l=l:=by
 have hl:l.length=(oN bit mask l).length:=(iK _ _ _).symm;refine(Ep hl λb hb=> ?_).symm;obtain⟨k,hk,rfl⟩:=zcT.1 hb;have hk8:k < 8*l.length:=by
  rw [pV] at hk;unfold UJ at hk;rw [List.length_zipWith] at hk;omega
 have:=zW (bit:=bit) h0 h1 l k hk8;rw [zab hk,zaa] at this;rw [this];cases hf:adr bit mask k with
 | false=> rfl
 | true=>
  have:=MC.2 ⟨k,hk8,hf⟩;rw [h] at this;cases this
theorem PZ {bit mask:Int}(h0:0<=mask)(h1:mask<=65535){x y:List By}(h:bV (jh x).length bit mask=true):oN bit mask (jh x)≠jh y:=by
 intro e;have hl:(jh x).length=(jh y).length:=by rw [<-e,iK]
 have hs:=PX (a:=bit) hl λk hk=> by
  rw [<-e] at hk;have hk8:k < 8*(jh x).length:=by
   have hlt:=(zak.1 hk).1;rw [pV] at hlt;unfold UJ at hlt;rw [List.length_zipWith] at hlt;omega
  rw [zW h0 h1 _ k hk8] at hk;simp only [zaa] at hk;unfold adr at hk;simp only [zaj,decide_eq_true_eq] at hk;omega
 obtain⟨k,hk,hf⟩:=MC.1 h;have:=zW (bit:=bit) h0 h1 (jh x) k hk;rw [e,<-hs,hf,Es] at this;have hx:∀l:List By,UJ l l=l.map λ_=> 0#8:=by
  intro l
  induction l with
  | nil=> rfl
  | cons c l ih=>
   show(c ^^^ c)::UJ l l=_;rw [ih,zcE];rfl
 rw [hx,zaD] at this;cases hh:(jh x)[k / 8]? with
 | none=> rw [hh] at this;cases this
 | some c=> rw [hh] at this;simp at this
def by8(n:Int):By:=BitVec.ofInt 8 n
def pq(n:Int):List By:=[by8 (n.fdiv (2 ^ 56)),by8 (n.fdiv (2 ^ 48)),by8 (n.fdiv (2 ^ 40)),by8 (n.fdiv (2 ^ 32)),by8 (n.fdiv (2 ^ 24)),by8 (n.fdiv (2 ^ 16)),by8 (n.fdiv (2 ^ 8)),by8 (n.fdiv (2 ^ 0))]
def eG(p:Pkt):List By:=[by8 p.bf,by8 p.src,by8 p.dst,by8 (p.id.fdiv 256),by8 p.id,by8 p.aB,by8 (p.ptr+1),by8 p.state,by8 (if p.flag then 1 else 0),by8 p.data.length]++p.data.flatMap pq
def qH(p:Pkt):List By:=jh (eG p)
theorem iZ(n:Int):(pq n).length=8:=rfl
theorem pW(p:Pkt):(qH p).length=p.bytes:=by
 unfold qH jh eG Pkt.bytes;rw [zaq,zaq,dh Jc];simp;omega
where
 Jc:∀n,(pq n).length=8:=λ_=> rfl
 dh {α β:Type} {f:α->List β} {m:Nat} (h:∀a,(f a).length=m):∀{l:List α},(l.flatMap f).length=l.length*m:=by
  intro l
  induction l with
  | nil=> simp
  | cons a l ih=> rw [zaQ,zaq,h,ih,zah,zbz];omega
section
variable {P:Program}{t:TypeId}{k k':IntKind}{a b n:Int}
theorem Xx(h:0<=n):nV P .shl t (.s (.int k a)) (.s (.int k' n))=some (.s (.int k (k.wrap (a*2 ^ (min n.toNat k.bits))))):=by
 have:¬n < 0:=by omega
 simp [nV,AV.val?,eqGuard,binOp,Op.shift,bZ,this]
theorem P5(h:0<=n):nV P .shr t (.s (.int k a)) (.s (.int k' n))=some (.s (.int k (a.fdiv (2 ^ (min n.toNat k.bits))))):=by
 have:¬n < 0:=by omega
 simp [nV,AV.val?,eqGuard,binOp,Op.shift,bZ,this]
theorem afk:nV P .xor t (.s (.int k a)) (.s (.int k b))=some (.s (.int k (k.wrap (BitVec.ofInt k.bits a ^^^ BitVec.ofInt k.bits b).toNat))):=by
 simp [nV,AV.val?,eqGuard,binOp,Op.intBits,bZ]
theorem ads:nV P .or t (.s (.int k a)) (.s (.int k b))=some (.s (.int k (k.wrap (BitVec.ofInt k.bits a ||| BitVec.ofInt k.bits b).toNat))):=by
 simp [nV,AV.val?,eqGuard,binOp,Op.intBits,bZ]
end
def U(k:IntKind)(v:BitVec k.bits):AV:=.s (.int k (v.toNat:Int))
abbrev Y(c:By):AV:=U .u8 c
abbrev U16(s:S16):AV:=U .u16 s
abbrev U32(s:BitVec 32):AV:=U .u32 s
abbrev U64(s:BitVec 64):AV:=U .u64 s
theorem adt {k:IntKind}(hk:k.signed=false)(z:Int):k.wrap z=z % (2 ^ k.bits:Int):=by simp [IntKind.wrap,hk]
theorem yG {k:IntKind}(hk:k.signed=false)(m:Nat):k.wrap (m:Int)=((BitVec.ofNat k.bits m).toNat:Int):=by
 rw [adt hk,zce]
 norm_cast
theorem oO {w:Nat}(v:BitVec w):BitVec.ofInt w (v.toNat:Int)=v:=by
 rw [zdo,zdy,BitVec.setWidth_eq]
theorem RI {k:IntKind}(hk:k.signed=false)(v:BitVec k.bits):k.wrap (v.toNat:Int)=(v.toNat:Int):=by
 rw [yG hk,zdy,BitVec.setWidth_eq]
section
variable {P:Program}{t:TypeId}{k k':IntKind}
theorem afl(hk:k.signed=false)(x y:BitVec k.bits):nV P .xor t (U k x) (U k y)=some (U k (x ^^^ y)):=by
 unfold U;rw [afk,oO,oO,RI hk]
theorem apj(hk:k.signed=false)(x y:BitVec k.bits):nV P .or t (U k x) (U k y)=some (U k (x ||| y)):=by
 unfold U;rw [ads,oO,oO,RI hk]
theorem Xy(hk:k.signed=false)(x:BitVec k.bits)(n:Int)(h0:0<=n)(h:n<=k.bits):nV P .shl t (U k x) (.s (.int k' n))=some (U k (x <<< n.toNat)):=by
 unfold U;rw [Xx h0,show min n.toNat k.bits=n.toNat by omega];have:((x.toNat:Int)*2 ^ n.toNat)=((x.toNat*2 ^ n.toNat:Nat):Int):=by norm_cast
 rw [this,yG hk,zce,BitVec.toNat_shiftLeft,zdj]
theorem afm(x:BitVec k.bits)(n:Int)(h0:0<=n)(h:n<=k.bits):nV P .shr t (U k x) (.s (.int k' n))=some (U k (x >>> n.toNat)):=by
 unfold U;rw [P5 h0,show min n.toNat k.bits=n.toNat by omega,BitVec.toNat_ushiftRight,zco];have:(2:Int) ^ n.toNat=((2 ^ n.toNat:Nat):Int):=by norm_cast
 rw [this,zbO _ (Int.natCast_nonneg _)]
 norm_cast
theorem amQ(hk:k.signed=false)(x y:BitVec k.bits):nV P .mul t (U k x) (U k y)=some (U k (x*y)):=by
 unfold U;rw [lY];have:((x.toNat:Int)*y.toNat)=((x.toNat*y.toNat:Nat):Int):=by norm_cast
 rw [this,yG hk,zce,BitVec.toNat_mul]
theorem aiq(hk:k'.signed=false)(x:BitVec k.bits):(AV.s (.int k' (k'.wrap (x.toNat:Int))))=U k' (x.setWidth k'.bits):=by
 unfold U;rw [yG hk,zdy]
end
theorem aa3(l:List By):(l.map Y).all AV.aU=true:=by
 rw [zaZ];intro x hx;obtain⟨c,_,rfl⟩:=zaS.1 hx;rfl
def yOf:AV->Option By
 | .s (.int .u8 n)=> if 0<=n/\n < 256 then some (BitVec.ofInt 8 n) else none
 | _=> none
def Et(x:AV)(H:ah):Option (List By):=
 match x with
 | .sl r g off esz n _ _=> match H.get r with
  | .blk g' _ cells=> if esz=1/\g'=g/\off+n<=cells.length/\0 < n/\n<=800 then((cells.drop off).take n).mapM yOf else none
  | _=> none
 | _=> none
structure Pkt.fit(p:Pkt):Prop where
 ok:p.ok=true
 num:∀v∈p.data,I64 v
open Classical in
def zX(args:List AV)(H:ah):Option (AV × ah):=
 match args with
 | [x]=> match Et x H with
  | some l=> if h:∃p:Pkt,p.fit/\qH p=l then some (.tup [.agg (Classical.choose h).av,I 0],H)
   else if(∀y,l≠jh y) then some (.tup [.agg Pkt.zero.av,I 2],H) else none
  | none=> none
 | _=> none
def afn:List Nat:=[
 12,
 117,
 79,
 74,
 191,
 71,
 65,
 10,
 11,
 32,
 34,
 35,
 70,
 27,
 57,
 116,
 80,
 222,
 146,
 133,
 145,
 148,
 98,
 101,
 102,
 155,
 111,
 25,
 46,
 41,
 192,
 141,
 136,
 147,
 161,
 118,
 44,
 174,
 42,
 137,
 89,
 178,
 150,
 105,
 170,
 171,
 58,
 17,
 20,
 56,
 63,
 55,
 29,
 52,
 22,
 23,
 62,
 110,
 21,
 54,
 28,
 8,
 7,
 24,
 26,
 66,
 112,
 67,
 115,
 59,
 109,
 53,
 103,
 9,
 0]
def wP:List Nat:=[
 195,
 0]
def pX:List Nat:=[
 108,
 0]
def amR:Pol:=⟨λ_=> false,λ_=> none⟩
def cl0:aA:=callω Tryz.prog amR
def afo:List (Nat × (List AV->ah->Option (AV × ah))):=[
 (60,qG wP pX),
 (134,cl0 134),
 (76,zX),
 (75,cl0 75),
 (77,cl0 77),
 (0,λ_ _=> none)]
def pol:Pol:=⟨λf=> afn.contains f,λf=> afo.lookup f⟩
def cl:aA:=callω Tryz.prog pol
def RJ(f:FuncId)(p:List AV->ah->Option (AV × ah)):Prop:=
 oZ Tryz.prog (λg args H=> if g=f then p args H else none)/\∀args H v H',p args H=some (v,H')->Keeps H H'
theorem afp(f:FuncId):RJ f (cl0 f):=by
 have hc:=callω_ok (P:=Tryz.prog) (L:=amR) (λf p h=> by cases h) (by kernel_rfl);refine⟨λg args H v H' h=> ?_,λargs H v H' h=> hc.2 f args H v H' h⟩;simp only at h;split at h
 ·rename_i e;subst e;exact hc.1 _ args H v H' h
 ·cases h
theorem iq {f:FuncId}{args:List AV}{H:ah}{r:AV × ah}(h:xP Tryz.prog cl0 f args H=some r):cl0 f args H=some r:=acC rfl rfl h
theorem aX {f:FuncId}{args:List AV}{H:ah}{r:AV × ah}(h1:pol.aac f=none)(h2:pol.pure f=false)(h:xP Tryz.prog cl f args H=some r):cl f args H=some r:=acC h1 h2 h
theorem iG {f:FuncId}{args:List AV}{H H1:ah}{v v':AV}(h1:pol.aac f=none)(h2:pol.pure f=true)(h:xP Tryz.prog cl f args H.guard=some (v,H1))(hz:bF H1 H.next 9 v=some v'):cl f args H=some (v',H):=ae2 h1 h2 h hz
theorem jK {f:FuncId}{args:List AV}{H:ah}{v:AV}{Q:ah->Prop}{sh:Option (AV × ah)}(h1:pol.aac f=none)(h2:pol.pure f=false)(rn:∀{r},sh=some r->xP Tryz.prog cl f args H=some r)(h:∃H',sh=some (v,H')/\Q H'):∃H',cl f args H=some (v,H')/\Q H':=by
 obtain⟨H',e,q⟩:=h;exact⟨H',aX h1 h2 (rn e),q⟩
theorem aV {f:FuncId}{args:List AV}{H:ah}{v:AV}{sh:Option (AV × ah)}(h1:pol.aac f=none)(h2:pol.pure f=true)(rn:∀{r},sh=some r->xP Tryz.prog cl f args H.guard=some r)(h:sh.map Prod.fst=some v)(hz:Frz 9 v):cl f args H=some (v,H):=by
 cases hs:sh with
 | none=> rw [hs] at h;cases h
 | some r=>
  rw [hs] at h;simp only [zai,zaa] at h;subst h;exact iG h1 h2 (rn hs) (hz _ _)
open Go.RowKit
end
end Go.Proofs.YtmdbbfoefdjgoaaGreat
