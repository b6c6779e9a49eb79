/-
  Own work: an interpreter over named blocks, its soundness, and what the functions of this seat compute (part 3 of 11).
  Conditions: those of the statement alone.
-/
import Derived.Test.YtgplhpgkompkmaaGreatProg
import Derived.KernelRfl
import Derived.ProofKit
import Derived.Below
import Derived.Test.YtgplhpgkompkmaaGreatHb
set_option linter.all false
set_option linter.unusedSectionVars false
set_option linter.unusedVariables false
set_option linter.unusedSimpArgs false
namespace Go.Proofs.YtgplhpgkompkmaaGreat
noncomputable section
abbrev bi(op:BinOp)(t:TypeId)(x y:AV):Option AV:=oQ Tryz.prog op t x y
abbrev un(op:UnOp)(x:AV):Option AV:=unA Tryz.prog op x
abbrev cv(s d:TypeId)(x:AV):AM AV:=jW Tryz.prog s d x
def stk:AM AV:=λ_=> none
abbrev bd(t:TypeId)(ps:List (Nat × AV)):Option AV:=iq Tryz.prog t ps
abbrev bs(t:TypeId)(n:Nat)(ps:List (Nat × AV)):AM AV:=dP Tryz.prog t n ps
def Rn0(f:FuncId)(s:aC->ah->OA):Prop:=∀C H {r:AV × ah},s C H=some r->yZ Tryz.prog C f [] H=some r
def Rn1(f:FuncId)(s:aC->AV->ah->OA):Prop:=∀C a0 H {r:AV × ah},s C a0 H=some r->yZ Tryz.prog C f [a0] H=some r
def Rn2(f:FuncId)(s:aC->AV->AV->ah->OA):Prop:=∀C a0 a1 H {r:AV × ah},s C a0 a1 H=some r->yZ Tryz.prog C f [a0,a1] H=some r
def Rn3(f:FuncId)(s:aC->AV->AV->AV->ah->OA):Prop:=∀C a0 a1 a2 H {r:AV × ah},s C a0 a1 a2 H=some r->yZ Tryz.prog C f [a0,a1,a2] H=some r
def Rn4(f:FuncId)(s:aC->AV->AV->AV->AV->ah->OA):Prop:=∀C a0 a1 a2 a3 H {r:AV × ah},s C a0 a1 a2 a3 H=some r->yZ Tryz.prog C f [a0,a1,a2,a3] H=some r
def Rn5(f:FuncId)(s:aC->AV->AV->AV->AV->AV->ah->OA):Prop:=∀C a0 a1 a2 a3 a4 H {r:AV × ah},s C a0 a1 a2 a3 a4 H=some r->yZ Tryz.prog C f [a0,a1,a2,a3,a4] H=some r
theorem IG {n:Nat}{ps:List (Nat × AV)}{H:ah}(h:n*1<=16777216):dP Tryz.prog 22 n ps H=bsl 3 1 [zI] n ps H:=vJ (by kernel_rfl) (by kernel_rfl) (by kernel_rfl) rfl h
theorem ajw {n:Nat}{ps:List (Nat × AV)}{H:ah}(h:n*1<=16777216):dP Tryz.prog 27 n ps H=bsl 62 1 [zN] n ps H:=vJ (by kernel_rfl) (by kernel_rfl) (by kernel_rfl) rfl h
theorem ajx {n:Nat}{ps:List (Nat × AV)}{H:ah}(h:n*1<=16777216):dP Tryz.prog 51 n ps H=bsl 64 1 [zP] n ps H:=vJ (by kernel_rfl) (by kernel_rfl) (by kernel_rfl) rfl h
theorem ajy {n:Nat}{ps:List (Nat × AV)}{H:ah}(h:n*3<=16777216):dP Tryz.prog 62 n ps H=bsl 61 3 [zI,zI,zI] n ps H:=vJ (by kernel_rfl) (by kernel_rfl) (by kernel_rfl) rfl h
theorem aej {n:Nat}{ps:List (Nat × AV)}{H:ah}(h:n*6<=16777216):dP Tryz.prog 111 n ps H=bsl 100 6 [zI,zI,zI,zI,zB,zN] n ps H:=vJ (by kernel_rfl) (by kernel_rfl) (by kernel_rfl) rfl h
theorem ajz {n:Nat}{ps:List (Nat × AV)}{H:ah}(h:n*2<=16777216):dP Tryz.prog 116 n ps H=bsl 121 2 [zP,zP] n ps H:=vJ (by kernel_rfl) (by kernel_rfl) (by kernel_rfl) rfl h
theorem aek {n:Nat}{ps:List (Nat × AV)}{H:ah}(h:n*4<=16777216):dP Tryz.prog 123 n ps H=bsl 184 4 [zI,zI,zB,zI] n ps H:=vJ (by kernel_rfl) (by kernel_rfl) (by kernel_rfl) rfl h
theorem ajA {n:Nat}{ps:List (Nat × AV)}{H:ah}(h:n*4<=16777216):dP Tryz.prog 143 n ps H=bsl 142 4 [zP,zP,zP,zP] n ps H:=vJ (by kernel_rfl) (by kernel_rfl) (by kernel_rfl) rfl h
theorem ael {n:Nat}{ps:List (Nat × AV)}{H:ah}(h:n*9<=16777216):dP Tryz.prog 175 n ps H=bsl 81 9 [zI,zI,zI,zI,zI,zI,zI,zB,zN] n ps H:=vJ (by kernel_rfl) (by kernel_rfl) (by kernel_rfl) rfl h
theorem UE {n:Nat}{ps:List (Nat × AV)}{H:ah}(h:n*1<=16777216):dP Tryz.prog 220 n ps H=bsl 5 1 [.s (.int .u8 0)] n ps H:=vJ (by kernel_rfl) (by kernel_rfl) (by kernel_rfl) rfl h
theorem aem {n:Nat}{ps:List (Nat × AV)}{H:ah}(h:n*2<=16777216):dP Tryz.prog 320 n ps H=bsl 322 2 [zI,zI] n ps H:=vJ (by kernel_rfl) (by kernel_rfl) (by kernel_rfl) rfl h
theorem ajB {n:Nat}{ps:List (Nat × AV)}{H:ah}(h:n*1<=16777216):dP Tryz.prog 326 n ps H=bsl 220 1 [zN] n ps H:=vJ (by kernel_rfl) (by kernel_rfl) (by kernel_rfl) rfl h
def ahc:Nat->Option (Nat × Nat)
 | 0=> some (0,1)
 | 1=> some (1,1)
 | 2=> some (2,1)
 | 3=> some (3,1)
 | 4=> some (4,1)
 | 5=> some (5,1)
 | 6=> some (6,1)
 | 7=> some (7,1)
 | _=> none
theorem ajC {ps:List (Nat × AV)}:iq Tryz.prog 31 ps=jX ahc [zI,zI,zI,zI,zI,zI,zI,zN] ps:=jY (by kernel_rfl) Tryz.underlying31 (by kernel_rfl) (by funext i;rcases i with _ | _ | _ | _ | _ | _ | _ | _ | i <;> kernel_rfl)
def ahd:Nat->Option (Nat × Nat)
 | 0=> some (0,1)
 | 1=> some (1,1)
 | 2=> some (2,1)
 | 3=> some (3,1)
 | _=> none
theorem ajD {ps:List (Nat × AV)}:iq Tryz.prog 44 ps=jX ahd [zB,zI,zI,.s (.int .u16 0)] ps:=jY (by kernel_rfl) Tryz.underlying44 (by kernel_rfl) (by funext i;rcases i with _ | _ | _ | _ | i <;> kernel_rfl)
def ahe:Nat->Option (Nat × Nat)
 | 0=> some (0,1)
 | 1=> some (1,1)
 | 2=> some (2,8)
 | 3=> some (10,1)
 | _=> none
theorem ajE {ps:List (Nat × AV)}:iq Tryz.prog 53 ps=jX ahe [zP,zP,zI,zI,zI,zI,zI,zI,zI,zN,zN] ps:=jY (by kernel_rfl) Tryz.underlying53 (by kernel_rfl) (by funext i;rcases i with _ | _ | _ | _ | i <;> kernel_rfl)
def ajF:Nat->Option (Nat × Nat)
 | 0=> some (0,1)
 | 1=> some (1,1)
 | 2=> some (2,1)
 | _=> none
theorem ajG {ps:List (Nat × AV)}:iq Tryz.prog 61 ps=jX ajF [zI,zI,zI] ps:=jY (by kernel_rfl) Tryz.underlying61 (by kernel_rfl) (by funext i;rcases i with _ | _ | _ | i <;> kernel_rfl)
def ajH:Nat->Option (Nat × Nat)
 | 0=> some (0,1)
 | _=> none
theorem aoC {ps:List (Nat × AV)}:iq Tryz.prog 71 ps=jX ajH [zP] ps:=jY (by kernel_rfl) Tryz.underlying71 (by kernel_rfl) (by funext i;rcases i with _ | i <;> kernel_rfl)
def ajI:Nat->Option (Nat × Nat)
 | 0=> some (0,1)
 | 1=> some (1,1)
 | 2=> some (2,1)
 | 3=> some (3,1)
 | 4=> some (4,1)
 | 5=> some (5,1)
 | 6=> some (6,1)
 | 7=> some (7,1)
 | 8=> some (8,1)
 | _=> none
theorem Wx {ps:List (Nat × AV)}:iq Tryz.prog 73 ps=jX ajI [zI,zI,zI,zI,zI,zI,zN,zI,zI] ps:=jY (by kernel_rfl) Tryz.underlying73 (by kernel_rfl) (by funext i;rcases i with _ | _ | _ | _ | _ | _ | _ | _ | _ | i <;> kernel_rfl)
def ajJ:Nat->Option (Nat × Nat)
 | 0=> some (0,1)
 | 1=> some (1,1)
 | 2=> some (2,8)
 | 3=> some (10,1)
 | 4=> some (11,1)
 | 5=> some (12,9)
 | 6=> some (21,1)
 | _=> none
theorem aoD {ps:List (Nat × AV)}:iq Tryz.prog 75 ps=jX ajJ [zP,zP,zI,zI,zI,zI,zI,zI,zI,zN,zI,zP,zI,zI,zI,zI,zI,zI,zN,zI,zI,zI] ps:=jY (by kernel_rfl) Tryz.underlying75 (by kernel_rfl) (by funext i;rcases i with _ | _ | _ | _ | _ | _ | _ | i <;> kernel_rfl)
def RH:Nat->Option (Nat × Nat)
 | 0=> some (0,1)
 | 1=> some (1,1)
 | 2=> some (2,1)
 | 3=> some (3,1)
 | 4=> some (4,1)
 | 5=> some (5,1)
 | 6=> some (6,1)
 | 7=> some (7,1)
 | 8=> some (8,1)
 | _=> none
theorem yO {ps:List (Nat × AV)}:iq Tryz.prog 81 ps=jX RH [zI,zI,zI,zI,zI,zI,zI,zB,zN] ps:=jY (by kernel_rfl) Tryz.underlying81 (by kernel_rfl) (by funext i;rcases i with _ | _ | _ | _ | _ | _ | _ | _ | _ | i <;> kernel_rfl)
def ajK:Nat->Option (Nat × Nat)
 | 0=> some (0,1)
 | 1=> some (1,1)
 | 2=> some (2,1)
 | _=> none
theorem aoE {ps:List (Nat × AV)}:iq Tryz.prog 95 ps=jX ajK [zI,zI,zN] ps:=jY (by kernel_rfl) Tryz.underlying95 (by kernel_rfl) (by funext i;rcases i with _ | _ | _ | i <;> kernel_rfl)
def ajL:Nat->Option (Nat × Nat)
 | 0=> some (0,1)
 | 1=> some (1,1)
 | _=> none
theorem aoF {ps:List (Nat × AV)}:iq Tryz.prog 98 ps=jX ajL [zI,zI] ps:=jY (by kernel_rfl) Tryz.underlying98 (by kernel_rfl) (by funext i;rcases i with _ | _ | i <;> kernel_rfl)
def aen:Nat->Option (Nat × Nat)
 | 0=> some (0,2)
 | 1=> some (2,1)
 | 2=> some (3,1)
 | 3=> some (4,1)
 | 4=> some (5,1)
 | _=> none
theorem aeo {ps:List (Nat × AV)}:iq Tryz.prog 100 ps=jX aen [zI,zI,zI,zI,zB,zN] ps:=jY (by kernel_rfl) Tryz.underlying100 (by kernel_rfl) (by funext i;rcases i with _ | _ | _ | _ | _ | i <;> kernel_rfl)
def aep:Nat->Option (Nat × Nat)
 | 0=> some (0,1)
 | 1=> some (1,1)
 | _=> none
theorem aer {ps:List (Nat × AV)}:iq Tryz.prog 121 ps=jX aep [zP,zP] ps:=jY (by kernel_rfl) Tryz.underlying121 (by kernel_rfl) (by funext i;rcases i with _ | _ | i <;> kernel_rfl)
def aeu:Nat->Option (Nat × Nat)
 | 0=> some (0,1)
 | 1=> some (1,1)
 | 2=> some (2,1)
 | _=> none
theorem ajM {ps:List (Nat × AV)}:iq Tryz.prog 135 ps=jX aeu [zN,zN,zB] ps:=jY (by kernel_rfl) Tryz.underlying135 (by kernel_rfl) (by funext i;rcases i with _ | _ | _ | i <;> kernel_rfl)
def aev:Nat->Option (Nat × Nat)
 | 0=> some (0,2)
 | 1=> some (2,2)
 | _=> none
theorem ajN {ps:List (Nat × AV)}:iq Tryz.prog 142 ps=jX aev [zP,zP,zP,zP] ps:=jY (by kernel_rfl) Tryz.underlying142 (by kernel_rfl) (by funext i;rcases i with _ | _ | i <;> kernel_rfl)
def ajO:Nat->Option (Nat × Nat)
 | 0=> some (0,1)
 | _=> none
theorem ajP {ps:List (Nat × AV)}:iq Tryz.prog 145 ps=jX ajO [zN] ps:=jY (by kernel_rfl) Tryz.underlying145 (by kernel_rfl) (by funext i;rcases i with _ | i <;> kernel_rfl)
def aew:Nat->Option (Nat × Nat)
 | 0=> some (0,1)
 | 1=> some (1,1)
 | 2=> some (2,1)
 | 3=> some (3,1)
 | _=> none
theorem ajQ {ps:List (Nat × AV)}:iq Tryz.prog 147 ps=jX aew [zN,zI,zI,zI] ps:=jY (by kernel_rfl) Tryz.underlying147 (by kernel_rfl) (by funext i;rcases i with _ | _ | _ | _ | i <;> kernel_rfl)
def aex:Nat->Option (Nat × Nat)
 | 0=> some (0,1)
 | 1=> some (1,1)
 | 2=> some (2,8)
 | 3=> some (10,1)
 | _=> none
theorem ajR {ps:List (Nat × AV)}:iq Tryz.prog 166 ps=jX aex [zP,zP,zI,zI,zI,zI,zI,zI,zI,zN,zI] ps:=jY (by kernel_rfl) Tryz.underlying166 (by kernel_rfl) (by funext i;rcases i with _ | _ | _ | _ | i <;> kernel_rfl)
def aey:Nat->Option (Nat × Nat)
 | 0=> some (0,1)
 | 1=> some (1,1)
 | _=> none
theorem ajS {ps:List (Nat × AV)}:iq Tryz.prog 177 ps=jX aey [zN,zI] ps:=jY (by kernel_rfl) Tryz.underlying177 (by kernel_rfl) (by funext i;rcases i with _ | _ | i <;> kernel_rfl)
def YH:Nat->Option (Nat × Nat)
 | 0=> some (0,1)
 | 1=> some (1,1)
 | 2=> some (2,1)
 | 3=> some (3,1)
 | _=> none
theorem aez {ps:List (Nat × AV)}:iq Tryz.prog 184 ps=jX YH [zI,zI,zB,zI] ps:=jY (by kernel_rfl) Tryz.underlying184 (by kernel_rfl) (by funext i;rcases i with _ | _ | _ | _ | i <;> kernel_rfl)
def aeA:Nat->Option (Nat × Nat)
 | 0=> some (0,1)
 | _=> none
theorem ajT {ps:List (Nat × AV)}:iq Tryz.prog 186 ps=jX aeA [zN] ps:=jY (by kernel_rfl) Tryz.underlying186 (by kernel_rfl) (by funext i;rcases i with _ | i <;> kernel_rfl)
def aeB:Nat->Option (Nat × Nat)
 | 0=> some (0,1)
 | 1=> some (1,1)
 | _=> none
theorem ajU {ps:List (Nat × AV)}:iq Tryz.prog 200 ps=jX aeB [zN,zI] ps:=jY (by kernel_rfl) Tryz.underlying200 (by kernel_rfl) (by funext i;rcases i with _ | _ | i <;> kernel_rfl)
def aeC:Nat->Option (Nat × Nat)
 | 0=> some (0,1)
 | 1=> some (1,1)
 | _=> none
theorem ajV {ps:List (Nat × AV)}:iq Tryz.prog 218 ps=jX aeC [zM,zM] ps:=jY (by kernel_rfl) Tryz.underlying218 (by kernel_rfl) (by funext i;rcases i with _ | _ | i <;> kernel_rfl)
def aeD:Nat->Option (Nat × Nat)
 | 0=> some (0,8)
 | 1=> some (8,1)
 | _=> none
theorem ajW {ps:List (Nat × AV)}:iq Tryz.prog 277 ps=jX aeD [zI,zI,zI,zI,zI,zI,zI,zN,zM] ps:=jY (by kernel_rfl) Tryz.underlying277 (by kernel_rfl) (by funext i;rcases i with _ | _ | i <;> kernel_rfl)
def aeE:Nat->Option (Nat × Nat)
 | 0=> some (0,1)
 | 1=> some (1,1)
 | _=> none
theorem ajX {ps:List (Nat × AV)}:iq Tryz.prog 322 ps=jX aeE [zI,zI] ps:=jY (by kernel_rfl) Tryz.underlying322 (by kernel_rfl) (by funext i;rcases i with _ | _ | i <;> kernel_rfl)
theorem aeF {k:IntKind}{n:Int}{H:ah}:jW Tryz.prog 3 5 (.s (.int k n)) H=some (.s (.int .u8 (IntKind.wrap .u8 n)),H):=Dl (by kernel_rfl) Tryz.underlying3 Tryz.underlying5
theorem ajY {k:IntKind}{n:Int}{H:ah}:jW Tryz.prog 5 3 (.s (.int k n)) H=some (.s (.int .i64 (IntKind.wrap .i64 n)),H):=Dl (by kernel_rfl) Tryz.underlying5 Tryz.underlying3
theorem ahf {k:IntKind}{n:Int}{H:ah}:jW Tryz.prog 5 42 (.s (.int k n)) H=some (.s (.int .u16 (IntKind.wrap .u16 n)),H):=Dl (by kernel_rfl) Tryz.underlying5 Tryz.underlying42
theorem acw {k:IntKind}{n:Int}{H:ah}:jW Tryz.prog 5 262 (.s (.int k n)) H=some (.s (.int .u64 (IntKind.wrap .u64 n)),H):=Dl (by kernel_rfl) Tryz.underlying5 Tryz.underlying262
theorem YI {k:IntKind}{n:Int}{H:ah}:jW Tryz.prog 42 5 (.s (.int k n)) H=some (.s (.int .u8 (IntKind.wrap .u8 n)),H):=Dl (by kernel_rfl) Tryz.underlying42 Tryz.underlying5
theorem YJ {k:IntKind}{n:Int}{H:ah}:jW Tryz.prog 42 260 (.s (.int k n)) H=some (.s (.int .u32 (IntKind.wrap .u32 n)),H):=Dl (by kernel_rfl) Tryz.underlying42 Tryz.underlying260
theorem acy {k:IntKind}{n:Int}{H:ah}:jW Tryz.prog 260 5 (.s (.int k n)) H=some (.s (.int .u8 (IntKind.wrap .u8 n)),H):=Dl (by kernel_rfl) Tryz.underlying260 Tryz.underlying5
theorem acz {k:IntKind}{n:Int}{H:ah}:jW Tryz.prog 262 3 (.s (.int k n)) H=some (.s (.int .i64 (IntKind.wrap .i64 n)),H):=Dl (by kernel_rfl) Tryz.underlying262 Tryz.underlying3
inductive Cell where
 | av (x:AV)
 | seq (m:Nat) (cells:List AV)
 | map (k:IntKind) (es:List (Int × AV))
 | maps (k:IntKind) (m:Nat) (es:List (Int × List AV))
 | ajZ (w m:Nat) (ls:List (List AV))
abbrev Tag:=Nat × Nat × Nat × Int
section
variable (b:Nat)(H:ah)(τ:Nat->Option Tag)
def OS(T:Tag)(x:AV)(m:Nat)(cells:List AV):Prop:=
 (x=zN/\cells=[])∨∃r g off n cap ex ty all,x=.sl r g off m n cap ex/\τ r=some T/\b<=r/\r < H.next/\n<=cap/\H.get r=.blk g ty all/\off+cap*m<=all.length/\all.all AV.aX=true/\cells=(all.drop off).take (n*m)
def OM(T:Tag)(x:AV)(k:IntKind)(es:List (Int × AV)):Prop:=∃r,x=.mp r/\τ r=some T/\b<=r/\r < H.next/\H.get r=.map k es
def CR(q i:Nat):Cell->AV->Prop
 | .av x,y=> y=x
 | .seq m cells,y=> OS b H τ (q,i+1,0,0) y m cells
 | .map k es,y=> OM b H τ (q,i+1,0,0) y k es
 | .maps k m es,y=>∃aes:List (Int × AV),OM b H τ (q,i+1,0,0) y k aes/\aes.map (·.1)=es.map (·.1)/\∀(j:Nat) n cells x,es[j]?=some (n,cells)->aes[j]?=some (n,x)->OS b H τ (q,i+1,1,n) x m cells
 | .ajZ w m ls,y=>∃xs:List AV,OS b H τ (q,i+1,0,0) y w xs/\xs.length=ls.length/\∀(j:Nat) cells x,ls[j]?=some cells->xs[j]?=some x->OS b H τ (q,i+1,1,(j:Int)) x m cells
structure ai1(q:Nat)(cs:List Cell):Prop where
 tag:τ q=some (q,0,0,0)
 lo:b<=q
 hi:q < H.next
 tyl:∀gg ty xs,H.get q=.blk gg ty xs->ty < gV
 blk:∃ty xs,H.get q=.blk 0 ty xs/\xs.length=cs.length/\xs.all AV.aX=true/\∀(i:Nat) c x,cs[i]?=some c->xs[i]?=some x->CR b H τ q i c x
end
abbrev bD:=Nat->Option (List Cell)
def Good(b:Nat)(H:ah)(g:bD):Prop:=b<=H.next/\∃τ,∀q cs,g q=some cs->ai1 b H τ q cs
def upd(g:bD)(q:Nat)(cs:List Cell):bD:=λx=> if x=q then some cs else g x
section
variable {b:Nat}{H H':ah}{g:bD}{q:Nat}{cs:List Cell}
theorem aU:upd g q cs q=some cs:=by simp [upd]
theorem aZ {x:Nat}(h:x≠q):upd g q cs x=g x:=by simp [upd,h]
theorem rV {ds:List Cell}:upd (upd g q cs) q ds=upd g q ds:=by funext x;simp only [upd];split <;> rfl
theorem fF(h:g q=some cs):upd g q cs=g:=by
 funext x
 simp only [upd];split
 ·rename_i e;rw [e,h]
 ·rfl
theorem OS.keep {τ τ':Nat->Option Tag}{T:Tag}{x:AV}{m:Nat}{cells:List AV}(h:OS b H τ T x m cells)(hn:H.next<=H'.next)(hg:∀r,r < H.next->τ r=some T->τ' r=some T/\H'.get r=H.get r):OS b H' τ' T x m cells:=by
 rcases h with h | ⟨r,g,off,n,cap,ex,ty,all,rfl,h1,h2,h3,h4,h5,h6,h7,h8⟩
 ·exact .inl h
 ·obtain⟨k1,k2⟩:=hg r h3 h1;exact .inr ⟨r,g,off,n,cap,ex,ty,all,rfl,k1,h2,by omega,h4,by rw [k2];exact h5,h6,h7,h8⟩
theorem OM.keep {τ τ':Nat->Option Tag}{T:Tag}{x:AV}{k:IntKind}{es:List (Int × AV)}(h:OM b H τ T x k es)(hn:H.next<=H'.next)(hg:∀r,r < H.next->τ r=some T->τ' r=some T/\H'.get r=H.get r):OM b H' τ' T x k es:=by
 obtain⟨r,rfl,h1,h2,h3,h4⟩:=h;obtain⟨k1,k2⟩:=hg r h3 h1;exact⟨r,rfl,k1,h2,by omega,by rw [k2];exact h4⟩
theorem CR.keep {τ τ':Nat->Option Tag}{i:Nat}:∀{c:Cell} {x:AV},CR b H τ q i c x->H.next<=H'.next->(∀r s t,r < H.next->τ r=some (q,i+1,s,t)->τ' r=some (q,i+1,s,t)/\H'.get r=H.get r)->CR b H' τ' q i c x
 | .av _,_,h,_,_=> h
 | .seq _ _,_,h,hn,hg=> OS.keep h hn λr h1 h2=> hg r 0 0 h1 h2
 | .map _ _,_,h,hn,hg=> OM.keep h hn λr h1 h2=> hg r 0 0 h1 h2
 | .maps _ _ _,_,⟨aes,h1,h2,h3⟩,hn,hg=> ⟨aes,h1.keep hn λr h1 h2=> hg r 0 0 h1 h2,h2,λj n cells x hj hx=> (h3 j n cells x hj hx).keep hn λr h1 h2=> hg r 1 n h1 h2⟩
 | .ajZ _ _ _,_,⟨xs,h1,h2,h3⟩,hn,hg=> ⟨xs,h1.keep hn λr h1 h2=> hg r 0 0 h1 h2,h2,λj cells x hj hx=> (h3 j cells x hj hx).keep hn λr h1 h2=> hg r 1 j h1 h2⟩
theorem yu {ty:Nat}{xs:List AV}(h:H.get q=.blk 0 ty xs)(ht:ty < gV):∀gg ty' xs',H.get q=.blk gg ty' xs'->ty' < gV:=λ_ _ _ e=> by
 rw [h] at e;cases e;exact ht
theorem ai1.keep {τ τ':Nat->Option Tag}(h:ai1 b H τ q cs)(hn:H.next<=H'.next)(hg:∀r i s t,r < H.next->τ r=some (q,i,s,t)->τ' r=some (q,i,s,t)/\H'.get r=H.get r):ai1 b H' τ' q cs:=by
 obtain⟨k1,k2⟩:=hg q 0 0 0 h.hi h.tag;obtain⟨ty,xs,h1,h2,h3,h4⟩:=h.blk;exact⟨k1,h.lo,by have:=h.hi;omega,yu (by rw [k2];exact h1) (h.tyl _ _ _ h1),ty,xs,by rw [k2];exact h1,h2,h3,λi c x hc hx=> (h4 i c x hc hx).keep hn λr s t hr ht=> hg r (i+1) s t hr ht⟩
theorem Good.lt(G:Good b H g)(h:g q=some cs):q < H.next:=(G.2.choose_spec q cs h).hi
theorem Good.le(G:Good b H g)(h:g q=some cs):b<=q:=(G.2.choose_spec q cs h).lo
theorem Good.isNone(G:Good b H g)(h:H.next<=q):g q=none:=by
 cases hq:g q with
 | none=> rfl
 | some cs=> have:=G.lt hq;omega
theorem Good.ne(G:Good b H g)(h:g q=some cs):q≠H.next:=by have:=G.lt h;omega
theorem Good.ext(G:Good b H g)(hn:H.next<=H'.next)(hg:∀r,r < H.next->H'.get r=H.get r):Good b H' g:=by
 obtain⟨h0,τ,h⟩:=G;exact⟨by omega,τ,λq cs hq=> (h q cs hq).keep hn λr i s t hr ht=> ⟨ht,hg r hr⟩⟩
theorem Good.new(G:Good b H g)(o:fU):Good b (H.new o) g:=G.ext (za6 _) λr hr=> by rw [jd,if_neg (by omega)]
theorem Good.guard(G:Good b H g):Good b H.guard g:=G.ext (zac _) λ_ _=> rfl
theorem Good.sub(G:Good b H g){g':bD}(h:∀q cs,g' q=some cs->g q=some cs):Good b H g':=by
 obtain⟨h0,τ,h1⟩:=G;exact⟨h0,τ,λq cs hq=> h1 q cs (h q cs hq)⟩
theorem Good.empty(H:ah):Good H.next H λ_=> none:=⟨zac _,λ_=> none,λ_ _ h=> by cases h⟩
theorem Good.empty' {b:Nat}(h:b<=H.next):Good b H λ_=> none:=⟨h,λ_=> none,λ_ _ h=> by cases h⟩
theorem Good.weak(G:Good b H g){b':Nat}(h:b'<=b):Good b' H g:=by
 obtain⟨h0,τ,h1⟩:=G;have os:∀{T x m cells},OS b H τ T x m cells->OS b' H τ T x m cells:=by
  intro T x m cells ho;rcases ho with ho | ⟨r,g,off,n,cap,ex,ty,all,h2,h3,h4,h5⟩
  ·exact .inl ho
  ·exact .inr ⟨r,g,off,n,cap,ex,ty,all,h2,h3,by omega,h5⟩
 have om:∀{T x k es},OM b H τ T x k es->OM b' H τ T x k es:=by
  intro T x k es ⟨r,h2,h3,h4,h5⟩;exact⟨r,h2,h3,by omega,h5⟩
 refine⟨by omega,τ,λq cs hq=> ?_⟩;have R:=h1 q cs hq;obtain⟨ty,xs,k1,k2,k3,k4⟩:=R.blk;refine⟨R.tag,by have:=R.lo;omega,R.hi,R.tyl,ty,xs,k1,k2,k3,λi c x hc hx=> ?_⟩;have:=k4 i c x hc hx;cases c with
 | av _=> exact this
 | seq _ _=> exact os this
 | map _ _=> exact om this
 | maps _ _ _=>
  obtain⟨aes,a1,a2,a3⟩:=this;exact⟨aes,om a1,a2,λj n cells x hj hx=> os (a3 j n cells x hj hx)⟩
 | ajZ _ _ _=>
  obtain⟨ys,a1,a2,a3⟩:=this;exact⟨ys,os a1,a2,λj cells x hj hx=> os (a3 j cells x hj hx)⟩
structure Step(b:Nat)(H H':ah):Prop where
 base:H'.base=H.base
 next:H.next<=H'.next
 low:∀r,r < b->H'.get r=H.get r
theorem Step.refl(b:Nat)(H:ah):Step b H H:=⟨rfl,zac _,λ_ _=> rfl⟩
theorem Step.trans {b:Nat}{H H' H'':ah}(s:Step b H H')(t:Step b H' H''):Step b H H'':=⟨t.base.trans s.base,zau s.next t.next,λr hr=> by rw [t.low r hr,s.low r hr]⟩
theorem Step.new {b:Nat}{H:ah}(o:fU)(h:b<=H.next):Step b H (H.new o):=⟨rfl,za6 _,λr hr=> by rw [jd,if_neg (by omega)]⟩
theorem Step.put {b:Nat}{H:ah}{r:Nat}(o:fU)(h:b<=r):Step b H (H.put r o):=⟨rfl,zac _,λx hx=> by rw [dQ,if_neg (by omega)]⟩
theorem Good.newObj(G:Good b H g){ty:TypeId}{xs:List AV}(hc:xs.all AV.aX=true)(ht:ty < gV:=by decide):Good b (H.new (.blk 0 ty xs)) (upd g H.next (xs.map .av)):=by
 obtain⟨h0,τ,h⟩:=G;refine⟨by rw [Ee];omega,λr=> if r=H.next then some (r,0,0,0) else τ r,λq cs hq=> ?_⟩;by_cases hqn:q=H.next
 ·subst hqn;rw [aU] at hq;cases hq;refine⟨by simp,h0,by rw [Ee];omega,yu (xs:=xs) (by simp [jd]) ht,ty,xs,by simp [jd],by simp,hc,λi c x hci hx=> ?_⟩;rw [zaR,hx] at hci;simp only [zak,zaa] at hci;subst hci;exact rfl
 ·rw [aZ hqn] at hq;have R:=h q cs hq;exact R.keep (H':=H.new (.blk 0 ty xs)) (za6 _) λr i s t hr ht=> ⟨by rw [if_neg (by omega)];exact ht,by rw [jd,if_neg (by omega)]⟩
theorem kS {r off g:Nat}{ty:TypeId}{xs:List AV}(h:H.get r=.blk g ty xs):ld (.ref r g off) H=(xs[off]?).map λv=> (v,H):=by
 simp only [ld,kF,bQ,zak,ldO,h,if_true]
theorem gy {r off g n:Nat}{ty:TypeId}{xs:List AV}(h:H.get r=.blk g ty xs)(hl:off+n<=xs.length):lda n (.ref r g off) H=some (.agg ((xs.drop off).take n),H):=by
 simp only [lda,kF,bQ,zak,an7,h,if_true,hl]
theorem aj0 {cells:List AV}:ld (.ip cells) H=(cells[0]?).map λv=> (v,H):=by simp only [ld,kF,ldO]
theorem aj1 {cells:List AV}{n:Nat}(h:n<=cells.length):lda n (.ip cells) H=some (.agg (cells.take n),H):=by
 simp only [lda,kF,an7,za3,h,if_true,zaQ,zak]
theorem Good.load(G:Good b H g)(h:g q=some cs){i:Nat}{x:AV}(hi:cs[i]?=some (.av x)):ld (.ref q 0 i) H=some (x,H):=by
 obtain⟨_,τ,hR⟩:=G;obtain⟨ty,xs,h1,h2,h3,h4⟩:=(hR q cs h).blk;rw [kS h1];have hlt:i < xs.length:=by rw [h2];exact(zai.1 hi).1
 have hx:xs[i]?=some (xs[i]'hlt):=zab hlt;have:=h4 i _ _ hi hx;simp only [CR] at this;rw [hx,this];rfl
theorem Good.loads(G:Good b H g)(h:g q=some cs){i n:Nat}{xs:List AV}(hi:(cs.drop i).take n=xs.map .av)(hn:xs.length=n)(hp:0 < n):lda n (.ref q 0 i) H=some (.agg xs,H):=by
 obtain⟨_,τ,hR⟩:=G;obtain⟨ty,ys,h1,h2,h3,h4⟩:=(hR q cs h).blk;have hl:=congrArg List.length hi;simp only [zax,zaL,zaD] at hl
 ·rw [gy h1 (by omega)]
  congr 2
  congr 1
  apply zbg
  intro j;rcases zaW j n with hj | hj
  ·have hx:xs[j]?=some (xs[j]'(by omega)):=zab _;have hc:cs[i+j]?=some (.av (xs[j]'(by omega))):=by
    have:=congrArg (λl=> l[j]?) hi;simp only [zaA,hj,if_true,zaC,zaR,hx,zak] at this;exact this
   have hlt:i+j < ys.length:=by omega
   have hy:ys[i+j]?=some (ys[i+j]'hlt):=zab hlt;have:=h4 _ _ _ hc hy;simp only [CR] at this;rw [zaA,if_pos hj,zaC,hy,this,hx]
  ·rw [zaA,if_neg (by omega),zaK (by omega)]
end
def aW(H:ah)(x:AV)(m n:Nat)(cells:List AV):Prop:=
 cells.length=n*m/\
 match x with
 | .sl r g off esz len cap _=> esz=m/\len=n/\(r < H.next/\len<=cap)/\∃ty all,H.get r=.blk g ty all/\off+n*m<=all.length/\cells=(all.drop off).take (n*m)
 | .vs k esz cs=> esz=m/\k=n/\cs=cells
 | .s (.slice none a b)=> a=0/\b=0/\n=0
 | _=> False
def eU(x:AV)(i:Nat):AV:=
 match x with
 | .sl r g off esz _ _ _=> .ref r g (off+i*esz)
 | .vs _ esz cs=> .ip (cs.drop (i*esz))
 | _=> aY
section
variable {P:Program}{H:ah}{x:AV}{m n:Nat}{cells:List AV}
theorem aW.aX(h:aW H x m n cells):x.aX=true:=by
 obtain⟨_,h⟩:=h;cases x with
 | s v=> cases v <;> first | rfl | exact h.elim
 | _=> first | rfl | exact h.elim
theorem aW.len(h:aW H x m n cells){t e:TypeId}(ht:y7 P t=some e):ai8 P t x H=some (.s (.int .i64 n),H):=by
 obtain⟨_,h⟩:=h;unfold y7 at ht;split at ht <;> first | (cases ht;done) | skip
 rename_i e' hu;unfold ai8 kF an1;cases x with
 | sl r g off esz len cap ex=> simp only [hu];rw [h.2.1];rfl
 | vs k esz cs=> simp only [hu];rw [h.2.1];rfl
 | s v=>
  cases v with
  | slice a b c=>
   cases a with
   | none=> simp only [hu];rw [h.2.2,h.1];rfl
   | some a=> exact h.elim
  | _=> exact h.elim
 | _=> exact h.elim
theorem aW.Dn(h:aW H x m n cells):jV x=some n/\dw H x=some cells:=by
 obtain⟨hl,h⟩:=h;cases x with
 | sl r g off esz len cap ex=>
  obtain⟨rfl,rfl,_,ty,all,h1,h2,h3⟩:=h;refine⟨rfl,?_⟩;simp only [dw,h1];rw [if_pos ⟨trivial,h2⟩,h3]
 | vs k esz cs=> obtain⟨rfl,rfl,rfl⟩:=h;exact⟨rfl,rfl⟩
 | s v=>
  cases v with
  | slice a b c=>
   cases a with
   | none=>
    obtain⟨rfl,rfl,rfl⟩:=h;refine⟨rfl,?_⟩;have:cells=[]:=zas (by omega);rw [this];rfl
   | some a=> exact h.elim
  | _=> exact h.elim
 | _=> exact h.elim
theorem aW.index(h:aW H x m n cells){t e:TypeId}(ht:y7 P t=some e)(hm:szT P e=some m){k:IntKind}{i:Int}(h0:0<=i)(h1:i < n):
  sJ P t x (.s (.int k i)) H=some (eU x i.toNat,H):=by
 obtain⟨_,h⟩:=h;unfold y7 at ht;split at ht <;> first | (cases ht;done) | skip
 rename_i e' hu;simp only [zaa] at ht;subst ht;unfold sJ kF Bg;cases x with
 | sl r g off esz len cap ex=>
  obtain⟨rfl,rfl,_,ty,all,h2,h3,h4⟩:=h;simp only [hu,bQ,zak,h2,anZ,fU.gen,hm,true_and];rw [if_pos ⟨h0,by omega⟩];rfl
 | vs k' esz cs=>
  obtain⟨rfl,rfl,rfl⟩:=h;simp only [hu,hm,true_and];rw [if_pos ⟨h0,by omega⟩];rfl
 | s v=>
  cases v with
  | slice a b c=>
   cases a with
   | none=> obtain⟨rfl,rfl,rfl⟩:=h;omega
   | some a=> exact h.elim
  | _=> exact h.elim
 | _=> exact h.elim
def jf:AV->Option Nat
 | .sl r _ _ _ _ _ _=> some r
 | _=> none
theorem aW.jZ {H':ah}(h:aW H x m n cells)(hn:H.next<=H'.next)(hg:∀r,jf x=some r->r < H.next->H'.get r=H.get r):aW H' x m n cells:=by
 obtain⟨hl,h⟩:=h;refine⟨hl,?_⟩;cases x with
 | sl r g off esz len cap ex=>
  obtain⟨h0,h1,hr,ty,all,h2,h3,h4⟩:=h;exact⟨h0,h1,⟨zav hr.1 hn,hr.2⟩,ty,all,by rw [hg r rfl hr.1];exact h2,h3,h4⟩
 | s v=>
  cases v with
  | slice a b c=> cases a <;> exact h
  | _=> exact h
 | _=> exact h
theorem aW.new(h:aW H x m n cells)(o:fU):aW (H.new o) x m n cells:=
 h.jZ (za6 _) λr _ hr=> by rw [jd,if_neg (by omega)]
theorem aW.put(h:aW H x m n cells){r:Nat}(hr:jf x≠some r)(o:fU):aW (H.put r o) x m n cells:=
 h.jZ (zac _) λr' hx _=> by rw [dQ,if_neg (λe=> hr (by rw [hx,e]))]
theorem aW.guard(h:aW H x m n cells):aW H.guard x m n cells:=h
theorem aW.nil {m:Nat}:aW H (.s (.slice none 0 0)) m 0 []:=⟨by simp,rfl,rfl,rfl⟩
theorem aW.vs {m n:Nat}{cs:List AV}(h:cs.length=n*m):aW H (.vs n m cs) m n cs:=⟨h,rfl,rfl,rfl⟩
end
theorem RI {α:Type}{enc:α->List AV}{m:Nat}(he:∀a,(enc a).length=m)(l:List α):(l.flatMap enc).length=l.length*m:=by
 induction l with
 | nil=> simp
 | cons a l ih=> simp only [zaE,zao,he,ih,zam,zbO];omega
theorem uK {α:Type}{enc:α->List AV}{m:Nat}(he:∀a,(enc a).length=m):∀(l:List α) (i:Nat) (a:α),l[i]?=some a->((l.flatMap enc).drop (i*m)).take m=enc a
 | [],i,a,h=> by simp at h
 | b::l,0,a,h=> by
  simp only [zaP,zaa] at h;subst h;rw [zbq,zaQ,zaE,zbM (by rw [he];omega),zaz (by rw [he];omega)]
 | b::l,i+1,a,h=> by
  simp only [zbb] at h;have e1:(enc b).drop ((i+1)*m)=[]:=zaS (by rw [he,zbO];omega);have e2:(i+1)*m - (enc b).length=i*m:=by rw [he,zbO];omega
  rw [zaE,zdh,e1,e2,zaJ];exact uK he l i a h
section
variable {b:Nat}{H H':ah}{g:bD}{q:Nat}{cs:List Cell}
theorem xq {τ τ':Nat->Option Tag}{cs':List Cell}(h0:b<=H.next)(h:∀q cs,g q=some cs->ai1 b H τ q cs)(hn:H.next<=H'.next)
  (hk:∀r,r < H.next->(∀i s t,τ r≠some (q,i,s,t))->τ' r=τ r/\H'.get r=H.get r) (hR:ai1 b H' τ' q cs'):Good b H' (upd g q cs'):=by
 refine⟨by omega,τ',λq2 cs2 hq2=> ?_⟩;by_cases e:q2=q
 ·subst e;rw [aU] at hq2;cases hq2;exact hR
 ·rw [aZ e] at hq2;refine(h q2 cs2 hq2).keep hn λr i s t hr ht=> ?_;obtain⟨k1,k2⟩:=hk r hr λi' s' t' h'=> by rw [ht] at h';cases h';exact e rfl
  exact⟨by rw [k1];exact ht,k2⟩
theorem mP {α:Type}{l:List α}{i j:Nat}{a x:α}(h:(l.set i a)[j]?=some x):(j=i/\x=a)∨(j≠i/\l[j]?=some x):=by
 by_cases e:i=j
 ·subst e;have hl:i < l.length:=by
   have:=(zai.1 h).1
   simpa using this
  rw [zbd hl] at h;cases h;exact .inl ⟨rfl,rfl⟩
 ·rw [zbm e] at h;exact .inr ⟨λe'=> e e'.symm,h⟩
theorem YK {l:List AV}(h:l.all AV.aX=true){v:AV}(hv:v.aX=true)(i:Nat):(l.set i v).all AV.aX=true:=by
 rw [za2] at h ⊢;intro x hx;rcases zct hx with hx | rfl
 ·exact h x hx
 ·exact hv
theorem O5 {l:List AV}{i:Nat}{v:AV}(hi:i < l.length):aN l i [v]=l.set i v:=by
 rw [zdb];simp only [aN,hi,if_true,zam,zan];rfl
def One(v:AV):Prop:=v.cells=[v]/\v.aX=true
theorem dJ {k:IntKind}{n:Int}:One (.s (.int k n)):=⟨rfl,rfl⟩
theorem Ef {x:Bool}:One (.s (.bool x)):=⟨rfl,rfl⟩
theorem qX {r g off esz len cap:Nat}{ex:Bool}:One (.sl r g off esz len cap ex):=⟨rfl,rfl⟩
theorem aeG {n esz:Nat}{cells:List AV}:One (.vs n esz cells):=⟨rfl,rfl⟩
theorem qm:One zN:=⟨rfl,rfl⟩
theorem UF {r gg off:Nat}{v:AV}{ty:TypeId}{xs:List AV}(hv:One v)(h:H.get r=.blk gg ty xs)(hb:H.base<=r)(hl:off < xs.length):st 1 (.ref r gg off) v H=some (aY,H.put r (.blk gg ty (xs.set off v))):=by
 show(match H.get r with
  | .blk g' ty cells=> if g'=gg/\H.base<=r/\some 1=some v.cells.length/\v.cells.all AV.aX=true/\off+v.cells.length<=cells.length then some (aY,H.put r (.blk gg ty (aN cells off v.cells))) else none
  | .map ..=> none)=_
 rw [h];simp only;rw [if_pos ⟨trivial,hb,by rw [hv.1];rfl,by rw [hv.1];simp [hv.2],by rw [hv.1];exact hl⟩,hv.1,O5 hl]
theorem UG {r gg off n:Nat}{vs:List AV}{ty:TypeId}{xs:List AV}(hv:vs.all AV.aX=true)(hn:vs.length=n)(h:H.get r=.blk gg ty xs)(hb:H.base<=r)(hl:off+n<=xs.length):st n (.ref r gg off) (.agg vs) H=some (aY,H.put r (.blk gg ty (aN xs off vs))):=by
 show(match H.get r with
  | .blk g' ty cells=> if g'=gg/\H.base<=r/\some n=some (AV.agg vs).cells.length/\(AV.agg vs).cells.all AV.aX=true/\off+(AV.agg vs).cells.length<=cells.length then some (aY,H.put r (.blk gg ty (aN cells off (AV.agg vs).cells))) else none
  | .map ..=> none)=_
 rw [h];simp only [fJ];rw [if_pos ⟨trivial,hb,by rw [hn],hv,by omega⟩]
theorem Good.store(G:Good b H g)(hb:H.base<=b)(h:g q=some cs){i:Nat}(hi:i < cs.length){v:AV}(hv:One v):
  ∃H',st 1 (.ref q 0 i) v H=some (aY,H')/\Good b H' (upd g q (cs.set i (.av v)))/\Step b H H'/\H'.next=H.next:=by
 obtain⟨h0,τ,hR⟩:=G;have R:=hR q cs h;obtain⟨ty,xs,h1,h2,h3,h4⟩:=R.blk;have lo:=R.lo;refine⟨_,UF hv h1 (by omega) (by omega),?_,Step.put _ lo,rfl⟩;refine xq (τ':=τ) h0 hR (zac _) (λr hr ht=> ⟨rfl,?_⟩) ⟨R.tag,R.lo,R.hi,yu (xs:=xs.set i v) (by rw [dQ,if_pos rfl]) (R.tyl _ _ _ h1),ty,xs.set i v,by rw [dQ,if_pos rfl],by simp [h2],YK h3 hv.2 i,λj c x hc hx=> ?_⟩
 ·rw [dQ,if_neg];intro e;subst e;exact ht 0 0 0 R.tag
 ·rcases mP hc with⟨rfl,rfl⟩ | ⟨hj,hc⟩
  ·rcases mP hx with⟨_,rfl⟩ | ⟨hj,_⟩
   ·exact rfl
   ·exact absurd rfl hj
  ·rcases mP hx with⟨rfl,_⟩ | ⟨_,hx⟩
   ·exact absurd rfl hj
   ·refine(h4 j c x hc hx).keep (zac _) λr s t hr ht=> ⟨ht,?_⟩
    rw [dQ,if_neg];intro e;subst e;rw [R.tag] at ht;cases ht
def pG(cs:List Cell)(i:Nat)(vs:List AV):List Cell:=cs.take i++(vs.map .av++cs.drop (i+vs.length))
theorem oD {l:List AV}{i:Nat}{vs:List AV}(h:i+vs.length<=l.length)(j:Nat):(aN l i vs)[j]?=if i<=j/\j < i+vs.length then vs[j - i]? else l[j]?:=by
 unfold aN;rcases zaW j i with hj | hj
 ·rw [zaN (by rw [zax];omega),zaA,if_pos hj,if_neg (by omega)]
 ·have h1:(l.take i).length=i:=by rw [zax];omega
  rw [za0 (by omega),h1];rcases zaW j (i+vs.length) with hk | hk
  ·rw [if_pos ⟨hj,hk⟩,zaN (by omega)]
  ·rw [if_neg (by omega),za0 (by omega),zaC]
   congr 1;omega
theorem Wy {i:Nat}{vs:List AV}(h:i+vs.length<=cs.length)(j:Nat):(pG cs i vs)[j]?=if i<=j/\j < i+vs.length then(vs[j - i]?).map .av else cs[j]?:=by
 unfold pG;rcases zaW j i with hj | hj
 ·rw [zaN (by rw [zax];omega),zaA,if_pos hj,if_neg (by omega)]
 ·have h1:(cs.take i).length=i:=by rw [zax];omega
  rw [za0 (by omega),h1];rcases zaW j (i+vs.length) with hk | hk
  ·rw [if_pos ⟨hj,hk⟩,zaN (by rw [zaD];omega),zaR]
  ·rw [if_neg (by omega),za0 (by rw [zaD];omega),zaD,zaC]
   congr 1;omega
theorem nR {l:List AV}{i:Nat}{vs:List AV}(h:i+vs.length<=l.length):(aN l i vs).length=l.length:=by
 simp only [aN,zao,zax,zaL];omega
theorem Ld {i:Nat}{vs:List AV}(h:i+vs.length<=cs.length):(pG cs i vs).length=cs.length:=by
 simp only [pG,zao,zax,zaL,zaD];omega
theorem wE {l vs:List AV}(h:l.all AV.aX=true)(hv:vs.all AV.aX=true)(i:Nat):(aN l i vs).all AV.aX=true:=by
 rw [za2] at h hv ⊢;intro x hx;simp only [aN,zaO] at hx;rcases hx with hx | hx | hx
 ·exact h x (zcQ hx)
 ·exact hv x hx
 ·exact h x (List.mem_of_mem_drop hx)
theorem Good.stores(G:Good b H g)(hb:H.base<=b)(h:g q=some cs){i n:Nat}{vs:List AV}(hi:i+n<=cs.length)(hn:vs.length=n)(hv:vs.all AV.aX=true):
  ∃H',st n (.ref q 0 i) (.agg vs) H=some (aY,H')/\Good b H' (upd g q (pG cs i vs))/\Step b H H'/\H'.next=H.next:=by
 obtain⟨h0,τ,hR⟩:=G;have R:=hR q cs h;obtain⟨ty,xs,h1,h2,h3,h4⟩:=R.blk;have lo:=R.lo;refine⟨_,UG hv hn h1 (by omega) (by omega),?_,Step.put _ lo,rfl⟩;refine xq (τ':=τ) h0 hR (zac _) (λr hr ht=> ⟨rfl,?_⟩) ⟨R.tag,R.lo,R.hi,yu (xs:=aN xs i vs) (by rw [dQ,if_pos rfl]) (R.tyl _ _ _ h1),ty,aN xs i vs,by rw [dQ,if_pos rfl],by rw [nR (by omega),Ld (by omega),h2],wE h3 hv i,λj c x hc hx=> ?_⟩
 ·rw [dQ,if_neg];intro e;subst e;exact ht 0 0 0 R.tag
 ·rw [Wy (by omega)] at hc;rw [oD (by omega)] at hx;split at hc
  ·rename_i hj;rw [if_pos hj] at hx;rw [hx] at hc;simp only [zak,zaa] at hc;subst hc;exact rfl
  ·rename_i hj;rw [if_neg hj] at hx;refine(h4 j c x hc hx).keep (zac _) λr s t hr ht=> ⟨ht,?_⟩
   rw [dQ,if_neg];intro e;subst e;rw [R.tag] at ht;cases ht
structure Cur(b:Nat)(H:ah)(q i:Nat)(x:AV)(m:Nat)(l:List AV):Prop where
 at_:∃ty xs,H.get q=.blk 0 ty xs/\xs[i]?=some x
 own:(x=zN/\l=[])∨∃r g off n cap ex ty all,x=.sl r g off m n cap ex/\r≠q/\b<=r/\r < H.next/\n<=cap/\H.get r=.blk g ty all/\off+cap*m<=all.length/\all.all AV.aX=true/\l=(all.drop off).take (n*m)
 lt:q < H.next
theorem Good.seq(G:Good b H g)(h:g q=some cs){i m:Nat}{l:List AV}(hi:cs[i]?=some (.seq m l)):∃x,ld (.ref q 0 i) H=some (x,H)/\Cur b H q i x m l:=by
 obtain⟨_,τ,hR⟩:=G;have R:=hR q cs h;obtain⟨ty,xs,h1,h2,h3,h4⟩:=R.blk;have hlt:i < xs.length:=by rw [h2];exact(zai.1 hi).1
 have hx:xs[i]?=some (xs[i]'hlt):=zab hlt;refine⟨xs[i]'hlt,by rw [kS h1,hx];rfl,⟨ty,xs,h1,hx⟩,?_,R.hi⟩;have:=h4 i _ _ hi hx;simp only [CR] at this;rcases this with h5 | ⟨r,gg,off,n,cap,ex,ty,all,h5,h6,h7⟩
 ·exact .inl h5
 ·refine .inr ⟨r,gg,off,n,cap,ex,ty,all,h5,?_,h7⟩;intro e;subst e;rw [R.tag] at h6;cases h6
theorem Cur.load {i m:Nat}{x:AV}{l:List AV}(c:Cur b H q i x m l):ld (.ref q 0 i) H=some (x,H):=by
 obtain⟨ty,xs,h1,h2⟩:=c.at_;rw [kS h1,h2];rfl
theorem Cur.ext {i m:Nat}{x:AV}{l:List AV}(c:Cur b H q i x m l)(hn:H.next<=H'.next)(hg:∀r,r < H.next->H'.get r=H.get r):Cur b H' q i x m l:=by
 obtain⟨ty,xs,h1,h2⟩:=c.at_;refine⟨⟨ty,xs,by rw [hg q c.lt];exact h1,h2⟩,?_,by have:=c.lt;omega⟩;rcases c.own with h | ⟨r,g,off,n,cap,ex,ty,all,k0,k1,k2,k3,k4,k5,k6⟩
 ·exact .inl h
 ·exact .inr ⟨r,g,off,n,cap,ex,ty,all,k0,k1,k2,by omega,k4,by rw [hg r k3];exact k5,k6⟩
theorem Cur.new {i m:Nat}{x:AV}{l:List AV}(c:Cur b H q i x m l)(o:fU):Cur b (H.new o) q i x m l:=c.ext (za6 _) λr hr=> by rw [jd,if_neg (by omega)]
theorem Cur.one {i m:Nat}{x:AV}{l:List AV}(c:Cur b H q i x m l):One x:=by
 rcases c.own with⟨rfl,_⟩ | ⟨r,g,off,n,cap,ex,ty,all,rfl,_⟩
 ·exact qm
 ·exact qX
theorem Cur.is {i m n:Nat}{x:AV}{l:List AV}(c:Cur b H q i x m l)(hm:0 < m)(hl:l.length=n*m):aW H x m n l:=by
 refine⟨hl,?_⟩;rcases c.own with⟨rfl,rfl⟩ | ⟨r,g,off,n',cap,ex,ty,all,rfl,k1,k2,k3,k4,k5,k6,k7,rfl⟩
 ·refine⟨rfl,rfl,?_⟩;simp only [zan] at hl;rcases zc1.1 hl.symm with h | h <;> omega
 ·have h1:n'*m<=cap*m:=zaB _ k4;rw [zax,zaL,zbr (by omega)] at hl;have:n'=n:=zbH hm hl;subst this;exact⟨rfl,rfl,⟨k3,k4⟩,ty,all,k5,by omega,rfl⟩
theorem Cur.low {i m r:Nat}{x:AV}{l:List AV}(c:Cur b H q i x m l)(hr:r < b):jf x≠some r:=by
 rcases c.own with⟨rfl,_⟩ | ⟨r',g,off,n,cap,ex,ty,all,rfl,k1,k2,_⟩
 ·intro e;cases e
 ·intro e;simp only [jf,zaa] at e;omega
def Fit(H H1:ah)(x0 x:AV)(m:Nat)(l:List AV):Prop:=
 (x=zN/\l=[])∨∃r g off n cap ex ty all,x=.sl r g off m n cap ex/\(jf x0=some r∨H.next<=r)/\r < H1.next/\n<=cap/\H1.get r=.blk g ty all/\off+cap*m<=all.length/\all.all AV.aX=true/\l=(all.drop off).take (n*m)
theorem Good.seat(G:Good b H g)(h:g q=some cs){i m:Nat}{l0:List AV}(hi:cs[i]?=some (.seq m l0)){x0:AV}(c:Cur b H q i x0 m l0){H1:ah}(hn:H.next<=H1.next)(hb:H1.base<=b)
  (hk:∀r,r < H.next->jf x0≠some r->H1.get r=H.get r) {x:AV} {m':Nat} {l:List AV} (hx:Fit H H1 x0 x m' l):
  ∃H',st 1 (.ref q 0 i) x H1=some (aY,H')/\Good b H' (upd g q (cs.set i (.seq m' l)))/\Step b H1 H'/\H'.next=H1.next:=by
 obtain⟨h0,τ,hR⟩:=G;have R:=hR q cs h;obtain⟨ty,xs,h1,h2,h3,h4⟩:=R.blk;have lo:=R.lo;have hi':=R.hi;have il:i < cs.length:=(zai.1 hi).1;have hx0:xs[i]?=some x0:=by
  obtain⟨ty',xs',e1,e2⟩:=c.at_;rw [h1] at e1;cases e1;exact e2
 have htag:∀r,jf x0=some r->τ r=some (q,i+1,0,0)/\b<=r:=by
  intro r hr;have:=h4 i _ _ hi hx0;simp only [CR] at this;rcases this with⟨rfl,_⟩ | ⟨r',gg,off,n,cap,ex,ty',all,rfl,k1,k2,_⟩
  ·cases hr
  ·simp only [jf,zaa] at hr;subst hr;exact⟨k1,k2⟩
 have hqx:jf x0≠some q:=λe=> by have:=(htag q e).1;rw [R.tag] at this;cases this
 have hq1:H1.get q=.blk 0 ty xs:=by rw [hk q hi' hqx];exact h1
 have hone:One x:=by
  rcases hx with⟨rfl,_⟩ | ⟨r,gg,off,n,cap,ex,ty',all,rfl,_⟩
  ·exact qm
  ·exact qX
 refine⟨_,UF hone hq1 (by omega) (by omega),?_,Step.put _ lo,rfl⟩;refine xq (τ':=λr=> if H.next<=r then some (q,i+1,0,0) else τ r) h0 hR (show H.next<=H1.next from hn) (λr hr ht=> ⟨by rw [if_neg (by omega)],?_⟩)
  ⟨by rw [if_neg (by omega)];exact R.tag,R.lo,show q < H1.next by omega,yu (xs:=xs.set i x) (by rw [dQ,if_pos rfl]) (R.tyl _ _ _ h1),ty,xs.set i x,by rw [dQ,if_pos rfl],by simp [h2],YK h3 hone.2 i,λj cc y hc hy=> ?_⟩
 ·rw [dQ,if_neg (by intro e;subst e;exact ht 0 0 0 R.tag)];exact hk r hr λe=> ht (i+1) 0 0 (htag r e).1
 ·rcases mP hc with⟨rfl,rfl⟩ | ⟨hj,hc⟩
  ·rcases mP hy with⟨_,rfl⟩ | ⟨hj,_⟩
   ·rcases hx with hx | ⟨r,gg,off,n,cap,ex,ty',all,rfl,k1,k2,k3,k4,k5⟩
    ·exact .inl hx
    ·have hrq:r≠q:=by
      rcases k1 with k1 | k1
      ·intro e;subst e;exact hqx k1
      ·omega
     refine .inr ⟨r,gg,off,n,cap,ex,ty',all,rfl,?_,?_,k2,k3,by rw [dQ,if_neg hrq];exact k4,k5⟩
     ·show(if H.next<=r then some (q,j+1,0,0) else τ r)=some (q,j+1,0,0);split
      ·rfl
      ·rcases k1 with k1 | k1
       ·exact(htag r k1).1
       ·omega
     ·rcases k1 with k1 | k1
      ·exact(htag r k1).2
      ·omega
   ·exact absurd rfl hj
  ·rcases mP hy with⟨rfl,_⟩ | ⟨_,hy⟩
   ·exact absurd rfl hj
   ·refine(h4 j cc y hc hy).keep (show H.next<=H1.next from hn) λr s t hr ht=> ⟨by rw [if_neg (by omega)];exact ht,?_⟩
    rw [dQ,if_neg (by intro e;subst e;rw [R.tag] at ht;cases ht)];refine hk r hr λe=> ?_;have:=(htag r e).1;rw [this] at ht;simp only [zaa,zad,zb5] at ht;exact hj ht.2.1.symm
end
section
variable {b:Nat}{H H':ah}{g:bD}{q:Nat}{cs:List Cell}
theorem aW.lnS {x:AV}{m n:Nat}{cells:List AV}(h:aW H x m n cells):lnS x H=some (I n,H):=by
 obtain⟨_,h⟩:=h;unfold Go.Proofs.YtgplhpgkompkmaaGreat.lnS kF aoA;cases x with
 | sl r g off esz len cap ex=> simp only;rw [h.2.1];rfl
 | vs k esz cs=> simp only;rw [h.2.1];rfl
 | s v=>
  cases v with
  | slice a b c=>
   cases a with
   | none=> simp only;rw [h.2.2,h.1];rfl
   | some a=> exact h.elim
  | _=> exact h.elim
 | _=> exact h.elim
theorem aW.ix {x:AV}{m n:Nat}{cells:List AV}(h:aW H x m n cells){k:IntKind}{i:Int}(h0:0<=i)(h1:i < n):ix m x (.s (.int k i)) H=some (eU x i.toNat,H):=by
 obtain⟨_,h⟩:=h;unfold Go.Proofs.YtgplhpgkompkmaaGreat.ix kF ixO;cases x with
 | sl r g off esz len cap ex=>
  obtain⟨rfl,rfl,_,ty,all,h2,h3,h4⟩:=h;simp only [bQ,zak,h2,anZ,fU.gen,true_and];rw [if_pos ⟨h0,by omega⟩];rfl
 | vs k' esz cs=>
  obtain⟨rfl,rfl,rfl⟩:=h;simp only [true_and];rw [if_pos ⟨h0,by omega⟩];rfl
 | s v=>
  cases v with
  | slice a b c=>
   cases a with
   | none=> obtain⟨rfl,rfl,rfl⟩:=h;omega
   | some a=> exact h.elim
  | _=> exact h.elim
 | _=> exact h.elim
theorem aW.ld {x:AV}{n:Nat}{cells:List AV}(h:aW H x 1 n cells){i:Nat}(hi:i < n):ld (eU x i) H=(cells[i]?).map λv=> (v,H):=by
 obtain⟨_,h⟩:=h;cases x with
 | sl r g off esz len cap ex=>
  obtain⟨rfl,rfl,_,ty,all,h2,h3,h4⟩:=h;simp only [eU];rw [kS h2,h4,zaA,if_pos (by omega),zaC,zbI]
 | vs k' esz cs=>
  obtain⟨rfl,rfl,rfl⟩:=h;simp only [eU];rw [aj0,zaC,zbI,zbp]
 | s v=>
  cases v with
  | slice a b c=>
   cases a with
   | none=> obtain⟨rfl,rfl,rfl⟩:=h;omega
   | some a=> exact h.elim
  | _=> exact h.elim
 | _=> exact h.elim
theorem aW.aj2 {x:AV}{m n:Nat}{cells:List AV}(h:aW H x m n cells){i o:Nat}(hi:i < n)(ho:o < m):(au (eU x i) o).bind (λp=> Go.Proofs.YtgplhpgkompkmaaGreat.ld p H)=(cells[i*m+o]?).map λv=> (v,H):=by
 obtain⟨hl,h⟩:=h;have him:i*m+m<=n*m:=by
  have:(i+1)*m<=n*m:=zaB _ hi
  rwa [zbO] at this
 cases x with
 | sl r g off esz len cap ex=>
  obtain⟨rfl,rfl,_,ty,all,h2,h3,h4⟩:=h;simp only [eU,qW,za4];rw [kS h2,h4,zaA,if_pos (by omega),zaC,zb9]
 | vs k' esz cs=>
  obtain⟨rfl,rfl,rfl⟩:=h;simp only [eU,yL,za4];rw [aj0,zbE,zaC,zbp]
 | s v=>
  cases v with
  | slice a b c=>
   cases a with
   | none=> obtain⟨rfl,rfl,rfl⟩:=h;omega
   | some a=> exact h.elim
  | _=> exact h.elim
 | _=> exact h.elim
theorem aW.lda {x:AV}{m n:Nat}{cells:List AV}(h:aW H x m n cells){i:Nat}(hi:i < n):lda m (eU x i) H=some (.agg ((cells.drop (i*m)).take m),H):=by
 obtain⟨hl,h⟩:=h;have him:i*m+m<=n*m:=by
  have:(i+1)*m<=n*m:=zaB _ hi
  rwa [zbO] at this
 cases x with
 | sl r g off esz len cap ex=>
  obtain⟨rfl,rfl,_,ty,all,h2,h3,h4⟩:=h;simp only [eU];rw [gy h2 (by omega),h4,zcf,zb0,zbE,zbr (by omega)]
 | vs k' esz cs=>
  obtain⟨rfl,rfl,rfl⟩:=h;simp only [eU];rw [aj1 (by rw [zaL];omega)]
 | s v=>
  cases v with
  | slice a b c=>
   cases a with
   | none=> obtain⟨rfl,rfl,rfl⟩:=h;omega
   | some a=> exact h.elim
  | _=> exact h.elim
 | _=> exact h.elim
theorem F5 {all new:List AV}{off n:Nat}(h:off+n+new.length<=all.length):((aN all (off+n) new).drop off).take (n+new.length)=(all.drop off).take n++new:=by
 have hl:(aN all (off+n) new).length=all.length:=nR (by omega)
 apply zbg
 intro j;rcases zaW j n with h1 | h1
 ·rw [zaA,if_pos (by omega),zaC,oD (by omega),if_neg (by omega),zaN (by rw [zax,zaL];omega),zaA,if_pos h1,zaC]
 ·rcases zaW j (n+new.length) with h2 | h2
  ·rw [zaA,if_pos h2,zaC,oD (by omega),if_pos (by omega),za0 (by rw [zax,zaL];omega),zax,zaL]
   congr 1;omega
  ·rw [zaA,if_neg (by omega),za0 (by rw [zax,zaL];omega),zax,zaL,zaK (by omega)]
theorem all_append {l l':List AV}(h:l.all AV.aX=true)(h':l'.all AV.aX=true):(l++l').all AV.aX=true:=by rw [zbL,h,h'];rfl
theorem Eh {l:List AV}(h:l.all AV.aX=true)(n:Nat):(l.take n).all AV.aX=true:=by
 rw [za2] at h ⊢;exact λx hx=> h x (zcQ hx)
theorem zy {l:List AV}(h:l.all AV.aX=true)(n:Nat):(l.drop n).all AV.aX=true:=by
 rw [za2] at h ⊢;exact λx hx=> h x (List.mem_of_mem_drop hx)
def Own(b:Nat)(H:ah)(x:AV)(m:Nat)(l:List AV):Prop:=
 (x=zN/\l=[])∨∃r g off n cap ex ty all,x=.sl r g off m n cap ex/\b<=r/\r < H.next/\n<=cap/\H.get r=.blk g ty all/\off+cap*m<=all.length/\all.all AV.aX=true/\l=(all.drop off).take (n*m)
theorem Own.app {m n k:Nat}{x y:AV}{l new:List AV}(c:Own b H x m l)(hb:H.base<=b)(hm:0 < m)(hl:l.length=n*m)(hy:aW H y m k new)(hc:new.all AV.aX=true){e:TypeId}{by_:Nat}(h1:n+k<=most)(h2:(n+k)*by_<=most):
  ∃x' H1,app e m by_ x y H=some (x',H1)/\Fit H H1 x x' m (l++new)/\H.next<=H1.next/\H1.base=H.base/\∀r,r < H.next->jf x≠some r->H1.get r=H.get r:=by
 obtain⟨c1,c2⟩:=hy.Dn;have c3:=hy.1;have key:Go.Proofs.YtgplhpgkompkmaaGreat.app e m by_ x y H=dW e m by_ x k new H:=by simp only [Go.Proofs.YtgplhpgkompkmaaGreat.app,c1,c2]
 rw [key];unfold dW;rw [if_pos ⟨c3,hc⟩];rcases c with⟨rfl,rfl⟩ | ⟨r,gg,off,n',cap,ex,ty,all,rfl,k2,k3,k4,k5,k6,k7,rfl⟩
 ·simp only [zan] at hl;have hn:n=0:=by rcases zc1.1 hl.symm with h | h <;> omega
  subst hn;rw [za3] at h1 h2;by_cases hk:k=0
  ·subst hk;rw [zbq] at c3;have:new=[]:=zas c3;subst this;exact⟨zN,H,by simp only [if_true],.inl ⟨rfl,rfl⟩,zac _,rfl,λ_ _ _=> rfl⟩
  ·refine⟨.sl H.next 0 0 m k k false,H.new (.blk 0 (e+gV) new),by simp only [hk,h1,h2,and_self,if_true,if_false],.inr ⟨H.next,0,0,k,k,false,e+gV,new,rfl,.inr (zac _),by rw [Ee];omega,zac _,by simp [jd],by omega,hc,?_⟩,za6 _,rfl,λr hr _=> by rw [jd,if_neg (by omega)]⟩;rw [zaJ,zaQ,zaz (by omega)]
 ·have hcm:n'*m<=cap*m:=zaB _ k4;rw [zax,zaL,zbr (by omega)] at hl;have hn:n'=n:=zbH hm hl;subst hn;simp only [k5];rw [if_pos ⟨trivial,trivial,by omega⟩];by_cases hk:k=0
  ·subst hk;rw [zbq] at c3;have:new=[]:=zas c3;subst this;exact⟨_,H,by rw [if_pos rfl],.inr ⟨r,gg,off,n',cap,ex,ty,all,rfl,.inl rfl,k3,k4,k5,k6,k7,by rw [zbl]⟩,zac _,rfl,λ_ _ _=> rfl⟩
  ·rw [if_neg hk];by_cases hf:n'+k<=cap
   ·have hfm:(n'+k)*m<=cap*m:=zaB _ hf;rw [if_pos hf,if_pos ⟨by omega,by omega⟩];refine⟨_,_,rfl,.inr ⟨r,gg,off,n'+k,cap,ex,ty,aN all (off+n'*m) new,rfl,.inl rfl,k3,hf,by rw [dQ,if_pos rfl],?_,wE k7 hc _,?_⟩,zac _,rfl,λr' hr hne=> ?_⟩
    ·rw [zbu] at hfm;rw [nR (by omega)];exact k6
    ·rw [zbu] at hfm ⊢;rw [<-c3,F5 (by omega)]
    ·rw [dQ,if_neg];intro e';subst e';exact hne rfl
   ·rw [if_neg hf,if_pos ⟨h1,h2⟩];have e1:((all.drop off).take (n'*m)).length=n'*m:=by rw [zax,zaL];omega
    have e2:((all.drop off).take (n'*m)++new).length=(n'+k)*m:=by rw [zao,e1,c3,zbu]
    cases ex with
    | true=>
     simp only [if_true];refine⟨_,_,rfl,.inr ⟨H.next,0,0,n'+k,n'+k,false,e+gV,(all.drop off).take (n'*m)++new,rfl,.inr (zac _),by rw [Ee];omega,zac _,by simp only [jd,if_true],by rw [e2,za3];exact zac _,all_append (Eh (zy k7 _) _) hc,?_⟩,za6 _,rfl,λr' hr _=> by rw [jd,if_neg (by omega)]⟩;rw [zaQ,zaz (Nat.le_of_eq e2)]
    | false=>
     simp only [zah,if_false];rw [if_pos (by omega)];refine⟨_,_,rfl,.inr ⟨r,gg+1,0,n'+k,n'+k,false,grT e ty off,(all.drop off).take (n'*m)++new,rfl,.inl rfl,k3,zac _,by simp only [dQ,if_true],by rw [e2,za3];exact zac _,all_append (Eh (zy k7 _) _) hc,?_⟩,zac _,rfl,λr' hr hne=> ?_⟩
     ·rw [zaQ,zaz (Nat.le_of_eq e2)]
     ·rw [dQ,if_neg];intro e';subst e';exact hne rfl
theorem Cur.aoG {i m:Nat}{x:AV}{l:List AV}(c:Cur b H q i x m l):Own b H x m l:=by
 rcases c.own with h | ⟨r,gg,off,n',cap,ex,ty,all,k0,k1,k2⟩
 ·exact .inl h
 ·exact .inr ⟨r,gg,off,n',cap,ex,ty,all,k0,k2⟩
theorem Cur.app {i m n k:Nat}{x y:AV}{l new:List AV}(c:Cur b H q i x m l)(hb:H.base<=b)(hm:0 < m)(hl:l.length=n*m)(hy:aW H y m k new)(hc:new.all AV.aX=true){e:TypeId}{by_:Nat}(h1:n+k<=most)(h2:(n+k)*by_<=most):
  ∃x' H1,app e m by_ x y H=some (x',H1)/\Fit H H1 x x' m (l++new)/\H.next<=H1.next/\H1.base=H.base/\∀r,r < H.next->jf x≠some r->H1.get r=H.get r:=
 c.aoG.app hb hm hl hy hc h1 h2
theorem Own.step {m n k:Nat}{x y:AV}{l new:List AV}(c:Own b H x m l)(hbn:b<=H.next)(hb:H.base<=b)(hm:0 < m)(hl:l.length=n*m)(hy:aW H y m k new)(hc:new.all AV.aX=true){e:TypeId}{by_:Nat}(h1:n+k<=most)(h2:(n+k)*by_<=most):
  ∃x' H1,Go.Proofs.YtgplhpgkompkmaaGreat.app e m by_ x y H=some (x',H1)/\Own b H1 x' m (l++new)/\Step b H H1:=by
 obtain⟨x',H1,e1,f,n1,b1,k1⟩:=c.app hb hm hl hy hc (e:=e) (by_:=by_) h1 h2;have hx:∀r,jf x=some r->b<=r:=λr hr=> by
  rcases c with⟨rfl,_⟩ | ⟨r',g,off,n',cap,ex,ty,all,rfl,k2,_⟩
  ·cases hr
  ·simp only [jf,zaa] at hr;omega
 refine⟨x',H1,e1,?_,b1,n1,λr hr=> k1 r (by omega) λe=> by have:=hx r e;omega⟩;rcases f with f | ⟨r,g,off,n',cap,ex,ty,all,rfl,f1,f2⟩
 ·exact .inl f
 ·exact .inr ⟨r,g,off,n',cap,ex,ty,all,rfl,f1.elim (hx r) λf1=> by omega,f2⟩
theorem Own.is {m n:Nat}{x:AV}{l:List AV}(c:Own b H x m l)(hm:0 < m)(hl:l.length=n*m):aW H x m n l:=by
 refine⟨hl,?_⟩;rcases c with⟨rfl,rfl⟩ | ⟨r,g,off,n',cap,ex,ty,all,rfl,k2,k3,k4,k5,k6,k7,rfl⟩
 ·refine⟨rfl,rfl,?_⟩;simp only [zan] at hl;rcases zc1.1 hl.symm with h | h <;> omega
 ·have hcm:n'*m<=cap*m:=zaB _ k4;rw [zax,zaL,zbr (by omega)] at hl;have hn:n'=n:=zbH hm hl;subst hn;exact⟨rfl,rfl,⟨k3,k4⟩,ty,all,k5,by omega,rfl⟩
theorem Own.ext {m:Nat}{x:AV}{l:List AV}(c:Own b H x m l)(hn:H.next<=H'.next)(hg:∀r,r < H.next->H'.get r=H.get r):Own b H' x m l:=by
 rcases c with h | ⟨r,g,off,n,cap,ex,ty,all,k0,k2,k3,k4,k5,k6⟩
 ·exact .inl h
 ·exact .inr ⟨r,g,off,n,cap,ex,ty,all,k0,k2,by omega,k4,by rw [hg r k3];exact k5,k6⟩
theorem Own.new {m:Nat}{x:AV}{l:List AV}(c:Own b H x m l)(o:fU):Own b (H.new o) x m l:=c.ext (za6 _) λr hr=> by rw [jd,if_neg (by omega)]
theorem Good.append(G:Good b H g)(hb:H.base<=b)(h:g q=some cs){i m n k:Nat}{l new:List AV}(hi:cs[i]?=some (.seq m l))(hm:0 < m)(hl:l.length=n*m){x y:AV}(c:Cur b H q i x m l)(hy:aW H y m k new)(hc:new.all AV.aX=true){e:TypeId}{by_:Nat}(h1:n+k<=most)(h2:(n+k)*by_<=most):
  ∃x' H1 H2,app e m by_ x y H=some (x',H1)/\st 1 (.ref q 0 i) x' H1=some (aY,H2)/\Good b H2 (upd g q (cs.set i (.seq m (l++new))))/\Step b H H2:=by
 obtain⟨x',H1,e1,f,n1,b1,k1⟩:=c.app hb hm hl hy hc (e:=e) (by_:=by_) h1 h2;obtain⟨H2,e2,G2,b2,n2⟩:=G.seat h hi c n1 (by omega) k1 f;have hb0:=G.1;exact⟨x',H1,H2,e1,e2,G2,Step.trans ⟨b1,n1,λr hr=> k1 r (by omega) (c.low hr)⟩ b2⟩
theorem Good.elem(G:Good b H g)(hb:H.base<=b)(h:g q=some cs){i m n:Nat}{l:List AV}(hi:cs[i]?=some (.seq m l))(hm:0 < m)(hl:l.length=n*m){x:AV}(c:Cur b H q i x m l){j:Nat}(hj:j < n):
  ∃r gg off,eU x j=.ref r gg off/\∀(w o:Nat) (v:AV),v.cells.length=w->v.cells.all AV.aX=true->o+w<=m->
   ∃H',st w (.ref r gg (off+o)) v H=some (aY,H')/\Good b H' (upd g q (cs.set i (.seq m (aN l (j*m+o) v.cells))))/\Step b H H'/\H'.next=H.next:=by
 have him:j*m+m<=n*m:=by
  have:(j+1)*m<=n*m:=zaB _ hj
  rwa [zbO] at this
 rcases c.own with⟨rfl,rfl⟩ | ⟨r,gg,off,n',cap,ex,ty,all,rfl,k1,k2,k3,k4,k5,k6,k7,rfl⟩
 ·simp only [zan] at hl;omega
 ·have hcm:n'*m<=cap*m:=zaB _ k4;rw [zax,zaL,zbr (by omega)] at hl;have hn:n'=n:=zbH hm hl;subst hn;refine⟨r,gg,off+j*m,rfl,λw o v hw hv ho=> ?_⟩;obtain⟨h0,τ,hR⟩:=G;have R:=hR q cs h;obtain⟨ty',xs,h1,h2,h3,h4⟩:=R.blk;have hx0:xs[i]?=some (.sl r gg off m n' cap ex):=by
   obtain⟨arw,xs',e1,e2⟩:=c.at_;rw [h1] at e1;cases e1;exact e2
  have htag:τ r=some (q,i+1,0,0):=by
   have:=h4 i _ _ hi hx0;simp only [CR] at this;rcases this with⟨h,_⟩ | ⟨_,_,_,_,_,_,_,_,h,k,_⟩
   ·cases h
   ·cases h;exact k
  refine⟨H.put r (.blk gg ty (aN all (off+j*m+o) v.cells)),?_,?_,Step.put _ k2,rfl⟩
  ·show(match H.get r with
    | .blk g' ty cells=> if g'=gg/\H.base<=r/\some w=some v.cells.length/\v.cells.all AV.aX=true/\off+j*m+o+v.cells.length<=cells.length then some (aY,H.put r (.blk gg ty (aN cells (off+j*m+o) v.cells))) else none
    | .map ..=> none)=_
   rw [k5];simp only;rw [if_pos ⟨trivial,by omega,by rw [hw],hv,by omega⟩]
  ·refine xq (τ':=τ) h0 hR (zac _) (λr' hr ht=> ⟨rfl,?_⟩) ⟨R.tag,R.lo,R.hi,yu (xs:=xs) (by rw [dQ,if_neg (λe=> k1 e.symm)];exact h1) (R.tyl _ _ _ h1),ty',xs,by rw [dQ,if_neg (λe=> k1 e.symm)];exact h1,by simp [h2],h3,λj' cc y hcc hy=> ?_⟩
   ·rw [dQ,if_neg];intro e;subst e;exact ht _ _ _ htag
   ·rcases mP hcc with⟨rfl,rfl⟩ | ⟨hj',hcc⟩
    ·rw [hx0] at hy;cases hy;refine .inr ⟨r,gg,off,n',cap,ex,ty,_,rfl,htag,k2,k3,k4,by rw [dQ,if_pos rfl],by rw [nR (by omega)];exact k6,wE k7 hv _,?_⟩
     apply zbg
     intro p;have hlen:((all.drop off).take (n'*m)).length=n'*m:=by rw [zax,zaL];omega
     rw [oD (by omega)];rcases zaW p (n'*m) with hp | hp
     ·rw [zaA,if_pos hp,zaC,zaA,if_pos hp,zaC,oD (by omega)];by_cases hc1:j*m+o<=p/\p < j*m+o+v.cells.length
      ·rw [if_pos hc1,if_pos (by omega)];congr 1;omega
      ·rw [if_neg hc1,if_neg (by omega)]
     ·rw [zaA,if_neg (by omega),zaA,if_neg (by omega),if_neg (by omega)]
    ·refine(h4 j' cc y hcc hy).keep (zac _) λr' s t hr ht=> ⟨ht,?_⟩
     rw [dQ,if_neg];intro e;subst e;rw [htag] at ht;simp only [zaa,zad,zb5] at ht;exact hj' ht.2.1.symm
theorem Good.map(G:Good b H g)(h:g q=some cs){i:Nat}{k:IntKind}{es:List (Int × AV)}(hi:cs[i]?=some (.map k es)):
  ∃r,ld (.ref q 0 i) H=some (.mp r,H)/\(∀z n ok,lk k z (.mp r) (.s (.int k n)) ok H=some ((match qh es n with
   | some v=> if ok then .tup [v,.s (.bool true)] else v
   | none=> if ok then .tup [.s z,.s (.bool false)] else .s z),H))/\lnM (.mp r) H=some (I es.length,H)/\(H.base<=b->
   (∀n v,∃H',mup k (.mp r) (.s (.int k n)) v H=some (aY,H')/\Good b H' (upd g q (cs.set i (.map k (Ku es n v))))/\Step b H H'/\H'.next=H.next)/\
   (∀n,∃H',del k (.mp r) (.s (.int k n)) H=some (.tup [],H')/\Good b H' (upd g q (cs.set i (.map k (y9 es n))))/\Step b H H'/\H'.next=H.next)):=by
 obtain⟨h0,τ,hR⟩:=G;have R:=hR q cs h;obtain⟨ty,xs,h1,h2,h3,h4⟩:=R.blk;have hlt:i < xs.length:=by rw [h2];exact(zai.1 hi).1
 have hx:xs[i]?=some (xs[i]'hlt):=zab hlt;have:=h4 i _ _ hi hx;simp only [CR] at this;obtain⟨r,e,t1,t2,t3,t4⟩:=this;rw [e] at hx;have hrq:q≠r:=by intro e;subst e;rw [R.tag] at t1;cases t1
 have put:∀es',Good b (H.put r (.map k es')) (upd g q (cs.set i (.map k es'))):=by
  intro es';refine xq (τ':=τ) h0 hR (zac _) (λr' hr ht=> ⟨rfl,?_⟩) ⟨R.tag,R.lo,R.hi,yu (xs:=xs) (by rw [dQ,if_neg hrq];exact h1) (R.tyl _ _ _ h1),ty,xs,by rw [dQ,if_neg hrq];exact h1,by simp [h2],h3,λj c y hc hy=> ?_⟩
  ·rw [dQ,if_neg];intro e;subst e;exact ht _ _ _ t1
  ·rcases mP hc with⟨rfl,rfl⟩ | ⟨hj,hc⟩
   ·rw [hx] at hy;cases hy;exact⟨r,rfl,t1,t2,t3,by rw [dQ,if_pos rfl]⟩
   ·refine(h4 j c y hc hy).keep (zac _) λr' s t hr ht=> ⟨ht,?_⟩
    rw [dQ,if_neg];intro e;subst e;rw [t1] at ht;simp only [zaa,zad,zb5] at ht;exact hj ht.2.1.symm
 refine⟨r,by rw [kS h1,hx];rfl,λz n ok=> ?_,?_,λhb=> ⟨λn v=> ⟨H.put r (.map k (Ku es n v)),?_,put _,Step.put _ t2,rfl⟩,λn=> ⟨H.put r (.map k (y9 es n)),?_,put _,Step.put _ t2,rfl⟩⟩⟩
 ·simp only [lk,kF,bQ,zak,lkO,t4,and_self,if_true];cases qh es n <;> rfl
 ·simp only [lnM,kF,bQ,zak,aoB,t4]
 ·simp only [mup,t4];rw [if_pos ⟨trivial,trivial,by omega⟩]
 ·simp only [del,t4];rw [if_pos ⟨trivial,trivial,by omega⟩]
end
abbrev w64(n:Int):Int:=IntKind.wrap .i64 n
structure Cfg where
 aG:Int
 bn:Int
 cO:Int
 sets:Int
 ways:Int
 out:Int
 inn:Int
 init:List Int
structure Pkt where
 aO:Int
 src:Int
 dst:Int
 id:Int
 aj:Int
 ptr:Int
 aQ:Int
 flag:Bool
 data:List Int
 deriving DecidableEq
structure Opn where
 aO:Int
 addr:Int
 value:Int
 deriving DecidableEq
structure Evn where
 bG:Int
 index:Int
 done:Bool
 value:Int
 deriving DecidableEq
structure Ent where
 fwd:Int
 back:Int
 aj:Int
 used:Int
 bZ:Bool
 data:List Int
 deriving DecidableEq
structure Row where
 aQ:Int
 head:Int
 data:List Int
 deriving DecidableEq
structure bJ where
 aO:Int
 aj:Int
 id:Int
 step:Int
 aQ:Int
 head:Int
 data:List Int
 next:Int
 told:Int
 deriving DecidableEq
structure Pck where
 deliver:Bool
 at_:Int
 bit:Int
 mask:Int
def vsl {α:Type}(m:Nat)(enc:α->List AV)(l:List α):AV:=if l=[] then zN else .vs l.length m (l.flatMap enc)
def QM(n:Int):List AV:=[I n]
def dat(l:List Int):AV:=vsl 1 QM l
def Cfg.av(c:Cfg):List AV:=[I c.aG,I c.bn,I c.cO,I c.sets,I c.ways,I c.out,I c.inn,dat c.init]
def Pkt.av(p:Pkt):List AV:=[I p.aO,I p.src,I p.dst,I p.id,I p.aj,I p.ptr,I p.aQ,B p.flag,dat p.data]
def Opn.av(o:Opn):List AV:=[I o.aO,I o.addr,I o.value]
def Evn.av(e:Evn):List AV:=[I e.bG,I e.index,B e.done,I e.value]
def Ent.av(e:Ent):List AV:=[I e.fwd,I e.back,I e.aj,I e.used,B e.bZ,dat e.data]
def Row.av(r:Row):List AV:=[I r.aQ,I r.head,dat r.data]
def bJ.av(d:bJ):List AV:=[I d.aO,I d.aj,I d.id,I d.step,I d.aQ,I d.head,dat d.data,I d.next,I d.told]
def Pck.av(p:Pck):List AV:=[B p.deliver,I p.at_,I p.bit,.s (.int .u16 p.mask)]
def Pkt.zero:Pkt:=⟨0,0,0,0,0,0,0,false,[]⟩
def Opn.zero:Opn:=⟨0,0,0⟩
def Ent.zero:Ent:=⟨0,0,0,0,false,[]⟩
def Row.zero:Row:=⟨0,0,[]⟩
def bJ.zero:bJ:=⟨0,0,0,0,0,0,[],0,0⟩
theorem dR {α:Type}{enc:α->List AV}{m:Nat}(he:∀a,(enc a).length=m)(l:List α):(l.flatMap enc).length=l.length*m:=RI he l
theorem Jt {α:Type}{enc:α->List AV}{m:Nat}(he:∀a,(enc a).length=m)(H:ah)(l:List α):aW H (vsl m enc l) m l.length (l.flatMap enc):=by
 unfold vsl;split
 ·rename_i h;subst h;exact aW.nil
 ·exact aW.vs (dR he l)
theorem gZ {α:Type}{enc:α->List AV}{m:Nat}:vsl m enc ([]:List α)=zN:=by simp [vsl]
theorem Lh {α:Type}{enc:α->List AV}{m:Nat}{l:List α}(h:l≠[]):vsl m enc l=.vs l.length m (l.flatMap enc):=by simp [vsl,h]
theorem RJ {α:Type}{enc:α->List AV}{m:Nat}{l:List α}:One (vsl m enc l):=by
 unfold vsl;split
 ·exact qm
 ·exact aeG
theorem rW {l:List Int}:One (dat l):=RJ
theorem acA(n:Int):(QM n).length=1:=rfl
theorem zA(l:List Int):l.flatMap QM=l.map I:=by
 induction l with
 | nil=> rfl
 | cons a l ih=> rw [zaE,ih];rfl
theorem mQ(H:ah)(l:List Int):aW H (dat l) 1 l.length (l.map I):=by
 have:=Jt acA H l;rw [zA] at this;exact this
theorem bT(p:Pkt):p.av.length=9:=rfl
theorem gK(p:Opn):p.av.length=3:=rfl
theorem BD(p:Evn):p.av.length=4:=rfl
theorem dS(p:Ent):p.av.length=6:=rfl
theorem Ju(p:Row):p.av.length=3:=rfl
theorem Jv(p:Cfg):p.av.length=8:=rfl
theorem F6(p:bJ):p.av.length=9:=rfl
theorem Jw(p:Pck):p.av.length=4:=rfl
theorem aeH(p:Cfg):p.av.take 8=p.av:=rfl
theorem O6(p:Pkt):p.av.take 9=p.av:=rfl
theorem aeI(p:Opn):p.av.take 3=p.av:=rfl
theorem aeJ(p:Evn):p.av.take 4=p.av:=rfl
theorem aeK(p:Ent):p.av.take 6=p.av:=rfl
theorem aeL(p:Row):p.av.take 3=p.av:=rfl
theorem YL(p:bJ):p.av.take 9=p.av:=rfl
theorem aeM(p:Pck):p.av.take 4=p.av:=rfl
theorem O7 {l:List Int}:(dat l).cells=[dat l]:=rW.1
theorem nS {l:List Int}:(dat l).aX=true:=rW.2
theorem F9 {α:Type}{enc:α->List AV}{m:Nat}{l:List α}:(vsl m enc l).cells=[vsl m enc l]:=RJ.1
theorem Jy {α:Type}{enc:α->List AV}{m:Nat}{l:List α}:(vsl m enc l).aX=true:=RJ.2
theorem iF(c:Cfg):c.av.all AV.aX=true:=by simp [Cfg.av,iE,nS]
theorem aP(p:Pkt):p.av.all AV.aX=true:=by simp [Pkt.av,iE,kH,nS]
theorem rX(p:Opn):p.av.all AV.aX=true:=by simp [Opn.av,iE]
theorem Gf(p:Evn):p.av.all AV.aX=true:=by simp [Evn.av,iE,kH]
theorem kV(p:Ent):p.av.all AV.aX=true:=by simp [Ent.av,iE,kH,nS]
theorem YM(p:Row):p.av.all AV.aX=true:=by simp [Row.av,iE,nS]
theorem bC(p:bJ):p.av.all AV.aX=true:=by simp [bJ.av,iE,nS]
theorem yP(p:Pck):p.av.all AV.aX=true:=by simp [Pck.av,iE,kH]
theorem UH {α:Type}{enc:α->List AV}(h:∀a,(enc a).all AV.aX=true)(l:List α):(l.flatMap enc).all AV.aX=true:=by
 rw [za2];intro x hx;obtain⟨a,_,ha⟩:=za9.1 hx;exact za2.1 (h a) x ha
theorem iR {H:ah}{n d:Nat}:∀(l:List AV),(∀x∈l,bV H n d x=some x)->l.mapM (bV H n d)=some l
 | [],_=> rfl
 | x::l,h=> by
  rw [zbw,iR l λy hy=> h y (by simp [hy]),h x (by simp)];rfl
theorem jC {H:ah}{n d:Nat}{v:Value}:bV H n (d+1) (.s v)=some (.s v):=by rw [bV]
theorem YN {H:ah}{n d k m:Nat}{l:List AV}(h:∀x∈l,bV H n d x=some x):bV H n (d+1) (.vs k m l)=some (.vs k m l):=by
 rw [bV];simp only [iR l h,zak]
theorem Jz {H:ah}{n d:Nat}{l:List AV}(h:∀x∈l,bV H n d x=some x):bV H n (d+1) (.agg l)=some (.agg l):=by
 rw [bV];simp only [iR l h,zak]
theorem JA {H:ah}{n d:Nat}{l:List AV}(h:∀x∈l,bV H n d x=some x):bV H n (d+1) (.tup l)=some (.tup l):=by
 rw [bV];simp only [iR l h,zak]
theorem mV {H:ah}{n d r g off esz len cap:Nat}{ex:Bool}{l:List AV}(hr:n<=r){cells:List AV}(hc:dw H (.sl r g off esz len cap ex)=some cells)(hl:cells.mapM (bV H n d)=some l):bV H n (d+1) (.sl r g off esz len cap ex)=some (.vs len esz l):=by
 rw [bV];simp only [if_neg (zdI.2 hr),hc,hl,zak]
def Frz(d:Nat)(x:AV):Prop:=∀H n,bV H n d x=some x
theorem gq {v:Value}{d:Nat}:Frz (d+1) (.s v):=λ_ _=> jC
theorem aeN {d k m:Nat}{l:List AV}(h:∀x∈l,Frz d x):Frz (d+1) (.vs k m l):=λH n=> YN λx hx=> h x hx H n
theorem mW {d:Nat}{l:List AV}(h:∀x∈l,Frz d x):Frz (d+1) (.agg l):=λH n=> Jz λx hx=> h x hx H n
theorem rY {d:Nat}{l:List AV}(h:∀x∈l,Frz d x):Frz (d+1) (.tup l):=λH n=> JA λx hx=> h x hx H n
theorem ahg {α:Type}{enc:α->List AV}{m d:Nat}{l:List α}(h:∀a,∀x∈enc a,Frz (d+1) x):Frz (d+2) (vsl m enc l):=by
 unfold vsl;split
 ·exact gq
 ·refine aeN λx hx=> ?_;obtain⟨a,_,ha⟩:=za9.1 hx;exact h a x ha
theorem uM {l:List Int}{d:Nat}:Frz (d+2) (dat l):=ahg λa x hx=> by
 simp only [QM,zaM] at hx;subst hx;exact gq
section
variable {β:Type}{x:Option (AV × ah)}{H:ah}{k:AV->ah->Option β}
theorem aj3:gdA (some (.s (.bool true))) true x H k=bnd x k:=rfl
theorem aj6:gdA (some (.s (.bool true))) false x H k=k aY H:=rfl
theorem aj7:gdA (some (.s (.bool false))) true x H k=k aY H:=rfl
theorem aj8:gdA (some (.s (.bool false))) false x H k=bnd x k:=rfl
theorem aqc {a b:AV}:dG (.s (.bool true)) a b=some a:=rfl
theorem aqd {a b:AV}:dG (.s (.bool false)) a b=some b:=rfl
end
theorem YO {r g o:Nat}:aA (.ref r g o)=some (.ref r g o):=rfl
theorem aeO {l:List AV}:aA (.ip l)=some (.ip l):=rfl
theorem aeP {f:FuncId}{a c:List AV}:aA (.fn (.func f) a c)=some (.fn (.func f) a c):=rfl
theorem aeQ {l:List AV}{i:Nat}:aJ (.tup l) i=l[i]?:=rfl
theorem aeR {l:List AV}{o:Nat}:fl (.agg l) o=l[o]?:=rfl
theorem aeS {r g off:Nat}{H:ah}:ld (.ref r g off) H=match H.get r with
  | .blk g' _ cells=> if g'=g then(cells[off]?).map λv=> (v,H) else none
  | .map ..=> none:=by
 simp only [ld,kF,bQ,zak,ldO];cases H.get r with
 | map k es=> rfl
 | blk g' ty cells=> simp only;split <;> rfl
theorem RN {r g off n:Nat}{H:ah}:lda n (.ref r g off) H=match H.get r with
  | .blk g' _ cells=> if g'=g then(if off+n<=cells.length then some (.agg ((cells.drop off).take n),H) else none) else none
  | .map ..=> none:=by
 simp only [lda,kF,bQ,zak,an7];cases H.get r with
 | map k es=> rfl
 | blk g' ty cells=>
  simp only;split
  ·split <;> rfl
  ·rfl
theorem aF {t:TypeId}{l:List AV}{H:ah}(h:l.all AV.aX=true)(ht:t < 1000000000):jc t (.agg l) H=some (.ref H.next 0 0,H.new (.blk 0 t l)):=Ut h ht
theorem aeT {t:TypeId}{z:List AV}{H:ah}:alc t z H=some (.ref H.next 0 0,H.new (.blk 0 t z)):=rfl
theorem aeU {k:IntKind}{H:ah}:mkm k H=some (.mp H.next,H.new (.map k [])):=rfl
theorem leS {a b:Nat}(h:a<=b):a<=b+1:=by omega
theorem ltS {a b:Nat}(h:a < b):a < b+1:=by omega
theorem fA {H:ah}{o:fU}:(H.new o).next=H.next+1:=Eq.trans rfl rfl
theorem aqe {H:ah}{r:Nat}{o:fU}:(H.put r o).next=H.next:=Eq.trans rfl rfl
theorem jy {H:ah}{o:fU}:(H.new o).base=H.base:=Eq.trans rfl rfl
theorem aqf {H:ah}{r:Nat}{o:fU}:(H.put r o).base=H.base:=Eq.trans rfl rfl
theorem BF {H:ah}:H.guard.next=H.next:=Eq.trans rfl rfl
theorem an9 {H:ah}:H.guard.base=H.next:=Eq.trans rfl rfl
theorem aj9 {H:ah}:H.guard.get=H.get:=Eq.trans rfl rfl
theorem qo {H:ah}{o:fU}:(H.new o).get H.next=o:=by rw [jd,if_pos rfl]
theorem bF {H:ah}{o:fU}{r:Nat}(h:r=H.next):(H.new o).get r=o:=by rw [jd,if_pos h]
theorem cZ {H:ah}{o:fU}{r:Nat}(h:r < H.next):(H.new o).get r=H.get r:=by rw [jd,if_neg (by omega)]
theorem O8 {H:ah}{o:fU}{r:Nat}:(H.put r o).get r=o:=by rw [dQ,if_pos rfl]
theorem RP {n r off:Nat}{v:AV}{H:ah}:st n (.ref r 0 off) v H=match H.get r with
  | .blk g' ty cells=> if g'=0/\H.base<=r/\n=v.cells.length/\v.cells.all AV.aX=true/\off+v.cells.length<=cells.length then some (aY,H.put r (.blk 0 ty (aN cells off v.cells))) else none
  | .map ..=> none:=by
 unfold st;simp only [zaa];cases H.get r <;> rfl
theorem aeV {H:ah}{r off:Nat}{ty:TypeId}{cells:List AV}(h:r=H.next):ld (.ref r 0 off) (H.new (.blk 0 ty cells))=(cells[off]?).map λv=> (v,H.new (.blk 0 ty cells)):=kS (bF h)
theorem YP {H:ah}{r off n:Nat}{ty:TypeId}{cells:List AV}(h:r=H.next):lda n (.ref r 0 off) (H.new (.blk 0 ty cells))=if off+n<=cells.length then some (.agg ((cells.drop off).take n),H.new (.blk 0 ty cells)) else none:=by
 split
 ·rename_i hl;exact gy (bF h) hl
 ·rename_i hl;rw [RN,bF h];simp only [if_true,hl,if_false]
theorem aeW {H:ah}{r off:Nat}{o:fU}(h:r < H.next):ld (.ref r 0 off) (H.new o)=(ld (.ref r 0 off) H).map λp=> (p.1,H.new o):=by
 rw [aeS,aeS,cZ h];cases H.get r with
 | map k es=> rfl
 | blk g ty cells=> simp only;split <;> first | rfl | (cases cells[off]? <;> rfl)
theorem YQ {H:ah}{r off n:Nat}{o:fU}(h:r < H.next):lda n (.ref r 0 off) (H.new o)=(lda n (.ref r 0 off) H).map λp=> (p.1,H.new o):=by
 rw [RN,RN,cZ h];cases H.get r with
 | map k es=> rfl
 | blk g ty cells=> simp only;split <;> first | rfl | (split <;> rfl)
theorem RQ {H:ah}{a b:fU}:(H.new a).put H.next b=H.new b:=by
 unfold ah.put ah.new;simp only
 congr 1
 funext x
 split <;> rfl
theorem akb {H:ah}{r:Nat}{a b:fU}(h:r < H.next):(H.new a).put r b=(H.put r b).new a:=by
 unfold ah.put ah.new;simp only
 congr 1
 funext x
 split <;> split <;> first | rfl | (exfalso;omega)
theorem Gg {n:Nat}{H:ah}{r off:Nat}{v:AV}{ty:TypeId}{cells:List AV}(h:r=H.next):st n (.ref r 0 off) v (H.new (.blk 0 ty cells))=if H.base<=r/\n=v.cells.length/\v.cells.all AV.aX=true/\off+v.cells.length<=cells.length then some (aY,H.new (.blk 0 ty (aN cells off v.cells))) else none:=by
 subst h;rw [RP,bF rfl];simp only [true_and,jy,RQ]
theorem O9 {n:Nat}{H:ah}{r off:Nat}{v:AV}{o:fU}(h:r < H.next):st n (.ref r 0 off) v (H.new o)=(st n (.ref r 0 off) v H).map λp=> (p.1,p.2.new o):=by
 rw [RP,RP,cZ h];cases H.get r with
 | map k es=> rfl
 | blk g ty cells=>
  simp only [jy];split
  ·simp only [zak,akb h]
  ·rfl
theorem aeX {r off n:Nat}{v:AV}{ty:TypeId}{xs:List AV}{H:ah}(h:H.get r=.blk 0 ty xs)(hb:H.base<=r)(hv:v.cells.all AV.aX=true)(hn:v.cells.length=n)(hl:off+n<=xs.length):st n (.ref r 0 off) v H=some (aY,H.put r (.blk 0 ty (aN xs off v.cells))):=by
 show(match H.get r with
  | .blk g' ty cells=> if g'=0/\H.base<=r/\some n=some v.cells.length/\v.cells.all AV.aX=true/\off+v.cells.length<=cells.length then some (aY,H.put r (.blk 0 ty (aN cells off v.cells))) else none
  | .map ..=> none)=_
 rw [h];simp only;rw [if_pos ⟨trivial,hb,by rw [hn],hv,by omega⟩]
theorem dX {pl:Nat->Option (Nat × Nat)}{z:List AV}:gI pl z []=some z:=rfl
theorem Gh {pl:Nat->Option (Nat × Nat)}{z:List AV}{i off:Nat}{v:AV}{ps:List (Nat × AV)}(hp:pl i=some (off,1))(hv:v.cells=[v])(hl:off < z.length):gI pl z ((i,v)::ps)=gI pl (z.set off v) ps:=by
 rw [gI];simp only [hp,hv,zam,zan];rw [if_pos ⟨trivial,by omega⟩,O5 hl]
theorem yQ {e m:Nat}{z:List AV}{H:ah}:bsl e m z 0 [] H=some (.sl H.next 0 0 m 0 0 true,H.new (.blk 0 e [])):=rfl
theorem jS {e m:Nat}{z:List AV}{v:AV}{H:ah}(hz:z.length=m)(hv:v.cells.length=m)(hc:v.cells.all AV.aX=true):bsl e m z 1 [(0,v)] H=some (.sl H.next 0 0 m 1 1 true,H.new (.blk 0 e v.cells)):=by
 have h1:(dY z 1).length=m:=by simp [dY,hz]
 unfold bsl;rw [gI];simp only [zbq,hv,h1,za3,zac,and_self,if_true,gI];have:aN (dY z 1) 0 v.cells=v.cells:=by
  simp only [aN,zdw,zaJ,za3];rw [zaS (by omega),zbl]
 rw [this,if_pos hc]
theorem ku {e m n:Nat}{l:List AV}{H:ah}{ex:Bool}(h:l.length=n*m):aW (H.new (.blk 0 e l)) (.sl H.next 0 0 m n n ex) m n l:=
 ⟨h,rfl,rfl,⟨by rw [fA];omega,zac _⟩,e,l,by simp [jd],by omega,by rw [zaQ,zaz (by omega)]⟩
theorem sU {e m by_ r n ty:Nat}{y:AV}{cells:List AV}{H:ah}(hx:H.get r=.blk 0 ty [])(hy:aW H y m n cells)(hc:cells.all AV.aX=true)(hn:n≠0)(h1:n<=most)(h2:n*by_<=most):
  app e m by_ (.sl r 0 0 m 0 0 true) y H=some (.sl H.next 0 0 m n n false,H.new (.blk 0 (e+gV) cells)):=by
 obtain⟨c1,c2⟩:=hy.Dn;simp only [app,c1,c2];unfold dW;rw [if_pos ⟨hy.1,hc⟩];simp only [hx];rw [if_pos ⟨trivial,trivial,by simp⟩,if_neg hn,if_neg (by omega),if_pos ⟨by omega,by rw [za3];exact h2⟩];simp
theorem YR {e m by_ n:Nat}{y:AV}{cells:List AV}{H:ah}(hy:aW H y m n cells)(hc:cells.all AV.aX=true)(hn:n≠0)(h1:n<=most)(h2:n*by_<=most):
  app e m by_ zN y H=some (.sl H.next 0 0 m n n false,H.new (.blk 0 (e+gV) cells)):=by
 obtain⟨c1,c2⟩:=hy.Dn;simp only [app,c1,c2];unfold dW;rw [if_pos ⟨hy.1,hc⟩];simp only;rw [if_neg hn,if_pos ⟨h1,h2⟩]
theorem sV {P:Program}{t e:TypeId}{n m:Nat}{l:List AV}(h:P.underlying t=some (.slice e)):oQ P .eql t (.vs n m l) (.s (.slice none 0 0))=some (B false):=by
 simp [oQ,AV.val?,N8,h]
theorem BG {P:Program}{t e:TypeId}{r g o m n c:Nat}{ex:Bool}(h:P.underlying t=some (.slice e)):oQ P .eql t (.sl r g o m n c ex) (.s (.slice none 0 0))=some (B false):=by
 simp [oQ,AV.val?,N8,h]
theorem oM {P:Program}{C:aC}{f:FuncId}{a c args:List AV}{H:ah}(h:mg P f=true):rP P C (.fn (.func f) a c) args H=C f (a++args++c) H:=acn h
theorem wrap_i64 {a:Int}(h1:-9223372036854775808<=a)(h2:a<=9223372036854775807):IntKind.wrap .i64 a=a:=ajn h1 h2
theorem xq_:(type_of% @aei)/\(type_of% @ajv)/\(type_of% @Un)/\(type_of% @YG)/\(type_of% @Js)/\(type_of% @FZ)/\(type_of% @OI)/\(type_of% @decide_true)/\
 (type_of% @decide_false)/\(type_of% @aj3)/\(type_of% @aj6)/\(type_of% @aj7)/\(type_of% @aj8)/\(type_of% @Uu)/\
 (type_of% @OQ)/\(type_of% @Ur)/\(type_of% @Option.map_some.{0,0})/\(type_of% @Option.bind_some.{0,0})/\(type_of% @qW)/\(type_of% @yL)/\
 (type_of% @YO)/\(type_of% @aeO)/\(type_of% @aeP)/\(type_of% @aeQ)/\(type_of% @aeR)/\(type_of% @List.getElem?_cons_zero.{0})/\
 (type_of% @List.getElem?_cons_succ.{0})/\(type_of% @Nat.zero_add)/\(type_of% @Nat.add_zero)/\(type_of% @aqc)/\(type_of% @aqd)/\(type_of% @Yq)/\
 (type_of% @Yr)/\(type_of% @Rx)/\(type_of% @KY)/\(type_of% @Yt)/\(type_of% @Yu)/\(type_of% @Us)/\
 (type_of% @beq_self_eq_true.{0})/\(type_of% @if_true.{1})/\(type_of% @Bool.false_eq_true)/\(type_of% @if_false.{1})/\(type_of% @List.nil_append.{0})/\(type_of% @List.cons_append.{0})/\
 (type_of% @List.append_nil.{0})/\(type_of% @aeT)/\(type_of% @aeU)/\(type_of% @fA)/\(type_of% @aqe)/\(type_of% @jy)/\
 (type_of% @aqf)/\(type_of% @BF)/\(type_of% @an9):=
 ⟨@aei,@ajv,@Un,@YG,@Js,@FZ,@OI,@decide_true,@decide_false,@aj3,@aj6,@aj7,@aj8,@Uu,@OQ,@Ur,@Option.map_some.{0,0},@Option.bind_some.{0,0},@qW,@yL,@YO,@aeO,@aeP,@aeQ,@aeR,@List.getElem?_cons_zero.{0},@List.getElem?_cons_succ.{0},@Nat.zero_add,@Nat.add_zero,@aqc,@aqd,@Yq,@Yr,@Rx,@KY,@Yt,@Yu,@Us,@beq_self_eq_true.{0},@if_true.{1},@Bool.false_eq_true,@if_false.{1},@List.nil_append.{0},@List.cons_append.{0},@List.append_nil.{0},@aeT,@aeU,@fA,@aqe,@jy,@aqf,@BF,@an9⟩
theorem hq_:(type_of% @aeV)/\(type_of% @aeW)/\(type_of% @YP)/\(type_of% @YQ)/\(type_of% @Gg)/\(type_of% @O9)/\
 (type_of% @Nat.lt_add_one)/\(type_of% @ne_eq.{1})/\(type_of% @nx1)/\(type_of% @nx2)/\(type_of% @nx3)/\(type_of% @ny1)/\
 (type_of% @ny2)/\(type_of% @ny3)/\(type_of% @not_false_eq_true)/\(type_of% @List.length_cons.{0})/\(type_of% @List.length_nil.{0})/\(type_of% @List.take_succ_cons.{0})/\
 (type_of% @List.take_zero.{0})/\(type_of% @List.drop_succ_cons.{0})/\(type_of% @List.drop_zero.{0})/\(type_of% @O7)/\(type_of% @OT)/\(type_of% @Jk)/\
 (type_of% @fJ)/\(type_of% @List.all_cons.{0})/\(type_of% @List.all_nil.{0})/\(type_of% @iE)/\(type_of% @kH)/\(type_of% @nS)/\
 (type_of% @Jl)/\(type_of% @Jm)/\(type_of% @Jy)/\(type_of% @F9)/\(type_of% @Jv)/\(type_of% @bT)/\
 (type_of% @gK)/\(type_of% @BD)/\(type_of% @dS)/\(type_of% @Ju)/\(type_of% @F6)/\(type_of% @Jw)/\
 (type_of% @aeH)/\(type_of% @O6)/\(type_of% @aeI)/\(type_of% @aeJ)/\(type_of% @aeK)/\(type_of% @aeL)/\
 (type_of% @YL)/\(type_of% @aeM)/\(type_of% @iF)/\(type_of% @aP)/\(type_of% @rX)/\(type_of% @Gf)/\
 (type_of% @kV)/\(type_of% @YM)/\(type_of% @bC)/\(type_of% @yP)/\(type_of% @List.drop_nil.{0})/\(type_of% @Bool.and_true)/\
 (type_of% @Bool.and_self)/\(type_of% @and_self)/\(type_of% @Nat.le_refl)/\(type_of% @true_and)/\(type_of% @and_true)/\(type_of% @Nat.le_add_right)/\
 (type_of% @leS)/\(type_of% @ltS):=
 ⟨@aeV,@aeW,@YP,@YQ,@Gg,@O9,@Nat.lt_add_one,@ne_eq.{1},@nx1,@nx2,@nx3,@ny1,@ny2,@ny3,@not_false_eq_true,@List.length_cons.{0},@List.length_nil.{0},@List.take_succ_cons.{0},@List.take_zero.{0},@List.drop_succ_cons.{0},@List.drop_zero.{0},@O7,@OT,@Jk,@fJ,@List.all_cons.{0},@List.all_nil.{0},@iE,@kH,@nS,@Jl,@Jm,@Jy,@F9,@Jv,@bT,@gK,@BD,@dS,@Ju,@F6,@Jw,@aeH,@O6,@aeI,@aeJ,@aeK,@aeL,@YL,@aeM,@iF,@aP,@rX,@Gf,@kV,@YM,@bC,@yP,@List.drop_nil.{0},@Bool.and_true,@Bool.and_self,@and_self,@Nat.le_refl,@true_and,@and_true,@Nat.le_add_right,@leS,@ltS⟩
def sW(g g':bD):Prop:=∀q cs,g q=some cs->g' q=some cs
theorem sW.refl(g:bD):sW g g:=λ_ _ h=> h
theorem sW.more {g g':bD}(h:sW g g'){n:Nat}(hn:g n=none)(c:List Cell):sW g (upd g' n c):=λq cs hq=> by
 rw [aZ (λe=> by rw [e,hn] at hq;cases hq)];exact h q cs hq
theorem sW.both {g g':bD}(h:sW g g')(n:Nat)(c:List Cell):sW (upd g n c) (upd g' n c):=λq cs hq=> by
 by_cases e:q=n
 ·subst e;rw [aU] at hq ⊢;exact hq
 ·rw [aZ e] at hq ⊢;exact h q cs hq
theorem zC {g:bD}{q n:Nat}{c:List Cell}(h:g n=none)(hne:n≠q):upd g q c n=none:=by rw [aZ hne];exact h
section
variable {b:Nat}{H H':ah}{g:bD}{q:Nat}{cs:List Cell}
theorem Cur.length {i m n:Nat}{x:AV}{l:List AV}(c:Cur b H q i x m l)(hm:0 < m)(hl:l.length=n*m):(x=zN/\n=0)∨∃r g off cap ex ty all,x=.sl r g off m n cap ex/\r≠q/\b<=r/\r < H.next/\n<=cap/\H.get r=.blk g ty all/\off+cap*m<=all.length/\all.all AV.aX=true/\l=(all.drop off).take (n*m):=by
 rcases c.own with⟨rfl,rfl⟩ | ⟨r,g,off,n',cap,ex,ty,all,rfl,k1,k2,k3,k4,k5,k6,k7,rfl⟩
 ·left;simp only [zan] at hl;refine⟨rfl,?_⟩;rcases zc1.1 hl.symm with h | h <;> omega
 ·right;have h1:n'*m<=cap*m:=zaB _ k4;rw [zax,zaL,zbr (by omega)] at hl;have:n'=n:=zbH hm hl;subst this;exact⟨r,g,off,cap,ex,ty,all,rfl,k1,k2,k3,k4,k5,k6,k7,rfl⟩
theorem akc {r gg off m len cap:Nat}{ex:Bool}{k1 k2:IntKind}{lo hi:Int}(h0:0<=lo)(h1:lo<=hi)(h2:hi<=cap):slS m (.sl r gg off m len cap ex) (some (.s (.int k1 lo))) (some (.s (.int k2 hi))) none=some (.sl r gg (off+lo.toNat*m) m (hi.toNat - lo.toNat) (cap - lo.toNat) ex):=by
 have h3:0<=hi:=by omega
 simp only [slS,jl,h0,h3,if_true,isNone,zae,zdc];rw [if_pos ⟨trivial,by omega,by omega,by omega,by simp⟩]
theorem YS {r gg off m len cap:Nat}{ex:Bool}{k2:IntKind}{hi:Int}(h0:0<=hi)(h2:hi<=cap):slS m (.sl r gg off m len cap ex) none (some (.s (.int k2 hi))) none=some (.sl r gg off m hi.toNat cap ex):=by
 simp only [slS,jl,h0,if_true,isNone,zae,zdc];rw [if_pos ⟨trivial,by omega,by omega,by omega,by simp⟩];simp
theorem Ei {r gg off m len cap:Nat}{ex:Bool}{k1:IntKind}{lo:Int}(h0:0<=lo)(h1:lo<=len)(h2:len<=cap):slS m (.sl r gg off m len cap ex) (some (.s (.int k1 lo))) none none=some (.sl r gg (off+lo.toNat*m) m (len - lo.toNat) (cap - lo.toNat) ex):=by
 simp only [slS,jl,h0,if_true,isNone,zae,zdc];rw [if_pos ⟨trivial,by omega,by omega,by omega,by simp⟩]
theorem ahh {r gg off m len cap:Nat}{ex:Bool}{k1 k2 k3:IntKind}{lo hi mx:Int}(h0:0<=lo)(h1:lo<=hi)(h2:hi<=mx)(h3:mx<=cap):slS m (.sl r gg off m len cap ex) (some (.s (.int k1 lo))) (some (.s (.int k2 hi))) (some (.s (.int k3 mx)))=some (.sl r gg (off+lo.toNat*m) m (hi.toNat - lo.toNat) (mx.toNat - lo.toNat) true):=by
 have h4:0<=hi:=by omega
 have h5:0<=mx:=by omega
 simp only [slS,jl,h0,h4,h5,if_true,isNone,zal,zdn];rw [if_pos ⟨trivial,by omega,by omega,by omega,by simp⟩]
theorem BH {z:List AV}(h:z.all AV.aX=true):∀n,(dY z n).all AV.aX=true
 | 0=> rfl
 | n+1=> by rw [dY,zbL,h,BH h n];rfl
theorem UJ {i m n:Nat}{x:AV}{l z:List AV}(c:Cur b H q i x m l)(hb:H.base<=b)(hm:0 < m)(hl:l.length=n*m)(hn:n < 1000000000){j:Nat}(hj:j < n)(hz:z.length=m)(hzc:z.all AV.aX=true){e:TypeId}{by_:Nat}(hby:by_ < 1000):
  ∃y x1 x2 x3 H1 x4 H2,slS m x (some (I j)) (some (I (j+1))) (some (I n))=some y/\slS m x none (some (I j)) none=some x1/\slS m x (some (I (j+1))) none none=some x2/\app e m by_ x1 x2 H=some (x3,H1)/\
   lnS x3 H1=some (I ((n:Int) - 1),H1)/\slS m x3 (some (I ((n:Int) - 1))) (some (I n)) none=some x4/\clr m z x4 H1=some (.tup [],H2)/\
   Fit H H2 x x3 m (l.take (j*m)++l.drop ((j+1)*m))/\H2.next=H.next/\H2.base=H.base/\∀r,jf x≠some r->H2.get r=H.get r:=by
 rcases c.length hm hl with⟨_,h0⟩ | ⟨r,gg,off,cap,ex,ty,all,rfl,k1,k2,k3,k4,k5,k6,k7,rfl⟩
 ·omega
 have hjm:(j+1)*m<=n*m:=zaB _ hj;have hcm:n*m<=cap*m:=zaB _ k4;have hj1:(j+1)*m=j*m+m:=zbO j m;have hnj:(n - (j+1))*m=n*m - (j+1)*m:=Nat.sub_mul n (j+1) m;have hn1:(n - 1)*m=n*m - m:=by rw [Nat.sub_mul,zbo]
 let new:=(all.drop (off+(j+1)*m)).take ((n - (j+1))*m);have hnew:new.length=(n - (j+1))*m:=by simp only [new];rw [zax,zaL];omega
 let all1:=aN all (off+j*m) new;have akd:all1.length=all.length:=nR (by omega);let all2:=aN all1 (off+(n - 1)*m) (dY z 1);have hz1:(dY z 1).length=m:=by simp [dY,hz]
 have aqz:all2.length=all.length:=by rw [nR (by omega)];exact akd
 have hc1:all1.all AV.aX=true:=wE k7 (Eh (zy k7 _) _) _;have hc2:all2.all AV.aX=true:=wE hc1 (BH hzc 1) _;have happ:app e m by_ (.sl r gg off m j cap ex) (.sl r gg (off+(j+1)*m) m (n - (j+1)) (cap - (j+1)) ex) H=some (.sl r gg off m (n - 1) cap ex,H.put r (.blk gg ty all1)):=by
  have hs:dw H (.sl r gg (off+(j+1)*m) m (n - (j+1)) (cap - (j+1)) ex)=some new:=by
   simp only [dw,k5];rw [if_pos ⟨trivial,by omega⟩]
  simp only [app,jV,hs];unfold dW;rw [if_pos ⟨hnew,Eh (zy k7 _) _⟩];simp only [k5];rw [if_pos ⟨trivial,trivial,by omega⟩];by_cases h0:n - (j+1)=0
  ·rw [if_pos h0];have hn0:new=[]:=zas (by rw [hnew,h0,zbq]);have:all1=all:=by
    simp only [all1,hn0,aN,zaJ,zan,zbp,zcl]
   rw [this,show j=n - 1 by omega]
   congr 2
   ·unfold ah.put;have:(λx=> if x=r then fU.blk gg ty all else H.get x)=H.get:=by
     funext x
     split
     ·rename_i e;rw [e,k5]
     ·rfl
    rw [this]
  ·rw [if_neg h0,if_pos (by omega),if_pos ⟨by omega,by
    have:(j+(n - (j+1)))*m<=cap*m:=zaB _ (by omega);omega⟩]
   rw [show j+(n - (j+1))=n - 1 by omega]
 refine⟨_,.sl r gg off m j cap ex,.sl r gg (off+(j+1)*m) m (n - (j+1)) (cap - (j+1)) ex,.sl r gg off m (n - 1) cap ex,H.put r (.blk gg ty all1),.sl r gg (off+(n - 1)*m) m 1 (cap - (n - 1)) ex,(H.put r (.blk gg ty all1)).put r (.blk gg ty all2),ahh (by omega) (by omega) (by omega) (by omega),?_,?_,happ,?_,?_,?_,.inr ⟨r,gg,off,n - 1,cap,ex,ty,all2,rfl,.inl rfl,k3,by omega,by simp [dQ],by omega,hc2,?_⟩,rfl,rfl,?_⟩
 ·exact YS (by omega) (by omega)
 ·have:=Ei (r:=r) (gg:=gg) (off:=off) (m:=m) (len:=n) (cap:=cap) (ex:=ex) (k1:=.i64) (lo:=(j:Int)+1) (by omega) (by omega) k4;rw [show((j:Int)+1).toNat=j+1 by omega] at this;exact this
 ·simp only [lnS,kF,aoA,zak]
  congr 5
  omega
 ·have:=akc (r:=r) (gg:=gg) (off:=off) (m:=m) (len:=n - 1) (cap:=cap) (ex:=ex) (k1:=.i64) (k2:=.i64) (lo:=(n:Int) - 1) (hi:=n) (by omega) (by omega) (by omega);rw [show((n:Int) - 1).toNat=n - 1 by omega,show(n:Int).toNat=n by omega,show n - (n - 1)=1 by omega] at this;exact this
 ·simp only [clr,Nat.one_ne_zero,if_false,dQ,if_true];rw [if_pos ⟨trivial,trivial,by rw [aco];omega,hz,hzc,by rw [akd];omega⟩]
 ·-- what is there then
  apply zbg
  intro p;have hlt:((all.drop off).take (n*m)).length=n*m:=by rw [zax,zaL];omega
  rcases zaW p (j*m) with h1 | h1
  ·rw [zaN (by rw [zax];omega),zaA,if_pos h1,zaA,if_pos (by omega),zaA,if_pos (by omega),zaC,zaC];rw [oD (by omega),if_neg (by omega),oD (by omega),if_neg (by omega)]
  ·rw [za0 (by rw [zax];omega),zax,hlt,zbr (by omega),zaC];rcases zaW p ((n - 1)*m) with h2 | h2
   ·rw [zaA,if_pos (by omega),zaC,zaA,if_pos h2,zaC];rw [oD (by omega),if_neg (by omega),oD (by omega),if_pos (by omega)];simp only [new];rw [zaA,if_pos (by omega),zaC]
    congr 1;omega
   ·rw [zaK (by rw [hlt];omega),zaK (by rw [zax,zaL];omega)]
 ·intro r' hr';have:r'≠r:=λe=> hr' (by rw [e];rfl);rw [dQ,if_neg this,dQ,if_neg this]
theorem ake {e m by_:Nat}{z:List AV}{n:Int}{H:ah}(hz:z.length=m)(hc:z.all AV.aX=true)(h0:0<=n)(h1:n<=1000000)(hb:by_<=1000):mks e m by_ z (I n) (I n) H=some (.sl H.next 0 0 m n.toNat n.toNat true,H.new (.blk 0 e (dY z n.toNat))):=by
 have h3:(by_:Int)*n<=140737488355328:=by
  have:(by_:Int)*n<=1000*1000000:=zb1 (by omega) h1 h0 (by omega);omega
 simp only [mks];rw [if_pos ⟨hz,hc,h0,zba _,by omega,h3⟩]
theorem sZ {v:AV}:∀n,dY [v] n=List.replicate n v
 | 0=> rfl
 | n+1=> by rw [dY,sZ n];rfl
theorem aW.from_ {x:AV}{m n:Nat}{cells:List AV}(h:aW H x m n cells){k:IntKind}{lo:Int}(h0:0<=lo)(h1:lo<=n):∃y,slS m x (some (.s (.int k lo))) none none=some y/\aW H y m (n - lo.toNat) (cells.drop (lo.toNat*m)):=by
 obtain⟨hl,h⟩:=h;have hlm:lo.toNat*m<=n*m:=zaB _ (by omega);have hsub:(n - lo.toNat)*m=n*m - lo.toNat*m:=Nat.sub_mul n lo.toNat m;cases x with
 | sl r g off esz len cap ex=>
  obtain⟨rfl,rfl,⟨hr,hc⟩,ty,all,h2,h3,h4⟩:=h;refine⟨_,Ei h0 h1 hc,by rw [zaL,hl,hsub],rfl,rfl,⟨hr,by omega⟩,ty,all,h2,by rw [hsub];omega,?_⟩;rw [h4,zcf,zbE,hsub]
 | vs k' esz cs=>
  obtain⟨rfl,rfl,rfl⟩:=h;refine⟨.vs (k' - lo.toNat) esz ((cs.drop (lo.toNat*esz)).take ((k' - lo.toNat)*esz)),?_,by rw [zaL,hl,hsub],rfl,rfl,?_⟩
  ·simp only [slS,jl,h0,if_true];rw [if_pos ⟨trivial,by omega,by omega⟩]
  ·rw [zaz (by rw [zaL,hl,hsub];exact zac _)]
 | s v=>
  cases v with
  | slice a b c=>
   cases a with
   | none=>
    obtain⟨rfl,rfl,rfl⟩:=h;have h3:lo=0:=by omega
    subst h3;refine⟨zN,by simp [slS,jl],?_,rfl,rfl,rfl⟩
    simpa using hl
   | some a=> exact h.elim
  | _=> exact h.elim
 | _=> exact h.elim
theorem akf {r g off m len cap ty n:Nat}{ex:Bool}{cells new:List AV}{y:AV}(hx:H.get r=.blk g ty cells)(hb:H.base<=r)(hl:off+len*m<=cells.length)(hy:aW H y m n new)(hc:new.all AV.aX=true):
  ∃H',cpy m (.sl r g off m len cap ex) y H=some (I ((min n len:Nat):Int),H')/\H'.get r=.blk g ty (aN cells off (new.take (min n len*m)))/\(∀r',r'≠r->H'.get r'=H.get r')/\H'.next=H.next/\H'.base=H.base:=by
 obtain⟨c1,c2⟩:=hy.Dn;have c3:=hy.1;have s1:jV (AV.sl r g off m len cap ex)=some len:=rfl;simp only [cpy,s1,c1,c2];rw [if_pos ⟨c3,hc⟩];by_cases hk:min n len=0
 ·refine⟨H,by rw [if_pos hk,hk];rfl,?_,λ_ _=> rfl,rfl,rfl⟩;rw [hx,hk,zbq,zdw];simp only [aN,zaJ,zan,zbp,zcl]
 ·rw [if_neg hk];simp only [hx];rw [if_pos ⟨trivial,trivial,hb,hl⟩];exact⟨_,rfl,by rw [dQ,if_pos rfl],λr' hr=> by rw [dQ,if_neg hr],rfl,rfl⟩
end
def jg {α:Type}:List (Int × α)->Int->Option α
 | [],_=> none
 | (k,v)::l,n=> if k=n then some v else jg l n
def lG {α:Type}:List (Int × α)->Int->α->List (Int × α)
 | [],n,x=> [(n,x)]
 | (k,v)::l,n,x=> if k=n then(n,x)::l else(k,v)::lG l n x
def xX {α:Type}:List (Int × α)->Int->List (Int × α)
 | [],_=> []
 | (k,v)::l,n=> if k=n then l else(k,v)::xX l n
section
variable {α:Type}(f:α->AV)
def YT(l:List (Int × α)):List (Int × AV):=l.map λe=> (e.1,f e.2)
theorem xu:∀(l:List (Int × α)) (n:Int),qh (YT f l) n=(jg l n).map f
 | [],_=> rfl
 | (k,v)::l,n=> by
  simp only [YT,zaw,qh,jg];by_cases h:k=n
  ·simp [h]
  ·simp only [h,if_false];exact xu l n
theorem Gl:∀(l:List (Int × α)) (n:Int) (x:α),Ku (YT f l) n (f x)=YT f (lG l n x)
 | [],_,_=> rfl
 | (k,v)::l,n,x=> by
  simp only [YT,zaw,Ku,lG];by_cases h:k=n
  ·simp [h]
  ·simp only [h,if_false,zaw,zbK,true_and];exact Gl l n x
theorem UK:∀(l:List (Int × α)) (n:Int),y9 (YT f l) n=YT f (xX l n)
 | [],_=> rfl
 | (k,v)::l,n=> by
  simp only [YT,zaw,y9,xX];by_cases h:k=n
  ·simp [h]
  ·simp only [h,if_false,zaw,zbK,true_and];exact UK l n
end
abbrev qY(n most:Int):Bool:=decide (1<=n) && decide (n<=most)
def Cfg.ok(c:Cfg):Bool:=
 qY c.aG 6 && qY c.bn 8 && qY c.cO 4 && qY c.sets 4 && qY c.ways 3 && qY c.out 8 && qY c.inn 8 && decide ((c.init.length:Int)<=c.bn*c.cO)
def yw(aj by_:Int):Int:=if aj < 0 then -1 else aj % by_
def Cfg.bf(c:Cfg)(aj:Int):Int:=yw aj c.aG
def Cfg.tq(c:Cfg):Int:=c.bn*c.cO
def Cfg.bM(c:Cfg)(a:Int):Int:=if a < 0∨c.tq<=a then -1 else a / c.cO
def Cfg.dh(c:Cfg)(a:Int):Int:=if a < 0∨c.tq<=a then 0 else a % c.cO
def Cfg.first(c:Cfg)(aj:Int):List Int:=
 if aj < 0∨c.bn<=aj then [] else(List.range c.cO.toNat).map λi=> c.init.getD ((aj*c.cO).toNat+i) 0
def Cfg.right(c:Cfg)(o:Opn):Bool:=decide (1<=o.aO) && decide (o.aO<=4) && decide (c.bM o.addr≠-1) && (decide (o.value=0) || decide (o.aO=2) || decide (o.aO=3))
def Cfg.xY(c:Cfg)(ps:List (List Opn)):Bool:=(ps.all λl=> decide (l.length<=24) && l.all c.right) && decide ((ps.length:Int)=c.aG)
def qK(k:Int):Bool:=decide (1<=k) && decide (k<=6)
def BI(k:Int):Int:=if k=1 then 7 else if k=2∨k=4∨k=5 then 8 else if k=3∨k=6 then 9 else 0
def Pkt.ok(p:Pkt):Bool:=
 decide (0<=p.src) && decide (p.src < 6) && decide (0<=p.dst) && decide (p.dst < 6) && decide (0<=p.id) && decide (p.id < 4096) && decide (1<=p.aO) && decide (p.aO < 10) && decide (0<=p.aj) && decide (p.aj < 8) &&
 decide (-1<=p.ptr) && decide (p.ptr < 6) && decide (0<=p.aQ) && decide (p.aQ < 3) && decide (p.data.length<=4)
structure Cache where
 l:List Ent
 sets:Int
 ways:Int
 bW:Int
def Cache.at_(c:Cache)(aj:Int):Option Nat:=c.l.findIdx? λe=> decide (e.aj=aj)
def Cache.nT(c:Cache)(aj:Int):List Ent:=c.l.filter λe=> decide (0<=aj) && decide (e.aj.tmod c.sets=aj.tmod c.sets)
def Cache.find(c:Cache)(aj:Int):Option Ent:=c.l.find? λe=> decide (e.aj=aj)
def Cache.full(c:Cache)(aj:Int):Bool:=(c.find aj).isNone && decide (c.ways<=(c.nT aj).length)
def Cache.put(c:Cache)(e:Ent):Cache × Int:=
 if e.aj < 0 then(c,1) else
 match c.at_ e.aj with
 | some i=> ({ c with l:=c.l.set i { e with used:=(c.l.getD i .zero).used } },0)
 | none=> if c.full e.aj then(c,5) else({ c with l:=c.l++[{ e with used:=c.bW+1 }],bW:=c.bW+1 },0)
def Cache.drop(c:Cache)(aj:Int):Cache:=
 match c.at_ aj with
 | some i=> { c with l:=c.l.eraseIdx i }
 | none=> c
def Cache.touch(c:Cache)(aj:Int):Cache:=
 match c.at_ aj with
 | some i=> { c with l:=c.l.set i { c.l.getD i .zero with used:=c.bW+1 },bW:=c.bW+1 }
 | none=> c
def mX:List Ent->Option Ent
 | []=> none
 | e::l=> some (l.foldl (λm x=> if x.used < m.used then x else m) e)
def Cache.nH(c:Cache)(aj:Int):Option Int:=(mX (c.nT aj)).map (·.aj)
structure Turns where
 fP:List (Int × Int)
 wait:List (Int × List (Int × Int))
def Turns.owner(t:Turns)(aj:Int):Int:=(jg t.fP aj).getD (-1)
def Turns.owned(t:Turns)(aj:Int):Bool:=(jg t.fP aj).isSome
def Turns.ws(t:Turns)(aj:Int):List (Int × Int):=(jg t.wait aj).getD []
def Turns.ask(t:Turns)(aj who id:Int):Turns × Bool:=
 if who < 0 then(t,false) else
 if t.owned aj || !(t.ws aj).isEmpty then({ t with wait:=lG t.wait aj (t.ws aj++[(who,id)]) },false)
 else({ t with fP:=lG t.fP aj who },true)
def Turns.release(t:Turns)(aj who:Int):Turns × Int:=
 if jg t.fP aj=some who then({ t with fP:=xX t.fP aj },0) else(t,6)
def Turns.next(t:Turns)(aj:Int):Turns × Option (Int × Int):=
 if t.owned aj then(t,none) else
 match t.ws aj with
 | []=> (t,none)
 | w::ws=> ({ fP:=lG t.fP aj w.1,wait:=lG t.wait aj ws },some w)
def Turns.ready(t:Turns)(keys:List Int):List Int:=keys.filter λaj=> !t.owned aj && !(t.ws aj).isEmpty
abbrev Rows:=List (Int × Row)
def iw(c:Cfg)(dH:Rows)(aj aQ head:Int)(data:List Int):Rows × Int:=
 match jg dH aj with
 | none=> (dH,3)
 | some r=>
  if aQ < 0∨2 < aQ∨head < -1∨c.aG<=head then(dH,1)
  else if(decide (head=-1) !=decide (aQ=0)) || (decide (data≠[]) && decide ((data.length:Int)≠c.cO)) then(dH,1)
  else(lG dH aj ⟨aQ,head,if data=[] then r.data else data⟩,0)
structure Home where
 dH:Rows
 aT:Turns
def jo(dH:Rows)(aj:Int):Row:=(jg dH aj).getD .zero
def granted(dH:Rows)(bG aj who id:Int):Pkt:=⟨7,bG,who,id,aj,(jo dH aj).head,(jo dH aj).aQ,false,(jo dH aj).data⟩
def Home.unlock(c:Cfg)(h:Home)(p:Pkt):Home × Int:=
 if h.aT.owner p.aj≠p.src then(h,6) else
 let r:=iw c h.dH p.aj p.aQ p.ptr (if p.flag then p.data else [])
 if r.2=0 then(⟨r.1,(h.aT.release p.aj p.src).1⟩,(h.aT.release p.aj p.src).2) else(h,r.2)
def Home.handle(c:Cfg)(bG:Int)(h:Home)(p:Pkt):Home × Pkt × Bool × Int:=
 if !(p.ok && decide (p.dst=bG) && decide (p.src < c.aG)) || (decide (p.aO≠1) && decide (p.aO≠2)) then(h,.zero,false,1)
 else if c.bf p.aj≠bG∨c.bn<=p.aj then(h,.zero,false,3)
 else if p.aO=1 then
  let a:=h.aT.ask p.aj p.src p.id
  if a.2=true then({ h with aT:=a.1 },granted h.dH bG p.aj p.src p.id,true,0) else({ h with aT:=a.1 },.zero,false,0)
 else
  let u:=h.unlock c p
  if u.2=0 then(u.1,⟨8,bG,p.src,p.id,p.aj,0,0,false,[]⟩,true,0) else(u.1,.zero,false,u.2)
def fG(c:Cache)(p:Pkt):Cache × Pkt × Int:=
 if !p.ok || decide (p.aO < 3) || decide (6 < p.aO) then(c,.zero,1) else
 match c.find p.aj with
 | none=> (c,.zero,2+1)
 | some e=>
  let out:Pkt:=⟨BI p.aO,p.dst,p.src,p.id,p.aj,0,0,false,[]⟩
  if p.aO=3 then let r:=c.put { e with bZ:=false,back:=p.ptr };(r.1,{ out with data:=e.data,flag:=e.bZ },r.2)
  else if p.aO=4 then let r:=c.put { e with fwd:=p.ptr };(r.1,out,r.2)
  else if p.aO=5 then let r:=c.put { e with back:=p.ptr };(r.1,out,r.2)
  else(c.drop p.aj,{ out with data:=e.data,flag:=e.bZ,ptr:=e.fwd },0)
def bJ.begin(aO aj id:Int):bJ:=⟨aO,aj,id,1,0,-1,[],-1,-1⟩
def zD(step:Int):Int:=if step=1 then 1 else if step=2 then 3 else if step=3 then 6 else if step=4 then 4 else if step=5 then 5 else if step=6 then 2 else 0
def bJ.ask(d:bJ)(bG home:Int):Pkt:=
 if d.step=1 then⟨1,bG,home,d.id,d.aj,0,0,false,[]⟩
 else if d.step=2 then⟨3,bG,d.head,d.id,d.aj,bG,0,false,[]⟩
 else if d.step=3 then⟨6,bG,d.next,d.id,d.aj,0,0,false,[]⟩
 else if d.step=4 then⟨4,bG,d.head,d.id,d.aj,d.next,0,false,[]⟩
 else if d.step=5 then⟨5,bG,d.next,d.id,d.aj,d.head,0,false,[]⟩
 else if d.step=6 then⟨2,bG,home,d.id,d.aj,d.head,d.aQ,decide (d.data≠[]),d.data⟩
 else .zero
def bJ.fits(d:bJ)(p:Pkt):Bool:=
 decide (BI (zD d.step)≠0) && decide (p.aO=BI (zD d.step)) && decide (p.id=d.id) && decide (p.aj=d.aj)
abbrev Nxt:=Cache × bJ × Bool
def vO(c:Cache):Nxt:=(c,.zero,false)
def dU(d:bJ)(bG:Int)(c:Cache)(p:Pkt):Nxt:=
 if d.aO≠1∨d.fits p=false then vO c
 else if d.step=1 then
  if p.aQ≠0 then(c,{ d with aQ:=p.aQ,head:=p.ptr,told:=p.ptr,data:=p.data,step:=2 },true)
  else((c.put ⟨-1,-1,d.aj,0,false,p.data⟩).1,{ d with told:=p.ptr,step:=6,aQ:=1,head:=bG,data:=[] },true)
 else if d.step=2 then
  ((c.put ⟨d.head,-1,d.aj,0,false,p.data⟩).1,{ d with step:=6,aQ:=1,head:=bG,data:=if p.flag then p.data else [] },true)
 else if d.step=6 then(c,{ d with step:=0 },true)
 else vO c
def dD(d:bJ)(bG:Int)(c:Cache):Cache × bJ:=
 let d:bJ:=match c.find d.aj with
  | some own=> if d.next=bG then { d with next:=own.fwd } else d
  | none=> d
 if d.next≠-1 then(c,{ d with step:=3 })
 else((c.put ⟨-1,-1,d.aj,0,true,d.data⟩).1,{ d with step:=6,aQ:=2,head:=bG,data:=[] })
def dV(d:bJ)(bG:Int)(c:Cache)(p:Pkt):Nxt:=
 if d.aO≠2∨d.fits p=false then vO c
 else if d.step=1 then
  let r:=dD { d with aQ:=p.aQ,head:=p.ptr,told:=p.ptr,data:=(match c.find d.aj with | some own=> own.data | none=> p.data),next:=p.ptr } bG c
  (r.1,r.2,true)
 else if d.step=3 then
  let r:=dD { d with data:=(match c.find d.aj with | some _=> d.data | none=> p.data),next:=p.ptr } bG c
  (r.1,r.2,true)
 else if d.step=6 then(c,{ d with step:=0 },true)
 else vO c
def gB(d:bJ)(c:Cache)(head:Int):Nxt:=(c.drop d.aj,{ d with step:=6,aQ:=1,head:=head,data:=[] },true)
def eu(d:bJ)(c:Cache)(p:Pkt):Nxt:=
 if d.aO≠3∨d.fits p=false then vO c
 else if d.step=1 then
  let d:bJ:={ d with aQ:=p.aQ,head:=p.ptr,told:=p.ptr,data:=[],step:=6 }
  match c.find d.aj with
  | none=> (c,d,true)
  | some e=>
   if e.back=-1/\e.fwd=-1 then(c.drop d.aj,{ d with aQ:=0,head:=-1,data:=if e.bZ then e.data else [] },true)
   else if e.back=-1 then(c,{ d with head:=-1,next:=e.fwd,step:=5 },true)
   else(c,{ d with head:=e.back,next:=e.fwd,step:=4 },true)
 else if d.step=4 then
  if d.next=-1 then gB d c d.told else(c,{ d with step:=5 },true)
 else if d.step=5 then
  if d.head=-1 then gB d c d.next else gB d c d.told
 else if d.step=6 then(c,{ d with step:=0 },true)
 else vO c
structure Proc where
 ops:List Opn
 bH:List Int
 eF:Bool
def Proc.cur(p:Proc):Option Opn:=p.ops[p.bH.length]?
def Proc.left(p:Proc):Int:=(p.ops.length:Int) - p.bH.length
structure Port where
 rq:List Pkt
 rin:List Pkt
 an:List Pkt
 ain:List Pkt
def Port.sort(p:Port)(req:Bool):List Pkt:=if req then p.rq else p.an
def Port.qL(p:Port)(req:Bool):List Pkt:=if req then p.rin else p.ain
def Port.kC(p:Port)(req:Bool)(l:List Pkt):Port:=if req then { p with rq:=l } else { p with an:=l }
def Port.kM(p:Port)(req:Bool)(l:List Pkt):Port:=if req then { p with rin:=l } else { p with ain:=l }
def Port.zero:Port:=⟨[],[],[],[]⟩
structure Fab where
 out:Int
 inn:Int
 l:List Port
def Fab.is(f:Fab)(bG:Int):Bool:=decide (0<=bG) && decide (bG < f.l.length)
def Fab.port(f:Fab)(bG:Int):Port:=f.l.getD bG.toNat .zero
def Fab.room(f:Fab)(req:Bool):Int:=if req then f.inn else 1
def Fab.put(f:Fab)(bG:Int)(p:Port):Fab:={ f with l:=f.l.set bG.toNat p }
def Fab.send(f:Fab)(p:Pkt):Fab × Int:=
 if !p.ok || !f.is p.src || !f.is p.dst then(f,1) else
 if(f.out:Int)<=((f.port p.src).sort (qK p.aO)).length then(f,5)
 else(f.put p.src ((f.port p.src).kC (qK p.aO) ((f.port p.src).sort (qK p.aO)++[p])),0)
def Fab.iV(f:Fab):List (List Pkt):=f.l.flatMap λp=> [p.rq,p.an]
def Fab.all(f:Fab):List Pkt:=f.l.flatMap λp=> p.rq++p.an
def Fab.under(f:Fab):Nat:=f.all.length
def zF:List Port->Nat->Nat->Option (Nat × Bool × Nat)
 | [],_,_=> none
 | p::l,i,k=> if k < p.rq.length then some (i,true,k) else if k < p.rq.length+p.an.length then some (i,false,k - p.rq.length) else zF l (i+1) (k - (p.rq.length+p.an.length))
def Fab.take(f:Fab)(bG:Int)(req:Bool):Fab × Option Pkt:=
 if f.is bG then
  match(f.port bG).qL req with
  | []=> (f,none)
  | p::l=> (f.put bG ((f.port bG).kM req l),some p)
 else(f,none)
def Fab.waiting(f:Fab)(bG:Int)(req:Bool):Nat:=if f.is bG then((f.port bG).qL req).length else 0
def Fab.roomOf(f:Fab)(bG:Int)(req:Bool):Int:=if f.is bG then f.out - ((f.port bG).sort req).length else 0
open Go.ChangeShapes Go.WideShapes Go.ChangeAt Go.RowKit
abbrev ρ0:Ren:=λ_=> none
abbrev G0:Nat->Nat:=λ_=> 0
theorem YU {w:World}(hg:abL ρ0 w):Rel ρ0 ah.empty w:=⟨λr _=> ⟨rfl,rfl⟩,λr b sh h=> (by cases h),λr r' b sh sh' h=> (by cases h),hg⟩
theorem YV {P:Program}{L:Pol}(hL:Wq P L)(hm:P.follows .mixedOrders=true){k:FuncId}{xs:List AV}{b:Bool}{H':ah}(h:callω P L k xs ah.empty=some (.s (.bool b),H')){W:World}{args:Array Value}(hg:abL ρ0 W)(ha:RVs ρ0 G0 W xs args.toList):
  Calls P k args W λe W'=> e=.returned (.bool b)/\Below W.heap.size W W':=by
 refine((callω_ok hL hm).1 k xs _ _ H' h ρ0 W args (YU hg) ha).mono λe w' he=> ?_;obtain⟨cv,ρ',rfl,_,r2,r3⟩:=he;simp only [RV] at r2;subst r2;exact⟨rfl,r3.os,r3.tape,r3.output,r3.size,λk hk=> r3.frame k hk λr sh h=> (by cases h)⟩
section
variable {H:Type}{enc:TypeId × Value->H}{P:Program}
theorem zG(hl:laidOutB P=true){W W':World}(hb:Below W.heap.size W W'):∀{ts:List TypeId} {vs:List Value} {ds:List (DataW H)} {ps:List MemPlace},ts.all (λt=> P.readableRec t && decide (t < P.types.size))=true->
  DataW.TrodAll enc P W 0 (λ_=> true) true ts vs ds ps->(∀x∈ps,x.block < W.heap.size)->DataW.TrodAll enc P W' 0 (λb=> decide (b < W.heap.size)) true ts vs ds ps
 | [],vs,ds,ps,_,h,_=> by
  obtain⟨rfl,rfl,rfl⟩:=trodAll_nil h;exact trodAll_mk0
 | t::ts,vs,ds,ps,ht,h,hlt=> by
  simp only [List.all_cons,zaf,decide_eq_true_eq] at ht;obtain⟨v,vs',d,ds',p,q,rfl,rfl,rfl,h1,h2⟩:=trodAll_cons h;exact⟨p,q,Below.trod hl ht.1.1 ht.1.2 h1 hb λx hx=> hlt x (by simp [hx]),zG hl hb (by simpa using ht.2) h2 λx hx=> hlt x (by simp [hx]),rfl⟩
theorem YW {f:Func}{s:ChangeSpec}{W W':World}{args:Array Value}{ds gs:List (DataW H)}{before:List MemPlace}{tb:TypeId}(hl:laidOutB P=true)
  (hp:f.params.toList.all (λt=> P.readableRec t && decide (t < P.types.size))=true) (hr:f.resultTypes=#[tb]) (hb:P.underlying tb=some .bool)
  (hW:DataW.Whole enc P f.params.toList s.vars false W args.toList ds gs before) (hv:s.vars=[])
  (h1:(s.fn H ds).results=[.lit (.bool true)]) (h2:(s.fn H ds).args=ds) (h3:(s.fn H ds).vars=[]) (B:Below W.heap.size W W'):
  s.post enc P f false true false false W args (.bool true) W':=by
 have hlt:∀x∈before,x.block < W.heap.size:=λx hx=> hW.lt x hx;have hW':=hW;obtain⟨p,q,hA,hV,rfl,_,_⟩:=hW;rw [hv] at hV;obtain⟨rfl,rfl⟩:=trodVars_none hV;rw [zbl] at hlt;refine⟨ds,[],p++[],[],p,[],hW',?_,?_,?_,B.frame _,λh=> by cases h⟩
 ·rw [zbl,h1,hr];exact trodAll_mk1 (shut_bool hb true)
 ·rw [zbl,h2];exact zG hl B hp hA hlt
 ·rw [zbl,h3,hv];exact rfl
theorem aeY {W:World}{k:IntKind}{n:Int}:RV ρ0 G0 W (.s (.int k n)) (.int k n):=by simp [RV]
theorem akg {W:World}{x:AV}{v:Value}{xs:List AV}{vs:List Value}(h:RV ρ0 G0 W x v)(h':RVs ρ0 G0 W xs vs):RVs ρ0 G0 W (x::xs) (v::vs):=by
 simp only [RVs];exact⟨v,vs,rfl,h,h'⟩
theorem aqA {W:World}:RVs ρ0 G0 W [] []:=by simp only [RVs]
structure aeZ where
 aG:Int
 bn:Int
 cO:Int
 sets:Int
 ways:Int
 out:Int
 inn:Int
 init:AV
 who:AV
 kinds:AV
 tq:AV
 bH:AV
def aeZ.cells(s:aeZ):List AV:=
 [.s (.int .i64 s.aG),.s (.int .i64 s.bn),.s (.int .i64 s.cO),.s (.int .i64 s.sets),.s (.int .i64 s.ways),.s (.int .i64 s.out),.s (.int .i64 s.inn),s.init,s.who,s.kinds,s.tq,s.bH]
abbrev zH(z:Int):Prop:=-9223372036854775808<=z/\z<=9223372036854775807
theorem aqg {z:Int}(h:(Lit.int .i64 z).wf=true):zH z:=by
 simp [Lit.wf,IntKind.min,IntKind.max,IntKind.signed,IntKind.bits] at h;exact⟨by omega,by omega⟩
end
open Go.RowKit
variable {P:Program}{ρ:Ren}{H:ah}{w w':World}
theorem JB {f:FuncId}{p:List AV->ah->Option (AV × ah)}
  (h:∀args H v H',p args H=some (v,H')->∀(ρ:Ren) (w:World) (kU:Array Value),Rel ρ H w->RVs ρ H.gen w args kU.toList->
   Calls P f kU w λe w'=>∃cv ρ',e=.returned cv/\Rel ρ' H' w'/\RV ρ' H'.gen w' v cv/\Ext ρ H w ρ' H' w'):qM P (λg args H=> if g=f then p args H else none):=by
 intro g args H v H' he ρ w kU R ha;simp only at he;split at he
 ·rename_i e;subst e;exact h args H v H' he ρ w kU R ha
 ·cases he
theorem zJ(R:Rel ρ H w)(B:Below w.heap.size w w'):Rel ρ H w'/\Ext ρ H w ρ H w':=by
 have E:Ext ρ H w ρ H w':=⟨zac _,λ_=> zac _,λ_ _ h _=> h,λ_ _ h=> h,λ_ _ sh h=> .inr ⟨sh,h⟩,B.size,λb hb _=> B.block b hb,λb hb=> by rw [fB,fB,B.block b hb],B.os,B.tape,B.output⟩
 exact⟨⟨R.out,λr b sh h=> yF.mono E.toMono (B.block b (R.block h)) (R.obj r b sh h),R.inj,R.gl.ext E⟩,E⟩
theorem Pg(R:Rel ρ H w){b:Nat}(hb:w.heap.size<=b):Imm ρ b:=λr sh h=> by
 have:=R.block h;omega
theorem RS {G:Nat->Nat}{x:AV}{kU:Array Value}(h:RVs ρ G w [x] kU.toList):∃c,kU=#[c]/\RV ρ G w x c:=by
 obtain⟨cx,l,e,h1,h2⟩:=(by simpa only [RVs] using h)
 subst h2;exact⟨cx,zce.1 (by simpa using e),h1⟩
def ai2:AV:=.s (.slice none 0 0)
def YX(ks:List Int):AV:=if ks=[] then ai2 else .vs ks.length 1 ((ks.mergeSort λx y=> decide (x<=y)).map λn=> .s (.int .i64 n))
def BJ(kf vf:List Nat)(args:List AV)(H:ah):Option (AV × ah):=
 match args with
 | [.fn (.func f) [] [.ref r g 0]]=>
  match H.get r with
  | .blk g' ty [.mp m]=> match H.get m with
   | .map .i64 es=> if g'=g/\ty < gV/\f≠0/\f∈kf/\(es.map (·.1)).Nodup/\(es.all λe=> (Lit.int .i64 e.1).wf)=true/\es.length<=1000000 then some (YX (es.map (·.1)),H) else none
   | _=> none
  | .blk g' ty [.s (.slice none 0 0)]=> if g'=g/\ty < gV/\f≠0/\f∈vf then some (ai2,H) else none
  | _=> none
 | _=> none
structure Node where
 aH:Cache
 bP:Proc
 home:Home
 aI:bJ
 num:Int
structure dZ where
 c:Cfg
 aG:List Node
 fab:Fab
 trace:List Evn
def Cfg.oN(c:Cfg)(me:Int):Nat->Rows
 | 0=> []
 | n+1=> if c.bf n=me then lG (c.oN me n) n ⟨0,-1,c.first n⟩ else c.oN me n
def Home.new(c:Cfg)(me:Int):Home:=⟨c.oN me c.bn.toNat,⟨[],[]⟩⟩
def Node.new(c:Cfg)(me:Int)(l:List Opn):Node:=⟨⟨[],c.sets,c.ways,0⟩,⟨l,[],false⟩,.new c me,.zero,0⟩
def Fab.new(c:Cfg):Fab:=⟨c.out,c.inn,List.replicate c.aG.toNat .zero⟩
def dZ.new(c:Cfg)(ps:List (List Opn)):dZ:=⟨c,ps.mapIdx λi l=> .new c i l,.new c,[]⟩
structure gW where
 owner:List (Int × Int)
 wait:List (Int × Int × Int)
structure iL where
 dH:List Row
 aT:gW
structure jK where
 aH:Cache
 homes:iL
 ops:List Opn
 eF:Bool
 bH:List Int
 has:Bool
 aI:bJ
 num:Int
structure kN where
 c:Cfg
 fab:List Port
 aG:List jK
 ev:List Evn
def iL.new(c:Cfg):iL:=⟨(List.range c.bn.toNat).map λ(i:Nat)=> (⟨0,-1,c.first (i:Int)⟩:Row),⟨[],[]⟩⟩
def jK.new(c:Cfg)(l:List Opn):jK:=⟨⟨[],c.sets,c.ways,0⟩,.new c,l,false,[],false,.zero,0⟩
def kN.new(c:Cfg)(ps:List (List Opn)):kN:=⟨c,List.replicate c.aG.toNat .zero,ps.map (.new c),[]⟩
inductive zK {α:Type} (R:α->List AV->Prop):List α->List AV->Prop
 | nil:zK R [] []
 | cons {a:α} {l:List α} {cs cells:List AV}:R a cs->zK R l cells->zK R (a::l) (cs++cells)
section
variable {α:Type}{R:α->List AV->Prop}{l:List α}{cells:List AV}
theorem zK.length {m:Nat}(hm:∀a cs,R a cs->cs.length=m)(h:zK R l cells):cells.length=l.length*m:=by
 induction h with
 | nil=> simp
 | cons h1 _ ih=> rw [zao,hm _ _ h1,ih,zam,zbO,Nat.add_comm]
theorem zK.all(hm:∀a cs,R a cs->cs.all AV.aX=true)(h:zK R l cells):cells.all AV.aX=true:=by
 induction h with
 | nil=> rfl
 | cons h1 _ ih=> rw [zbL,hm _ _ h1,ih];rfl
theorem zK.append {l':List α}{cells':List AV}(h:zK R l cells)(h':zK R l' cells'):zK R (l++l') (cells++cells'):=by
 induction h with
 | nil=> exact h'
 | cons h1 _ ih=> rw [zbe,zbh];exact .cons h1 ih
theorem zK.one {a:α}{cs:List AV}(h:R a cs):zK R [a] cs:=by
 have:=zK.cons h (zK.nil (R:=R))
 rwa [zbl] at this
theorem zK.mono {R':α->List AV->Prop}(hr:∀a cs,a∈l->R a cs->R' a cs)(h:zK R l cells):zK R' l cells:=by
 induction h with
 | nil=> exact .nil
 | cons h1 _ ih=> exact .cons (hr _ _ (by simp) h1) (ih λa cs ha=> hr a cs (by simp [ha]))
theorem zK.get {m:Nat}(hm:∀a cs,R a cs->cs.length=m)(h:zK R l cells):∀{i:Nat} {a:α},l[i]?=some a->R a ((cells.drop (i*m)).take m):=by
 induction h with
 | nil=> intro i a hi;simp at hi
 | cons h1 _ ih=>
  intro i a hi;have hl:=hm _ _ h1;cases i with
  | zero=>
   simp only [zaP,zaa] at hi;subst hi;rw [zbq,zaQ,zbM (by omega),zaz (by omega)];exact h1
  | succ i=>
   rw [zbO,zdh,zaS (by omega),zaJ,hl,Nat.add_sub_cancel];exact ih (by simpa using hi)
theorem zK.plain {enc:α->List AV}:∀l:List α,zK (λa cs=> cs=enc a) l (l.flatMap enc)
 | []=> .nil
 | a::l=> .cons rfl (zK.plain l)
theorem zK.of {enc:α->List AV}(hr:∀a,a∈l->R a (enc a)):zK R l (l.flatMap enc):=
 (zK.plain (enc:=enc) l).mono λa cs ha (h:cs=enc a)=> by rw [h];exact hr a ha
end
def Pkt.avx(p:Pkt)(x:AV):List AV:=[I p.aO,I p.src,I p.dst,I p.id,I p.aj,I p.ptr,I p.aQ,B p.flag,x]
def Ent.avx(e:Ent)(x:AV):List AV:=[I e.fwd,I e.back,I e.aj,I e.used,B e.bZ,x]
def Row.avx(r:Row)(x:AV):List AV:=[I r.aQ,I r.head,x]
def bJ.avx(d:bJ)(x:AV):List AV:=[I d.aO,I d.aj,I d.id,I d.step,I d.aQ,I d.head,x,I d.next,I d.told]
def tu(g:bD)(x:AV)(l:List Int):Prop:=x=dat l∨∃q ex,l≠[]/\x=.sl q 0 0 1 l.length l.length ex/\g q=some (l.map λn=> .av (I n))
def ahi(cs:List Cell):Prop:=∃c∈cs,∀n,c≠.av (I n)
section
variable {b:Nat}{H:ah}{g g':bD}{x:AV}{l:List Int}
theorem tu.dat:tu g (dat l) l:=.inl rfl
theorem tu.one(h:tu g x l):One x:=by
 rcases h with rfl | ⟨q,ex,_,rfl,_⟩
 ·exact rW
 ·exact qX
theorem tu.sub(h:tu g x l)(hg:∀q cs,g q=some cs->¬ahi cs->g' q=some cs):tu g' x l:=by
 rcases h with rfl | ⟨q,ex,h0,rfl,h⟩
 ·exact .inl rfl
 ·refine .inr ⟨q,ex,h0,rfl,hg _ _ h λ⟨c,hc,hn⟩=> ?_⟩;obtain⟨n,_,rfl⟩:=zaH.1 hc;exact hn n rfl
theorem tu.upd {q:Nat}{cs cs':List Cell}(h:tu g x l)(hq:g q=some cs)(hn:ahi cs):tu (upd g q cs') x l:=
 h.sub λq' ds h1 h2=> by
  rw [aZ];exact h1;intro e;subst e;rw [hq] at h1;cases h1;exact h2 hn
theorem tu.nil(h:tu g x l)(h0:l=[]):x=zN:=by
 rcases h with rfl | ⟨q,ex,h1,_⟩
 ·rw [h0,Proofs.YtgplhpgkompkmaaGreat.dat,gZ]
 ·exact absurd h0 h1
theorem tu.is(G:Good b H g)(h:tu g x l):aW H x 1 l.length (l.map I):=by
 rcases h with rfl | ⟨q,ex,_,rfl,h⟩
 ·exact mQ H l
 ·obtain⟨_,τ,hR⟩:=G;have R:=hR q _ h;obtain⟨ty,xs,h1,h2,h3,h4⟩:=R.blk;have:xs=l.map I:=by
   apply zbg
   intro i;rcases zaW i l.length with hi | hi
   ·have hx:xs[i]?=some (xs[i]'(by simp at h2;omega)):=zab _;have:=h4 i (.av (I l[i])) _ (by simp [hi]) hx;simp only [CR] at this;rw [hx,this];simp [hi]
   ·rw [zaK (by simp at h2;omega),zaK (by simp;omega)]
  subst this;exact⟨by simp,rfl,rfl,⟨R.hi,zac _⟩,ty,_,h1,by simp,by simp [zaz]⟩
end
def aqB(g:bD)(p:Pkt)(cs:List AV):Prop:=∃x,tu g x p.data/\cs=p.avx x
def aqC(g:bD)(e:Ent)(cs:List AV):Prop:=∃x,tu g x e.data/\cs=e.avx x
def aqD(g:bD)(r:Row)(cs:List AV):Prop:=∃x,tu g x r.data/\cs=r.avx x
def aoH(g:bD)(d:bJ)(cs:List AV):Prop:=∃x,tu g x d.data/\cs=d.avx x
def YZ(c:Cache)(cells:List AV):List Cell:=[.av (I c.sets),.av (I c.ways),.av (I c.bW),.seq 6 cells]
def Y0(c:Cfg)(me:Int)(dH:List AV)(t:gW):List Cell:=c.av.map .av++[.av (I me),.seq 3 dH,.seq 2 (t.owner.flatMap λe=> [I e.1,I e.2]),.seq 3 (t.wait.flatMap λe=> [I e.1,I e.2.1,I e.2.2])]
def ae0(a:Nat->Nat)(c:Cfg)(me:Int)(n:jK)(d:List AV):List Cell:=
 c.av.map .av++[.av (I me),.av (.ref (a 1) 0 0),.av (.ref (a 2) 0 0),.seq 3 (n.ops.flatMap Opn.av),.av (B n.eF),.seq 1 (n.bH.map I),.av (B n.has)]++d.map .av++[.av (I n.num)]
def aoI(c:Cfg)(ls:List (List AV)):List Cell:=c.av.map .av++[.ajZ 4 9 ls]
def akh(f:Nat)(N:Nat->Nat->Nat)(c:Cfg)(n:Nat)(ev:List Evn):List Cell:=c.av.map .av++[.av (.ref f 0 0),.seq 1 ((List.range n).map λi=> .ref (N i 0) 0 0),.seq 4 (ev.flatMap Evn.av)]
structure BK(g:bD)(a:Nat->Nat)(c:Cfg)(me:Int)(n:jK):Prop where
 bG:∃d,aoH g n.aI d/\g (a 0)=some (ae0 a c me n d)
 aH:∃cells,zK (aqC g) n.aH.l cells/\g (a 1)=some (YZ n.aH cells)
 homes:∃dH,zK (aqD g) n.homes.dH dH/\g (a 2)=some (Y0 c me dH n.homes.aT)
def aqE(N:Nat->Nat->Nat)(n:Nat):Prop:=∀i j s t,i < n->j < n->s < 3->t < 3->N i s=N j t->i=j/\s=t
def aki(p:Port):List (List Pkt):=[p.rq,p.an,p.rin,p.ain]
structure RU(g:bD)(q f:Nat)(N:Nat->Nat->Nat)(m:kN):Prop where
 je:g q=some (akh f N m.c m.aG.length m.ev)
 fab:∃ls:List (List AV),g f=some (aoI m.c ls)/\ls.length=4*m.fab.length/\∀(i:Nat) l cells,(m.fab.flatMap aki)[i]?=some l->ls[i]?=some cells->zK (aqB g) l cells
 bG:∀(i:Nat) n,m.aG[i]?=some n->BK g (N i) m.c i n
 inj:aqE N m.aG.length
def Dq(x:Int):List Int->List Int
 | []=> [x]
 | y::rp=> if x < y then y::Dq x rp else x::y::rp
def srt:List Int->List Int->List Int
 | rp,[]=> rp.reverse
 | rp,x::l=> srt (Dq x rp) l
def Ent.word(e:Ent)(w:Int):Int:=if 0<=w/\w < e.data.length then e.data.getD w.toNat 0 else 0
def Ent.write(e:Ent)(w v:Int):Ent:=if e.bZ=true/\0<=w/\w < e.data.length then { e with data:=e.data.set w.toNat v } else e
def Home.ready(h:Home):List Int:=h.aT.ready (srt [] (h.aT.wait.map (·.1)))
def Home.grant(bG:Int)(h:Home):Home × Pkt × Bool:=
 match h.ready with
 | []=> (h,.zero,false)
 | aj::_=> match h.aT.next aj with
  | (t,some w)=> ({ h with aT:=t },granted h.dH bG aj w.1 w.2,true)
  | (_,none)=> (h,.zero,false)
def Proc.idx(p:Proc):Int:=match p.cur with
 | some _=> p.bH.length
 | none=> 0
def Proc.op(p:Proc):Opn:=p.cur.getD .zero
def Proc.BL(p:Proc)(v:Int):Proc:=if p.eF then⟨p.ops,p.bH++[v],false⟩ else p
def Proc.zL(p:Proc):Proc:=if p.eF=true∨p.cur=none then p else { p with eF:=true }
abbrev NT:=Node × List Evn
def Node.done(me:Int)(n:Node)(t:List Evn)(v:Int):NT:=({ n with bP:=n.bP.BL v },t++[⟨me,n.bP.idx,true,v⟩])
def eG(e:Ent)(o:Opn)(w:Int):Ent:=if o.aO=2 then e.write w o.value else if o.aO=3 then e.write w (w64 (e.word w+o.value)) else e
def Node.effect(c:Cfg)(me:Int)(n:Node)(t:List Evn):NT:=
 let o:=n.bP.op;let e:=(n.aH.find (c.bM o.addr)).getD .zero;let n':={ n with aH:=(n.aH.put (eG e o (c.dh o.addr))).1 }
 n'.done me t (if o.aO=2 then 0 else e.word (c.dh o.addr))
def Node.acB(c:Cfg)(me:Int)(n:Node)(f:Fab):Fab:=(f.send (n.aI.ask me (c.bf n.aI.aj))).1
def Node.after(me:Int)(n:Node)(p:Pkt):Nxt:=
 if n.aI.aO=1 then dU n.aI me n.aH p else if n.aI.aO=2 then dV n.aI me n.aH p else if n.aI.aO=3 then eu n.aI n.aH p else vO n.aH
abbrev NFT:=Node × Fab × List Evn
def Node.answered(c:Cfg)(me:Int)(n:Node)(f:Fab)(t:List Evn)(p:Pkt):NFT:=
 match n.after me p with
 | (ca,d,ok)=>
  if ok=false then({ n with aH:=ca },f,t) else
  let n:={ n with aH:=ca,aI:=d }
  if d.step=0 then(if d.aO=3/\n.bP.op.aO=4 then((n.done me t 0).1,f,(n.done me t 0).2) else(n,f,t))
  else
   let nt:=if d.step=6/\d.aO≠3 then n.effect c me t else(n,t)
   (nt.1,nt.1.acB c me f,nt.2)
def Node.begin_(c:Cfg)(me:Int)(n:Node)(f:Fab)(aO aj:Int):Node × Fab:=
 let n:={ n with aI:=.begin aO aj n.num,num:=(n.num+1).tmod 4096 }
 (n,n.acB c me f)
def Node.asked(c:Cfg)(me:Int)(n:Node)(f:Fab)(p:Pkt):Node × Fab:=
 if p.aO=1∨p.aO=2 then
  match n.home.handle c me p with
  | (h,out,ok,e)=> ({ n with home:=h },if ok=true/\e=0 then(f.send out).1 else f)
 else
  match fG n.aH p with
  | (ca,out,e)=> ({ n with aH:=ca },if e=0 then(f.send out).1 else f)
def Node.work(c:Cfg)(me:Int)(n:Node)(f:Fab)(t:List Evn)(o:Opn):NFT:=
 let t:=if n.bP.eF then t else t++[⟨me,n.bP.bH.length,false,0⟩]
 let n:={ n with bP:={ n.bP with eF:=true } }
 let aj:=c.bM o.addr;let e:=n.aH.find aj
 if o.aO=4/\e=none then((n.done me t 0).1,f,(n.done me t 0).2)
 else if o.aO=4 then((n.begin_ c me f 3 aj).1,(n.begin_ c me f 3 aj).2,t)
 else if e.isSome=true/\(o.aO=1∨(e.getD .zero).bZ=true) then
  let n:={ n with aH:=n.aH.touch aj }
  ((n.effect c me t).1,f,(n.effect c me t).2)
 else if n.aH.full aj=true then((n.begin_ c me f 3 ((n.aH.nH aj).getD 0)).1,(n.begin_ c me f 3 ((n.aH.nH aj).getD 0)).2,t)
 else if o.aO=1 then((n.begin_ c me f 1 aj).1,(n.begin_ c me f 1 aj).2,t)
 else((n.begin_ c me f 2 aj).1,(n.begin_ c me f 2 aj).2,t)
def Node.step(c:Cfg)(me:Int)(n:Node)(f:Fab)(t:List Evn):NFT × Int:=
 match f.take me false with
 | (f',some p)=> (n.answered c me f' t p,1)
 | (_,none)=>
  if n.home.ready≠[]/\f.roomOf me false≠0 then
   (({ n with home:=(n.home.grant me).1 },(f.send (n.home.grant me).2.1).1,t),2)
  else
   match(if f.roomOf me false=0 then(f,none) else f.take me true) with
   | (f',some p)=> (((n.asked c me f' p).1,(n.asked c me f' p).2,t),3)
   | (_,none)=>
    match n.bP.cur with
    | some o=> if n.aI.step=0 then(n.work c me f t o,4) else((n,f,t),0)
    | none=> ((n,f,t),0)
def dZ.bG(m:dZ)(i:Int):Option Node:=if 0<=i then m.aG[i.toNat]? else none
def dZ.step(m:dZ)(i:Int):dZ × Int:=
 match m.bG i with
 | none=> (m,0)
 | some n=> match n.step m.c i m.fab m.trace with
  | ((n',f,t),k)=> ({ m with aG:=m.aG.set i.toNat n',fab:=f,trace:=t },k)
def aT(bytes:Nat)(bit mask:Int):Bool:=(List.range 16).any λi=> decide ((mask.toNat >>> (15 - i)) % 2=1) && decide (0<=bit+i) && decide (bit+i < 8*bytes)
def Pkt.bytes(p:Pkt):Nat:=12+8*p.data.length
def Port.drop(p:Port)(req:Bool)(k:Nat):Port:=p.kC req ((p.sort req).eraseIdx k)
def Fab.remove(f:Fab)(at_:Nat):Fab:=match zF f.l 0 at_ with
 | some (i,req,k)=> f.put i ((f.port i).drop req k)
 | none=> f
def Fab.deliver(f:Fab)(at_ bit mask:Int):Fab × Int:=
 if at_ < 0 then(f,3) else
 match f.all[at_.toNat]? with
 | none=> (f,3)
 | some p=>
  if aT p.bytes bit mask=true then(f,2) else
  if f.room (qK p.aO)<=((f.port p.dst).qL (qK p.aO)).length then(f,5) else
  ((f.put p.dst ((f.port p.dst).kM (qK p.aO) ((f.port p.dst).qL (qK p.aO)++[p]))).remove at_.toNat,0)
def dZ.deliver(m:dZ)(at_ bit mask:Int):dZ × Int:=({ m with fab:=(m.fab.deliver at_ bit mask).1 },(m.fab.deliver at_ bit mask).2)
def dZ.do_(m:dZ)(p:Pck):dZ × Bool:=
 if p.deliver then((m.deliver p.at_ p.bit p.mask).1,decide ((m.deliver p.at_ p.bit p.mask).2=0))
 else((m.step p.at_).1,decide ((m.step p.at_).2≠0))
def yR(e:Ent):List Ent->List Ent
 | []=> [e]
 | x::l=> if e.aj < x.aj then e::x::l else x::yR e l
def Cache.XP(c:Cache)(e:Ent):Cache × Int:=
 if e.aj < 0 then(c,1) else
 match c.at_ e.aj with
 | some i=> ({ c with l:=c.l.set i { e with used:=(c.l.getD i .zero).used } },0)
 | none=> if c.ways<=(c.nT e.aj).length then(c,5) else({ c with l:=yR { e with used:=c.bW+1 } c.l,bW:=c.bW+1 },0)
def Cache.Lj(c:Cache)(aj:Int):Int:=((mX (c.nT aj)).map (·.aj)).getD (-1)
def gW.iQ(t:gW)(aj:Int):Int:=((t.owner.find? λo=> decide (o.1=aj)).map (·.2)).getD (-1)
def gW.waits(t:gW)(aj:Int):List (Int × Int):=(t.wait.filter λw=> decide (w.1=aj)).map (·.2)
def gW.ask(t:gW)(aj who id:Int):gW × Bool:=
 if who < 0 then(t,false) else
 if t.iQ aj=-1/\t.waits aj=[] then({ t with owner:=t.owner++[(aj,who)] },true)
 else({ t with wait:=t.wait++[(aj,who,id)] },false)
def lH {α:Type}(p:α->Bool):List α->List α
 | []=> []
 | x::l=> if p x then l else x::lH p l
def gW.release(t:gW)(aj who:Int):gW × Bool:=
 if(t.owner.any λo=> decide (o.1=aj) && decide (o.2=who))=true then({ t with owner:=lH (λo=> decide (o.1=aj) && decide (o.2=who)) t.owner },true) else(t,false)
def gW.next(t:gW)(aj:Int):gW × Option (Int × Int):=
 if t.iQ aj≠-1 then(t,none) else
 match t.wait.find? λw=> decide (w.1=aj) with
 | some w=> (⟨t.owner++[(aj,w.2.1)],lH (λw=> decide (w.1=aj)) t.wait⟩,some w.2)
 | none=> (t,none)
def lI(x:Int):List Int->List Int
 | []=> [x]
 | y::l=> if y < x then y::lI x l else if y=x then y::l else x::y::l
def gW.ready(t:gW):List Int:=t.wait.foldl (λout w=> if t.iQ w.1≠-1 then out else lI w.1 out) []
def kP(c:Cfg)(me aj:Int):Bool:=decide (0<=aj) && decide (aj < c.bn) && decide (aj % c.aG=me)
def iL.row(h:iL)(aj:Int):Row:=h.dH.getD aj.toNat .zero
def iL.nT(c:Cfg)(me:Int)(h:iL)(aj aQ head:Int)(data:List Int):iL × Int:=
 if kP c me aj=false then(h,3) else
 if aQ < 0∨2 < aQ∨head < -1∨c.aG<=head∨¬(aQ=0↔head=-1)∨(data≠[]/\(data.length:Int)≠c.cO) then(h,1) else
 ({ h with dH:=h.dH.set aj.toNat ⟨aQ,head,if data=[] then(h.row aj).data else data⟩ },0)
def iL.granted(me:Int)(h:iL)(aj who id:Int):Pkt:=⟨7,me,who,id,aj,(h.row aj).head,(h.row aj).aQ,false,(h.row aj).data⟩
def iL.handle(c:Cfg)(me:Int)(h:iL)(p:Pkt):iL × Pkt × Bool × Int:=
 if p.ok=false∨p.dst≠me∨c.aG<=p.src∨(p.aO≠1/\p.aO≠2) then(h,.zero,false,1)
 else if kP c me p.aj=false then(h,.zero,false,3)
 else if p.aO=1 then
  let a:=h.aT.ask p.aj p.src p.id
  if a.2=true then({ h with aT:=a.1 },h.granted me p.aj p.src p.id,true,0) else({ h with aT:=a.1 },.zero,false,0)
 else if h.aT.iQ p.aj≠p.src then(h,.zero,false,6)
 else
  let r:=h.nT c me p.aj p.aQ p.ptr (if p.flag then p.data else [])
  if r.2=0 then({ r.1 with aT:=(r.1.aT.release p.aj p.src).1 },⟨8,me,p.src,p.id,p.aj,0,0,false,[]⟩,true,0) else(h,.zero,false,r.2)
def iL.grant(me:Int)(h:iL):iL × Pkt × Bool:=
 match h.aT.ready with
 | []=> (h,.zero,false)
 | aj::_=> match h.aT.next aj with
  | (t,w)=> ({ h with aT:=t },h.granted me aj (w.getD (0,0)).1 (w.getD (0,0)).2,true)
def ahj(c:Cache)(p:Pkt):Cache × Pkt × Int:=
 if p.ok=false∨p.aO < 3∨6 < p.aO then(c,.zero,1) else
 match c.find p.aj with
 | none=> (c,.zero,3)
 | some e=>
  let out:Pkt:=⟨BI p.aO,p.dst,p.src,p.id,p.aj,0,0,false,[]⟩
  if p.aO=3 then((c.XP { e with bZ:=false,back:=p.ptr }).1,{ out with data:=e.data,flag:=e.bZ },0)
  else if p.aO=4 then((c.XP { e with fwd:=p.ptr }).1,out,0)
  else if p.aO=5 then((c.XP { e with back:=p.ptr }).1,out,0)
  else(c.drop p.aj,{ out with data:=e.data,flag:=e.bZ,ptr:=e.fwd },0)
def aoJ(d:bJ)(bG:Int)(c:Cache)(p:Pkt):Nxt:=
 if d.step=1/\d.aQ=0 then((c.XP ⟨-1,-1,d.aj,0,false,d.data⟩).1,{ d with step:=6,aQ:=1,head:=bG,data:=[] },true)
 else if d.step=1 then(c,{ d with step:=2 },true)
 else if d.step=2 then((c.XP ⟨d.head,-1,d.aj,0,false,p.data⟩).1,{ d with step:=6,aQ:=1,head:=bG,data:=if p.flag then p.data else [] },true)
 else vO c
def akj(d:bJ)(bG:Int)(c:Cache):Nxt:=
 let d:bJ:=match c.find d.aj with
  | some own=> if d.next=bG then { d with next:=own.fwd } else d
  | none=> d
 if d.next≠-1 then(c,{ d with step:=3 },true)
 else((c.XP ⟨-1,-1,d.aj,0,true,d.data⟩).1,{ d with step:=6,aQ:=2,head:=bG,data:=[] },true)
def akk(d:bJ)(bG:Int)(c:Cache)(p:Pkt):Nxt:=
 if d.step=1 then akj { d with data:=(match c.find d.aj with | some own=> own.data | none=> d.data),next:=d.head } bG c
 else if d.step=3 then akj { d with data:=(match c.find d.aj with | some _=> d.data | none=> p.data),next:=p.ptr } bG c
 else vO c
def Ll(d:bJ)(c:Cache)(head:Int):Nxt:=(c.drop d.aj,{ d with step:=6,aQ:=1,head:=head,data:=[] },true)
def aoK(d:bJ)(c:Cache):Nxt:=
 if d.step=1 then
  match c.find d.aj with
  | none=> (c,{ d with step:=6,data:=[] },true)
  | some e=>
   if e.back=-1/\e.fwd=-1 then(c.drop d.aj,{ d with step:=6,aQ:=0,head:=-1,data:=if e.bZ then e.data else [] },true)
   else if e.back=-1 then(c,{ d with data:=[],head:=-1,next:=e.fwd,step:=5 },true)
   else(c,{ d with data:=[],head:=e.back,next:=e.fwd,step:=4 },true)
 else if d.step=4 then
  if d.next≠-1 then(c,{ d with step:=5 },true) else Ll d c d.told
 else if d.step=5 then
  if d.head=-1 then Ll d c d.next else Ll d c d.told
 else vO c
def aoL(d:bJ)(bG:Int)(c:Cache)(p:Pkt):Nxt:=
 if d.fits p=false∨d.aO < 1∨3 < d.aO then vO c else
 if d.step=6 then(c,{ d with step:=0 },true) else
 let d:=if d.step=1 then { d with aQ:=p.aQ,head:=p.ptr,told:=p.ptr,data:=p.data } else d
 if d.aO=1 then aoJ d bG c p else if d.aO=2 then akk d bG c p else aoK d c
abbrev RNT:=jK × List Evn
def jK.done(me:Int)(n:jK)(t:List Evn)(v:Int):RNT:=({ n with bH:=n.bH++[v],eF:=false },t++[⟨me,n.bH.length,true,v⟩])
def ahk(e:Ent)(o:Opn)(w:Nat):Ent:=
 if o.aO=2 then { e with data:=e.data.set w o.value } else if o.aO=3 then { e with data:=e.data.set w (w64 (e.data.getD w 0+o.value)) } else e
def jK.effect(c:Cfg)(n:jK)(o:Opn):jK × Int:=
 let i:=(n.aH.at_ (o.addr.tdiv c.cO)).getD 0;let e:=n.aH.l.getD i .zero;let w:=(o.addr.tmod c.cO).toNat
 ({ n with aH:={ n.aH with l:=n.aH.l.set i (ahk e o w) } },if o.aO=2 then 0 else e.data.getD w 0)
def jK.acB(c:Cfg)(me:Int)(n:jK)(f:Fab):Fab:=(f.send (n.aI.ask me (n.aI.aj.tmod c.aG))).1
def jK.begin_(c:Cfg)(me:Int)(n:jK)(f:Fab)(aO aj:Int):jK × Fab:=
 let n:={ n with has:=true,aI:=.begin aO aj n.num,num:=(n.num+1).tmod 4096 }
 (n,n.acB c me f)
abbrev aoM:=jK × Fab × List Evn
def jK.answered(c:Cfg)(me:Int)(n:jK)(f:Fab)(t:List Evn)(p:Pkt):aoM:=
 if n.has=false then(n,f,t) else
 match aoL n.aI me n.aH p with
 | (ca,d,ok)=>
  if ok=false then({ n with aH:=ca },f,t) else
  let n:={ n with aH:=ca,aI:=d }
  if d.step=0 then
   let n:={ n with has:=false,aI:=.zero }
   match n.ops[n.bH.length]? with
   | some o=> if n.eF=true/\o.aO=4 then((n.done me t 0).1,f,(n.done me t 0).2) else(n,f,t)
   | none=> (n,f,t)
  else
   let nt:=if d.step=6/\d.aO≠3 then let ev:=n.effect c (n.ops.getD n.bH.length .zero);ev.1.done me t ev.2 else(n,t)
   (nt.1,nt.1.acB c me f,nt.2)
def jK.work(c:Cfg)(me:Int)(n:jK)(f:Fab)(t:List Evn)(o:Opn):aoM:=
 let t:=if n.eF then t else t++[⟨me,n.bH.length,false,0⟩]
 let n:={ n with eF:=true }
 let aj:=o.addr.tdiv c.cO;let e:=n.aH.find aj
 if o.aO=4/\e=none then((n.done me t 0).1,f,(n.done me t 0).2)
 else if o.aO=4 then((n.begin_ c me f 3 aj).1,(n.begin_ c me f 3 aj).2,t)
 else if e.isSome=true/\(o.aO=1∨(e.getD .zero).bZ=true) then
  let n:={ n with aH:=n.aH.touch aj }
  let ev:=n.effect c o
  ((ev.1.done me t ev.2).1,f,(ev.1.done me t ev.2).2)
 else if e=none/\0<=aj/\n.aH.ways<=(n.aH.nT aj).length then((n.begin_ c me f 3 (n.aH.Lj aj)).1,(n.begin_ c me f 3 (n.aH.Lj aj)).2,t)
 else if o.aO=1 then((n.begin_ c me f 1 aj).1,(n.begin_ c me f 1 aj).2,t)
 else((n.begin_ c me f 2 aj).1,(n.begin_ c me f 2 aj).2,t)
def jK.asked(c:Cfg)(me:Int)(n:jK)(f:Fab)(p:Pkt):jK × Fab:=
 if p.aO=1∨p.aO=2 then
  match n.homes.handle c me p with
  | (h,out,ok,e)=> ({ n with homes:=h },if ok=true/\e=0 then(f.send out).1 else f)
 else
  match ahj n.aH p with
  | (ca,out,e)=> ({ n with aH:=ca },if e=0 then(f.send out).1 else f)
def jK.step(c:Cfg)(me:Int)(n:jK)(f:Fab)(t:List Evn):aoM × Int:=
 match f.take me false with
 | (f',some p)=> (n.answered c me f' t p,1)
 | (_,none)=>
  if 0 < f.roomOf me false/\n.homes.aT.ready≠[] then
   (({ n with homes:=(n.homes.grant me).1 },(f.send (n.homes.grant me).2.1).1,t),2)
  else if 0 < f.roomOf me false/\0 < f.waiting me true then
   match f.take me true with
   | (f',p)=> (((n.asked c me f' (p.getD .zero)).1,(n.asked c me f' (p.getD .zero)).2,t),3)
  else
   match n.ops[n.bH.length]? with
   | some o=> if n.has=false then(n.work c me f t o,4) else((n,f,t),0)
   | none=> ((n,f,t),0)
def kN.aoN(m:kN):Fab:=⟨m.c.out,m.c.inn,m.fab⟩
def kN.all(m:kN):List Pkt:=m.fab.flatMap λp=> p.rq++p.an
def kN.left(m:kN):Int:=(m.aG.map λn=> (n.ops.length:Int) - n.bH.length).sum
def kN.busy(m:kN)(i:Nat):Bool:=match m.aG[i]?,m.fab[i]? with
 | some n,some p=> n.eF || n.has || decide (0 < p.rin.length) || decide (0 < p.ain.length)
 | _,_=> false
def kN.quiet(m:kN):Bool:=decide (m.all.length=0) && (List.range m.aG.length).all λi=> !m.busy i
def kN.step(m:kN)(i:Int):kN × Int:=
 match(if 0<=i then m.aG[i.toNat]? else none) with
 | none=> (m,0)
 | some n=> match n.step m.c i m.aoN m.ev with
  | ((n',f,t),k)=> ({ m with aG:=m.aG.set i.toNat n',fab:=f.l,ev:=t },k)
def kN.deliver(m:kN)(at_ bit mask:Int):kN × Int:=({ m with fab:=(m.aoN.deliver at_ bit mask).1.l },(m.aoN.deliver at_ bit mask).2)
def kN.do_(m:kN)(p:Pck):kN × Bool:=
 if p.deliver then((m.deliver p.at_ p.bit p.mask).1,decide ((m.deliver p.at_ p.bit p.mask).2=0))
 else((m.step p.at_).1,decide ((m.step p.at_).2≠0))
structure aoa(c:Cfg)(me:Int)(n:Node)(r:jK):Prop where
 ops:r.ops=n.bP.ops
 bH:r.bH=n.bP.bH
 eF:r.eF=n.bP.eF
 has:r.has=!decide (n.aI.step=0)
 aI:r.aI=if n.aI.step=0 then .zero else n.aI
 num:r.num=n.num
 sets:r.aH.sets=n.aH.sets
 ways:r.aH.ways=n.aH.ways
 bW:r.aH.bW=n.aH.bW
 sorted:r.aH.l.Pairwise λa b=> a.aj < b.aj
 perm:n.aH.l.Perm r.aH.l
 dH:∀aj,kP c me aj=true->∃row,jg n.home.dH aj=some row/\r.homes.dH[aj.toNat]?=some row
 none:∀aj,kP c me aj=false->jg n.home.dH aj=none
 owner:∀aj,n.home.aT.owner aj=r.homes.aT.iQ aj
 waits:∀aj,n.home.aT.ws aj=r.homes.aT.waits aj
structure Sim(m:dZ)(r:kN):Prop where
 c:r.c=m.c
 len:r.aG.length=m.aG.length
 fab:r.fab=m.fab.l
 ev:r.ev=m.trace
 bG:∀(i:Nat) n rn,m.aG[i]?=some n->r.aG[i]?=some rn->aoa m.c i n rn
structure BM(c r:Cache):Prop where
 sets:r.sets=c.sets
 ways:r.ways=c.ways
 bW:r.bW=c.bW
 sorted:r.l.Pairwise λa b=> a.aj < b.aj
 perm:c.l.Perm r.l
def Lines(l:List Ent):Prop:=l.Pairwise λa b=> a.aj≠b.aj
theorem wF {l:List Ent}(h:l.Pairwise λa b=> a.aj < b.aj):Lines l:=h.imp λh=> by omega
theorem Lines.perm {l l':List Ent}(h:Lines l)(p:l.Perm l'):Lines l':=(p.pairwise_iff (λh=> Ne.symm h)).1 h
theorem BM.bn {c r:Cache}(S:BM c r):Lines c.l:=(wF S.sorted).perm S.perm.symm
theorem BM.UL {c r:Cache}(S:BM c r):Lines r.l:=wF S.sorted
theorem Lines.inj:∀{l:List Ent},Lines l->∀{a b:Ent},a∈l->b∈l->a.aj=b.aj->a=b
 | [],_,a,_,ha,_,_=> by cases ha
 | x::l,h,a,b,ha,hb,e=> by
  have h1:=zbc.1 h;rcases zaj.1 ha with ha' | ha'
  ·rcases zaj.1 hb with hb' | hb'
   ·rw [ha',hb']
   ·rw [ha'] at e;exact absurd e (h1.1 b hb')
  ·rcases zaj.1 hb with hb' | hb'
   ·rw [hb'] at e;exact absurd e.symm (h1.1 a ha')
   ·exact Lines.inj h1.2 ha' hb' e
theorem ig {l:List Ent}(h:Lines l){aj:Int}{e:Ent}:(l.find? λx=> decide (x.aj=aj))=some e↔e∈l/\e.aj=aj:=by
 constructor
 ·intro hf;exact⟨za7 hf,by simpa using zbS hf⟩
 ·rintro⟨he,hl⟩;cases hf:l.find? λx=> decide (x.aj=aj) with
  | none=>
   have:=zbF.1 hf e he;simp [hl] at this
  | some x=>
   have h1:=za7 hf;have h2:x.aj=aj:=by simpa using zbS hf
   rw [h.inj h1 he (by rw [h2,hl])]
theorem tC {l:List Ent}{aj:Int}:(l.find? λx=> decide (x.aj=aj))=none↔∀e∈l,e.aj≠aj:=by
 rw [zbF];simp
theorem BM.find {c r:Cache}(S:BM c r)(aj:Int):r.find aj=c.find aj:=by
 unfold Cache.find;cases hf:c.l.find? λx=> decide (x.aj=aj) with
 | none=>
  rw [tC] at hf ⊢;exact λe he=> hf e (S.perm.mem_iff.2 he)
 | some e=>
  rw [ig S.bn] at hf;rw [ig S.UL];exact⟨S.perm.mem_iff.1 hf.1,hf.2⟩
theorem BM.count {c r:Cache}(S:BM c r)(aj:Int):(r.nT aj).length=(c.nT aj).length:=by
 unfold Cache.nT;rw [S.sets];exact(S.perm.filter _).length_eq.symm
theorem BM.full {c r:Cache}(S:BM c r)(aj:Int):r.full aj=c.full aj:=by
 unfold Cache.full;rw [S.find,S.count,S.ways]
theorem yS {c:Cache}{aj:Int}:c.at_ aj=none↔c.find aj=none:=by
 unfold Cache.at_ Cache.find;rw [List.findIdx?_eq_none_iff,zbF];simp
theorem BN {c:Cache}{aj:Int}{i:Nat}(h:c.at_ aj=some i):∃e,c.l[i]?=some e/\c.find aj=some e/\e.aj=aj:=by
 unfold Cache.at_ at h;have hi:=List.findIdx?_eq_some_iff_getElem.1 h;obtain⟨hl,h1,h2⟩:=hi;refine⟨c.l[i],zab hl,?_,by simpa using h1⟩;unfold Cache.find;rw [List.find?_eq_some_iff_getElem];exact⟨h1,i,hl,rfl,λj hj=> by simpa using h2 j hj⟩
theorem xw {c:Cache}{aj:Int}{e:Ent}(h:c.find aj=some e):∃i,c.at_ aj=some i/\c.l[i]?=some e:=by
 cases ha:c.at_ aj with
 | none=> rw [yS.1 ha] at h;cases h
 | some i=>
  obtain⟨e',h1,h2,_⟩:=BN ha;rw [h] at h2;cases h2;exact⟨i,rfl,h1⟩
theorem Lm:∀{l:List Ent},Lines l->∀{i:Nat} {e v:Ent},l[i]?=some e->l.set i v=l.map λx=> if x.aj=e.aj then v else x
 | [],_,i,e,v,h=> by simp at h
 | x::l,hl,i,e,v,h=> by
  have h1:=zbc.1 hl;cases i with
  | zero=>
   simp only [zaP,zaa] at h;subst h;simp only [zb2,zaw,if_true]
   congr 1
   have:∀y∈l,(if y.aj=x.aj then v else y)=y:=λy hy=> if_neg (Ne.symm (h1.1 y hy));rw [zbt this];simp
  | succ i=>
   simp only [zbb] at h;have hx:x.aj≠e.aj:=h1.1 e (zaq h);simp only [zb3,zaw,if_neg hx];rw [Lm h1.2 h]
theorem Dt:∀{l:List Ent},Lines l->∀{i:Nat} {e:Ent},l[i]?=some e->l.eraseIdx i=l.filter λx=> decide (x.aj≠e.aj)
 | [],_,i,e,h=> by simp at h
 | x::l,hl,i,e,h=> by
  have h1:=zbc.1 hl;cases i with
  | zero=>
   simp only [zaP,zaa] at h;subst h;simp only [List.eraseIdx_cons_zero,zbN,ne_eq,not_true,decide_false,zah,if_false];rw [List.filter_eq_self.2];intro y hy;have:=h1.1 y hy;simp only [decide_eq_true_eq];exact λe=> this e.symm
  | succ i=>
   simp only [zbb] at h;have hx:x.aj≠e.aj:=h1.1 e (zaq h);simp only [zc4,zbN,hx,ne_eq,not_false_eq_true,decide_true,if_true];rw [Dt h1.2 h]
theorem wG(e:Ent):∀l,(yR e l).Perm (e::l)
 | []=> .refl _
 | x::l=> by
  rw [yR];split
  ·exact .refl _
  ·exact((wG e l).cons x).trans (.swap e x l)
theorem yx(e:Ent):∀l:List Ent,(l.Pairwise λa b=> a.aj < b.aj)->(∀x∈l,x.aj≠e.aj)->(yR e l).Pairwise λa b=> a.aj < b.aj
 | [],_,_=> by simp [yR]
 | x::l,h,hn=> by
  have h1:=zbc.1 h;rw [yR];split
  ·rename_i hlt;refine zbc.2 ⟨λy hy=> ?_,h⟩;rcases zaj.1 hy with rfl | hy
   ·exact hlt
   ·have:=h1.1 y hy;omega
  ·rename_i hlt;refine zbc.2 ⟨λy hy=> ?_,yx e l h1.2 λy hy=> hn y (by simp [hy])⟩;rcases zaj.1 ((wG e l).mem_iff.1 hy) with rfl | hy
   ·have:=hn x (by simp);omega
   ·exact h1.1 y hy
theorem acC {l:List Ent}{f:Ent->Ent}(hf:∀x∈l,(f x).aj=x.aj)(h:l.Pairwise λa b=> a.aj < b.aj):(l.map f).Pairwise λa b=> a.aj < b.aj:=by
 rw [zcq];exact h.imp_of_mem λha hb hab=> by rw [hf _ ha,hf _ hb];exact hab
theorem BM.mapped {c r:Cache}(S:BM c r){f:Ent->Ent}(hf:∀x∈c.l,(f x).aj=x.aj)(k:Int):BM { c with l:=c.l.map f,bW:=k } { r with l:=r.l.map f,bW:=k }:=
 ⟨S.sets,S.ways,rfl,acC (λx hx=> hf x (S.perm.mem_iff.2 hx)) S.sorted,S.perm.map f⟩
theorem lu {c:Cache}(hl:Lines c.l){e x:Ent}(h0:0<=e.aj)(h:c.find e.aj=some x):c.put e=({ c with l:=c.l.map λy=> if y.aj=e.aj then { e with used:=x.used } else y },0):=by
 obtain⟨i,h1,h2⟩:=xw h;have hx:x.aj=e.aj:=by
  obtain⟨y,k1,_,k3⟩:=BN h1;rw [h2] at k1;cases k1;exact k3
 unfold Cache.put;rw [if_neg (by omega),h1];simp only;rw [zaF,h2,zar,Lm hl h2,hx]
theorem WA {c:Cache}(hl:Lines c.l){e x:Ent}(h0:0<=e.aj)(h:c.find e.aj=some x):c.XP e=({ c with l:=c.l.map λy=> if y.aj=e.aj then { e with used:=x.used } else y },0):=by
 obtain⟨i,h1,h2⟩:=xw h;have hx:x.aj=e.aj:=by
  obtain⟨y,k1,_,k3⟩:=BN h1;rw [h2] at k1;cases k1;exact k3
 unfold Cache.XP;rw [if_neg (by omega),h1];simp only;rw [zaF,h2,zar,Lm hl h2,hx]
theorem BM.put {c r:Cache}(S:BM c r)(e:Ent):BM (c.put e).1 (r.XP e).1/\(r.XP e).2=(c.put e).2:=by
 by_cases h0:e.aj < 0
 ·unfold Cache.put Cache.XP;rw [if_pos h0,if_pos h0];exact⟨S,rfl⟩
 cases hf:c.find e.aj with
 | some x=>
  rw [lu S.bn (by omega) hf,WA S.UL (by omega) (by rw [S.find,hf])];refine⟨?_,rfl⟩;have:=S.mapped (f:=λy=> if y.aj=e.aj then { e with used:=x.used } else y) (λy _=> by
   try simp only
   split
   ·rename_i h;exact h.symm
   ·rfl) c.bW
  rw [<-S.bW] at this;have e2:({ c with l:=c.l.map λy=> if y.aj=e.aj then { e with used:=x.used } else y }:Cache)={ c with l:=c.l.map λy=> if y.aj=e.aj then { e with used:=x.used } else y,bW:=r.bW }:=by rw [S.bW]
  rw [e2];exact this
 | none=>
  have h1:=yS.2 hf;have h2:r.at_ e.aj=none:=yS.2 (by rw [S.find,hf]);unfold Cache.put Cache.XP;rw [if_neg h0,if_neg h0,h1,h2];have hc:(r.ways<=((r.nT e.aj).length:Int))=(c.full e.aj=true):=by
   simp only [Cache.full,hf,zcD,zaU,S.count,S.ways,decide_eq_true_eq]
  simp only [hc];split
  ·exact⟨S,rfl⟩
  ·refine⟨⟨S.sets,S.ways,by simp only [S.bW],?_,?_⟩,rfl⟩
   ·simp only [S.bW];refine yx _ _ S.sorted λx hx=> ?_;have:=tC.1 (show(c.l.find? λx=> decide (x.aj=e.aj))=none from hf);exact this x (S.perm.mem_iff.2 hx)
   ·simp only [S.bW];refine(zdm.trans ?_).trans (wG _ _).symm;exact S.perm.cons _
theorem Gm {c:Cache}(hl:Lines c.l)(aj:Int):c.drop aj={ c with l:=c.l.filter λx=> decide (x.aj≠aj) }:=by
 unfold Cache.drop;cases ha:c.at_ aj with
 | none=>
  have:=tC.1 (show(c.l.find? λx=> decide (x.aj=aj))=none from yS.1 ha);simp only;rw [List.filter_eq_self.2 λx hx=> by simpa using this x hx]
 | some i=>
  obtain⟨e,h1,_,h3⟩:=BN ha;simp only;rw [Dt hl h1,h3]
theorem BM.drop {c r:Cache}(S:BM c r)(aj:Int):BM (c.drop aj) (r.drop aj):=by
 rw [Gm S.bn,Gm S.UL];exact⟨S.sets,S.ways,S.bW,S.sorted.filter _,S.perm.filter _⟩
theorem xB {c:Cache}(hl:Lines c.l){aj:Int}{e:Ent}(h:c.find aj=some e):c.touch aj={ c with l:=c.l.map λx=> if x.aj=aj then { e with used:=c.bW+1 } else x,bW:=c.bW+1 }:=by
 obtain⟨i,h1,h2⟩:=xw h;obtain⟨y,k1,_,k3⟩:=BN h1;rw [h2] at k1;cases k1;unfold Cache.touch;rw [h1];simp only;rw [zaF,h2,zar,Lm hl h2,k3]
theorem BM.touch {c r:Cache}(S:BM c r){aj:Int}{e:Ent}(h:c.find aj=some e):BM (c.touch aj) (r.touch aj):=by
 have he:e.aj=aj:=by
  obtain⟨i,h1,h2⟩:=xw h;obtain⟨y,k1,_,k3⟩:=BN h1;rw [h2] at k1;cases k1;exact k3
 rw [xB S.bn h,xB S.UL (by rw [S.find,h]),S.bW];exact S.mapped (λx _=> by
  try simp only
  split
  ·rename_i hx;rw [hx];exact he
  ·rfl) _
theorem Gn:∀(l:List Ent) (m:Ent),(l.foldl (λm x=> if x.used < m.used then x else m) m)∈m::l/\∀x∈m::l,(l.foldl (λm x=> if x.used < m.used then x else m) m).used<=x.used
 | [],m=> by simp
 | x::l,m=> by
  rw [zbJ];obtain⟨h1,h2⟩:=Gn l (if x.used < m.used then x else m);refine⟨?_,λy hy=> ?_⟩
  ·rcases zaj.1 h1 with h | h
   ·rw [h];split <;> simp
   ·simp [h]
  ·have hle:(if x.used < m.used then x else m).used<=x.used/\(if x.used < m.used then x else m).used<=m.used:=by
    split
    ·omega
    ·omega
   have h3:=h2 _ (List.mem_cons_self ..);rcases zaj.1 hy with hy | hy
   ·rw [hy];exact Int.le_trans h3 hle.2
   ·rcases zaj.1 hy with hy | hy
    ·rw [hy];exact Int.le_trans h3 hle.1
    ·exact h2 y (by simp [hy])
theorem qZ {l:List Ent}{e:Ent}(h:mX l=some e):e∈l/\∀x∈l,e.used<=x.used:=by
 cases l with
 | nil=> cases h
 | cons m l=>
  simp only [mX,zaa] at h;subst h;exact Gn l m
def Gp(l:List Ent):Prop:=l.Pairwise λa b=> a.used≠b.used
theorem Gp.inj:∀{l:List Ent},Gp l->∀{a b:Ent},a∈l->b∈l->a.used=b.used->a=b
 | [],_,a,_,ha,_,_=> by cases ha
 | x::l,h,a,b,ha,hb,e=> by
  have h1:=zbc.1 h;rcases zaj.1 ha with ha' | ha'
  ·rcases zaj.1 hb with hb' | hb'
   ·rw [ha',hb']
   ·rw [ha'] at e;exact absurd e (h1.1 b hb')
  ·rcases zaj.1 hb with hb' | hb'
   ·rw [hb'] at e;exact absurd e.symm (h1.1 a ha')
   ·exact Gp.inj h1.2 ha' hb' e
theorem Ph {l l':List Ent}(p:l.Perm l')(h:Gp l):mX l'=mX l:=by
 cases hl:mX l with
 | none=>
  cases l with
  | nil=> rw [List.nil_perm.1 p];rfl
  | cons m l=> cases hl
 | some e=>
  obtain⟨h1,h2⟩:=qZ hl;cases hl':mX l' with
  | none=>
   cases l' with
   | nil=> rw [List.perm_nil.1 p] at h1;cases h1
   | cons m l=> cases hl'
  | some e'=>
   obtain⟨h3,h4⟩:=qZ hl';have h5:=h2 e' (p.mem_iff.2 h3);have h6:=h4 e (p.mem_iff.1 h1);rw [h.inj h1 (p.mem_iff.2 h3) (by omega)]
theorem BM.nH {c r:Cache}(S:BM c r)(h:Gp c.l)(aj:Int):r.Lj aj=(c.nH aj).getD (-1):=by
 unfold Cache.Lj Cache.nH;have:mX (r.nT aj)=mX (c.nT aj):=by
  unfold Cache.nT;rw [S.sets];exact Ph (S.perm.filter _) (h.filter _)
 rw [this]
theorem yT(x:Int):∀l,(Dq x l).Perm (x::l)
 | []=> List.Perm.refl _
 | y::l=> by
  simp only [Dq];split
  ·exact((yT x l).cons y).trans (List.Perm.swap x y l)
  ·exact List.Perm.refl _
theorem zO(x:Int):∀l,l.Pairwise (· ≥ ·)->(Dq x l).Pairwise (· ≥ ·)
 | [],_=> by simp [Dq]
 | y::l,h=> by
  simp only [Dq];rw [zbc] at h;split
  ·rename_i hxy;refine zbc.2 ⟨λz hz=> ?_,zO x l h.2⟩;rcases zaj.1 ((yT x l).mem_iff.1 hz) with rfl | hz
   ·omega
   ·exact h.1 z hz
  ·rename_i hxy;refine zbc.2 ⟨λz hz=> ?_,zbc.2 h⟩;rcases zaj.1 hz with rfl | hz
   ·omega
   ·have:=h.1 z hz;omega
theorem xE:∀(l rp:List Int),rp.Pairwise (· ≥ ·)->(srt rp l).Perm (rp++l)/\(srt rp l).Pairwise (· <= ·)
 | [],rp,h=> by
  simp only [srt,zbl];exact⟨List.reverse_perm rp,List.pairwise_reverse.2 (h.imp λh=> h)⟩
 | x::l,rp,h=> by
  have:=xE l (Dq x rp) (zO x rp h);simp only [srt];refine⟨this.1.trans ?_,this.2⟩;refine((yT x rp).append_right l).trans ?_;rw [zbe];exact(zdi (a:=x) (l₁:=rp) (l₂:=l)).symm
theorem akl {l l':List Int}(hp:l.Perm l')(hs:l'.Pairwise (· <= ·)):srt [] l=l':=by
 obtain⟨h1,h2⟩:=xE l [] List.Pairwise.nil;exact(h1.trans hp).eq_of_pairwise (λa b _ _ h1 h2=> Int.le_antisymm h1 h2) h2 hs
theorem gX {α:Type}:∀(l:List (Int × α)) (n m:Int) (x:α),jg (lG l n x) m=if n=m then some x else jg l m
 | [],n,m,x=> by simp [lG,jg]
 | (k,v)::l,n,m,x=> by
  simp only [lG];by_cases h:k=n
  ·subst h;simp only [if_true,jg];by_cases h2:k=m <;> simp [h2]
  ·simp only [h,if_false,jg];rw [gX l n m x];by_cases h2:k=m
   ·subst h2;simp only [if_true];rw [if_neg (λe=> h e.symm)]
   ·simp [h2]
theorem BO {α:Type}:∀(l:List (Int × α)) (n:Int),(xX l n).map (·.1)=(l.map (·.1)).erase n
 | [],n=> rfl
 | (k,v)::l,n=> by
  simp only [xX,zaw,List.erase_cons];by_cases h:k=n
  ·simp [h]
  ·simp [h,BO l n]
theorem Pj {α:Type}:∀(l:List (Int × α)) (n:Int) (x:α),(lG l n x).map (·.1)=if n∈l.map (·.1) then l.map (·.1) else l.map (·.1)++[n]
 | [],n,x=> by simp [lG]
 | (k,v)::l,n,x=> by
  simp only [lG,zaw,zaj];by_cases h:k=n
  ·simp [h]
  ·have h':¬n=k:=λe=> h e.symm;simp only [h,if_false,zaw,h',false_or,Pj l n x];split <;> simp
theorem lX {α:Type}{l:List (Int × α)}(h:(l.map (·.1)).Nodup)(n:Int)(x:α):((lG l n x).map (·.1)).Nodup:=by
 rw [Pj];split
 ·exact h
 ·rename_i hn;rw [zbQ];refine⟨h,by simp,λa ha b hb=> ?_⟩;simp only [zaM] at hb;subst hb;intro e;subst e;exact hn ha
theorem BP {α:Type}:∀{l:List (Int × α)},(l.map (·.1)).Nodup->∀(n m:Int),jg (xX l n) m=if n=m then none else jg l m
 | [],_,n,m=> by simp [xX,jg]
 | (k,v)::l,h,n,m=> by
  rw [zaw,zaY] at h;simp only [xX];by_cases hk:k=n
  ·subst hk;simp only [if_true,jg];by_cases h2:k=m
   ·subst h2;simp only [if_true];exact JC.2 h.1
   ·simp [h2]
  ·simp only [hk,if_false,jg];rw [BP h.2 n m];by_cases h2:k=m
   ·subst h2;simp only [if_true];rw [if_neg λe=> hk e.symm]
   ·simp [h2]
where
 JC {α:Type}:∀{es:List (Int × α)} {n:Int},jg es n=none↔n∉es.map (·.1)
 | [],n=> by simp [jg]
 | (k,v)::l,n=> by
  simp only [jg,zaw,zaj,not_or];by_cases h:k=n
  ·simp [h]
  ·simp only [h,if_false];rw [JC (es:=l)];exact⟨λh'=> ⟨λe=> h e.symm,h'⟩,λh'=> h'.2⟩
theorem mY {α:Type}:∀{l:List (Int × α)} {n:Int} {x:α},jg l n=some x->(n,x)∈l
 | [],n,x,h=> by cases h
 | (k,v)::l,n,x,h=> by
  simp only [jg] at h;split at h
  ·rename_i e;cases h;subst e;simp
  ·simp [mY h]
theorem lJ {α:Type}:∀{l:List (Int × α)} {n:Int} {x:α} {e:Int × α},e∈lG l n x->e=(n,x)∨e∈l
 | [],n,x,e,h=> by simp [lG] at h;exact .inl h
 | (k,v)::l,n,x,e,h=> by
  simp only [lG] at h;split at h
  ·rcases zaj.1 h with h | h
   ·exact .inl h
   ·exact .inr (by simp [h])
  ·rcases zaj.1 h with h | h
   ·exact .inr (by simp [h])
   ·rcases lJ h with h | h
    ·exact .inl h
    ·exact .inr (by simp [h])
theorem Gq {α:Type}:∀{l:List (Int × α)} {n:Int} {e:Int × α},e∈xX l n->e∈l
 | [],n,e,h=> by cases h
 | (k,v)::l,n,e,h=> by
  simp only [xX] at h;split at h
  ·simp [h]
  ·rcases zaj.1 h with h | h
   ·simp [h]
   ·simp [Gq h]
structure Gs(t:Turns):Prop where
 ok:(t.fP.map (·.1)).Nodup
 oge:∀e∈t.fP,0<=e.2
 wk:(t.wait.map (·.1)).Nodup
 wge:∀e∈t.wait,∀w∈e.2,0<=w.1
structure RX(t:Turns)(r:gW):Prop where
 owner:∀aj,t.owner aj=r.iQ aj
 waits:∀aj,t.ws aj=r.waits aj
 rok:(r.owner.map (·.1)).Nodup
 rge:∀o∈r.owner,0<=o.2
theorem Gs.owned {t:Turns}(h:Gs t)(aj:Int):t.owned aj=true↔t.owner aj≠-1:=by
 unfold Turns.owned Turns.owner;cases ha:jg t.fP aj with
 | none=> simp
 | some v=>
  have:=h.oge _ (mY ha);simp only [zaI,zar,true_iff];simp only at this;omega
theorem yA {l:List (Int × Int)}{aj who m:Int}(hn:∀o∈l,o.1≠aj):(((l++[(aj,who)]).find? λo=> decide (o.1=m)).map (·.2)).getD (-1)=if m=aj then who else((l.find? λo=> decide (o.1=m)).map (·.2)).getD (-1):=by
 rw [zdF];by_cases h:m=aj
 ·subst h;have:(l.find? λo=> decide (o.1=m))=none:=by
   rw [zbF];intro o ho;simpa using hn o ho
  rw [this];simp
 ·rw [if_neg h];cases hf:l.find? λo=> decide (o.1=m) with
  | some o=> simp
  | none=>
   have h':¬aj=m:=λe=> h e.symm;simp [h']
theorem RX.free {t:Turns}{r:gW}(S:RX t r){aj:Int}(h:r.iQ aj=-1):∀o∈r.owner,o.1≠aj:=by
 intro o ho e;unfold gW.iQ at h;cases hf:r.owner.find? λo=> decide (o.1=aj) with
 | none=>
  have:=zbF.1 hf o ho;simp [e] at this
 | some o'=>
  rw [hf] at h;have:=S.rge o' (za7 hf);simp only [zak,zar] at h;omega
theorem JD {l:List (Int × Int)}(h:(l.map (·.1)).Nodup){aj who:Int}(hn:∀o∈l,o.1≠aj):((l++[(aj,who)]).map (·.1)).Nodup:=by
 rw [zbj,zbQ];refine⟨h,by simp,λa ha b hb=> ?_⟩;obtain⟨o,ho,rfl⟩:=zaH.1 ha;simp only [zaw,zbC,zaM] at hb;subst hb;exact hn o ho
theorem RX.ask {t:Turns}{r:gW}(S:RX t r)(h:Gs t)(aj who id:Int):RX (t.ask aj who id).1 (r.ask aj who id).1/\(r.ask aj who id).2=(t.ask aj who id).2/\Gs (t.ask aj who id).1:=by
 unfold Turns.ask gW.ask;by_cases h0:who < 0
 ·rw [if_pos h0,if_pos h0];exact⟨S,rfl,h⟩
 rw [if_neg h0,if_neg h0];have ho:=h.owned aj;by_cases hc:(t.owned aj || !(t.ws aj).isEmpty)=true
 ·have hr:¬(r.iQ aj=-1/\r.waits aj=[]):=by
   rintro⟨h1,h2⟩;simp only [zbk,za8] at hc;rcases hc with hc | hc
   ·exact ho.1 hc (by rw [S.owner,h1])
   ·rw [S.waits,h2] at hc;cases hc
  rw [if_pos hc,if_neg hr];refine⟨⟨S.owner,λm=> ?_,S.rok,S.rge⟩,rfl,⟨h.ok,h.oge,lX h.wk _ _,λe he w hw=> ?_⟩⟩
  ·show(jg (lG t.wait aj (t.ws aj++[(who,id)])) m).getD []=((r.wait++[(aj,who,id)]).filter λw=> decide (w.1=m)).map (·.2);have hm:=S.waits m;unfold Turns.ws gW.waits at hm;rw [gX,zcg,zbj,<-hm];by_cases hl:aj=m
   ·subst hl;simp [Turns.ws]
   ·simp [hl]
  ·rcases lJ he with rfl | he
   ·rcases zaO.1 hw with hw | hw
    ·unfold Turns.ws at hw;cases ha:jg t.wait aj with
     | none=> rw [ha] at hw;cases hw
     | some ws=> rw [ha] at hw;exact h.wge _ (mY ha) w hw
    ·simp only [zaM] at hw;subst hw;simp only;omega
   ·exact h.wge e he w hw
 ·have hc':t.owned aj=false/\t.ws aj=[]:=by
   simp only [zbk,za8,not_or,zdf,zcr,List.isEmpty_iff] at hc;exact hc
  have hr:r.iQ aj=-1/\r.waits aj=[]:=by
   refine⟨?_,by rw [<-S.waits];exact hc'.2⟩;rw [<-S.owner];rcases Classical.em (t.owner aj=-1) with e | e
   ·exact e
   ·rw [ho.2 e] at hc';cases hc'.1
  rw [if_neg hc,if_pos hr];refine⟨⟨λm=> ?_,S.waits,JD S.rok (S.free hr.1),λo ho=> ?_⟩,rfl,⟨lX h.ok _ _,λe he=> ?_,h.wk,h.wge⟩⟩
  ·show(jg (lG t.fP aj who) m).getD (-1)=(((r.owner++[(aj,who)]).find? λo=> decide (o.1=m)).map (·.2)).getD (-1);rw [yA (S.free hr.1),gX];by_cases hl:aj=m
   ·subst hl;simp
   ·rw [if_neg hl,if_neg λe=> hl e.symm];exact S.owner m
  ·rcases zaO.1 ho with ho | ho
   ·exact S.rge o ho
   ·simp only [zaM] at ho;subst ho;simp only;omega
  ·rcases lJ he with rfl | he
   ·simp only;omega
   ·exact h.oge e he
theorem zQ:∀{l:List (Int × Int)},(l.map (·.1)).Nodup->∀{aj who:Int},(aj,who)∈l->∀m,(((lH (λo=> decide (o.1=aj) && decide (o.2=who)) l).find? λo=> decide (o.1=m)).map (·.2)).getD (-1)=if m=aj then -1 else((l.find? λo=> decide (o.1=m)).map (·.2)).getD (-1)
 | [],_,aj,who,h,m=> by cases h
 | (k,v)::l,hn,aj,who,h,m=> by
  rw [zaw,zaY] at hn;simp only [lH];by_cases hk:k=aj
  ·subst hk;have hv:v=who:=by
    rcases zaj.1 h with e | e
    ·cases e;rfl
    ·exact absurd (zaH.2 ⟨_,e,rfl⟩) hn.1
   subst hv;simp only [decide_true,zcp,if_true,List.find?_cons];by_cases hm:m=k
   ·subst hm;have:(l.find? λo=> decide (o.1=m))=none:=by
     rw [zbF];intro o ho;simp only [decide_eq_true_eq];intro e;exact hn.1 (zaH.2 ⟨o,ho,e⟩)
    rw [this];simp
   ·have:¬k=m:=λe=> hm e.symm;simp [hm,this]
  ·have h':(aj,who)∈l:=by
    rcases zaj.1 h with e | e
    ·cases e;exact absurd rfl hk
    ·exact e
   simp only [hk,decide_false,zaV,zah,if_false,List.find?_cons];by_cases hm:k=m
   ·subst hm;simp [hk]
   ·simp only [hm,decide_false];exact zQ hn.2 h' m
theorem wH {α:Type}(p:α->Bool):∀l:List α,(lH p l).Sublist l
 | []=> .slnil
 | x::l=> by
  simp only [lH];split
  ·exact List.sublist_cons_self x l
  ·exact(wH p l).cons_cons x
theorem RX.release {t:Turns}{r:gW}(S:RX t r)(h:Gs t){aj who:Int}(hw:t.owner aj=who)(h0:0<=who):RX (t.release aj who).1 (r.release aj who).1/\(t.release aj who).2=0/\Gs (t.release aj who).1:=by
 have ha:jg t.fP aj=some who:=by
  unfold Turns.owner at hw;cases e:jg t.fP aj with
  | none=> rw [e] at hw;simp at hw;omega
  | some v=> rw [e] at hw;simp at hw;rw [hw]
 have hm:(aj,who)∈r.owner:=by
  have:=S.owner aj;rw [hw] at this;unfold gW.iQ at this;cases e:r.owner.find? λo=> decide (o.1=aj) with
  | none=> rw [e] at this;simp at this;omega
  | some o=>
   rw [e] at this;have h1:=za7 e;have h2:o.1=aj:=by simpa using zbS e
   simp at this;have:o=(aj,who):=by rw [Prod.ext_iff];exact⟨h2,this.symm⟩
   rw [<-this];exact h1
 have hany:(r.owner.any λo=> decide (o.1=aj) && decide (o.2=who))=true:=zbY.2 ⟨_,hm,by simp⟩;unfold Turns.release gW.release;rw [if_pos ha,if_pos hany];refine⟨⟨λm=> ?_,S.waits,(S.rok.sublist ((wH _ _).map _)),λo ho=> S.rge o ((wH _ _).subset ho)⟩,rfl,⟨?_,λe he=> h.oge e (Gq he),h.wk,h.wge⟩⟩
 ·show(jg (xX t.fP aj) m).getD (-1)=_;rw [BP h.ok];show _=(((lH (λo=> decide (o.1=aj) && decide (o.2=who)) r.owner).find? λo=> decide (o.1=m)).map (·.2)).getD (-1);rw [zQ S.rok hm];by_cases hl:aj=m
  ·subst hl;simp
  ·rw [if_neg hl,if_neg λe=> hl e.symm];exact S.owner m
 ·show((xX t.fP aj).map (·.1)).Nodup;rw [BO];exact h.ok.erase _
theorem yU:∀(l:List (Int × Int × Int)) (aj m:Int),((lH (λw=> decide (w.1=aj)) l).filter λw=> decide (w.1=m))=if m=aj then(l.filter λw=> decide (w.1=m)).tail else l.filter λw=> decide (w.1=m)
 | [],aj,m=> by simp [lH]
 | w::l,aj,m=> by
  simp only [lH];by_cases hw:w.1=aj
  ·simp only [hw,decide_true,if_true,zbN];by_cases hm:m=aj
   ·subst hm;simp
   ·have:¬aj=m:=λe=> hm e.symm;simp [hm,this]
  ·simp only [hw,decide_false,zah,if_false,zbN];by_cases hm:w.1=m
   ·have hml:¬m=aj:=λe=> hw (by rw [hm,e]);simp only [hm,decide_true,if_true,hml,if_false];rw [yU l aj m,if_neg hml]
   ·simp only [hm,decide_false,zah,if_false];exact yU l aj m
theorem RX.next {t:Turns}{r:gW}(S:RX t r)(h:Gs t)(aj:Int):RX (t.next aj).1 (r.next aj).1/\(r.next aj).2=(t.next aj).2/\Gs (t.next aj).1:=by
 unfold Turns.next gW.next
 by_cases ho:t.owned aj=true
 ·rw [if_pos ho,if_pos (by rw [<-S.owner];exact(h.owned aj).1 ho)];exact⟨S,rfl,h⟩
 ·have hr:r.iQ aj=-1:=by
   rw [<-S.owner];rcases Classical.em (t.owner aj=-1) with e | e
   ·exact e
   ·exact absurd ((h.owned aj).2 e) ho
  rw [if_neg ho,if_neg (by rw [hr];simp)];have hw:=S.waits aj;unfold gW.waits at hw;cases hf:r.wait.find? λw=> decide (w.1=aj) with
  | none=>
   have:(r.wait.filter λw=> decide (w.1=aj))=[]:=by
    rw [List.filter_eq_nil_iff];exact λw hw=> zbF.1 hf w hw
   rw [this] at hw;rw [hw];exact⟨S,rfl,h⟩
  | some w=>
   have hfil:(r.wait.filter λw=> decide (w.1=aj))=w::(r.wait.filter λw=> decide (w.1=aj)).tail:=by
    have h1:(r.wait.filter λw=> decide (w.1=aj)).head?=some w:=by rw [List.head?_filter];exact hf
    cases hl:r.wait.filter λw=> decide (w.1=aj) with
    | nil=> rw [hl] at h1;cases h1
    | cons a b=> rw [hl] at h1;cases h1;rfl
   rw [hfil,zaw] at hw;rw [hw];have hwl:w.1=aj:=by simpa using zbS hf
   have hmem:∃ws,jg t.wait aj=some ws/\ws=w.2::(r.wait.filter λw=> decide (w.1=aj)).tail.map (·.2):=by
    unfold Turns.ws at hw;cases e:jg t.wait aj with
    | none=> rw [e] at hw;cases hw
    | some ws=> rw [e] at hw;exact⟨ws,rfl,hw⟩
   obtain⟨ws,hws,hws2⟩:=hmem;have hge:∀x∈ws,0<=x.1:=h.wge _ (mY hws);have hw0:0<=w.2.1:=hge w.2 (by rw [hws2];simp);refine⟨⟨λm=> ?_,λm=> ?_,JD S.rok (S.free hr),λo ho=> ?_⟩,rfl,⟨lX h.ok _ _,λe he=> ?_,lX h.wk _ _,λe he x hx=> ?_⟩⟩
   ·show(jg (lG t.fP aj w.2.1) m).getD (-1)=(((r.owner++[(aj,w.2.1)]).find? λo=> decide (o.1=m)).map (·.2)).getD (-1);rw [yA (S.free hr),gX];by_cases hl:aj=m
    ·subst hl;simp
    ·rw [if_neg hl,if_neg λe=> hl e.symm];exact S.owner m
   ·show(jg (lG t.wait aj _) m).getD []=((lH (λw=> decide (w.1=aj)) r.wait).filter λw=> decide (w.1=m)).map (·.2);rw [gX,yU];by_cases hl:aj=m
    ·subst hl;simp
    ·rw [if_neg hl,if_neg λe=> hl e.symm];exact S.waits m
   ·rcases zaO.1 ho with ho | ho
    ·exact S.rge o ho
    ·simp only [zaM] at ho;subst ho;exact hw0
   ·rcases lJ he with rfl | he
    ·exact hw0
    ·exact h.oge e he
   ·rcases lJ he with rfl | he
    ·exact hge x (by rw [hws2];exact za5 _ hx)
    ·exact h.wge e he x hx
theorem wI {x y:Int}:∀{l:List Int},y∈lI x l↔y=x∨y∈l
 | []=> by simp [lI]
 | z::l=> by
  simp only [lI];split
  ·rw [zaj,wI (l:=l),zaj];constructor
   ·rintro(h | h | h) <;> simp [h]
   ·rintro(h | h | h) <;> simp [h]
  ·split
   ·rename_i h;subst h;simp
   ·simp
theorem wJ {x:Int}:∀{l:List Int},l.Pairwise (· < ·)->(lI x l).Pairwise (· < ·)
 | [],_=> by simp [lI]
 | z::l,h=> by
  have h1:=zbc.1 h;simp only [lI];split
  ·rename_i hlt;refine zbc.2 ⟨λy hy=> ?_,wJ h1.2⟩;rcases wI.1 hy with rfl | hy
   ·exact hlt
   ·exact h1.1 y hy
  ·split
   ·exact h
   ·refine zbc.2 ⟨λy hy=> ?_,h⟩;rcases zaj.1 hy with rfl | hy
    ·omega
    ·have:=h1.1 y hy;omega
theorem BQ(t:gW):∀(l:List (Int × Int × Int)) (out:List Int),out.Pairwise (· < ·)->
  (l.foldl (λout w=> if t.iQ w.1≠-1 then out else lI w.1 out) out).Pairwise (· < ·)/\
  ∀x,x∈l.foldl (λout w=> if t.iQ w.1≠-1 then out else lI w.1 out) out↔x∈out∨(t.iQ x=-1/\∃w∈l,w.1=x)
 | [],out,h=> ⟨h,λx=> by simp⟩
 | w::l,out,h=> by
  rw [zbJ];by_cases hw:t.iQ w.1≠-1
  ·rw [if_pos hw];obtain⟨h1,h2⟩:=BQ t l out h;refine⟨h1,λx=> ?_⟩;rw [h2 x];constructor
   ·rintro(h | ⟨h,w',h',e⟩)
    ·exact .inl h
    ·exact .inr ⟨h,w',by simp [h'],e⟩
   ·rintro(h | ⟨h,w',h',e⟩)
    ·exact .inl h
    ·rcases zaj.1 h' with e' | h'
     ·rw [<-e,e'] at h;exact absurd h hw
     ·exact .inr ⟨h,w',h',e⟩
  ·rw [if_neg hw];obtain⟨h1,h2⟩:=BQ t l (lI w.1 out) (wJ h);refine⟨h1,λx=> ?_⟩;rw [h2 x,wI];have hw:t.iQ w.1=-1:=by
    rcases Classical.em (t.iQ w.1=-1) with e | e
    ·exact e
    ·exact absurd e hw
   constructor
   ·rintro((h | h) | ⟨h,w',h',e⟩)
    ·exact .inr ⟨by rw [h];exact hw,w,by simp,h.symm⟩
    ·exact .inl h
    ·exact .inr ⟨h,w',by simp [h'],e⟩
   ·rintro(h | ⟨h,w',h',e⟩)
    ·exact .inl (.inr h)
    ·rcases zaj.1 h' with e' | h'
     ·exact .inl (.inl (by rw [<-e,e']))
     ·exact .inr ⟨h,w',h',e⟩
theorem WB {l l':List Int}(h:l.Pairwise (· < ·))(h':l'.Pairwise (· < ·))(hm:∀x,x∈l↔x∈l'):l=l':=by
 have n1:l.Nodup:=h.imp λh=> by omega
 have n2:l'.Nodup:=h'.imp λh=> by omega
 exact((List.perm_ext_iff_of_nodup n1 n2).2 hm).eq_of_pairwise (λa b _ _ h1 h2=> by omega) h h'
theorem akm {l:List Int}(h:l.Nodup):(srt [] l).Pairwise (· < ·)/\∀x,x∈srt [] l↔x∈l:=by
 obtain⟨h1,h2⟩:=xE l [] List.Pairwise.nil;rw [zaJ] at h1;have n:(srt [] l).Nodup:=h1.nodup_iff.2 h;exact⟨h2.imp₂ (λa b h1 h2=> by omega) n,λx=> h1.mem_iff⟩
theorem RX.ready {t:Turns}{r:gW}(S:RX t r)(h:Gs t):r.ready=t.ready (srt [] (t.wait.map (·.1))):=by
 obtain⟨r1,r2⟩:=BQ r r.wait [] List.Pairwise.nil;obtain⟨k1,k2⟩:=akm h.wk;refine WB r1 (k1.filter _) λx=> ?_;show x∈r.wait.foldl (λout w=> if r.iQ w.1≠-1 then out else lI w.1 out) []↔x∈(srt [] (t.wait.map (·.1))).filter λaj=> !t.owned aj && !(t.ws aj).isEmpty;rw [r2 x,zbn,k2];have ho:t.owned x=false↔r.iQ x=-1:=by
  rw [<-S.owner];have:=h.owned x;cases hx:t.owned x
  ·simp only [hx,zah,false_iff,ne_eq,Decidable.not_not] at this;simp [this]
  ·simp only [hx,true_iff] at this;simp [this]
 have hw:(t.ws x).isEmpty=false↔∃w∈r.wait,w.1=x:=by
  rw [S.waits];unfold gW.waits;constructor
  ·intro hh;cases hf:r.wait.filter λw=> decide (w.1=x) with
   | nil=> rw [hf] at hh;cases hh
   | cons a l=>
    have:a∈r.wait.filter λw=> decide (w.1=x):=by rw [hf];simp
    rw [zbn] at this;exact⟨a,this.1,by simpa using this.2⟩
  ·rintro⟨w,h1,h2⟩;have:w∈r.wait.filter λw=> decide (w.1=x):=zbn.2 ⟨h1,by simp [h2]⟩;cases hf:r.wait.filter λw=> decide (w.1=x) with
   | nil=> rw [hf] at this;cases this
   | cons a l=> rfl
 simp only [zay,false_or,zaf,za8];constructor
 ·rintro⟨h1,h2⟩;refine⟨?_,ho.2 h1,hw.2 h2⟩;have:=hw.2 h2;unfold Turns.ws at this;cases ha:jg t.wait x with
  | none=> rw [ha] at this;cases this
  | some v=> exact zaH.2 ⟨_,mY ha,rfl⟩
 ·rintro⟨_,h1,h2⟩;exact⟨ho.1 h1,hw.1 h2⟩
structure JE(c:Cfg)(me:Int)(h:Home)(r:iL):Prop where
 dH:∀aj,kP c me aj=true->∃row,jg h.dH aj=some row/\r.dH[aj.toNat]?=some row
 none:∀aj,kP c me aj=false->jg h.dH aj=none
 aT:RX h.aT r.aT
structure XQ(c:Cfg)(me:Int)(h:Home):Prop where
 aT:Gs h.aT
 here:∀e∈h.aT.wait,kP c me e.1=true
theorem JE.row {c:Cfg}{me:Int}{h:Home}{r:iL}(S:JE c me h r){aj:Int}(hl:kP c me aj=true):r.row aj=jo h.dH aj:=by
 obtain⟨row,h1,h2⟩:=S.dH aj hl;unfold iL.row jo;rw [h1,zaF,h2];first | done | rfl
theorem JE.granted {c:Cfg}{me:Int}{h:Home}{r:iL}(S:JE c me h r){aj:Int}(hl:kP c me aj=true)(who id:Int):r.granted me aj who id=Proofs.YtgplhpgkompkmaaGreat.granted h.dH me aj who id:=by
 unfold iL.granted Proofs.YtgplhpgkompkmaaGreat.granted;rw [S.row hl]
theorem JE.Gt {c:Cfg}{me:Int}{h:Home}{r:iL}(S:JE c me h r){t:Turns}{rt:gW}(T:RX t rt):JE c me { h with aT:=t } { r with aT:=rt }:=⟨S.dH,S.none,T⟩
theorem UM {t:Turns}{aj who id:Int}{e:Int × List (Int × Int)}(h:e∈(t.ask aj who id).1.wait):e.1=aj∨e∈t.wait:=by
 unfold Turns.ask at h;split at h
 ·exact .inr h
 ·split at h
  ·rcases lJ h with rfl | h
   ·exact .inl rfl
   ·exact .inr h
  ·exact .inr h
theorem Du {t:Turns}{aj who:Int}:(t.release aj who).1.wait=t.wait:=by
 unfold Turns.release;split <;> rfl
theorem Pm {t:Turns}{aj:Int}{e:Int × List (Int × Int)}(h:e∈(t.next aj).1.wait):e∈t.wait∨(e.1=aj/\t.ws aj≠[]):=by
 unfold Turns.next at h
 split at h
 ·exact .inl h
 ·split at h
  ·exact .inl h
  ·rename_i w ws hw;rcases lJ h with rfl | h
   ·exact .inr ⟨rfl,by rw [hw];simp⟩
   ·exact .inl h
theorem zS {c:Cfg}(hc:c.ok=true){me aj:Int}(h0:0<=aj):(c.bf aj≠me∨c.bn<=aj)↔kP c me aj=false:=by
 have he:c.bf aj=aj % c.aG:=by unfold Cfg.bf yw;rw [if_neg (by omega)]
 unfold kP;rw [he];constructor
 ·rintro(h | h)
  ·simp [h]
  ·have:¬aj < c.bn:=by omega
   simp [this]
 ·intro h;simp only [zcM,decide_eq_false_iff_not] at h;rcases h with(h | h) | h
  ·omega
  ·right;omega
  ·exact .inl h
theorem JE.set {c:Cfg}{me:Int}{h:Home}{r:iL}(S:JE c me h r)(aj aQ head:Int)(data:List Int):
  (r.nT c me aj aQ head data).2=(iw c h.dH aj aQ head data).2/\JE c me { h with dH:=(iw c h.dH aj aQ head data).1 } (r.nT c me aj aQ head data).1/\(r.nT c me aj aQ head data).1.aT=r.aT:=by
 unfold iL.nT iw;by_cases hh:kP c me aj=true
 ·obtain⟨row,h1,h2⟩:=S.dH aj hh;rw [if_neg (by rw [hh];simp),h1];simp only;by_cases hA:aQ < 0∨2 < aQ∨head < -1∨c.aG<=head
  ·rw [if_pos (by rcases hA with h | h | h | h <;> simp [h]),if_pos hA];exact⟨rfl,S,rfl⟩
  ·rw [if_neg hA];have hB:(aQ < 0∨2 < aQ∨head < -1∨c.aG<=head∨¬(aQ=0↔head=-1)∨(data≠[]/\(data.length:Int)≠c.cO))↔((decide (head=-1) !=decide (aQ=0)) || (decide (data≠[]) && decide ((data.length:Int)≠c.cO)))=true:=by
    simp only [not_or] at hA;simp only [hA.1,hA.2.1,hA.2.2.1,hA.2.2.2,false_or,zbk,zaf,decide_eq_true_eq,bne_iff_ne,ne_eq,decide_eq_decide];constructor
    ·rintro(h | h)
     ·exact .inl λe=> h e.symm
     ·exact .inr h
    ·rintro(h | h)
     ·exact .inl λe=> h e.symm
     ·exact .inr h
   by_cases hC:((decide (head=-1) !=decide (aQ=0)) || (decide (data≠[]) && decide ((data.length:Int)≠c.cO)))=true
   ·rw [if_pos (hB.2 hC),if_pos hC];exact⟨rfl,S,rfl⟩
   ·rw [if_neg λe=> hC (hB.1 e),if_neg hC];refine⟨rfl,⟨λm hm=> ?_,λm hm=> ?_,S.aT⟩,rfl⟩
    ·obtain⟨row',k1,k2⟩:=S.dH m hm;have h0:0<=aj:=by simp only [kP,zaf,decide_eq_true_eq] at hh;exact hh.1.1
     have hm0:0<=m:=by simp only [kP,zaf,decide_eq_true_eq] at hm;exact hm.1.1
     simp only;rw [gX];by_cases hl:aj=m
     ·subst hl;rw [if_pos rfl];refine⟨_,rfl,?_⟩;have hlt:=(zai.1 h2).1;rw [zbd hlt];have:r.row aj=row:=by unfold iL.row;rw [zaF,h2];rfl
      rw [this]
     ·rw [if_neg hl,zbm (by omega)];exact⟨row',k1,k2⟩
    ·simp only;rw [gX,if_neg λe=> by subst e;rw [hh] at hm;cases hm];exact S.none m hm
 ·have hh:kP c me aj=false:=by simpa using hh
  rw [if_pos hh,S.none aj hh];exact⟨rfl,S,rfl⟩
theorem JE.handle {c:Cfg}(hc:c.ok=true){me:Int}{h:Home}{r:iL}(S:JE c me h r)(I:XQ c me h)(p:Pkt):
  JE c me (h.handle c me p).1 (r.handle c me p).1/\(r.handle c me p).2=(h.handle c me p).2/\XQ c me (h.handle c me p).1:=by
 unfold Home.handle iL.handle;by_cases h1:p.ok=false∨p.dst≠me∨c.aG<=p.src∨(p.aO≠1/\p.aO≠2)
 ·rw [if_pos h1,if_pos (by
   rcases h1 with h | h | h | h
   ·simp [h]
   ·simp [h]
   ·have:¬p.src < c.aG:=by omega
    simp [this]
   ·simp [h])]
  exact⟨S,rfl,I⟩
 rw [if_neg h1,if_neg (by
  simp only [not_or] at h1;obtain⟨a1,a2,a3,a4⟩:=h1;have a5:p.src < c.aG:=by omega
  have a1:p.ok=true:=by simpa using a1
  simp only [ne_eq,Decidable.not_not] at a2;simp only [a1,a2,a5,decide_true,zcp,zae,zca,zaf,decide_eq_true_eq];exact a4)]
 simp only [not_or] at h1;have hok:p.ok=true:=by simpa using h1.1
 have hl0:0<=p.aj:=by
  simp only [Pkt.ok,zaf,decide_eq_true_eq] at hok;omega
 have hs0:0<=p.src:=by
  simp only [Pkt.ok,zaf,decide_eq_true_eq] at hok;omega
 by_cases hh:kP c me p.aj=false
 ·rw [if_pos hh,if_pos ((zS hc hl0).2 hh)];exact⟨S,rfl,I⟩
 rw [if_neg hh,if_neg λe=> hh ((zS hc hl0).1 e)];have hh:kP c me p.aj=true:=by simpa using hh
 by_cases hk:p.aO=1
 ·rw [if_pos hk,if_pos hk];obtain⟨t1,t2,t3⟩:=S.aT.ask I.aT p.aj p.src p.id;have Lp:∀e∈(h.aT.ask p.aj p.src p.id).1.wait,kP c me e.1=true:=λe he=> by
   rcases UM he with h | h
   ·rw [h];exact hh
   ·exact I.here e h
  simp only [t2];split
  ·exact⟨S.Gt t1,by simp only;rw [S.granted hh],⟨t3,Lp⟩⟩
  ·exact⟨S.Gt t1,rfl,⟨t3,Lp⟩⟩
 rw [if_neg hk,if_neg hk];unfold Home.unlock;generalize (if p.flag=true then p.data else [])=dat;by_cases ho:h.aT.owner p.aj≠p.src
 ·simp only [if_pos ho,if_pos (show r.aT.iQ p.aj≠p.src by rw [<-S.aT.owner];exact ho)];exact⟨S,rfl,I⟩
 ·simp only [if_neg ho,if_neg (show¬r.aT.iQ p.aj≠p.src by rw [<-S.aT.owner];exact ho)];have ho:h.aT.owner p.aj=p.src:=by simpa using ho
  obtain⟨s1,s2,s3⟩:=S.set p.aj p.aQ p.ptr dat;obtain⟨r1,r2,r3⟩:=S.aT.release I.aT ho hs0;have rw_:(h.aT.release p.aj p.src).1.wait=h.aT.wait:=Du;rw [s1];by_cases he:(iw c h.dH p.aj p.aQ p.ptr dat).2=0
  ·simp only [if_pos he,r2,if_true];refine⟨⟨s2.dH,s2.none,?_⟩,by first | trivial | rfl,⟨r3,by rw [rw_];exact I.here⟩⟩;simp only;rw [s3];exact r1
  ·simp only [if_neg he];exact⟨S,by first | trivial | rfl,I⟩
theorem JE.ready {c:Cfg}{me:Int}{h:Home}{r:iL}(S:JE c me h r)(I:XQ c me h):r.aT.ready=h.ready:=S.aT.ready I.aT
theorem wK {h:Home}{aj:Int}{l:List Int}(hr:h.ready=aj::l):h.aT.owned aj=false/\h.aT.ws aj≠[]/\aj∈h.aT.wait.map (·.1):=by
 have:aj∈h.ready:=by rw [hr];simp
 unfold Home.ready Turns.ready at this;rw [zbn] at this;obtain⟨h1,h2⟩:=this;simp only [zaf,za8] at h2;refine⟨h2.1,λe=> by rw [e] at h2;exact absurd h2.2 (by simp),?_⟩;have:=(xE (h.aT.wait.map (·.1)) [] List.Pairwise.nil).1;rw [zaJ] at this;exact this.mem_iff.1 h1
theorem JE.grant {c:Cfg}{me:Int}{h:Home}{r:iL}(S:JE c me h r)(I:XQ c me h):
  JE c me (h.grant me).1 (r.grant me).1/\(r.grant me).2.1=(h.grant me).2.1/\XQ c me (h.grant me).1:=by
 unfold Home.grant iL.grant;rw [S.ready I];cases hr:h.ready with
 | nil=> exact⟨S,rfl,I⟩
 | cons aj l=>
  obtain⟨m1,m2,m3⟩:=wK hr;obtain⟨t1,t2,t3⟩:=S.aT.next I.aT aj
  have hh:kP c me aj=true:=by
   obtain⟨e,he,rfl⟩:=zaH.1 m3;exact I.here e he
  have Lp:∀e∈(h.aT.next aj).1.wait,kP c me e.1=true:=λe he=> by
   rcases Pm he with h | h
   ·exact I.here e h
   ·rw [h.1];exact hh
  obtain⟨w,hw⟩:∃w,(h.aT.next aj).2=some w:=by
   unfold Turns.next
   rw [if_neg (by rw [m1];simp)];cases hws:h.aT.ws aj with
   | nil=> exact absurd hws m2
   | cons w ws=> exact⟨w,rfl⟩
  simp only;cases ha:h.aT.next aj with
  | mk t o=>
   cases hb:r.aT.next aj with
   | mk rt ro=>
    rw [ha,hb] at t1 t2;rw [ha] at t3 Lp hw;simp only at t1 t2 t3 Lp hw;subst t2;subst hw;simp only [zar];exact⟨S.Gt t1,S.granted hh _ _,⟨t3,Lp⟩⟩
def Dv(d:bJ)(bG:Int)(c:Cache)(p:Pkt):Nxt:=
 if d.aO=1 then dU d bG c p else if d.aO=2 then dV d bG c p else if d.aO=3 then eu d c p else vO c
def I64(z:Int):Prop:=-9223372036854775808<=z/\z<=9223372036854775807
theorem ae1(z:Int):I64 (w64 z):=by
 show -9223372036854775808<=IntKind.wrap .i64 z/\IntKind.wrap .i64 z<=9223372036854775807;simp only [IntKind.wrap,IntKind.bits,IntKind.signed];simp;split <;> constructor <;> omega
def oW(c:Cfg)(d:List Int):Prop:=(d.length:Int)=c.cO/\∀v∈d,I64 v
structure xZ(c:Cfg)(p:Pkt):Prop where
 ok:p.ok=true
 dat:p.aO=7∨p.aO=9->oW c p.data
 num:∀v∈p.data,I64 v
structure JF(c:Cfg)(p:Port):Prop where
 rq:(p.rq.length:Int)<=c.out
 an:(p.an.length:Int)<=c.out
 rin:(p.rin.length:Int)<=c.inn
 ain:(p.ain.length:Int)<=1
 pkt:∀q,q∈p.rq∨q∈p.an∨q∈p.rin∨q∈p.ain->xZ c q
structure vP(c:Cfg)(f:Fab):Prop where
 out:f.out=c.out
 inn:f.inn=c.inn
 len:(f.l.length:Int)=c.aG
 port:∀p∈f.l,JF c p
theorem qp {c:Cfg}(h:c.ok=true):(1<=c.aG/\c.aG<=6)/\(1<=c.bn/\c.bn<=8)/\(1<=c.cO/\c.cO<=4)/\(1<=c.sets/\c.sets<=4)/\(1<=c.ways/\c.ways<=3)/\(1<=c.out/\c.out<=8)/\(1<=c.inn/\c.inn<=8):=by
 unfold Cfg.ok at h;simp only [zaf,decide_eq_true_eq] at h;omega
theorem vP.get {c:Cfg}{f:Fab}(F:vP c f){i:Int}(h:f.is i=true):JF c (f.port i):=by
 unfold Fab.is at h;simp only [zaf,decide_eq_true_eq] at h;have hi:i.toNat < f.l.length:=by omega
 unfold Fab.port;rw [zaF,zab hi,zar];exact F.port _ (zcO hi)
theorem vP.put {c:Cfg}{f:Fab}(F:vP c f)(i:Int){p:Port}(h:JF c p):vP c (f.put i p):=by
 refine⟨F.out,F.inn,by simp only [Fab.put,zcm];exact F.len,λq hq=> ?_⟩;simp only [Fab.put] at hq;rcases zct hq with hq | hq
 ·exact F.port q hq
 ·rw [hq];exact h
theorem vP.send {c:Cfg}{f:Fab}(F:vP c f){p:Pkt}(hp:p.ok=true->xZ c p):vP c (f.send p).1:=by
 unfold Fab.send;split
 ·exact F
 ·rename_i h;simp only [zbk,za8,not_or,zcr] at h;obtain⟨⟨h1,h2⟩,h3⟩:=h;have P:=F.get h2;have Q:=hp h1;split
  ·exact F
  ·rename_i hr;refine F.put _ ?_;rw [F.out] at hr;cases hk:qK p.aO with
   | true=>
    rw [hk] at hr;simp only [Port.sort,if_true] at hr;refine⟨?_,P.an,P.rin,P.ain,λq hq=> ?_⟩
    ·simp only [Port.kC,Port.sort,if_true,zao,zam,zan];omega
    ·simp only [Port.kC,Port.sort,if_true,zaO,zaM] at hq;rcases hq with(hq | hq) | hq
     ·exact P.pkt q (.inl hq)
     ·rw [hq];exact Q
     ·exact P.pkt q (.inr hq)
   | false=>
    rw [hk] at hr;simp only [Port.sort,zah,if_false] at hr;refine⟨P.rq,?_,P.rin,P.ain,λq hq=> ?_⟩
    ·simp only [Port.kC,Port.sort,zah,if_false,zao,zam,zan];omega
    ·simp only [Port.kC,Port.sort,zah,if_false,zaO,zaM] at hq;rcases hq with hq | (hq | hq) | hq
     ·exact P.pkt q (.inl hq)
     ·exact P.pkt q (.inr (.inl hq))
     ·rw [hq];exact Q
     ·exact P.pkt q (.inr (.inr hq))
theorem vP.take {c:Cfg}{f:Fab}(F:vP c f)(i:Int)(req:Bool):vP c (f.take i req).1/\∀p,(f.take i req).2=some p->xZ c p:=by
 unfold Fab.take;split
 ·rename_i h;have P:=F.get h;cases hl:(f.port i).qL req with
  | nil=> exact⟨F,λp hp=> by cases hp⟩
  | cons p l=>
   simp only;cases req with
   | true=>
    simp only [Port.qL,if_true] at hl;have h1:=P.rin;rw [hl] at h1;simp only [zam] at h1;refine⟨F.put _ ⟨P.rq,P.an,?_,P.ain,λq hq=> ?_⟩,λp' hp=> ?_⟩
    ·simp only [Port.kM,if_true];omega
    ·simp only [Port.kM,if_true] at hq;rcases hq with hq | hq | hq | hq
     ·exact P.pkt q (.inl hq)
     ·exact P.pkt q (.inr (.inl hq))
     ·exact P.pkt q (.inr (.inr (.inl (by rw [hl];simp [hq]))))
     ·exact P.pkt q (.inr (.inr (.inr hq)))
    ·cases hp;exact P.pkt _ (.inr (.inr (.inl (by rw [hl];simp))))
   | false=>
    simp only [Port.qL,zah,if_false] at hl;have h1:=P.ain;rw [hl] at h1;simp only [zam] at h1;refine⟨F.put _ ⟨P.rq,P.an,P.rin,?_,λq hq=> ?_⟩,λp' hp=> ?_⟩
    ·simp only [Port.kM,zah,if_false];omega
    ·simp only [Port.kM,zah,if_false] at hq;rcases hq with hq | hq | hq | hq
     ·exact P.pkt q (.inl hq)
     ·exact P.pkt q (.inr (.inl hq))
     ·exact P.pkt q (.inr (.inr (.inl hq)))
     ·exact P.pkt q (.inr (.inr (.inr (by rw [hl];simp [hq]))))
    ·cases hp;exact P.pkt _ (.inr (.inr (.inr (by rw [hl];simp))))
 ·exact⟨F,λp hp=> by cases hp⟩
theorem vP.room {c:Cfg}{f:Fab}(F:vP c f)(i:Int)(req:Bool):0<=f.roomOf i req:=by
 unfold Fab.roomOf;split
 ·rename_i h;have P:=F.get h;have h1:=P.rq;have h2:=P.an;rw [F.out];cases req <;> simp only [Port.sort,if_true,zah,if_false] <;> omega
 ·exact zba _
theorem zT {α:Type}{l:List α}{i:Nat}{a:α}(h:a∈l.eraseIdx i):a∈l:=(zcK l i).subset h
theorem JF.drop {c:Cfg}{p:Port}(P:JF c p)(req:Bool)(k:Nat):JF c (p.drop req k):=by
 have hl:∀(l:List Pkt),((l.eraseIdx k).length:Int)<=l.length:=λl=> by
  have:=(zcK l k).length_le;omega
 cases req with
 | true=>
  refine⟨?_,P.an,P.rin,P.ain,λq hq=> ?_⟩
  ·have:=hl p.rq;have:=P.rq;simp only [Port.drop,Port.kC,Port.sort,if_true];omega
  ·simp only [Port.drop,Port.kC,Port.sort,if_true] at hq;rcases hq with hq | hq
   ·exact P.pkt q (.inl (zT hq))
   ·exact P.pkt q (.inr hq)
 | false=>
  refine⟨P.rq,?_,P.rin,P.ain,λq hq=> ?_⟩
  ·have:=hl p.an;have:=P.an;simp only [Port.drop,Port.kC,Port.sort,zah,if_false];omega
  ·simp only [Port.drop,Port.kC,Port.sort,zah,if_false] at hq;rcases hq with hq | hq | hq
   ·exact P.pkt q (.inl hq)
   ·exact P.pkt q (.inr (.inl (zT hq)))
   ·exact P.pkt q (.inr (.inr hq))
theorem Pn:∀(l:List Port) (i k:Nat) {j:Nat} {req:Bool} {k':Nat},zF l i k=some (j,req,k')->i<=j/\j < i+l.length
 | [],i,k,j,req,k',h=> by cases h
 | p::l,i,k,j,req,k',h=> by
  simp only [zF] at h;split at h
  ·cases h;simp
  ·split at h
   ·cases h;simp
   ·have:=Pn l (i+1) _ h;simp only [zam];omega
theorem vP.remove {c:Cfg}{f:Fab}(F:vP c f)(k:Nat):vP c (f.remove k):=by
 unfold Fab.remove;split
 ·rename_i i req k' h;have hi:=Pn _ _ _ h;refine F.put _ ((F.get ?_).drop _ _);unfold Fab.is;simp only [zaf,decide_eq_true_eq];omega
 ·exact F
theorem vP.pkt {c:Cfg}{f:Fab}(F:vP c f){p:Pkt}(h:p∈f.all):xZ c p:=by
 unfold Fab.all at h;obtain⟨q,hq,hp⟩:=za9.1 h;rcases zaO.1 hp with hp | hp
 ·exact(F.port q hq).pkt p (.inl hp)
 ·exact(F.port q hq).pkt p (.inr (.inl hp))
theorem vP.deliver {c:Cfg}{f:Fab}(F:vP c f)(at_ bit mask:Int):vP c (f.deliver at_ bit mask).1:=by
 unfold Fab.deliver;split
 ·exact F
 split
 ·exact F
 ·rename_i p hp;have Q:=F.pkt (zaq hp);split
  ·exact F
  split
  ·exact F
  ·rename_i hr;refine vP.remove ?_ _;by_cases h:f.is p.dst=true
   ·have P:=F.get h;refine F.put _ ?_;cases hk:qK p.aO with
    | true=>
     rw [hk] at hr;simp only [Fab.room,Port.qL,if_true,F.inn] at hr;refine⟨P.rq,P.an,?_,P.ain,λq hq=> ?_⟩
     ·simp only [Port.kM,Port.qL,if_true,zao,zam,zan];omega
     ·simp only [Port.kM,Port.qL,if_true,zaO,zaM] at hq;rcases hq with hq | hq | (hq | hq) | hq
      ·exact P.pkt q (.inl hq)
      ·exact P.pkt q (.inr (.inl hq))
      ·exact P.pkt q (.inr (.inr (.inl hq)))
      ·rw [hq];exact Q
      ·exact P.pkt q (.inr (.inr (.inr hq)))
    | false=>
     rw [hk] at hr;simp only [Fab.room,Port.qL,zah,if_false] at hr;refine⟨P.rq,P.an,P.rin,?_,λq hq=> ?_⟩
     ·simp only [Port.kM,Port.qL,zah,if_false,zao,zam,zan];omega
     ·simp only [Port.kM,Port.qL,zah,if_false,zaO,zaM] at hq;rcases hq with hq | hq | hq | (hq | hq)
      ·exact P.pkt q (.inl hq)
      ·exact P.pkt q (.inr (.inl hq))
      ·exact P.pkt q (.inr (.inr (.inl hq)))
      ·exact P.pkt q (.inr (.inr (.inr hq)))
      ·rw [hq];exact Q
   ·-- no such bG:nothing is put
    have hn:f.l.length<=p.dst.toNat:=by
     have hok:=Q.ok;simp only [Pkt.ok,zaf,decide_eq_true_eq] at hok;simp only [Fab.is,zaf,decide_eq_true_eq] at h;omega
    unfold Fab.put;rw [List.set_eq_of_length_le hn];exact⟨F.out,F.inn,F.len,F.port⟩
structure aoO(c:Cfg)(k:Int)(e:Ent):Prop where
 lo:0<=e.aj
 hi:e.aj < c.bn
 used:e.used<=k
 u0:0<=e.used
 dat:oW c e.data
structure Ej(c:Cfg)(ca:Cache):Prop where
 sets:ca.sets=c.sets
 ways:ca.ways=c.ways
 bn:Lines ca.l
 acD:Gp ca.l
 ent:∀e∈ca.l,aoO c ca.bW e
 room:∀aj,((ca.nT aj).length:Int)<=ca.ways
 ahl:0<=ca.bW
structure akn(c:Cfg)(n:Node):Prop where
 eF:n.bP.eF=true
 op:∃o,n.bP.cur=some o/\c.bM o.addr=n.aI.aj/\(n.aI.aO=1->o.aO=1)/\(n.aI.aO=2->o.aO=2∨o.aO=3)
 full:n.aH.full n.aI.aj=false
structure ae2(c:Cfg)(n:Node):Prop where
 lo:0<=n.aI.aj
 hi:n.aI.aj < c.bn
 aO:1<=n.aI.aO/\n.aI.aO<=3
 dat:n.aI.data=[]∨oW c n.aI.data
 ahm:n.aI.aO=2->n.aI.step=3->oW c n.aI.data
 roll:n.aI.aO=3->n.bP.eF=true
 work:n.aI.aO≠3->n.aI.step≠6->akn c n
 rest:n.aI.aO≠3->n.aI.step=6->n.bP.eF=false
structure aob(c:Cfg)(p:Proc):Prop where
 most:p.ops.length<=24
 right:∀o∈p.ops,c.right o=true/\I64 o.value
 vals:p.bH.length<=p.ops.length
 eF:p.eF=true->p.bH.length < p.ops.length
structure WC(c:Cfg)(me:Int)(n:Node):Prop where
 bP:aob c n.bP
 aH:Ej c n.aH
 dH:∀e∈n.home.dH,oW c e.2.data
 home:XQ c me n.home
 aI:n.aI.step≠0->ae2 c n
 clk:n.aH.bW<=n.bP.bH.length
theorem Y1 {l:List Ent}{f:Ent->Ent}(h:Gp l)(hf:∀x∈l,(f x).used=x.used):Gp (l.map f):=by
 unfold Gp;rw [zcq];exact h.imp_of_mem λha hb hab=> by rw [hf _ ha,hf _ hb];exact hab
theorem zU {l:List Ent}{f:Ent->Ent}(h:Lines l)(hf:∀x∈l,(f x).aj=x.aj):Lines (l.map f):=by
 unfold Lines;rw [zcq];exact h.imp_of_mem λha hb hab=> by rw [hf _ ha,hf _ hb];exact hab
theorem zV(ca:Cache)(aj:Int){q:Ent->Bool}:(({ ca with l:=ca.l.filter q }:Cache).nT aj).length<=(ca.nT aj).length:=by
 unfold Cache.nT;rw [zdz];have:(ca.l.filter λe=> (decide (0<=aj) && decide (e.aj.tmod ca.sets=aj.tmod ca.sets)) && q e)=((ca.l.filter λe=> decide (0<=aj) && decide (e.aj.tmod ca.sets=aj.tmod ca.sets))).filter q:=by
  rw [zdz]
  apply zc7
  intro x _;rw [Bool.and_comm]
 rw [this];exact zcn _ _
theorem Gu(ca:Cache)(aj k:Int){f:Ent->Ent}(hf:∀x∈ca.l,(f x).aj=x.aj):(({ ca with l:=ca.l.map f,bW:=k }:Cache).nT aj).length=(ca.nT aj).length:=by
 unfold Cache.nT;rw [List.filter_map,zaD]
 congr 1
 apply zc7
 intro y hy;simp only [Function.comp,hf y hy]
theorem Ej.put {c:Cfg}{ca:Cache}(I:Ej c ca){e:Ent}(h0:0<=e.aj)(h1:e.aj < c.bn)(hd:oW c e.data):Ej c (ca.put e).1:=by
 cases hf:ca.find e.aj with
 | some x=>
  obtain⟨hx,hxl⟩:=(ig I.bn).1 hf;rw [lu I.bn h0 hf];refine⟨I.sets,I.ways,zU I.bn λy _=> ?_,Y1 I.acD λy hy=> ?_,λy hy=> ?_,λaj=> ?_,I.ahl⟩
  ·split
   ·rename_i h;exact h.symm
   ·rfl
  ·split
   ·rename_i h;rw [I.bn.inj hy hx (by rw [h,hxl])]
   ·rfl
  ·obtain⟨z,hz,rfl⟩:=zaH.1 hy;split
   ·exact⟨h0,h1,(I.ent x hx).used,(I.ent x hx).u0,hd⟩
   ·exact I.ent z hz
  ·have:=Gu ca aj ca.bW (f:=λy=> if y.aj=e.aj then { e with used:=x.used } else y) (λy _=> by
    split
    ·rename_i h;exact h.symm
    ·rfl)
   have h2:=I.room aj;rw [<-this] at h2;exact h2
 | none=>
  unfold Cache.put;rw [if_neg (by omega),yS.2 hf];simp only;split
  ·exact I
  ·rename_i hfull;have hn:=tC.1 (show(ca.l.find? λx=> decide (x.aj=e.aj))=none from hf);refine⟨I.sets,I.ways,?_,?_,λy hy=> ?_,λaj=> ?_,by have:=I.ahl;simp only;omega⟩
   ·unfold Lines;rw [List.pairwise_append];exact⟨I.bn,by simp,λa ha b hb=> by rw [zaM.1 hb];exact hn a ha⟩
   ·unfold Gp;rw [List.pairwise_append];refine⟨I.acD,by simp,λa ha b hb=> ?_⟩;rw [zaM.1 hb];have:=(I.ent a ha).used;simp only;omega
   ·rcases zaO.1 hy with hy | hy
    ·have:=I.ent y hy;exact⟨this.lo,this.hi,by have:=this.used;simp only;omega,this.u0,this.dat⟩
    ·rw [zaM.1 hy];exact⟨h0,h1,by simp only;omega,by have:=I.ahl;simp only;omega,hd⟩
   ·simp only [Cache.full,hf,zcD,zaU,decide_eq_true_eq] at hfull;have hr:=I.room aj;unfold Cache.nT at hfull hr ⊢;simp only [zcg,zao];by_cases hs:(decide (0<=aj) && decide (e.aj.tmod ca.sets=aj.tmod ca.sets))=true
    ·simp only [zaf,decide_eq_true_eq] at hs;have:(ca.l.filter λx=> decide (0<=aj) && decide (x.aj.tmod ca.sets=aj.tmod ca.sets))=ca.l.filter λx=> decide (0<=e.aj) && decide (x.aj.tmod ca.sets=e.aj.tmod ca.sets):=by
      apply zc7
      intro x _;rw [hs.2];simp [hs.1,h0]
     rw [this];have h1:(([({ e with used:=ca.bW+1 }:Ent)].filter λx=> decide (0<=aj) && decide (x.aj.tmod ca.sets=aj.tmod ca.sets)).length)<=1:=zcn _ _;omega
    ·have:([({ e with used:=ca.bW+1 }:Ent)].filter λx=> decide (0<=aj) && decide (x.aj.tmod ca.sets=aj.tmod ca.sets))=[]:=by
      simp only [zbN,List.filter_nil];rw [if_neg hs]
     rw [this];simp only [zan,zbp];exact hr
theorem Ej.drop {c:Cfg}{ca:Cache}(I:Ej c ca)(line':Int):Ej c (ca.drop line'):=by
 rw [Gm I.bn];refine⟨I.sets,I.ways,I.bn.filter _,I.acD.filter _,λe he=> I.ent e (zbn.1 he).1,λaj=> ?_,I.ahl⟩;have:=I.room aj;have h2:(({ ca with l:=ca.l.filter λx=> decide (x.aj≠line') }:Cache).nT aj).length<=(ca.nT aj).length:=zV _ _;simp only at h2 ⊢;omega
theorem Ej.touch {c:Cfg}{ca:Cache}(I:Ej c ca){aj:Int}{e:Ent}(h:ca.find aj=some e):Ej c (ca.touch aj):=by
 obtain⟨he,hl⟩:=(ig I.bn).1 h;rw [xB I.bn h];refine⟨I.sets,I.ways,zU I.bn λy _=> ?_,?_,λy hy=> ?_,λline'=> ?_,by have:=I.ahl;simp only;omega⟩
 ·split
  ·rename_i h;rw [h];exact hl
  ·rfl
 ·unfold Gp;rw [zcq];refine(I.bn.and I.acD).imp_of_mem λ{a b} ha hb hab=> ?_;have ua:=(I.ent a ha).used;have ub:=(I.ent b hb).used;split <;> split
  ·rename_i h1 h2;exact absurd (by rw [h1,h2]) hab.1
  ·simp only;omega
  ·simp only;omega
  ·exact hab.2
 ·obtain⟨z,hz,rfl⟩:=zaH.1 hy;split
  ·have:=I.ent e he;exact⟨this.lo,this.hi,by simp only;omega,by have:=I.ahl;simp only;omega,this.dat⟩
  ·have:=I.ent z hz;exact⟨this.lo,this.hi,by have:=this.used;simp only;omega,this.u0,this.dat⟩
 ·have:=Gu ca line' (ca.bW+1) (f:=λx=> if x.aj=aj then { e with used:=ca.bW+1 } else x) (λy _=> by
   split
   ·rename_i h;rw [h];exact hl
   ·rfl)
  have h2:=I.room line';rw [<-this] at h2;exact h2
theorem acE {ca:Cache}(hl:Lines ca.l){e x:Ent}(h0:0<=e.aj)(hf:ca.find e.aj=some x)(aj:Int):(ca.put e).1.full aj=ca.full aj:=by
 obtain⟨hx,hxl⟩:=(ig hl).1 hf;rw [lu hl h0 hf];have hm:∀y∈ca.l,(if y.aj=e.aj then { e with used:=x.used } else y).aj=y.aj:=λy _=> by
  split
  ·rename_i h;exact h.symm
  ·rfl
 have h1:({ ca with l:=ca.l.map λy=> if y.aj=e.aj then { e with used:=x.used } else y }:Cache).find aj=none↔ca.find aj=none:=by
  unfold Cache.find;rw [tC,tC];constructor
  ·intro h y hy;have:=h _ (zaH.2 ⟨y,hy,rfl⟩)
   rwa [hm y hy] at this
  ·intro h y hy;obtain⟨z,hz,rfl⟩:=zaH.1 hy;rw [hm z hz];exact h z hz
 have h2:(({ ca with l:=ca.l.map λy=> if y.aj=e.aj then { e with used:=x.used } else y }:Cache).nT aj).length=(ca.nT aj).length:=by
  unfold Cache.nT;rw [List.filter_map,zaD]
  congr 1
  apply zc7
  intro y hy;simp only [Function.comp,hm y hy]
 unfold Cache.full;rw [h2]
 congr 1
 cases ha:ca.find aj with
 | none=> rw [h1.2 ha]
 | some u=>
  cases hb:({ ca with l:=ca.l.map λy=> if y.aj=e.aj then { e with used:=x.used } else y }:Cache).find aj with
  | none=> rw [h1.1 hb] at ha;cases ha
  | some v=> rfl
theorem zW {α:Type}{p q:α->Bool}:∀{l:List α},(∀x∈l,q x=true->p x=true)->∀{a:α},a∈l->p a=true->q a=false->(l.filter q).length < (l.filter p).length
 | [],_,a,h,_,_=> by cases h
 | x::l,hs,a,h,hp,hq=> by
  have hle:∀{l:List α},(∀x∈l,q x=true->p x=true)->(l.filter q).length<=(l.filter p).length:=by
   intro l hs
   induction l with
   | nil=> simp
   | cons y l ih=>
    have:=ih λz hz=> hs z (by simp [hz]);simp only [zbN];cases h1:q y
    ·simp only [zah,if_false];split
     ·simp only [zam];omega
     ·exact this
    ·rw [hs y (by simp) h1];simp only [if_true,zam];omega
  simp only [zbN];rcases zaj.1 h with e | h
  ·subst e;rw [hp,hq];simp only [if_true,zah,if_false,zam];have:=hle λz hz=> hs z (za5 _ hz);omega
  ·have ih:=zW (λz hz=> hs z (za5 _ hz)) h hp hq;cases h1:q x
   ·simp only [zah,if_false];split
    ·simp only [zam];omega
    ·exact ih
   ·rw [hs x (by simp) h1];simp only [if_true,zam];omega
theorem Y2 {c:Cfg}(hc:c.ok=true){ca:Cache}(I:Ej c ca){l' aj:Int}(h:ca.full aj=false):(ca.drop l').full aj=false:=by
 rw [Gm I.bn];unfold Cache.full at h ⊢;have hle:(({ ca with l:=ca.l.filter λx=> decide (x.aj≠l') }:Cache).nT aj).length<=(ca.nT aj).length:=zV _ _;cases hn:ca.find aj with
 | none=>
  rw [hn] at h;simp only [zcD,zaU,decide_eq_false_iff_not] at h;simp only [zcM,decide_eq_false_iff_not];right;omega
 | some e=>
  obtain⟨he,hl⟩:=(ig I.bn).1 hn;by_cases hll:aj=l'
  ·subst hll;simp only [zcM,decide_eq_false_iff_not];right;have hr:=I.room aj;have h0:=(I.ent e he).lo;have hlt:(({ ca with l:=ca.l.filter λx=> decide (x.aj≠aj) }:Cache).nT aj).length < (ca.nT aj).length:=by
    unfold Cache.nT;rw [zdz];refine zW (λx _ h=> ?_) he ?_ ?_
    ·simp only [zaf] at h ⊢;exact h.1
    ·rw [hl];simp;omega
    ·simp [hl]
   omega
  ·have:({ ca with l:=ca.l.filter λx=> decide (x.aj≠l') }:Cache).find aj=some e:=by
    unfold Cache.find;rw [ig (I.bn.filter _)];refine⟨zbn.2 ⟨he,?_⟩,hl⟩;simp only [decide_eq_true_eq];omega
   rw [this];rfl
abbrev By:=BitVec 8
abbrev S16:=BitVec 16
def shS(s:S16):S16:=(s <<< 1) ^^^ (if s.msb then 0x1021#16 else 0#16)
def shN:Nat->S16->S16
 | 0,s=> s
 | n+1,s=> shN n (shS s)
def XR(s:S16)(c:By):S16:=shN 8 (s ^^^ (c.setWidth 16 <<< 8))
def uN(s:S16)(l:List By):S16:=l.foldl XR s
def XT(s:S16):By:=(s >>> 8).setWidth 8
def XU(s:S16):By:=s.setWidth 8
def jD(l:List By):List By:=l++[XT (uN 0xffff#16 l),XU (uN 0xffff#16 l)]
theorem acF:shS 0#16=0#16:=by decide
theorem Y3(s t:S16):shS (s ^^^ t)=shS s ^^^ shS t:=by
 unfold shS;rw [BitVec.msb_xor,BitVec.shiftLeft_xor_distrib];cases s.msb <;> cases t.msb <;> simp
 ·rw [zbs]
 ·rw [zbs,zbs,BitVec.xor_comm (t <<< 1)]
 ·rw [zbs,<-zbs 4129#16,BitVec.xor_comm 4129#16,zbs,zcE,zdo]
theorem acG {s:S16}(h:shS s=0#16):s=0#16:=by
 unfold shS at h;cases hm:s.msb with
 | true=>
  rw [hm] at h;have:=congrArg (λv:S16=> v.getLsbD 0) h;simp at this
 | false=>
  rw [hm] at h;simp only [zah,if_false,zdo] at h
  apply zcb
  intro i hi;by_cases h15:i=15
  ·subst h15;have:s.getLsbD 15=s.msb:=by simp [BitVec.msb_eq_getLsbD_last]
   rw [this,hm];simp
  ·have:=congrArg (λv:S16=> v.getLsbD (i+1)) h;simp only [zb6,BitVec.getLsbD_zero] at this;have h1:i+1 < 16:=by omega
   simp [h1] at this
   simpa using this
theorem Ls:∀n,shN n 0#16=0#16
 | 0=> rfl
 | n+1=> by rw [shN,acF,Ls n]
theorem Y4:∀n (s t:S16),shN n (s ^^^ t)=shN n s ^^^ shN n t
 | 0,_,_=> rfl
 | n+1,s,t=> by rw [shN,Y3,Y4 n];rfl
theorem Lu:∀n {s:S16},shN n s=0#16->s=0#16
 | 0,_,h=> h
 | n+1,s,h=> acG (Lu n h)
def ai3(b:Bool):S16:=if b then 0x8000#16 else 0#16
def Dw(s:S16)(b:Bool):S16:=shS (s ^^^ ai3 b)
def RY:List Bool->S16
 | []=> 0#16
 | b::l=> ai3 b ^^^ (RY l >>> 1)
theorem ahn:∀i:Fin 16,(0x8000#16).getLsbD i.val=decide (i.val=15):=by decide
theorem acH(b:Bool){i:Nat}(h:i < 16):(ai3 b).getLsbD i=(b && decide (i=15)):=by
 unfold ai3;cases b
 ·simp
 ·simp only [if_true,zaU];exact ahn ⟨i,h⟩
theorem zX:∀(l:List Bool) (i:Nat),l.length<=16->i < 16->(RY l).getLsbD i=(l[15 - i]?).getD false
 | [],i,_,_=> by simp [RY]
 | b::l,i,h,hi=> by
  simp only [zam] at h;rw [RY,BitVec.getLsbD_xor,zcW,acH b hi];by_cases h15:i=15
  ·subst h15;have:(RY l).getLsbD (1+15)=false:=BitVec.getLsbD_of_ge _ _ (by omega);rw [this];simp
  ·rw [zX l (1+i) (by omega) (by omega)];have e:15 - i=(15 - (1+i))+1:=by omega
   rw [e,zbb];simp [h15]
theorem xF:∀(l:List Bool) (s:S16),l.length<=16->l.foldl Dw s=shN l.length (s ^^^ RY l)
 | [],s,_=> by simp [RY,shN]
 | b::l,s,h=> by
  simp only [zam] at h;rw [zbJ,xF l _ (by omega)];show shN l.length (Dw s b ^^^ RY l)=shN l.length (shS (s ^^^ RY (b::l)))
  congr 1
  rw [RY,<-zbs,Y3];unfold Dw
  congr 1
  unfold shS;have hm:(RY l >>> 1).msb=false:=by simp [BitVec.msb_ushiftRight]
  rw [hm];simp only [zah,if_false,zdo];have h0:(RY l).getLsbD 0=false:=by
   rw [zX l 0 (by omega) (by omega),zaK (by omega)];rfl
  apply zcb
  intro i hi;rw [zb6,zcW];cases i with
  | zero=> rw [h0];simp
  | succ i=>
   have e:1+(i+1 - 1)=i+1:=by omega
   have e2:¬(i+1 < 1):=by omega
   rw [e];simp [hi,e2]
theorem Y5 {l:List Bool}(h:l.length<=16)(h0:RY l=0#16):∀b∈l,b=false:=by
 intro b hb;obtain⟨k,hk,rfl⟩:=zcT.1 hb;have:=zX l (15 - k) h (by omega);rw [h0,show 15 - (15 - k)=k by omega,zab hk] at this
 simpa using this.symm
def wL(c:By):List Bool:=[c.getLsbD 7,c.getLsbD 6,c.getLsbD 5,c.getLsbD 4,c.getLsbD 3,c.getLsbD 2,c.getLsbD 1,c.getLsbD 0]
def x8(l:List By):List Bool:=l.flatMap wL
theorem Y6(c:By):RY (wL c)=c.setWidth 16 <<< 8:=by
 apply zcb
 intro i hi;rw [zX _ _ (by simp [wL]) hi,zb6,BitVec.getLsbD_setWidth];rcases(show i=0∨i=1∨i=2∨i=3∨i=4∨i=5∨i=6∨i=7∨i=8∨i=9∨i=10∨i=11∨i=12∨i=13∨i=14∨i=15 by omega) with h | h | h | h | h | h | h | h | h | h | h | h | h | h | h | h <;> subst h <;> simp [wL]
theorem Y7(s:S16)(c:By):XR s c=(wL c).foldl Dw s:=by
 rw [xF _ _ (by simp [wL]),Y6];rfl
theorem BR:∀(l:List By) (s:S16),uN s l=(x8 l).foldl Dw s
 | [],s=> rfl
 | c::l,s=> by
  show uN (XR s c) l=_;rw [BR l,Y7];show _=(wL c++x8 l).foldl Dw s;rw [zc8]
theorem ru(l:List By):(x8 l).length=8*l.length:=by
 unfold x8
 induction l with
 | nil=> rfl
 | cons c l ih=> rw [zaE,zao,ih];simp [wL];omega
theorem Po(l:List By):uN 0xffff#16 (jD l)=0#16:=by
 unfold jD;obtain⟨s,hs⟩:∃s,s=uN 0xffff#16 l:=⟨_,rfl⟩
 rw [<-hs];unfold uN at hs ⊢;rw [zc8,<-hs];show uN s [XT s,XU s]=0#16;rw [BR,xF _ _ (by rw [ru];simp)];have:RY (x8 [XT s,XU s])=s:=by
  apply zcb
  intro i hi;rw [zX _ _ (by rw [ru];simp) hi];have e:x8 [XT s,XU s]=[s.getLsbD 15,s.getLsbD 14,s.getLsbD 13,s.getLsbD 12,s.getLsbD 11,s.getLsbD 10,s.getLsbD 9,s.getLsbD 8,s.getLsbD 7,s.getLsbD 6,s.getLsbD 5,s.getLsbD 4,s.getLsbD 3,s.getLsbD 2,s.getLsbD 1,s.getLsbD 0]:=by
   simp [x8,wL,XT,XU,zaE]
  rw [e];rcases(show i=0∨i=1∨i=2∨i=3∨i=4∨i=5∨i=6∨i=7∨i=8∨i=9∨i=10∨i=11∨i=12∨i=13∨i=14∨i=15 by omega) with h | h | h | h | h | h | h | h | h | h | h | h | h | h | h | h <;> subst h <;> rfl
 rw [this,zcE,Ls]
def WE(l m:List By):List By:=List.zipWith (· ^^^ ·) l m
theorem acI(s t:S16)(c d:By):XR (s ^^^ t) (c ^^^ d)=XR s c ^^^ XR t d:=by
 unfold XR;rw [<-Y4]
 congr 1
 rw [BitVec.setWidth_xor,BitVec.shiftLeft_xor_distrib];rw [zbs,zbs]
 congr 1
 rw [<-zbs,<-zbs,BitVec.xor_comm t]
theorem Pq:∀(l m:List By) (s t:S16),l.length=m.length->uN (s ^^^ t) (WE l m)=uN s l ^^^ uN t m
 | [],[],s,t,_=> rfl
 | c::l,d::m,s,t,h=> by
  show uN (XR (s ^^^ t) (c ^^^ d)) (WE l m)=uN (XR s c) l ^^^ uN (XR t d) m;rw [acI,Pq l m _ _ (by simpa using h)]
 | [],_::_,_,_,h=> by simp at h
 | _::_,[],_,_,h=> by simp at h
theorem BU:∀(l:List Bool) (s:S16),(∀b∈l,b=false)->l.foldl Dw s=shN l.length s
 | [],s,_=> rfl
 | b::l,s,h=> by
  have hb:=h b (by simp);subst hb;rw [zbJ,BU l _ λb hb=> h b (by simp [hb])];show shN l.length (shS (s ^^^ ai3 false))=shN l.length (shS s);simp [ai3]
theorem WG {B:List Bool}{a:Int}(h:∀(k:Nat),B[k]?=some true->a<=k/\(k:Int) < a+16)(h0:B.foldl Dw 0#16=0#16):∀b∈B,b=false:=by
 obtain⟨p,hp⟩:∃p,p=a.toNat:=⟨_,rfl⟩
 have hB:B=B.take p++((B.drop p).take 16++(B.drop p).drop 16):=by rw [zcl,zcl]
 have f1:∀b∈B.take p,b=false:=by
  intro b hb;obtain⟨k,hk,rfl⟩:=zcT.1 hb;cases hbk:(B.take p)[k] with
  | false=> rfl
  | true=>
   have hk':k < p:=by rw [zax] at hk;omega
   have:B[k]?=some true:=by
    rw [<-hbk,<-zab hk,zaA,if_pos hk']
   have:=h k this;omega
 have f3:∀b∈(B.drop p).drop 16,b=false:=by
  intro b hb;obtain⟨k,hk,rfl⟩:=zcT.1 hb;cases hbk:((B.drop p).drop 16)[k] with
  | false=> rfl
  | true=>
   have:B[p+(16+k)]?=some true:=by
    rw [<-hbk,<-zab hk,zaC,zaC]
   have:=h _ this;omega
 rw [hB,zc8,zc8,BU _ _ f1,Ls,BU _ _ f3,xF _ _ (by rw [zax];omega),BitVec.zero_xor] at h0;have f2:=Y5 (by rw [zax];omega) (Lu _ (Lu _ h0));intro b hb;rw [hB] at hb;rcases zaO.1 hb with hb | hb
 ·exact f1 b hb
 ·rcases zaO.1 hb with hb | hb
  ·exact f2 b hb
  ·exact f3 b hb
theorem acJ {c d:By}(h:∀b∈wL (c ^^^ d),b=false):c=d:=by
 apply zcb
 intro i hi;have key:(c ^^^ d).getLsbD i=false:=by
  apply h
  rcases(show i=0∨i=1∨i=2∨i=3∨i=4∨i=5∨i=6∨i=7 by omega) with h | h | h | h | h | h | h | h <;> subst h <;> simp [wL]
 rw [BitVec.getLsbD_xor] at key;cases h1:c.getLsbD i <;> cases h2:d.getLsbD i <;> simp [h1,h2] at key ⊢
theorem Gv:∀{l m:List By},l.length=m.length->(∀b∈x8 (WE l m),b=false)->l=m
 | [],[],_,_=> rfl
 | c::l,d::m,h,hb=> by
  have hx:x8 (WE (c::l) (d::m))=wL (c ^^^ d)++x8 (WE l m):=rfl;rw [hx] at hb;rw [acJ λb h=> hb b (zcR _ h),Gv (by simpa using h) λb h=> hb b (zdl _ h)]
 | [],_::_,h,_=> by simp at h
 | _::_,[],h,_=> by simp at h
theorem RZ {x y:List By}{a:Int}(hl:(jD x).length=(jD y).length)(h:∀(k:Nat),(x8 (WE (jD x) (jD y)))[k]?=some true->a<=k/\(k:Int) < a+16):jD x=jD y:=by
 refine Gv hl (WG h ?_);rw [<-BR];have:=Pq (jD x) (jD y) 0xffff#16 0xffff#16 hl;rw [zcE,Po,Po,zcE] at this;exact this
def ae3(bit mask:Int)(k:Nat):Bool:=decide (0<=(k:Int) - bit) && decide ((k:Int) - bit < 16) && mask.toNat.testBit (15 - ((k:Int) - bit).toNat)
def uO(bit mask:Int)(at_:Nat):By:=
 if 8*(at_:Int) - bit<=-8∨16<=8*(at_:Int) - bit then 0#8 else(((BitVec.ofNat 32 mask.toNat) <<< 8 <<< (8*(at_:Int) - bit+8).toNat) >>> 24).setWidth 8
def qw(bit mask:Int)(l:List By):List By:=l.mapIdx λi c=> c ^^^ uO bit mask i
theorem Si {m k:Nat}(hm:m<=65535)(hk:16<=k):m.testBit k=false:=by
 apply Nat.testBit_lt_two_pow
 calc m < 2 ^ 16:=by omega
  _<=2 ^ k:=Nat.pow_le_pow_right (by decide) hk
theorem Y8 {bit mask:Int}(h0:0<=mask)(h1:mask<=65535)(at_ j:Nat)(hj:j < 8):(uO bit mask at_).getLsbD j=ae3 bit mask (8*at_+(7 - j)):=by
 unfold uO ae3;obtain⟨y,hy⟩:∃y:Int,y=8*(at_:Int) - bit:=⟨_,rfl⟩
 have hk:((8*at_+(7 - j):Nat):Int) - bit=y+(7 - (j:Int)):=by omega
 rw [<-hy,hk];by_cases h:y<=-8∨16<=y
 ·rw [if_pos h];simp only [BitVec.getLsbD_zero];rcases h with h | h
  ·have:¬(0<=y+(7 - (j:Int))):=by omega
   simp [this]
  ·have:¬(y+(7 - (j:Int)) < 16):=by omega
   simp [this]
 ·rw [if_neg h];simp only [not_or] at h;obtain⟨n,hn⟩:∃n:Nat,n=(y+8).toNat:=⟨_,rfl⟩
  rw [<-hn];rw [BitVec.getLsbD_setWidth,zcW,zb6,zb6,BitVec.getLsbD_ofNat];have a1:24+j < 32:=by omega
  have a2:¬(24+j < n):=by omega
  have a3:24+j - n < 32:=by omega
  by_cases hlo:24+j - n < 8
  ·have:¬(y+(7 - (j:Int)) < 16):=by omega
   simp [hlo,this]
  ·have a4:24+j - n - 8 < 32:=by omega
   have b1:y+(7 - (j:Int)) < 16:=by omega
   by_cases b0:0<=y+(7 - (j:Int))
   ·have e:24+j - n - 8=15 - (y+(7 - (j:Int))).toNat:=by omega
    simp only [hj,a1,a2,a3,a4,hlo,b0,b1,decide_true,decide_false,zal,zaU,zcp];rw [e]
   ·have:mask.toNat.testBit (24+j - n - 8)=false:=Si (by omega) (by omega);simp [this,b0]
theorem iW(bit mask:Int)(l:List By):(qw bit mask l).length=l.length:=by simp [qw]
theorem Y9(c:By)(j:Nat)(hj:j < 8):(wL c)[j]?=some (c.getLsbD (7 - j)):=by
 rcases(show j=0∨j=1∨j=2∨j=3∨j=4∨j=5∨j=6∨j=7 by omega) with h | h | h | h | h | h | h | h <;> subst h <;> rfl
theorem Gw:∀(l:List By) (k:Nat),(x8 l)[k]?=(l[k / 8]?).map λc=> c.getLsbD (7 - k % 8)
 | [],k=> by simp [x8]
 | c::l,k=> by
  have hx:x8 (c::l)=wL c++x8 l:=rfl;rw [hx];by_cases h:k < 8
  ·rw [zaN (by simp [wL];exact h),Y9 c k h,show k / 8=0 by omega,show k % 8=k by omega];rfl
  ·rw [za0 (by simp [wL];omega)];have:(wL c).length=8:=rfl;rw [this,Gw l (k - 8),show k / 8=(k - 8) / 8+1 by omega,show k % 8=(k - 8) % 8 by omega];rfl
theorem BX {bit mask:Int}(h0:0<=mask)(h1:mask<=65535)(l:List By)(k:Nat)(hk:k < 8*l.length):(x8 (WE l (qw bit mask l)))[k]?=some (ae3 bit mask k):=by
 rw [Gw];have hi:k / 8 < l.length:=by omega
 have:(WE l (qw bit mask l))[k / 8]?=some (uO bit mask (k / 8)):=by
  unfold WE qw;rw [List.getElem?_zipWith,zbf,zab hi];simp only [zak]
  congr 1
  rw [<-zbs,zcE,BitVec.zero_xor]
 rw [this,zak,Y8 h0 h1 _ _ (by omega)]
 congr 2
 omega
theorem Pv {n:Nat}{bit mask:Int}:aT n bit mask=true↔∃k:Nat,k < 8*n/\ae3 bit mask k=true:=by
 unfold aT;rw [zbY];constructor
 ·rintro⟨i,hi,h⟩;rw [zaX] at hi;simp only [zaf,decide_eq_true_eq] at h;obtain⟨⟨a,b⟩,c⟩:=h;refine⟨(bit+i).toNat,by omega,?_⟩;unfold ae3;have e:(((bit+i).toNat:Nat):Int) - bit=i:=by omega
  rw [e];simp only [zaf,decide_eq_true_eq];refine⟨⟨by omega,by omega⟩,?_⟩;rw [zat,zdj];rw [zcu] at a
  simpa using a
 ·rintro⟨k,hk,h⟩;unfold ae3 at h;simp only [zaf,decide_eq_true_eq] at h;obtain⟨⟨a,b⟩,c⟩:=h;refine⟨((k:Int) - bit).toNat,zaX.2 (by omega),?_⟩;simp only [zaf,decide_eq_true_eq];refine⟨⟨?_,by omega⟩,by omega⟩;rw [zdj] at c;rw [zcu]
  simpa using c
theorem WH {bit mask:Int}(h0:0<=mask)(h1:mask<=65535){l:List By}(h:aT l.length bit mask=false):qw bit mask l=l:=by
 have hl:l.length=(qw bit mask l).length:=(iW _ _ _).symm;refine(Gv hl λb hb=> ?_).symm;obtain⟨k,hk,rfl⟩:=zcT.1 hb;have hk8:k < 8*l.length:=by
  rw [ru] at hk;unfold WE at hk;rw [List.length_zipWith] at hk;omega
 have:=BX (bit:=bit) h0 h1 l k hk8;rw [zab hk,zaa] at this;rw [this];cases hf:ae3 bit mask k with
 | false=> rfl
 | true=>
  have:=Pv.2 ⟨k,hk8,hf⟩;rw [h] at this;cases this
theorem Sj {bit mask:Int}(h0:0<=mask)(h1:mask<=65535){x y:List By}(h:aT (jD x).length bit mask=true):qw bit mask (jD x)≠jD y:=by
 intro e;have hl:(jD x).length=(jD y).length:=by rw [<-e,iW]
 have hs:=RZ (a:=bit) hl λk hk=> by
  rw [<-e] at hk;have hk8:k < 8*(jD x).length:=by
   have hlt:=(zai.1 hk).1;rw [ru] at hlt;unfold WE at hlt;rw [List.length_zipWith] at hlt;omega
  rw [BX h0 h1 _ k hk8] at hk;simp only [zaa] at hk;unfold ae3 at hk;simp only [zaf,decide_eq_true_eq] at hk;omega
 obtain⟨k,hk,hf⟩:=Pv.1 h;have:=BX (bit:=bit) h0 h1 (jD x) k hk;rw [e,<-hs,hf,Gw] at this;have hx:∀l:List By,WE l l=l.map λ_=> 0#8:=by
  intro l
  induction l with
  | nil=> rfl
  | cons c l ih=>
   show(c ^^^ c)::WE l l=_;rw [ih,zcE];rfl
 rw [hx,zaR] at this;cases hh:(jD x)[k / 8]? with
 | none=> rw [hh] at this;cases this
 | some c=> rw [hh] at this;simp at this
def by8(n:Int):By:=BitVec.ofInt 8 n
def qN(n:Int):List By:=[by8 (n.fdiv (2 ^ 56)),by8 (n.fdiv (2 ^ 48)),by8 (n.fdiv (2 ^ 40)),by8 (n.fdiv (2 ^ 32)),by8 (n.fdiv (2 ^ 24)),by8 (n.fdiv (2 ^ 16)),by8 (n.fdiv (2 ^ 8)),by8 (n.fdiv (2 ^ 0))]
def fD(p:Pkt):List By:=[by8 p.aO,by8 p.src,by8 p.dst,by8 (p.id.fdiv 256),by8 p.id,by8 p.aj,by8 (p.ptr+1),by8 p.aQ,by8 (if p.flag then 1 else 0),by8 p.data.length]++p.data.flatMap qN
def rZ(p:Pkt):List By:=jD (fD p)
theorem jA(n:Int):(qN n).length=8:=rfl
theorem rC(p:Pkt):(rZ p).length=p.bytes:=by
 unfold rZ jD fD Pkt.bytes;rw [zao,zao,dR LC];simp;omega
where
 LC:∀n,(qN n).length=8:=λ_=> rfl
 dR {α β:Type} {f:α->List β} {m:Nat} (h:∀a,(f a).length=m):∀{l:List α},(l.flatMap f).length=l.length*m:=by
  intro l
  induction l with
  | nil=> simp
  | cons a l ih=> rw [zaE,zao,h,ih,zam,zbO];omega
section
variable {P:Program}{t:TypeId}{k k':IntKind}{a b n:Int}
theorem Za(h:0<=n):oQ P .shl t (.s (.int k a)) (.s (.int k' n))=some (.s (.int k (k.wrap (a*2 ^ (min n.toNat k.bits))))):=by
 have:¬n < 0:=by omega
 simp [oQ,AV.val?,eqGuard,binOp,Op.shift,dM,this]
theorem Sl(h:0<=n):oQ P .shr t (.s (.int k a)) (.s (.int k' n))=some (.s (.int k (a.fdiv (2 ^ (min n.toNat k.bits))))):=by
 have:¬n < 0:=by omega
 simp [oQ,AV.val?,eqGuard,binOp,Op.shift,dM,this]
theorem aho:oQ P .xor t (.s (.int k a)) (.s (.int k b))=some (.s (.int k (k.wrap (BitVec.ofInt k.bits a ^^^ BitVec.ofInt k.bits b).toNat))):=by
 simp [oQ,AV.val?,eqGuard,binOp,Op.intBits,dM]
theorem ae4:oQ P .or t (.s (.int k a)) (.s (.int k b))=some (.s (.int k (k.wrap (BitVec.ofInt k.bits a ||| BitVec.ofInt k.bits b).toNat))):=by
 simp [oQ,AV.val?,eqGuard,binOp,Op.intBits,dM]
end
def U(k:IntKind)(v:BitVec k.bits):AV:=.s (.int k (v.toNat:Int))
abbrev Y(c:By):AV:=U .u8 c
abbrev U16(s:S16):AV:=U .u16 s
abbrev U32(s:BitVec 32):AV:=U .u32 s
abbrev U64(s:BitVec 64):AV:=U .u64 s
theorem ae5 {k:IntKind}(hk:k.signed=false)(z:Int):k.wrap z=z % (2 ^ k.bits:Int):=by simp [IntKind.wrap,hk]
theorem zY {k:IntKind}(hk:k.signed=false)(m:Nat):k.wrap (m:Int)=((BitVec.ofNat k.bits m).toNat:Int):=by
 rw [ae5 hk,zci]
 norm_cast
theorem qx {w:Nat}(v:BitVec w):BitVec.ofInt w (v.toNat:Int)=v:=by
 rw [zdp,zdA,BitVec.setWidth_eq]
theorem UN {k:IntKind}(hk:k.signed=false)(v:BitVec k.bits):k.wrap (v.toNat:Int)=(v.toNat:Int):=by
 rw [zY hk,zdA,BitVec.setWidth_eq]
section
variable {P:Program}{t:TypeId}{k k':IntKind}
theorem ahp(hk:k.signed=false)(x y:BitVec k.bits):oQ P .xor t (U k x) (U k y)=some (U k (x ^^^ y)):=by
 unfold U;rw [aho,qx,qx,UN hk]
theorem aqF(hk:k.signed=false)(x y:BitVec k.bits):oQ P .or t (U k x) (U k y)=some (U k (x ||| y)):=by
 unfold U;rw [ae4,qx,qx,UN hk]
theorem Zb(hk:k.signed=false)(x:BitVec k.bits)(n:Int)(h0:0<=n)(h:n<=k.bits):oQ P .shl t (U k x) (.s (.int k' n))=some (U k (x <<< n.toNat)):=by
 unfold U;rw [Za h0,show min n.toNat k.bits=n.toNat by omega];have:((x.toNat:Int)*2 ^ n.toNat)=((x.toNat*2 ^ n.toNat:Nat):Int):=by norm_cast
 rw [this,zY hk,zci,BitVec.toNat_shiftLeft,zdk]
theorem ahq(x:BitVec k.bits)(n:Int)(h0:0<=n)(h:n<=k.bits):oQ P .shr t (U k x) (.s (.int k' n))=some (U k (x >>> n.toNat)):=by
 unfold U;rw [Sl h0,show min n.toNat k.bits=n.toNat by omega,BitVec.toNat_ushiftRight,zcu];have:(2:Int) ^ n.toNat=((2 ^ n.toNat:Nat):Int):=by norm_cast
 rw [this,zbW _ (Int.natCast_nonneg _)]
 norm_cast
theorem aoP(hk:k.signed=false)(x y:BitVec k.bits):oQ P .mul t (U k x) (U k y)=some (U k (x*y)):=by
 unfold U;rw [oU];have:((x.toNat:Int)*y.toNat)=((x.toNat*y.toNat:Nat):Int):=by norm_cast
 rw [this,zY hk,zci,BitVec.toNat_mul]
theorem ako(hk:k'.signed=false)(x:BitVec k.bits):(AV.s (.int k' (k'.wrap (x.toNat:Int))))=U k' (x.setWidth k'.bits):=by
 unfold U;rw [zY hk,zdA]
end
theorem acK(l:List By):(l.map Y).all AV.aX=true:=by
 rw [za2];intro x hx;obtain⟨c,_,rfl⟩:=zaH.1 hx;rfl
def yOf:AV->Option By
 | .s (.int .u8 n)=> if 0<=n/\n < 256 then some (BitVec.ofInt 8 n) else none
 | _=> none
def Gx(x:AV)(H:ah):Option (List By):=
 match x with
 | .sl r g off esz n _ _=> match H.get r with
  | .blk g' _ cells=> if esz=1/\g'=g/\off+n<=cells.length/\0 < n/\n<=800 then((cells.drop off).take n).mapM yOf else none
  | _=> none
 | _=> none
structure Pkt.fit(p:Pkt):Prop where
 ok:p.ok=true
 num:∀v∈p.data,I64 v
open Classical in
def BZ(args:List AV)(H:ah):Option (AV × ah):=
 match args with
 | [x]=> match Gx x H with
  | some l=> if h:∃p:Pkt,p.fit/\rZ p=l then some (.tup [.agg (Classical.choose h).av,I 0],H)
   else if(∀y,l≠jD y) then some (.tup [.agg Pkt.zero.av,I 2],H) else none
  | none=> none
 | _=> none
def ahr:List Nat:=[
 36,
 116,
 132,
 70,
 235,
 159,
 102,
 59,
 60,
 106,
 108,
 109,
 148,
 57,
 42,
 204,
 30,
 51,
 17,
 21,
 68,
 27,
 119,
 33,
 34,
 120,
 76,
 121,
 77,
 173,
 24,
 259,
 266,
 83,
 189,
 82,
 201,
 41,
 151,
 152,
 31,
 124,
 80,
 26,
 55,
 69,
 28,
 236,
 196,
 192,
 200,
 216,
 174,
 92,
 229,
 90,
 193,
 140,
 126,
 203,
 85,
 225,
 226,
 43,
 25,
 9,
 16,
 37,
 38,
 39,
 10,
 11,
 12,
 13,
 47,
 89,
 53,
 100,
 58,
 19,
 18,
 54,
 56,
 103,
 154,
 40,
 81,
 44,
 88,
 99,
 153,
 14,
 0]
def Dx:List Nat:=[
 239,
 0]
def JG:List Nat:=[
 87,
 0]
def aoQ:Pol:=⟨λ_=> false,λ_=> none⟩
def cl0:aC:=callω Tryz.prog aoQ
def ahs:List (Nat × (List AV->ah->Option (AV × ah))):=[
 (45,BJ Dx JG),
 (190,cl0 190),
 (129,BZ),
 (128,cl0 128),
 (130,cl0 130),
 (0,λ_ _=> none)]
def pol:Pol:=⟨λf=> ahr.contains f,λf=> ahs.lookup f⟩
def cl:aC:=callω Tryz.prog pol
def UO(f:FuncId)(p:List AV->ah->Option (AV × ah)):Prop:=
 qM Tryz.prog (λg args H=> if g=f then p args H else none)/\∀args H v H',p args H=some (v,H')->Keeps H H'
theorem aht(f:FuncId):UO f (cl0 f):=by
 have hc:=callω_ok (P:=Tryz.prog) (L:=aoQ) (λf p h=> by cases h) (by kernel_rfl);refine⟨λg args H v H' h=> ?_,λargs H v H' h=> hc.2 f args H v H' h⟩;simp only at h;split at h
 ·rename_i e;subst e;exact hc.1 _ args H v H' h
 ·cases h
theorem iG {f:FuncId}{args:List AV}{H:ah}{r:AV × ah}(h:yZ Tryz.prog cl0 f args H=some r):cl0 f args H=some r:=aed rfl rfl h
theorem bg {f:FuncId}{args:List AV}{H:ah}{r:AV × ah}(h1:pol.abN f=none)(h2:pol.pure f=false)(h:yZ Tryz.prog cl f args H=some r):cl f args H=some r:=aed h1 h2 h
theorem jq {f:FuncId}{args:List AV}{H H1:ah}{v v':AV}(h1:pol.abN f=none)(h2:pol.pure f=true)(h:yZ Tryz.prog cl f args H.guard=some (v,H1))(hz:bV H1 H.next 9 v=some v'):cl f args H=some (v',H):=ag5 h1 h2 h hz
theorem kD {f:FuncId}{args:List AV}{H:ah}{v:AV}{Q:ah->Prop}{sh:Option (AV × ah)}(h1:pol.abN f=none)(h2:pol.pure f=false)(rn:∀{r},sh=some r->yZ Tryz.prog cl f args H=some r)(h:∃H',sh=some (v,H')/\Q H'):∃H',cl f args H=some (v,H')/\Q H':=by
 obtain⟨H',e,q⟩:=h;exact⟨H',bg h1 h2 (rn e),q⟩
theorem bU {f:FuncId}{args:List AV}{H:ah}{v:AV}{sh:Option (AV × ah)}(h1:pol.abN f=none)(h2:pol.pure f=true)(rn:∀{r},sh=some r->yZ Tryz.prog cl f args H.guard=some r)(h:sh.map Prod.fst=some v)(hz:Frz 9 v):cl f args H=some (v,H):=by
 cases hs:sh with
 | none=> rw [hs] at h;cases h
 | some r=>
  rw [hs] at h;simp only [zak,zaa] at h;subst h;exact jq h1 h2 (rn hs) (hz _ _)
open Go.RowKit
structure Cho where
 do_:Int
 at_:Int
 bit:Int
 mask:Int
def Cho.av(c:Cho):List AV:=[I c.do_,I c.at_,I c.bit,.s (.int .u16 c.mask)]
end
end Go.Proofs.YtgplhpgkompkmaaGreat
