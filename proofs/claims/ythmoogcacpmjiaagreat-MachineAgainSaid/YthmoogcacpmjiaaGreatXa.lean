/-
  Own work: an interpreter over named blocks, its soundness, and what the functions of this seat compute (part 1 of 11).
  Conditions: those of the statement alone.
-/
import Derived.Calls
import Derived.Orders
import Derived.Laws.World
import Derived.Laws.Entries
import Derived.Laws.Slices
import Derived.Laws.Append
import Derived.Laws.MakeOwn
import Derived.Laws.BytesString
set_option linter.all false
set_option linter.unusedSectionVars false
set_option linter.unusedVariables false
set_option linter.unusedSimpArgs false
namespace Go.Proofs.YthmoogcacpmjiaaGreat
noncomputable section
theorem zaa : type_of% @Option.some.injEq.{0} := @Option.some.injEq
theorem zab : type_of% @List.getElem?_eq_getElem.{0} := @List.getElem?_eq_getElem
theorem zac : type_of% @Nat.le_refl := @Nat.le_refl
theorem zad : type_of% @Prod.mk.injEq.{0, 0} := @Prod.mk.injEq
theorem zae : type_of% @Bool.not_true := @Bool.not_true
theorem zaf : type_of% @List.getElem?_eq_some_iff.{0} := @List.getElem?_eq_some_iff
theorem zah : type_of% @Option.map_some.{0, 0} := @Option.map_some
theorem zai : type_of% @Bool.false_eq_true := @Bool.false_eq_true
theorem zaj : type_of% @Bool.and_eq_true := @Bool.and_eq_true
theorem zak : type_of% @List.length_cons.{0} := @List.length_cons
theorem zal : type_of% @Bool.not_false := @Bool.not_false
theorem zam : type_of% @List.mem_cons.{0} := @List.mem_cons
theorem zan : type_of% @List.eq_nil_of_length_eq_zero.{0} := @List.eq_nil_of_length_eq_zero
theorem zao : type_of% @List.length_take.{0} := @List.length_take
theorem zaq : type_of% @List.length_append.{0} := @List.length_append
theorem zar : type_of% @Int.toNat_natCast := @Int.toNat_natCast
theorem zas : type_of% @List.take_of_length_le.{0} := @List.take_of_length_le
theorem zat : type_of% @List.length_nil.{0} := @List.length_nil
theorem zau : type_of% @List.mem_of_getElem?.{0} := @List.mem_of_getElem?
theorem zaw : type_of% @Nat.lt_of_lt_of_le := @Nat.lt_of_lt_of_le
theorem zax : type_of% @List.getD_eq_getElem?_getD.{0} := @List.getD_eq_getElem?_getD
theorem zay : type_of% @Option.getD_some.{0} := @Option.getD_some
theorem zaz : type_of% @Nat.le_trans := @Nat.le_trans
theorem zaA : type_of% @List.getElem?_take.{0} := @List.getElem?_take
theorem zaB : type_of% @List.getElem?_map.{0, 0} := @List.getElem?_map
theorem zaC : type_of% @List.map_cons.{0, 0} := @List.map_cons
theorem zaD : type_of% @Nat.mul_le_mul_right := @Nat.mul_le_mul_right
theorem zaE : type_of% @List.length_map.{0, 0} := @List.length_map
theorem zaF : type_of% @List.getElem?_drop.{0} := @List.getElem?_drop
theorem zaG : type_of% @List.getElem?_eq_none.{0} := @List.getElem?_eq_none
theorem zaH : type_of% @List.flatMap_cons.{0, 0} := @List.flatMap_cons
theorem zaI : type_of% @List.not_mem_nil.{0} := @List.not_mem_nil
theorem zaJ : type_of% @List.getElem?_append_left.{0} := @List.getElem?_append_left
theorem zaK : type_of% @List.length_drop.{0} := @List.length_drop
theorem zaL : type_of% @Option.isSome_none.{0} := @Option.isSome_none
theorem zaM : type_of% @Option.isSome_some.{0} := @Option.isSome_some
theorem zaN : type_of% @List.mem_map.{0, 0} := @List.mem_map
theorem zaO : type_of% @Bool.true_and := @Bool.true_and
theorem zaP : type_of% @List.drop_zero.{0} := @List.drop_zero
theorem zaQ : type_of% @Bool.false_and := @Bool.false_and
theorem zaR : type_of% @Nat.lt_or_ge := @Nat.lt_or_ge
theorem zaS : type_of% @List.mem_singleton.{0} := @List.mem_singleton
theorem zaT : type_of% @Nat.zero_le := @Nat.zero_le
theorem zaU : type_of% @List.drop_of_length_le.{0} := @List.drop_of_length_le
theorem zaV : type_of% @Option.bind_some.{0, 0} := @Option.bind_some
theorem zaW : type_of% @List.mem_range := @List.mem_range
theorem zaX : type_of% @List.nil_append.{0} := @List.nil_append
theorem zaY : type_of% @List.getElem?_append_right.{0} := @List.getElem?_append_right
theorem zaZ : type_of% @List.all_eq_true.{0} := @List.all_eq_true
theorem za0 : type_of% @Option.getD_none.{0} := @Option.getD_none
theorem za1 : type_of% @List.getElem?_cons_zero.{0} := @List.getElem?_cons_zero
theorem za2 : type_of% @List.mem_append.{0} := @List.mem_append
theorem za3 : type_of% @Option.some.inj.{0} := @Option.some.inj
theorem za4 : type_of% @List.mem_of_find?_eq_some.{0} := @List.mem_of_find?_eq_some
theorem za5 : type_of% @List.mem_flatMap.{0, 0} := @List.mem_flatMap
theorem za6 : type_of% @List.ext_getElem?.{0} := @List.ext_getElem?
theorem za7 : type_of% @Nat.zero_add := @Nat.zero_add
theorem za8 : type_of% @List.pairwise_cons.{0} := @List.pairwise_cons
theorem za9 : type_of% @Nat.le_succ := @Nat.le_succ
theorem zba : type_of% @Nat.zero_mul := @Nat.zero_mul
theorem zbb : type_of% @List.all_append.{0} := @List.all_append
theorem zbc : type_of% @List.getElem?_mapIdx.{0, 0} := @List.getElem?_mapIdx
theorem zbd : type_of% @Nat.one_mul := @Nat.one_mul
theorem zbe : type_of% @Array.getElem?_push.{0} := @Array.getElem?_push
theorem zbf : type_of% @Nat.add_zero := @Nat.add_zero
theorem zbg : type_of% @Nat.min_eq_left := @Nat.min_eq_left
theorem zbh : type_of% @List.append_nil.{0} := @List.append_nil
theorem zbi : type_of% @Bool.not_eq_true' := @Bool.not_eq_true'
theorem zbj : type_of% @List.getElem?_set_self.{0} := @List.getElem?_set_self
theorem zbk : type_of% @List.map_append.{0, 0} := @List.map_append
theorem zbl : type_of% @Bool.or_eq_true := @Bool.or_eq_true
theorem zbm : type_of% @List.getElem?_range := @List.getElem?_range
theorem zbn : type_of% @List.drop_eq_getElem_cons.{0} := @List.drop_eq_getElem_cons
theorem zbo : type_of% @Option.map_eq_some_iff.{0, 0} := @Option.map_eq_some_iff
theorem zbp : type_of% @List.mapM_cons.{0, 0, 0} := @List.mapM_cons
theorem zbq : type_of% @List.mem_filter.{0} := @List.mem_filter
theorem zbr : type_of% @BitVec.xor_assoc := @BitVec.xor_assoc
theorem zbs : type_of% @Nat.add_mul := @Nat.add_mul
theorem zbt : type_of% @Nat.mul_one := @Nat.mul_one
theorem zbu : type_of% @Array.getElem?_setIfInBounds_ne.{0} := @Array.getElem?_setIfInBounds_ne
theorem zbv : type_of% @List.getElem?_replicate.{0} := @List.getElem?_replicate
theorem zbw : type_of% @Array.getElem?_eq_some_iff.{0} := @Array.getElem?_eq_some_iff
theorem zbx : type_of% @List.getElem?_set_ne.{0} := @List.getElem?_set_ne
theorem zby : type_of% @List.findIdx?_eq_some_iff_findIdx_eq.{0} := @List.findIdx?_eq_some_iff_findIdx_eq
theorem zbz : type_of% @Array.getElem?_eq_getElem.{0} := @Array.getElem?_eq_getElem
theorem zbA : type_of% @List.map_congr_left.{0, 0} := @List.map_congr_left
theorem zbB : type_of% @List.flatMap_append.{0, 0} := @List.flatMap_append
theorem zbC : type_of% @Nat.le_succ_of_le := @Nat.le_succ_of_le
theorem zbD : type_of% @Nat.eq_of_beq_eq_true := @Nat.eq_of_beq_eq_true
theorem zbE : type_of% @List.drop_drop.{0} := @List.drop_drop
theorem zbF : type_of% @Nat.succ_mul := @Nat.succ_mul
theorem zbG : type_of% @List.getElem?_cons_succ.{0} := @List.getElem?_cons_succ
theorem zbH : type_of% @Bool.false_or := @Bool.false_or
theorem zbI : type_of% @Nat.eq_of_mul_eq_mul_right := @Nat.eq_of_mul_eq_mul_right
theorem zbJ : type_of% @Int.tmod_eq_emod_of_nonneg := @Int.tmod_eq_emod_of_nonneg
theorem zbK : type_of% @Int.le_refl := @Int.le_refl
theorem zbL : type_of% @List.foldl_cons.{0, 0} := @List.foldl_cons
theorem zbM : type_of% @List.mem_or_eq_of_mem_set.{0} := @List.mem_or_eq_of_mem_set
theorem zbN : type_of% @List.length_set.{0} := @List.length_set
theorem zbO : type_of% @List.take_append_of_le_length.{0} := @List.take_append_of_le_length
theorem zbP : type_of% @List.cons_append.{0} := @List.cons_append
theorem zbQ : type_of% @List.filter_cons.{0} := @List.filter_cons
theorem zbR : type_of% @List.find?_eq_none.{0} := @List.find?_eq_none
theorem zbS : type_of% @Bool.true_eq_false := @Bool.true_eq_false
theorem zbT : type_of% @List.mem_cons_of_mem.{0} := @List.mem_cons_of_mem
theorem zbU : type_of% @List.take_take.{0} := @List.take_take
theorem zbV : type_of% @Int.mul_le_mul := @Int.mul_le_mul
theorem zbW : type_of% @List.cons.injEq.{0} := @List.cons.injEq
theorem zbX : type_of% @Nat.ne_of_lt := @Nat.ne_of_lt
theorem zbY : type_of% @List.map_nil.{0, 0} := @List.map_nil
theorem zbZ : type_of% @Int.fdiv_eq_ediv_of_nonneg := @Int.fdiv_eq_ediv_of_nonneg
theorem zb0 : type_of% @Bool.and_false := @Bool.and_false
theorem zb1 : type_of% @List.length_replicate.{0} := @List.length_replicate
theorem zb2 : type_of% @Nat.add_right_cancel_iff := @Nat.add_right_cancel_iff
theorem zb3 : type_of% @BitVec.getLsbD_shiftLeft := @BitVec.getLsbD_shiftLeft
theorem zb4 : type_of% @List.forall_mem_cons.{0} := @List.forall_mem_cons
theorem zb5 : type_of% @List.pairwise_map.{0, 0} := @List.pairwise_map
theorem zb6 : type_of% @List.take_add_one.{0} := @List.take_add_one
theorem zb7 : type_of% @Nat.add_assoc := @Nat.add_assoc
theorem zb8 : type_of% @Bool.and_self := @Bool.and_self
theorem zb9 : type_of% @BitVec.eq_of_getLsbD_eq := @BitVec.eq_of_getLsbD_eq
theorem zca : type_of% @Array.toList_append.{0} := @Array.toList_append
theorem zcb : type_of% @Option.bind_eq_bind.{0} := @Option.bind_eq_bind
theorem zcc : type_of% @Array.toList_inj.{0} := @Array.toList_inj
theorem zcd : type_of% @Nat.mod_eq_of_lt := @Nat.mod_eq_of_lt
theorem zce : type_of% @List.drop_take.{0} := @List.drop_take
theorem zcf : type_of% @Int.mul_nonneg := @Int.mul_nonneg
theorem zcg : type_of% @List.filter_append.{0} := @List.filter_append
theorem zch : type_of% @BitVec.toNat_ofNat := @BitVec.toNat_ofNat
theorem zci : type_of% @List.length_mapIdx.{0, 0} := @List.length_mapIdx
theorem zcj : type_of% @List.range_succ := @List.range_succ
theorem zck : type_of% @List.sum_cons.{0} := @List.sum_cons
structure Fix where
 blocks:List Nat
 ok:World->Prop
 frame:∀w w':World,(∀b∈blocks,w'.heap[b]?=w.heap[b]?)->ok w->ok w'
def fx:Fix:=⟨[],λ_=> True,λ_ _ _ h=> h⟩
inductive AV where
 | s (v:Value)
 | ref (r g off:Nat)
 | sl (r g off esz len cap:Nat) (ex:Bool)
 | ip (cells:List AV)
 | vs (n esz:Nat) (cells:List AV)
 | mp (r:Nat)
 | fn (f:Fn) (first captured:List AV)
 | agg (cells:List AV)
 | tup (cells:List AV)
 deriving Inhabited
inductive dR where
 | blk (g:Nat) (ty:TypeId) (cells:List AV)
 | map (k:IntKind) (es:List (Int × AV))
 deriving Inhabited
def dR.gen:dR->Nat
 | .blk g _ _=> g
 | .map _ _=> 0
structure aj where
 next:Nat
 base:Nat
 get:Nat->dR
def aj.gen(H:aj)(r:Nat):Nat:=(H.get r).gen
def aj.put(H:aj)(r:Nat)(o:dR):aj:={ H with get:=λx=> if x=r then o else H.get x }
def aj.new(H:aj)(o:dR):aj:={ next:=H.next+1,base:=H.base,get:=λx=> if x=H.next then o else H.get x }
def aj.guard(H:aj):aj:={ H with base:=H.next }
def aj.empty:aj:={ next:=0,base:=0,get:=λ_=> .blk 0 0 [] }
abbrev Ren:=Nat->Option (Nat × Nat)
def Imm(ρ:Ren)(b:Nat):Prop:=∀r sh,ρ r≠some (b,sh)
mutual
def RV(ρ:Ren)(G:Nat->Nat)(w:World):AV->Value->Prop
 | .s v,cv=> cv=v
 | .ref r g off,cv=>∃a,cv=.pointer (some a)/\g<=G r/\(G r=g->∃b sh,ρ r=some (b,sh)/\a=⟨b,sh+off,none⟩)
 | .sl r g off esz len cap ex,cv=>∃b o c,cv=.slice (some ⟨b,o,none⟩) len c/\len<=cap/\cap<=c/\(ex=true->c=cap)/\g<=G r/\
   (G r=g->∃sh e n,ρ r=some (b,sh)/\(0 < c->o=sh+off)/\w.shape? b=some (e,n)/\o+c*esz<=n)
 | .ip cells,cv=>∃b o,cv=.pointer (some ⟨b,o,none⟩)/\b < w.heap.size/\Imm ρ b/\RVc ρ G w cells b o
 | .vs n esz cells,cv=>∃b o c,cv=.slice (some ⟨b,o,none⟩) n c/\n<=c/\cells.length=n*esz/\b < w.heap.size/\Imm ρ b/\RVc ρ G w cells b o
 | .mp r,cv=>∃b,cv=.map (some b)/\(G r=0->ρ r=some (b,0))
 | .fn f first captured,cv=>∃a c,cv=.func f a c/\RVs ρ G w first a.toList/\RVs ρ G w captured c.toList
 | .agg cells,cv=>∃cs,cv=.agg cs/\RVs ρ G w cells cs.toList
 | .tup cells,cv=>∃cs,cv=.tuple cs/\RVs ρ G w cells cs.toList
def RVs(ρ:Ren)(G:Nat->Nat)(w:World):List AV->List Value->Prop
 | [],l=> l=[]
 | x::xs,l=>∃y ys,l=y::ys/\RV ρ G w x y/\RVs ρ G w xs ys
def RVc(ρ:Ren)(G:Nat->Nat)(w:World):List AV->Nat->Nat->Prop
 | [],_,_=> True
 | x::xs,b,o=> (∃v,w.cell? ⟨b,o,none⟩=some v/\RV ρ G w x v)/\RVc ρ G w xs b (o+1)
end
def RVm(ρ:Ren)(G:Nat->Nat)(w:World)(k:IntKind):List (Int × AV)->List MapEntry->Prop
 | [],l=> l=[]
 | (n,x)::xs,l=>∃e es,l=e::es/\e.key=.int k n/\RV ρ G w x e.val/\RVm ρ G w k xs es
def Born(es:List MapEntry)(clock:Nat):Prop:=(∀x∈es,x.born < clock)/\(es.map (·.born)).Nodup
def eH:Nat:=1000000000
def Xct(ty e sh n l:Nat):Prop:=(ty < eH->e=ty/\sh=0/\n=l)/\(eH<=ty->ty < eH+eH->ty=e+eH/\sh=0)
theorem Xct.low {e n l:Nat}(h:e < eH)(hn:n=l):Xct e e 0 n l:=⟨λ_=> ⟨rfl,rfl,hn⟩,λh1=> absurd h1 (Nat.not_le.2 h)⟩
theorem Xct.grown {e n l:Nat}:Xct (e+eH) e 0 n l:=⟨λh=> absurd h (Nat.not_lt.2 (Nat.le_add_left _ _)),λ_ _=> ⟨rfl,rfl⟩⟩
theorem Xct.void {e sh n l:Nat}:Xct (eH+eH) e sh n l:=⟨λh=> absurd h (Nat.not_lt.2 (Nat.le_add_left _ _)),λ_ h=> absurd h (Nat.lt_irrefl _)⟩
def grT(e ty off:Nat):Nat:=if(ty=e∨ty=e+eH)/\off=0 then e+eH else eH+eH
theorem aeR {e ty off n l:Nat}:Xct (grT e ty off) e 0 n l:=by
 unfold grT;split
 ·exact Xct.grown
 ·exact Xct.void
theorem aeS {e e' ty sh off n l n' l':Nat}(he:e < eH)(h:Xct ty e' sh n l):Xct (grT e ty off) e' (sh+off) n' l':=by
 unfold grT;split
 ·rename_i hh;obtain⟨h1,rfl⟩:=hh;rcases h1 with rfl | rfl
  ·obtain⟨rfl,rfl,_⟩:=h.1 he;exact Xct.grown
  ·obtain⟨h2,rfl⟩:=h.2 (Nat.le_add_left _ _) (by omega);have:e'=e:=by omega
   subst this;exact Xct.grown
 ·exact Xct.void
def vX(ρ:Ren)(G:Nat->Nat)(w:World)(o:dR)(b sh:Nat):Prop:=
 match o with
 | .blk _ ty cells=>∃cs e,w.heap[b]?=some (.cells cs e (0,0))/\sh+cells.length<=cs.size/\RVc ρ G w cells b sh/\Xct ty e sh cs.size cells.length
 | .map k es=>∃ces clock,w.heap[b]?=some (.map ces clock)/\sh=0/\RVm ρ G w k es ces.toList/\Born ces.toList clock
def ZI(ρ:Ren)(w:World):Prop:=(∀b∈fx.blocks,b < w.heap.size/\Imm ρ b)/\fx.ok w
structure Rel(ρ:Ren)(H:aj)(w:World):Prop where
 out:∀r,H.next<=r->ρ r=none/\H.gen r=0
 obj:∀r b sh,ρ r=some (b,sh)->vX ρ H.gen w (H.get r) b sh
 inj:∀r r' b sh sh',ρ r=some (b,sh)->ρ r'=some (b,sh')->r=r'
 gl:ZI ρ w
structure Ext(ρ:Ren)(H:aj)(w:World)(ρ':Ren)(H':aj)(w':World):Prop where
 next:H.next<=H'.next
 mono:∀r,H.gen r<=H'.gen r
 same:∀r x,ρ r=some x->H'.gen r=H.gen r->ρ' r=some x
 kept:∀r,r < H.next->ρ r=none->ρ' r=none
 range:∀r b sh,ρ' r=some (b,sh)->w.heap.size<=b∨∃sh',ρ r=some (b,sh')
 size:w.heap.size<=w'.heap.size
 frame:∀b,b < w.heap.size->Imm ρ b->w'.heap[b]?=w.heap[b]?
 shape:∀b,b < w.heap.size->w'.shape? b=w.shape? b
 os:w'.os=w.os
 tape:w'.tape=w.tape
 output:w'.output=w.output
theorem ZI.of {ρ ρ':Ren}{w w':World}(h:ZI ρ w)(hs:w.heap.size<=w'.heap.size)(hr:∀r b sh,ρ' r=some (b,sh)->w.heap.size<=b∨∃r' sh',ρ r'=some (b,sh'))(hf:∀b,b < w.heap.size->Imm ρ b->w'.heap[b]?=w.heap[b]?):ZI ρ' w':=by
 refine⟨λb hb=> ?_,fx.frame w w' (λb hb=> hf b (h.1 b hb).1 (h.1 b hb).2) h.2⟩;obtain⟨h1,h2⟩:=h.1 b hb;refine⟨zaw h1 hs,λr sh e=> ?_⟩;rcases hr r b sh e with h | ⟨r',sh',h⟩
 ·omega
 ·exact h2 r' sh' h
theorem ZI.ext {ρ ρ':Ren}{H H':aj}{w w':World}(h:ZI ρ w)(E:Ext ρ H w ρ' H' w'):ZI ρ' w':=
 h.of E.size (λr b sh e=> (E.range r b sh e).imp id λ⟨sh',h⟩=> ⟨r,sh',h⟩) E.frame
mutual
def AV.val?:AV->Option Value
 | .s v=> some v
 | .agg l=> (vals? l).map λvs=> .agg vs.toArray
 | .tup l=> (vals? l).map λvs=> .tuple vs.toArray
 | .ref ..=> none
 | .sl ..=> none
 | .ip ..=> none
 | .vs ..=> none
 | .mp ..=> none
 | .fn ..=> none
def vals?:List AV->Option (List Value)
 | []=> some []
 | x::xs=> match x.val?,vals? xs with
  | some v,some vs=> some (v::vs)
  | _,_=> none
end
def AV.cells:AV->List AV
 | .agg l=> l
 | .s v=> v.cells.toList.map .s
 | x=> [x]
def AV.aH:AV->Bool
 | .agg _=> false
 | .tup _=> false
 | .s (.agg _)=> false
 | .s (.tuple _)=> false
 | _=> true
def aO:AV:=.tup []
def setAt(cells:List AV)(off:Nat)(xs:List AV):List AV:=cells.take off++(xs++cells.drop (off+xs.length))
def cO {α:Type}(P:Program):Sem α->Option α
 | .pure a=> some a
 | .program k=> cO P (k P)
 | _=> none
def szT(P:Program)(t:TypeId):Option Nat:=(P.info? t).map (·.size)
def vK(P:Program)(t:TypeId):Option Nat:=(P.info? t).map (·.bytes)
def ahf(P:Program)(t:TypeId):Option Bool:=
 match P.underlying t with
 | some (.struct _)=> some true
 | some (.array _ _)=> some true
 | some _=> some false
 | none=> none
def wQ(P:Program)(t:TypeId):Option TypeId:=
 match P.underlying t with
 | some (.slice e)=> some e
 | _=> none
def wR(P:Program)(t:TypeId):Option Value:=if t < eH then(P.info? t).bind (·.zero) else none
def vH(P:Program)(t:TypeId):Option (List AV):=(wR P t).map λv=> v.cells.toList.map .s
def Qr(P:Program)(t:TypeId)(i:Nat):Option Field:=
 match P.underlying t with
 | some (.struct fs)=> fs[i]?
 | _=> none
def ER(P:Program)(t:TypeId)(cells:List AV)(off:Nat):Option AV:=
 match ahf P t,szT P t with
 | some true,some n=> if off+n<=cells.length then some (.agg ((cells.drop off).take n)) else none
 | some false,some _=> cells[off]?
 | _,_=> none
def dM(place:Nat->Option (Nat × Nat))(cells:List AV):List (Nat × AV)->Option (List AV)
 | []=> some cells
 | (i,v)::rest=>
  match place i with
  | none=> none
  | some (off,size)=>
   if v.cells.length=size/\off+v.cells.length<=cells.length then dM place (setAt cells off v.cells) rest else none
def J3(P:Program)(fs:Array Field)(i:Nat):Option (Nat × Nat):=
 match fs[i]? with
 | some f=> (szT P f.type).map λn=> (f.offset,n)
 | none=> none
def dS(P:Program)(t:TypeId)(parts:List (Nat × AV)):Option AV:=
 match vH P t,P.underlying t with
 | some z,some (.struct fs)=> if fs.all (λf=> (szT P f.type).isSome) then(dM (J3 P fs) z parts).map .agg else none
 | some z,some (.array _ e)=> match szT P e with
  | some n=> (dM (λi=> some (i*n,n)) z parts).map .agg
  | none=> none
 | _,_=> none
def J4(P:Program)(t:TypeId)(x y:AV):Option Bool:=
 match P.underlying t with
 | some (.slice _)=> match x,y with
  | .sl ..,.s (.slice none _ _)=> some false
  | .vs ..,.s (.slice none _ _)=> some false
  | .s (.slice none _ _),.sl ..=> some false
  | .s (.slice none _ _),.vs ..=> some false
  | _,_=> none
 | some (.pointer _)=> match x,y with
  | .ref ..,.s (.pointer none)=> some false
  | .ip ..,.s (.pointer none)=> some false
  | .s (.pointer none),.ref ..=> some false
  | .s (.pointer none),.ip ..=> some false
  | _,_=> none
 | some (.map _ _)=> match x,y with
  | .mp ..,.s (.map none)=> some false
  | .s (.map none),.mp ..=> some false
  | _,_=> none
 | some (.func _ _ _)=> match x,y with
  | .fn ..,.s .nilFunc=> some false
  | .s .nilFunc,.fn ..=> some false
  | _,_=> none
 | _=> none
def mZ(P:Program)(op:BinOp)(t:TypeId)(x y:AV):Option AV:=
 match x.val?,y.val? with
 | some a,some b=> (cO P (do eqGuard op t (.tmp 0) (.tmp 0) a b;binOp op t a b)).map .s
 | _,_=> match op with
  | .eql=> (J4 P t x y).map λb=> .s (.bool b)
  | .neq=> (J4 P t x y).map λb=> .s (.bool !b)
  | _=> none
def apc(P:Program)(op:BinOp)(t:TypeId)(x:AV):Option AV:=
 match x.val? with
 | some a=> (cO P (do eqGuard op t (.tmp 0) (.const .nilIface) a .nilIface;binOp op t a .nilIface)).map .s
 | none=> none
def Qs:Operand->Bool
 | .const .nilIface=> true
 | _=> false
def ahg(P:Program)(op:BinOp)(t:TypeId)(yo:Operand)(x y:AV):Option AV:=
 match Qs yo with
 | true=> apc P op t x
 | false=> mZ P op t x y
def unA(P:Program)(op:UnOp)(x:AV):Option AV:=
 match x.val? with
 | some a=> (cO P (Op.unary op a)).map .s
 | none=> none
def pW(P:Program)(t:TypeId)(x:AV)(i:Nat):Option AV:=
 match Qr P t i with
 | some f=> match szT P f.type with
  | some (_+1)=> match x with
   | .ref r g off=> some (.ref r g (off+f.offset))
   | .ip cells=> some (.ip (cells.drop f.offset))
   | _=> none
  | _=> none
 | none=> none
def J5(P:Program)(t:TypeId)(x:AV)(i:Nat):Option AV:=
 match Qr P t i,x with
 | some f,.agg cells=> ER P f.type cells f.offset
 | some f,.s (.agg cs)=> ER P f.type (cs.toList.map .s) f.offset
 | _,_=> none
def J6(P:Program)(t:TypeId)(x i:AV):Option AV:=
 match P.underlying t,x,i with
 | some .string,.s (.string s),.s (.int _ n)=> match(if 0<=n then s[n.toNat]? else none) with
  | some b=> some (.s (.int .u8 b.toNat))
  | none=> none
 | some (.array len e),.agg cells,.s (.int _ n)=> match szT P e with
  | some m=> if 0<=n/\n < len then ER P e cells (n.toNat*m) else none
  | none=> none
 | some (.array len e),.s (.agg cs),.s (.int _ n)=> match szT P e with
  | some m=> if 0<=n/\n < len then ER P e (cs.toList.map .s) (n.toNat*m) else none
  | none=> none
 | _,_,_=> none
def aF(x:AV)(i:Nat):Option AV:=
 match x with
 | .tup l=> l[i]?
 | .s (.tuple vs)=> (vs[i]?).map .s
 | _=> none
def gW:Option AV->Nat->Option Nat
 | none,d=> some d
 | some (.s (.int _ n)),_=> if 0<=n then some n.toNat else none
 | _,_=> none
def isNone {α:Type}:Option α->Bool
 | none=> true
 | some _=> false
def J7(P:Program)(t:TypeId)(x:AV)(lo hi mx:Option AV):Option AV:=
 match P.underlying t with
 | some (.slice e)=> match x,szT P e with
  | .s (.slice none 0 0),some _=> match gW lo 0,gW hi 0,gW mx 0 with
   | some 0,some 0,some 0=> if hi=none->mx=none then some (.s (.slice none 0 0)) else none
   | _,_,_=> none
  | .sl r g off esz len cap ex,some m=> match gW lo 0,gW hi len,gW mx cap with
   | some l,some h,some k=>
    if esz=m/\l<=h/\h<=k/\k<=cap/\(hi=none->mx=none) then some (.sl r g (off+l*esz) esz (h - l) (k - l) (ex || !isNone mx)) else none
   | _,_,_=> none
  | .vs n esz cells,some m=> match gW lo 0,gW hi n,mx with
   | some l,some h,none=> if esz=m/\l<=h/\h<=n then some (.vs (h - l) esz ((cells.drop (l*esz)).take ((h - l)*esz))) else none
   | _,_,_=> none
  | _,_=> none
 | some .string=> match x,gW lo 0,mx with
  | .s (.string s),some l,none=> match gW hi s.size with
   | some h=> if l<=h/\h<=s.size then some (.s (.string (s.extract l h))) else none
   | none=> none
  | _,_,_=> none
 | _=> none
abbrev AM(α:Type):=aj->Option (α × aj)
def aC {α:Type}(x:Option α):AM α:=λH=> x.map λv=> (v,H)
def aT:AV->Option Nat
 | .ref r _ _=> some r
 | .sl r _ _ _ _ _ _=> some r
 | .mp r=> some r
 | _=> none
def jy(f:Option dR->Option AV)(x:AV):AM AV:=λH=> (f ((aT x).map H.get)).map λv=> (v,H)
def aeT(P:Program)(t:TypeId)(x:AV)(ob:Option dR):Option AV:=
 match x with
 | .ref _ g off=> match ob with
  | some (.blk g' _ cells)=> if g'=g then ER P t cells off else none
  | _=> none
 | .ip cells=> ER P t cells 0
 | _=> none
def Ol(P:Program)(t:TypeId)(x:AV):AM AV:=jy (aeT P t x) x
def J8(P:Program)(t:TypeId)(x v:AV):AM AV:=λH=>
 match x with
 | .ref r g off=> match H.get r with
  | .blk g' ty cells=>
   if g'=g/\H.base<=r/\szT P t=some v.cells.length/\v.cells.all AV.aH=true/\off+v.cells.length<=cells.length then
    some (aO,H.put r (.blk g ty (setAt cells off v.cells)))
   else none
  | .map ..=> none
 | _=> none
def EZ(P:Program)(t:TypeId):AM AV:=λH=>
 match vH P t with
 | some z=> if z.all AV.aH=true then some (.ref H.next 0 0,H.new (.blk 0 t z)) else none
 | none=> none
def fA(t:TypeId)(v:AV):AM AV:=λH=>
 if v.cells.all AV.aH=true/\t < eH then some (.ref H.next 0 0,H.new (.blk 0 t v.cells)) else none
def bI(z:List AV):Nat->List AV
 | 0=> []
 | n+1=> z++bI z n
def bG(P:Program)(t:TypeId)(len:Nat)(parts:List (Nat × AV)):AM AV:=λH=>
 match wQ P t with
 | some e=> match szT P e,vH P e with
  | some m,some z=>
   if z.length=m/\len*m<=16777216 then
    match dM (λi=> some (i*m,m)) (bI z len) parts with
    | some cells=> if cells.all AV.aH=true then some (.sl H.next 0 0 m len len true,H.new (.blk 0 e cells)) else none
    | none=> none
   else none
  | _,_=> none
 | none=> none
def nG(P:Program)(t:TypeId)(len cap:AV):AM AV:=λH=>
 match wQ P t,len,cap with
 | some e,.s (.int _ l),.s (.int _ c)=> match szT P e,vK P e,vH P e with
  | some m,some by_,some z=>
   if z.length=m/\z.all AV.aH=true/\0<=l/\l<=c/\c<=140737488355328/\by_*c<=140737488355328 then
    some (.sl H.next 0 0 m l.toNat c.toNat true,H.new (.blk 0 e (bI z c.toNat)))
   else none
  | _,_,_=> none
 | _,_,_=> none
def ahh:Option dR->Nat
 | some o=> o.gen
 | none=> 0
def yI(P:Program)(t:TypeId)(x i:AV)(ob:Option dR):Option AV:=
 match P.underlying t with
 | some (.slice e)=> match x with
  | .sl r g off esz len _ _=> match i with
   | .s (.int _ n)=> if szT P e=some esz/\ahh ob=g/\0<=n/\n < len then some (.ref r g (off+n.toNat*esz)) else none
   | _=> none
  | .vs len esz cells=> match i with
   | .s (.int _ n)=> if szT P e=some esz/\0<=n/\n < len then some (.ip (cells.drop (n.toNat*esz))) else none
   | _=> none
  | _=> none
 | some (.array len e)=> match szT P e with
  | some m=> match x with
   | .ref r g off=> match i with
    | .s (.int _ n)=> if 0<=n/\n < len then some (.ref r g (off+n.toNat*m)) else none
    | _=> none
   | .ip cells=> match i with
    | .s (.int _ n)=> if 0<=n/\n < len then some (.ip (cells.drop (n.toNat*m))) else none
    | _=> none
   | _=> none
  | none=> none
 | _=> none
def pX(P:Program)(t:TypeId)(x i:AV):AM AV:=jy (yI P t x i) x
def ag7(P:Program)(t:TypeId):Option (IntKind × TypeId):=
 match P.underlying t with
 | some (.map k e)=> match P.underlying k with
  | some (.int ik)=> some (ik,e)
  | _=> none
 | _=> none
def uK(P:Program)(t:TypeId):AM AV:=λH=>
 match ag7 P t with
 | some (k,_)=> some (.mp H.next,H.new (.map k []))
 | none=> none
def nM:List (Int × AV)->Int->Option AV
 | [],_=> none
 | (k,v)::es,n=> if k=n then some v else nM es n
def G9:List (Int × AV)->Int->AV->List (Int × AV)
 | [],n,x=> [(n,x)]
 | (k,v)::es,n,x=> if k=n then(n,x)::es else(k,v)::G9 es n x
def wS:List (Int × AV)->Int->List (Int × AV)
 | [],_=> []
 | (k,v)::es,n=> if k=n then es else(k,v)::wS es n
def Vm(P:Program)(t:TypeId)(x i:AV)(ok:Bool)(ob:Option dR):Option AV:=
 match ag7 P t with
 | some (k,e)=> match wR P e with
  | some z=> match x with
   | .mp _=> match i with
    | .s (.int k' n)=> match ob with
     | some (.map k'' es)=>
      if k'=k/\k''=k then
       match nM es n with
       | some v=> some (if ok then .tup [v,.s (.bool true)] else v)
       | none=> some (if ok then .tup [.s z,.s (.bool false)] else .s z)
      else none
     | _=> none
    | _=> none
   | _=> none
  | none=> none
 | none=> none
def Om(P:Program)(t:TypeId)(x i:AV)(ok:Bool):AM AV:=jy (Vm P t x i ok) x
def pY(P:Program)(t:TypeId)(x i v:AV):AM AV:=λH=>
 match ag7 P t,x,i with
 | some (k,_),.mp r,.s (.int k' n)=> match H.get r with
  | .map k'' es=> if k'=k/\k''=k/\H.base<=r then some (aO,H.put r (.map k (G9 es n v))) else none
  | _=> none
 | _,_,_=> none
def aX(H:aj):AV->Option (List AV)
 | .sl r g off esz len _ _=> match H.get r with
  | .blk g' _ cells=> if g'=g/\off+len*esz<=cells.length then some ((cells.drop off).take (len*esz)) else none
  | .map ..=> none
 | .vs _ _ cells=> some cells
 | .s (.slice none _ _)=> some []
 | .s (.string s)=> some (s.data.toList.map λb=> .s (.int .u8 b.toNat))
 | _=> none
def sliceLen:AV->Option Nat
 | .sl _ _ _ _ len _ _=> some len
 | .vs n _ _=> some n
 | .s (.slice none n _)=> some n
 | .s (.string s)=> some s.size
 | _=> none
def most:Nat:=140737488355328
def bU(e:TypeId)(m by_:Nat)(x:AV)(n:Nat)(new:List AV):AM AV:=λH=>
 if new.length=n*m/\new.all AV.aH=true then
  match x with
  | .s (.slice none 0 0)=>
   if n=0 then some (x,H)
   else if n<=most/\n*by_<=most then some (.sl H.next 0 0 m n n false,H.new (.blk 0 (e+eH) new))
   else none
  | .sl r g off esz len cap ex=> match H.get r with
   | .blk g' ty cells=>
    if esz=m/\g'=g/\off+len*m<=cells.length then
     if n=0 then some (x,H)
     else if len+n<=cap then
      (if H.base<=r/\off+(len+n)*m<=cells.length then some (.sl r g off m (len+n) cap ex,H.put r (.blk g ty (setAt cells (off+len*m) new))) else none)
     else if len+n<=most/\(len+n)*by_<=most then
      if ex then some (.sl H.next 0 0 m (len+n) (len+n) false,H.new (.blk 0 (e+eH) ((cells.drop off).take (len*m)++new)))
      else if H.base<=r then some (.sl r (g+1) 0 m (len+n) (len+n) false,H.put r (.blk (g+1) (grT e ty off) ((cells.drop off).take (len*m)++new)))
      else none
     else none
    else none
   | .map ..=> none
  | _=> none
 else none
def Hl(P:Program)(t u:TypeId)(x y:AV):AM AV:=λH=>
 match wQ P t,P.underlying u with
 | some e,some d=> match szT P e,vK P e,vH P e with
  | some m,some by_,some z=>
   if z.length=m then
    match d with
    | .int _=> match y with
     | .s (.int _ n)=> if 0<=n/\n<=most/\n*by_<=most then bU e m by_ x n.toNat (bI z n.toNat) H else none
     | _=> none
    | _=> match sliceLen y,aX H y with
     | some n,some new=> bU e m by_ x n new H
     | _,_=> none
   else none
  | _,_,_=> none
 | _,_=> none
def ZP(P:Program)(t:TypeId)(x y:AV):AM AV:=λH=>
 match wQ P t with
 | some e=> match szT P e,sliceLen x,sliceLen y,aX H y with
  | some m,some d,some n,some new=>
   let k:=min n d
   if new.length=n*m/\new.all AV.aH=true then
    if k=0 then(match x with | .s (.string _)=> none | _=> some (.s (.int .i64 0),H)) else
    match x with
    | .sl r g off esz len _ _=> match H.get r with
     | .blk g' ty cells=>
      if esz=m/\g'=g/\H.base<=r/\off+len*m<=cells.length then
       some (.s (.int .i64 k),H.put r (.blk g ty (setAt cells off (new.take (k*m)))))
      else none
     | .map ..=> none
    | _=> none
   else none
  | _,_,_,_=> none
 | none=> none
def Qu(P:Program)(t:TypeId)(x:AV):AM AV:=λH=>
 match wQ P t with
 | some e=> match szT P e,vH P e,x with
  | some m,some z,.sl r g off esz len _ _=>
   if len=0 then some (.tup [],H) else
   match H.get r with
   | .blk g' ty cells=>
    if esz=m/\g'=g/\H.base<=r/\z.length=m/\z.all AV.aH=true/\off+len*m<=cells.length then
     some (.tup [],H.put r (.blk g ty (setAt cells off (bI z len))))
    else none
   | .map ..=> none
  | some _,some _,.s (.slice none _ _)=> some (.tup [],H)
  | _,_,_=> none
 | none=> none
def Ho(P:Program)(t:TypeId)(x i:AV):AM AV:=λH=>
 match ag7 P t,x,i with
 | some (k,_),.mp r,.s (.int k' n)=> match H.get r with
  | .map k'' es=> if k'=k/\k''=k/\H.base<=r then some (.tup [],H.put r (.map k (wS es n))) else none
  | _=> none
 | _,_,_=> none
def amA(P:Program)(t:TypeId)(x:AV)(ob:Option dR):Option AV:=
 match P.underlying t with
 | some (.slice _)=> match x with
  | .sl _ _ _ _ len _ _=> some (.s (.int .i64 len))
  | .vs n _ _=> some (.s (.int .i64 n))
  | .s (.slice _ n _)=> some (.s (.int .i64 n))
  | _=> none
 | some .string=> match x with
  | .s (.string s)=> some (.s (.int .i64 s.size))
  | _=> none
 | some (.map _ _)=> match x with
  | .mp _=> match ob with
   | some (.map _ es)=> some (.s (.int .i64 es.length))
   | _=> none
  | .s (.map none)=> some (.s (.int .i64 0))
  | _=> none
 | _=> none
def ahi(P:Program)(t:TypeId)(x:AV):AM AV:=jy (amA P t x) x
def aci(P:Program)(t:TypeId)(x:AV):Option AV:=
 match P.underlying t with
 | some (.slice _)=> match x with
  | .sl _ _ _ _ _ cap true=> some (.s (.int .i64 cap))
  | .s (.slice none _ c)=> some (.s (.int .i64 c))
  | _=> none
 | _=> none
def lK:List AV->Option (List Int)
 | []=> some []
 | x::xs=> match x with
  | .s (.int .u8 n)=> match lK xs with
   | some l=> some (n::l)
   | none=> none
  | _=> none
def toStr(ns:List Int):ByteArray:=ns.foldl (λs n=> s.push (UInt8.ofNat n.toNat)) ByteArray.empty
def ag8(x:AV)(ob:Option dR):Option ByteArray:=
 match x with
 | .sl _ g off esz len _ _=> if esz=1 then match ob with
   | some (.blk g' _ cells)=> if g'=g/\off+len*esz<=cells.length then(lK ((cells.drop off).take (len*esz))).map toStr else none
   | _=> none
  else none
 | .vs _ esz cells=> if esz=1 then(lK cells).map toStr else none
 | .s (.slice none _ _)=> some ByteArray.empty
 | _=> none
def CJ(P:Program)(src dst:TypeId):Bool:=
 match P.underlying src,P.underlying dst with
 | some (.slice e),some .string=> match P.underlying e with
  | some (.int .u8)=> true
  | _=> false
 | _,_=> false
def wU(P:Program)(src dst:TypeId)(x:AV)(ob:Option dR):Option AV:=
 if CJ P src dst=true then(ag8 x ob).map λs=> .s (.string s)
 else match x.val? with
  | some v=> (cO P (convert src dst v)).map .s
  | none=> none
def iP(P:Program)(src dst:TypeId)(x:AV):AM AV:=jy (wU P src dst x) x
def aV(H:aj)(n:Nat):Nat->AV->Option AV
 | 0,_=> none
 | d+1,x=> match x with
  | .s v=> some (.s v)
  | .ref r g off=> if r < n then some (.ref r g off) else none
  | .mp r=> if r < n then some (.mp r) else none
  | .sl r g off esz len cap ex=>
   if r < n then some (.sl r g off esz len cap ex)
   else match aX H (.sl r g off esz len cap ex) with
    | some cells=> (cells.mapM (aV H n d)).map λl=> .vs len esz l
    | none=> none
  | .ip cells=> (cells.mapM (aV H n d)).map .ip
  | .vs k esz cells=> (cells.mapM (aV H n d)).map (.vs k esz)
  | .fn f a c=> match a.mapM (aV H n d),c.mapM (aV H n d) with
   | some a,some c=> some (.fn f a c)
   | _,_=> none
  | .agg cells=> (cells.mapM (aV H n d)).map .agg
  | .tup cells=> (cells.mapM (aV H n d)).map .tup
abbrev Callee:=FuncId->List AV->AM AV
abbrev dU:=List AV
def bT(t:dU):Operand->AV
 | .tmp i=> t.getD i aO
 | .const v=> .s v
 | .global g=> .s (.pointer (some ⟨g,0,none⟩))
 | .func f=> .fn (.func f) [] []
def sS(t:dU)(dst:Option Tmp)(v:AV):dU:=
 match dst with
 | some d=> t.set d v
 | none=> t
def nN(P:Program)(f:FuncId):Bool:=
 match P.funcs[f]? with
 | some fn=> !(fn.name=="runtime.NumGoroutine") && fn.body.isSome
 | none=> false
def qJ(P:Program)(C:Callee)(f:AV)(args:List AV):AM AV:=
 match f with
 | .fn (.func f) first captured=> if nN P f=true then C f (first++args++captured) else λ_=> none
 | .s (.func (.func f) first captured)=> if nN P f=true then C f (first.toList.map .s++args++captured.toList.map .s) else λ_=> none
 | _=> λ_=> none
def aU(c a b:AV):Option AV:=
 match c with
 | .s (.bool true)=> some a
 | .s (.bool false)=> some b
 | _=> none
def au(x:AV):Option AV:=
 match x with
 | .ref ..=> some x
 | .ip ..=> some x
 | .fn (.func _) _ _=> some x
 | .s (.pointer (some _))=> some x
 | _=> none
def jl(P:Program)(isMax:Bool)(argTypes:Array TypeId)(type:TypeId)(args:List AV):Option AV:=
 match vals? args with
 | some vs=> (cO P (if isMax then Builtin.max_ argTypes type vs.toArray else Builtin.min_ argTypes type vs.toArray)).map .s
 | none=> none
def gy(P:Program)(b:Builtin)(argTypes:Array TypeId)(type:TypeId)(args:List AV):AM AV:=λH=>
 match b,argTypes.toList,args with
 | .append,[t,u],[x,y]=> Hl P t u x y H
 | .len,[t],[x]=> ahi P t x H
 | .cap,[t],[x]=> aC (aci P t x) H
 | .copy,t::_,[x,y]=> ZP P t x y H
 | .clear,[t],[x]=> Qu P t x H
 | .delete,t::_,[x,y]=> Ho P t x y H
 | .max,_,args=> aC (jl P true argTypes type args) H
 | .min,_,args=> aC (jl P false argTypes type args) H
 | _,_,_=> none
def sU(P:Program)(C:Callee)(t:dU)(c:Call)(type:TypeId):AM AV:=λH=>
 match c.callee with
 | .value f=> qJ P C (bT t f) (c.args.toList.map (bT t)) H
 | .builtin b=> gy P b c.argTypes type (c.args.toList.map (bT t)) H
 | .invoke _ _=> none
def opA(P:Program)(C:Callee)(t:dU)(o:Oper):AM AV:=
 match o.op with
 | .move x=> aC (some (bT t x))
 | .assign x=> aC (some (bT t x))
 | .pick c a b=> aC (aU (bT t c) (bT t a) (bT t b))
 | .alloc e=> EZ P e
 | .box e x=> fA e (bT t x)
 | .build ty ps=> aC (dS P ty (ps.toList.map λp=> (p.1,bT t p.2)))
 | .buildSlice ty n ps=> bG P ty n (ps.toList.map λp=> (p.1,bT t p.2))
 | .load ty x=> Ol P ty (bT t x)
 | .store ty x v=> J8 P ty (bT t x) (bT t v)
 | .nilCheck x=> aC (au (bT t x))
 | .binOp op ty x y _=> aC (ahg P op ty y (bT t x) (bT t y))
 | .unOp op _ x=> aC (unA P op (bT t x))
 | .convert src dst x=> iP P src dst (bT t x)
 | .makeFunc f a c=> aC (some (.fn f (a.toList.map (bT t)) (c.toList.map (bT t))))
 | .makeMap ty none=> uK P ty
 | .makeSlice ty l c=> nG P ty (bT t l) (bT t c)
 | .slice ty x lo hi mx=> aC (J7 P ty (bT t x) (lo.map (bT t)) (hi.map (bT t)) (mx.map (bT t)))
 | .fieldAddr ty x i=> aC (pW P ty (bT t x) i)
 | .field ty x i=> aC (J5 P ty (bT t x) i)
 | .indexAddr ty x i=> pX P ty (bT t x) (bT t i)
 | .index ty x i=> aC (J6 P ty (bT t x) (bT t i))
 | .lookup ty x i ok=> Om P ty (bT t x) (bT t i) ok
 | .mapUpdate ty m k v=> pY P ty (bT t m) (bT t k) (bT t v)
 | .extract x i=> aC (aF (bT t x) i)
 | .call c=> sU P C t c o.type
 | _=> λ_=> none
def qK(ops:List Oper)(t:dU)(o:Oper):Option Bool:=
 match o.guard with
 | none=> some true
 | some (j,want)=> match ops[j]? with
  | some p=> match p.dst with
   | some d=> match t[d]? with
    | some (.s (.bool b))=> some (b==want)
    | some (.tup [])=> some false
    | _=> none
   | none=> none
  | none=> none
def J9(P:Program)(C:Callee)(ops:List Oper):List Oper->dU->AM dU
 | [],t,H=> some (t,H)
 | o::rest,t,H=> match qK ops t o with
  | some true=> match opA P C t o H with
   | some (v,H')=> J9 P C ops rest (sS t o.dst v) H'
   | none=> none
  | some false=> J9 P C ops rest (sS t o.dst aO) H
  | none=> none
def ahj:List Nat:=[
 157,
 35,
 164,
 11,
 36,
 165,
 0]
def ZQ:Operand->Bool
 | .const _=> true
 | _=> false
def AQ:Op->Bool
 | .alloc _=> true
 | .buildSlice _ _ ps=> ps.all λp=> ZQ p.2
 | _=> false
def oH:Op->Bool
 | .move _=> true
 | .assign _=> true
 | .pick _ _ _=> true
 | .build _ _=> true
 | .nilCheck _=> true
 | .binOp _ _ _ _ _=> true
 | .unOp _ _ _=> true
 | .makeFunc _ _ _=> true
 | .slice _ _ _ _ _=> true
 | .fieldAddr _ _ _=> true
 | .field _ _ _=> true
 | .index _ _ _=> true
 | .extract _ _=> true
 | .load _ _=> true
 | .lookup _ _ _ _=> true
 | .indexAddr _ _ _=> true
 | .convert _ _ _=> true
 | .call c=> match c.callee with
  | .builtin .len=> true
  | .builtin .cap=> true
  | .builtin .max=> true
  | .builtin .min=> true
  | _=> false
 | _=> false
def amT:Operand->Bool
 | .func f=> ahj.contains f
 | _=> false
def qL:Op->Bool
 | .box _ _=> true
 | .buildSlice _ _ _=> true
 | .makeMap _ _=> true
 | .makeSlice _ _ _=> true
 | .call c=> match c.callee with
  | .value x=> !amT x
  | _=> false
 | _=> false
def kH:Op->Bool
 | .call c=> match c.callee with
  | .value x=> !amT x
  | _=> false
 | _=> false
def aeU:Op->Bool
 | .call c=> match c.callee with
  | .value x=> amT x
  | _=> false
 | _=> false
def looks:Op->Bool
 | .load _ _=> true
 | .lookup _ _ _ _=> true
 | .indexAddr _ _ _=> true
 | .convert _ _ _=> true
 | .call c=> match c.callee with
  | .builtin .len=> true
  | _=> false
 | _=> false
def jP(t:dU):Op->Option Nat
 | .load _ x=> aT (bT t x)
 | .lookup _ x _ _=> aT (bT t x)
 | .indexAddr _ x _=> aT (bT t x)
 | .convert _ _ x=> aT (bT t x)
 | .call c=> match c.args.toList with
  | [x]=> aT (bT t x)
  | _=> none
 | _=> none
def kL(ops:List Oper)(i j:Nat):Bool:=((Region.before ops.toArray).getD j 0).testBit i
def getOp(ops:List Oper)(i:Nat):Op:=(ops[i]?.map (·.op)).getD (.alloc 0)
def E8(ops:List Oper)(i:Nat):Option Tmp:=ops[i]?.bind (·.dst)
def cst(ops:List Oper)(i:Nat):Bool:=AQ (getOp ops i)
def flo(ops:List Oper)(i:Nat):Bool:=oH (getOp ops i)
def chn(ops:List Oper)(i:Nat):Bool:=!cst ops i && !flo ops i
def ahead(ops:List Oper)(i j:Nat):Bool:=if cst ops i==cst ops j then decide (i < j) else cst ops i
def Az(n:Nat)(f:Nat->Bool):Bool:=(List.range n).all f
def TG(ops:List Oper)(j e:Nat):Bool:=chn ops e && flo ops j && looks (getOp ops j) && !kL ops j e && !kL ops e j
def loose(ops:List Oper)(e:Nat):Bool:=(List.range ops.length).any λj=> TG ops j e || (cst ops j && chn ops e && !kL ops j e)
def jW(ops:List Oper):List (Nat × Nat):=
 (List.range ops.length).flatMap λj=> ((List.range ops.length).filter λe=> (TG ops j e && !qL (getOp ops e)) || (cst ops j && chn ops e && !kL ops j e && aeU (getOp ops e))).map λe=> (j,e)
def Qv(ops:List Oper):Bool:=
 let n:=ops.length
 (Az n λj=> (ops[j]?.map λo=> o.after.all λe=> !Region.binds .any e || (decide (e.on < n) && ahead ops e.on j)).getD false) &&
 (Az n λi=> Az n λj=> !(decide (i < j)) || (E8 ops i).isNone || !(E8 ops i==E8 ops j)) &&
 (Az n λi=> Az n λj=> i==j || (match E8 ops i,ops[j]? with
  | some d,some o=> !(o.looksAt ops.toArray).contains d || (kL ops i j && ahead ops i j) || (kL ops j i && ahead ops j i)
  | _,_=> true)) &&
 (Az n λi=> Az n λj=> !(chn ops i && chn ops j && decide (i < j)) || kL ops i j) &&
 (Az n λj=> !cst ops j || ((ops[j]?.map λo=> o.guard.isNone && o.dst.isSome).getD false)) &&
 (Az n λj=> Az n λe=> !(cst ops j && chn ops e && !kL ops j e) || ((qL (getOp ops e) || aeU (getOp ops e)) && !kL ops e j))
def opG(P:Program)(C:Callee)(t:dU)(o:Oper):AM AV:=λH=>
 match opA P C t o H.guard with
 | some (v,H')=> some (v,{ H' with base:=H.base })
 | none=> none
def kK(P:Program)(C:Callee)(ops:List Oper)(lo:Bool)(o:Oper)(t:dU):AM AV:=λH=>
 match qK ops t o with
 | some true=> if lo then opG P C t o H else opA P C t o H
 | some false=> some (aO,H)
 | none=> none
def gB(P:Program)(C:Callee)(ops:List Oper):List Nat->dU->aj->Option (dU × aj)
 | [],t,H=> some (t,H)
 | i::is,t,H=> match ops[i]? with
  | some o=> match opA P C t o H with
   | some (v,H')=> gB P C ops is (sS t o.dst v) H'
   | none=> none
  | none=> none
def dP(P:Program)(C:Callee)(ops:List Oper):List Nat->dU->aj->Option (dU × aj)
 | [],t,H=> some (t,H)
 | i::is,t,H=> match ops[i]? with
  | some o=> match kK P C ops (loose ops i && kH o.op) o t H with
   | some (v,H')=> dP P C ops is (sS t o.dst v) H'
   | none=> none
  | none=> none
def lM(ops:List Oper):List Nat:=(List.range ops.length).filter (cst ops)
def kM(ops:List Oper):List Nat:=(List.range ops.length).filter λi=> !cst ops i
def CO(P:Program)(C:Callee)(ops:List Oper)(p:Nat)(t:dU)(H:aj):Option (dU × aj):=
 dP P C ops ((List.range p).filter λi=> !cst ops i) t H
def agree(P:Program)(C:Callee)(ops:List Oper)(s:Nat)(t:dU)(H:aj)(p:Nat × Nat):Prop:=
 if cst ops p.1=true then
  ∀te He te' He',CO P C ops p.2 t H=some (te,He)->CO P C ops (p.2+1) t H=some (te',He')->∀r,s<=r->r < H.next->He'.get r=He.get r
 else
 ∀tj Hj te He te' He',CO P C ops p.1 t H=some (tj,Hj)->CO P C ops p.2 t H=some (te,He)->CO P C ops (p.2+1) t H=some (te',He')->
  ∀r,jP tj (getOp ops p.1)=some r->He'.get r=He.get r
open Classical in
def vY(P:Program)(C:Callee)(ops:List Oper)(t:dU)(H:aj):Option (dU × aj):=
 if Qv ops=true then
  match gB P C ops (lM ops) t H with
  | some (t0,H0)=> match jW ops with
   | []=> dP P C ops (kM ops) t0 H0
   | ps=> if∀p∈ps,agree P C ops H.next t0 H0 p then dP P C ops (kM ops) t0 H0 else none
  | none=> none
 else none
mutual
def NV(n:Nat):AV->Prop
 | .s _=> True
 | .ref r _ _=> r < n
 | .sl r _ _ _ _ _ _=> r < n
 | .ip cells=> NVs n cells
 | .vs _ _ cells=> NVs n cells
 | .mp r=> r < n
 | .fn _ a c=> NVs n a/\NVs n c
 | .agg cells=> NVs n cells
 | .tup cells=> NVs n cells
def NVs(n:Nat):List AV->Prop
 | []=> True
 | x::xs=> NV n x/\NVs n xs
end
mutual
theorem RV.nv {ρ:Ren}{G:Nat->Nat}{w:World}{n:Nat}(out:∀r,n<=r->ρ r=none/\G r=0):∀(x:AV) (v:Value),RV ρ G w x v->NV n x
 | .s _,_,_=> by simp [NV]
 | .ref r g off,v,h=> by
  obtain⟨a,_,h1,h2⟩:=(by simpa only [RV] using h)
  simp only [NV];rcases zaR r n with hr | hr
  ·exact hr
  ·obtain⟨o1,o2⟩:=out r hr;obtain⟨b,sh,hb,_⟩:=h2 (by omega);rw [o1] at hb;cases hb
 | .sl r g off esz len cap ex,v,h=> by
  obtain⟨b,o,c,_,_,_,_,h1,h2⟩:=(by simpa only [RV] using h)
  simp only [NV];rcases zaR r n with hr | hr
  ·exact hr
  ·obtain⟨o1,o2⟩:=out r hr;obtain⟨sh,e,m,hb,_⟩:=h2 (by omega);rw [o1] at hb;cases hb
 | .ip cells,v,h=> by
  obtain⟨b,o,_,_,_,h1⟩:=(by simpa only [RV] using h)
  simp only [NV];exact RVc.nv out cells b o h1
 | .vs m esz cells,v,h=> by
  obtain⟨b,o,c,_,_,_,_,_,h1⟩:=(by simpa only [RV] using h)
  simp only [NV];exact RVc.nv out cells b o h1
 | .mp r,v,h=> by
  obtain⟨b,_,h1⟩:=(by simpa only [RV] using h)
  simp only [NV];rcases zaR r n with hr | hr
  ·exact hr
  ·obtain⟨o1,o2⟩:=out r hr;have:=h1 o2;rw [o1] at this;cases this
 | .fn f a c,v,h=> by
  obtain⟨a',c',_,h1,h2⟩:=(by simpa only [RV] using h)
  simp only [NV];exact⟨RVs.nv out a _ h1,RVs.nv out c _ h2⟩
 | .agg cells,v,h=> by
  obtain⟨cs,_,h1⟩:=(by simpa only [RV] using h)
  simp only [NV];exact RVs.nv out cells _ h1
 | .tup cells,v,h=> by
  obtain⟨cs,_,h1⟩:=(by simpa only [RV] using h)
  simp only [NV];exact RVs.nv out cells _ h1
theorem RVs.nv {ρ:Ren}{G:Nat->Nat}{w:World}{n:Nat}(out:∀r,n<=r->ρ r=none/\G r=0):∀(xs:List AV) (l:List Value),RVs ρ G w xs l->NVs n xs
 | [],_,_=> by simp [NVs]
 | x::xs,l,h=> by
  obtain⟨y,ys,_,h1,h2⟩:=(by simpa only [RVs] using h)
  simp only [NVs];exact⟨RV.nv out x y h1,RVs.nv out xs ys h2⟩
theorem RVc.nv {ρ:Ren}{G:Nat->Nat}{w:World}{n:Nat}(out:∀r,n<=r->ρ r=none/\G r=0):∀(xs:List AV) (b o:Nat),RVc ρ G w xs b o->NVs n xs
 | [],_,_,_=> by simp [NVs]
 | x::xs,b,o,h=> by
  obtain⟨⟨y,_,h1⟩,h2⟩:=(by simpa only [RVc] using h)
  simp only [NVs];exact⟨RV.nv out x y h1,RVc.nv out xs b (o+1) h2⟩
end
structure acj(ρ:Ren)(G:Nat->Nat)(w:World)(ρ':Ren)(G':Nat->Nat)(w':World):Prop where
 mono:∀r,G r<=G' r
 same:∀r x,ρ r=some x->G' r=G r->ρ' r=some x
 imm:∀b,b < w.heap.size->Imm ρ b->b < w'.heap.size/\Imm ρ' b/\∀o,w'.cell? ⟨b,o,none⟩=w.cell? ⟨b,o,none⟩
 shape:∀b e m,w.shape? b=some (e,m)->w'.shape? b=some (e,m)
mutual
theorem RV.mono {ρ ρ':Ren}{G G':Nat->Nat}{w w':World}(M:acj ρ G w ρ' G' w'):∀(x:AV) (v:Value),RV ρ G w x v->RV ρ' G' w' x v
 | .s _,_,h=> by simpa only [RV] using h
 | .ref r g off,v,h=> by
  obtain⟨a,e,h1,h2⟩:=(by simpa only [RV] using h)
  simp only [RV];have m:=M.mono r;refine⟨a,e,by omega,λhg=> ?_⟩;have he:G r=g:=by omega
  obtain⟨b,sh,hr,ha⟩:=h2 he;exact⟨b,sh,M.same r _ hr (by omega),ha⟩
 | .sl r g off esz len cap ex,v,h=> by
  obtain⟨b,o,c,e,k1,k2,k3,h1,h2⟩:=(by simpa only [RV] using h)
  simp only [RV];have m:=M.mono r;refine⟨b,o,c,e,k1,k2,k3,by omega,λhg=> ?_⟩;have he:G r=g:=by omega
  obtain⟨sh,ty,k,q1,q2,q3,q4⟩:=h2 he;exact⟨sh,ty,k,M.same r _ q1 (by omega),q2,M.shape _ _ _ q3,q4⟩
 | .ip cells,v,h=> by
  obtain⟨b,o,e,hb,hi,h1⟩:=(by simpa only [RV] using h)
  simp only [RV];obtain⟨hb',hi',hc⟩:=M.imm b hb hi;exact⟨b,o,e,hb',hi',RVc.mono M cells b o (λo v hv=> by rw [hc];exact hv) h1⟩
 | .vs m esz cells,v,h=> by
  obtain⟨b,o,c,e,k1,k2,hb,hi,h1⟩:=(by simpa only [RV] using h)
  simp only [RV];obtain⟨hb',hi',hc⟩:=M.imm b hb hi;exact⟨b,o,c,e,k1,k2,hb',hi',RVc.mono M cells b o (λo v hv=> by rw [hc];exact hv) h1⟩
 | .mp r,v,h=> by
  obtain⟨b,e,h1⟩:=(by simpa only [RV] using h)
  simp only [RV];have m:=M.mono r;refine⟨b,e,λhg=> ?_⟩;have he:G r=0:=by omega
  exact M.same r _ (h1 he) (by omega)
 | .fn f a c,v,h=> by
  obtain⟨a',c',e,h1,h2⟩:=(by simpa only [RV] using h)
  simp only [RV];exact⟨a',c',e,RVs.mono M a _ h1,RVs.mono M c _ h2⟩
 | .agg cells,v,h=> by
  obtain⟨cs,e,h1⟩:=(by simpa only [RV] using h)
  simp only [RV];exact⟨cs,e,RVs.mono M cells _ h1⟩
 | .tup cells,v,h=> by
  obtain⟨cs,e,h1⟩:=(by simpa only [RV] using h)
  simp only [RV];exact⟨cs,e,RVs.mono M cells _ h1⟩
theorem RVs.mono {ρ ρ':Ren}{G G':Nat->Nat}{w w':World}(M:acj ρ G w ρ' G' w'):∀(xs:List AV) (l:List Value),RVs ρ G w xs l->RVs ρ' G' w' xs l
 | [],_,h=> by simpa only [RVs] using h
 | x::xs,l,h=> by
  obtain⟨y,ys,e,h1,h2⟩:=(by simpa only [RVs] using h)
  simp only [RVs];exact⟨y,ys,e,RV.mono M x y h1,RVs.mono M xs ys h2⟩
theorem RVc.mono {ρ ρ':Ren}{G G':Nat->Nat}{w w':World}(M:acj ρ G w ρ' G' w'):∀(xs:List AV) (b o:Nat),(∀o v,w.cell? ⟨b,o,none⟩=some v->w'.cell? ⟨b,o,none⟩=some v)->RVc ρ G w xs b o->RVc ρ' G' w' xs b o
 | [],_,_,_,_=> by simp only [RVc]
 | x::xs,b,o,hc,h=> by
  obtain⟨⟨y,e,h1⟩,h2⟩:=(by simpa only [RVc] using h)
  simp only [RVc];exact⟨⟨y,hc _ _ e,RV.mono M x y h1⟩,RVc.mono M xs b (o+1) hc h2⟩
end
structure Back(n:Nat)(ρ:Ren)(G:Nat->Nat)(ρ':Ren)(G':Nat->Nat):Prop where
 gen:∀r,r < n->G' r=G r
 same:∀r,r < n->ρ' r=none∨ρ' r=ρ r
 sub:∀r x,ρ' r=some x->ρ r=some x
theorem Back.imm {n:Nat}{ρ ρ':Ren}{G G':Nat->Nat}(B:Back n ρ G ρ' G'){b:Nat}(h:Imm ρ b):Imm ρ' b:=λr sh hr=> h r sh (B.sub r _ hr)
mutual
theorem RV.back {n:Nat}{ρ ρ':Ren}{G G':Nat->Nat}{w w0:World}(B:Back n ρ G ρ' G')(out:∀r,n<=r->ρ' r=none/\G' r=0):∀(x:AV) (v v0:Value),RV ρ' G' w0 x v0->RV ρ G w x v->RV ρ' G' w x v
 | .s _,_,_,_,h=> by simpa only [RV] using h
 | .ref r g off,v,v0,h0,h=> by
  have hn:=RV.nv out _ _ h0;simp only [NV] at hn;obtain⟨a0,_,g1,g2⟩:=(by simpa only [RV] using h0)
  obtain⟨a,e,h1,h2⟩:=(by simpa only [RV] using h)
  simp only [RV];refine⟨a,e,by rw [B.gen r hn];exact h1,λhg=> ?_⟩;obtain⟨b0,sh0,hr0,_⟩:=g2 hg;obtain⟨b,sh,hr,ha⟩:=h2 (by rw [<-B.gen r hn];exact hg);refine⟨b,sh,?_,ha⟩;rcases B.same r hn with q | q
  ·rw [q] at hr0;cases hr0
  ·rw [q];exact hr
 | .sl r g off esz len cap ex,v,v0,h0,h=> by
  have hn:=RV.nv out _ _ h0;simp only [NV] at hn;obtain⟨_,_,_,_,_,_,_,_,g2⟩:=(by simpa only [RV] using h0)
  obtain⟨b,o,c,e,k1,k2,k3,h1,h2⟩:=(by simpa only [RV] using h)
  simp only [RV];refine⟨b,o,c,e,k1,k2,k3,by rw [B.gen r hn];exact h1,λhg=> ?_⟩;obtain⟨_,_,_,hr0,_⟩:=g2 hg;obtain⟨sh,ty,k,q1,q2,q3,q4⟩:=h2 (by rw [<-B.gen r hn];exact hg);refine⟨sh,ty,k,?_,q2,q3,q4⟩;rcases B.same r hn with q | q
  ·rw [q] at hr0;cases hr0
  ·rw [q];exact q1
 | .ip cells,v,v0,h0,h=> by
  obtain⟨b0,o0,_,_,_,g1⟩:=(by simpa only [RV] using h0)
  obtain⟨b,o,e,hb,hi,h1⟩:=(by simpa only [RV] using h)
  simp only [RV];exact⟨b,o,e,hb,B.imm hi,RVc.back B out cells b o b0 o0 g1 h1⟩
 | .vs m esz cells,v,v0,h0,h=> by
  obtain⟨b0,o0,_,_,_,_,_,_,g1⟩:=(by simpa only [RV] using h0)
  obtain⟨b,o,c,e,k1,k2,hb,hi,h1⟩:=(by simpa only [RV] using h)
  simp only [RV];exact⟨b,o,c,e,k1,k2,hb,B.imm hi,RVc.back B out cells b o b0 o0 g1 h1⟩
 | .mp r,v,v0,h0,h=> by
  have hn:=RV.nv out _ _ h0;simp only [NV] at hn;obtain⟨_,_,g1⟩:=(by simpa only [RV] using h0)
  obtain⟨b,e,h1⟩:=(by simpa only [RV] using h)
  simp only [RV];refine⟨b,e,λhg=> ?_⟩;have:=g1 hg;rcases B.same r hn with q | q
  ·rw [q] at this;cases this
  ·rw [q];exact h1 (by rw [<-B.gen r hn];exact hg)
 | .fn f a c,v,v0,h0,h=> by
  obtain⟨_,_,_,g1,g2⟩:=(by simpa only [RV] using h0)
  obtain⟨a',c',e,h1,h2⟩:=(by simpa only [RV] using h)
  simp only [RV];exact⟨a',c',e,RVs.back B out a _ _ g1 h1,RVs.back B out c _ _ g2 h2⟩
 | .agg cells,v,v0,h0,h=> by
  obtain⟨_,_,g1⟩:=(by simpa only [RV] using h0)
  obtain⟨cs,e,h1⟩:=(by simpa only [RV] using h)
  simp only [RV];exact⟨cs,e,RVs.back B out cells _ _ g1 h1⟩
 | .tup cells,v,v0,h0,h=> by
  obtain⟨_,_,g1⟩:=(by simpa only [RV] using h0)
  obtain⟨cs,e,h1⟩:=(by simpa only [RV] using h)
  simp only [RV];exact⟨cs,e,RVs.back B out cells _ _ g1 h1⟩
theorem RVs.back {n:Nat}{ρ ρ':Ren}{G G':Nat->Nat}{w w0:World}(B:Back n ρ G ρ' G')(out:∀r,n<=r->ρ' r=none/\G' r=0):∀(xs:List AV) (l l0:List Value),RVs ρ' G' w0 xs l0->RVs ρ G w xs l->RVs ρ' G' w xs l
 | [],_,_,_,h=> by simpa only [RVs] using h
 | x::xs,l,l0,h0,h=> by
  obtain⟨_,_,_,g1,g2⟩:=(by simpa only [RVs] using h0)
  obtain⟨y,ys,e,h1,h2⟩:=(by simpa only [RVs] using h)
  simp only [RVs];exact⟨y,ys,e,RV.back B out x y _ g1 h1,RVs.back B out xs ys _ g2 h2⟩
theorem RVc.back {n:Nat}{ρ ρ':Ren}{G G':Nat->Nat}{w w0:World}(B:Back n ρ G ρ' G')(out:∀r,n<=r->ρ' r=none/\G' r=0):∀(xs:List AV) (b o b0 o0:Nat),RVc ρ' G' w0 xs b0 o0->RVc ρ G w xs b o->RVc ρ' G' w xs b o
 | [],_,_,_,_,_,_=> by simp only [RVc]
 | x::xs,b,o,b0,o0,h0,h=> by
  obtain⟨⟨_,_,g1⟩,g2⟩:=(by simpa only [RVc] using h0)
  obtain⟨⟨y,e,h1⟩,h2⟩:=(by simpa only [RVc] using h)
  simp only [RVc];exact⟨⟨y,e,RV.back B out x y _ g1 h1⟩,RVc.back B out xs b (o+1) b0 (o0+1) g2 h2⟩
end
theorem RVm.nv {ρ:Ren}{G:Nat->Nat}{w:World}{n:Nat}(out:∀r,n<=r->ρ r=none/\G r=0){k:IntKind}:∀(es:List (Int × AV)) (l:List MapEntry),RVm ρ G w k es l->NVs n (es.map (·.2))
 | [],_,_=> by simp [NVs]
 | (m,x)::xs,l,h=> by
  obtain⟨e,es,_,_,h1,h2⟩:=(by simpa only [RVm] using h)
  simp only [zaC,NVs];exact⟨RV.nv out x _ h1,RVm.nv out xs es h2⟩
theorem RVm.mono {ρ ρ':Ren}{G G':Nat->Nat}{w w':World}(M:acj ρ G w ρ' G' w'){k:IntKind}:∀(xs:List (Int × AV)) (l:List MapEntry),RVm ρ G w k xs l->RVm ρ' G' w' k xs l
 | [],_,h=> by simpa only [RVm] using h
 | (m,x)::xs,l,h=> by
  obtain⟨e,es,e1,e2,h1,h2⟩:=(by simpa only [RVm] using h)
  simp only [RVm];exact⟨e,es,e1,e2,RV.mono M x _ h1,RVm.mono M xs es h2⟩
theorem RVm.back {n:Nat}{ρ ρ':Ren}{G G':Nat->Nat}{w w0:World}(B:Back n ρ G ρ' G')(out:∀r,n<=r->ρ' r=none/\G' r=0){k:IntKind}:∀(xs:List (Int × AV)) (l l0:List MapEntry),RVm ρ' G' w0 k xs l0->RVm ρ G w k xs l->RVm ρ' G' w k xs l
 | [],_,_,_,h=> by simpa only [RVm] using h
 | (m,x)::xs,l,l0,h0,h=> by
  obtain⟨_,_,_,_,g1,g2⟩:=(by simpa only [RVm] using h0)
  obtain⟨e,es,e1,e2,h1,h2⟩:=(by simpa only [RVm] using h)
  simp only [RVm];exact⟨e,es,e1,e2,RV.back B out x _ _ g1 h1,RVm.back B out xs es _ g2 h2⟩
theorem cell?_of_block {w w':World}{b o:Nat}(h:w'.heap[b]?=w.heap[b]?):w'.cell? ⟨b,o,none⟩=w.cell? ⟨b,o,none⟩:=by
 simp only [World.cell?,h]
theorem CQ {w:World}{b:Nat}{e:TypeId}{m:Nat}(h:w.shape? b=some (e,m)):b < w.heap.size:=by
 rcases zaR b w.heap.size with hb | hb
 ·exact hb
 ·simp [World.shape?,Array.getElem?_eq_none hb] at h
theorem Ext.toMono {ρ ρ':Ren}{H H':aj}{w w':World}(E:Ext ρ H w ρ' H' w'):acj ρ H.gen w ρ' H'.gen w' where
 mono:=E.mono
 same:=E.same
 imm:=λb hb hi=> ⟨zaw hb E.size,λr sh hr=> by
   rcases E.range r b sh hr with h | ⟨sh',h⟩
   ·omega
   ·exact hi r sh' h,λo=> cell?_of_block (E.frame b hb hi)⟩
 shape:=λb e m h=> by rw [E.shape b (CQ h)];exact h
theorem Ext.refl(ρ:Ren)(H:aj)(w:World):Ext ρ H w ρ H w where
 next:=zac _
 mono:=λ_=> zac _
 same:=λ_ _ h _=> h
 kept:=λ_ _ h=> h
 range:=λ_ _ sh h=> .inr ⟨sh,h⟩
 size:=zac _
 frame:=λ_ _ _=> rfl
 shape:=λ_ _=> rfl
 os:=rfl
 tape:=rfl
 output:=rfl
theorem Ext.trans {ρ ρ' ρ'':Ren}{H H' H'':aj}{w w' w'':World}(E:Ext ρ H w ρ' H' w')(F:Ext ρ' H' w' ρ'' H'' w''):Ext ρ H w ρ'' H'' w'' where
 next:=zaz E.next F.next
 mono:=λr=> zaz (E.mono r) (F.mono r)
 same:=λr x hr h=> by
  have h1:=E.mono r;have h2:=F.mono r;exact F.same r x (E.same r x hr (by omega)) (by omega)
 kept:=λr hr h=> F.kept r (zaw hr E.next) (E.kept r hr h)
 range:=λr b sh h=> by
  rcases F.range r b sh h with h | ⟨sh',h⟩
  ·exact .inl (zaz E.size h)
  ·exact E.range r b sh' h
 size:=zaz E.size F.size
 frame:=λb hb hi=> by
  rw [F.frame b (zaw hb E.size) (E.toMono.imm b hb hi).2.1,E.frame b hb hi]
 shape:=λb hb=> by rw [F.shape b (zaw hb E.size),E.shape b hb]
 os:=F.os.trans E.os
 tape:=F.tape.trans E.tape
 output:=F.output.trans E.output
theorem Rel.keep {ρ ρ':Ren}{H H':aj}{w w':World}(_R:Rel ρ H w)(E:Ext ρ H w ρ' H' w'){x:AV}{v:Value}(h:RV ρ H.gen w x v):RV ρ' H'.gen w' x v:=
 RV.mono E.toMono x v h
theorem Rel.keeps {ρ ρ':Ren}{H H':aj}{w w':World}(_R:Rel ρ H w)(E:Ext ρ H w ρ' H' w'){xs:List AV}{l:List Value}(h:RVs ρ H.gen w xs l):RVs ρ' H'.gen w' xs l:=
 RVs.mono E.toMono xs l h
theorem iI {ρ:Ren}{G:Nat->Nat}{w:World}:RVs ρ G w [] []:=by simp only [RVs]
theorem iF {ρ:Ren}{G:Nat->Nat}{w:World}{x:AV}{y:Value}{xs:List AV}{ys:List Value}(h:RV ρ G w x y)(t:RVs ρ G w xs ys):RVs ρ G w (x::xs) (y::ys):=by
 simp only [RVs];exact⟨y,ys,rfl,h,t⟩
theorem bM {ρ:Ren}{G:Nat->Nat}{w:World}:∀{xs:List AV} {l:List Value},RVs ρ G w xs l->l.length=xs.length
 | [],l,h=> by simp only [RVs] at h;subst h;rfl
 | x::xs,l,h=> by
  simp only [RVs] at h;obtain⟨y,ys,rfl,_,h2⟩:=h;simp [bM h2]
theorem iQ {ρ:Ren}{G:Nat->Nat}{w:World}:∀{xs:List AV} {l:List Value},RVs ρ G w xs l->∀{i:Nat} {x:AV},xs[i]?=some x->∃v,l[i]?=some v/\RV ρ G w x v
 | [],l,h,i,x,hx=> by simp at hx
 | y::xs,l,h,i,x,hx=> by
  simp only [RVs] at h;obtain⟨z,zs,rfl,h1,h2⟩:=h;cases i with
  | zero=> simp at hx;subst hx;exact⟨z,rfl,h1⟩
  | succ i=> simp at hx;simpa using iQ h2 hx
theorem qc {ρ:Ren}{G:Nat->Nat}{w:World}:∀{xs:List AV} {l:List Value},l.length=xs.length->(∀(i:Nat) (x:AV),xs[i]?=some x->∃v,l[i]?=some v/\RV ρ G w x v)->RVs ρ G w xs l
 | [],l,h,_=> by cases l with | nil=> exact iI | cons a l=> simp at h
 | x::xs,l,h,hg=> by
  cases l with
  | nil=> simp at h
  | cons y ys=>
   obtain⟨v,hv,h1⟩:=hg 0 x rfl;simp at hv;subst hv;exact iF h1 (qc (by simpa using h) λi x hx=> by simpa using hg (i+1) x (by simpa using hx))
theorem nH {ρ:Ren}{G:Nat->Nat}{w:World}:∀{xs ys:List AV} {l m:List Value},RVs ρ G w xs l->RVs ρ G w ys m->RVs ρ G w (xs++ys) (l++m)
 | [],ys,l,m,h,h'=> by simp only [RVs] at h;subst h;simpa using h'
 | x::xs,ys,l,m,h,h'=> by
  simp only [RVs] at h;obtain⟨z,zs,rfl,h1,h2⟩:=h;exact iF h1 (nH h2 h')
theorem ZR {ρ:Ren}{G:Nat->Nat}{w:World}(n:Nat):∀{xs:List AV} {l:List Value},RVs ρ G w xs l->RVs ρ G w (xs.take n) (l.take n):=by
 intro xs l h;refine qc (by simp [bM h]) λi x hx=> ?_;rw [zaA] at hx;split at hx
 ·obtain⟨v,hv,h1⟩:=iQ h hx;exact⟨v,by rw [zaA,if_pos ‹_›];exact hv,h1⟩
 ·cases hx
theorem ZT {ρ:Ren}{G:Nat->Nat}{w:World}(n:Nat):∀{xs:List AV} {l:List Value},RVs ρ G w xs l->RVs ρ G w (xs.drop n) (l.drop n):=by
 intro xs l h;refine qc (by simp [bM h]) λi x hx=> ?_;rw [zaF] at hx;obtain⟨v,hv,h1⟩:=iQ h hx;exact⟨v,by rw [zaF];exact hv,h1⟩
theorem fF {ρ:Ren}{G:Nat->Nat}{w:World}:∀(l:List Value),RVs ρ G w (l.map .s) l
 | []=> iI
 | v::l=> iF (by simp only [RV]) (fF l)
theorem vZ {ρ:Ren}{G:Nat->Nat}{w:World}:∀{xs:List AV} {b o:Nat},RVc ρ G w xs b o->∀{i:Nat} {x:AV},xs[i]?=some x->∃v,w.cell? ⟨b,o+i,none⟩=some v/\RV ρ G w x v
 | [],b,o,h,i,x,hx=> by simp at hx
 | y::xs,b,o,h,i,x,hx=> by
  simp only [RVc] at h;obtain⟨⟨v,hv,h1⟩,h2⟩:=h;cases i with
  | zero=> simp at hx;subst hx;exact⟨v,hv,h1⟩
  | succ i=> simp at hx;have:=vZ h2 hx;rwa [show o+1+i=o+(i+1) from by omega] at this
theorem nI {ρ:Ren}{G:Nat->Nat}{w:World}:∀{xs:List AV} {b o:Nat},(∀(i:Nat) (x:AV),xs[i]?=some x->∃v,w.cell? ⟨b,o+i,none⟩=some v/\RV ρ G w x v)->RVc ρ G w xs b o
 | [],_,_,_=> by simp only [RVc]
 | x::xs,b,o,h=> by
  simp only [RVc];exact⟨h 0 x rfl,nI λi y hy=> by have:=h (i+1) y (by simpa using hy);rwa [show o+(i+1)=o+1+i from by omega] at this⟩
theorem oI {ρ:Ren}{G:Nat->Nat}{w:World}{xs:List AV}{b o:Nat}(n:Nat)(h:RVc ρ G w xs b o):RVc ρ G w (xs.drop n) b (o+n):=
 nI λi x hx=> by
  rw [zaF] at hx;have:=vZ h hx
  rwa [show o+(n+i)=o+n+i from by omega] at this
theorem qM {ρ:Ren}{G:Nat->Nat}{w:World}{xs:List AV}{b o:Nat}(n:Nat)(h:RVc ρ G w xs b o):RVc ρ G w (xs.take n) b o:=
 nI λi x hx=> by
  rw [zaA] at hx;split at hx
  ·exact vZ h hx
  ·cases hx
theorem TI {ρ:Ren}{G:Nat->Nat}{w:World}{xs ys:List AV}{b o:Nat}(h:RVc ρ G w xs b o)(h':RVc ρ G w ys b (o+xs.length)):RVc ρ G w (xs++ys) b o:=
 nI λi x hx=> by
  rw [List.getElem?_append] at hx;split at hx
  ·exact vZ h hx
  ·rename_i hi;have:=vZ h' hx
   rwa [show o+xs.length+(i - xs.length)=o+i from by omega] at this
theorem oJ {ρ:Ren}{G:Nat->Nat}{w:World}{b o:Nat}{cs:Array Value}{e:TypeId}{fr:Nat × Nat}(hb:w.heap[b]?=some (.cells cs e fr)){xs:List AV}
  (h:∀(i:Nat) (x:AV),xs[i]?=some x->∃v,cs[o+i]?=some v/\RV ρ G w x v):RVc ρ G w xs b o:=
 nI λi x hx=> by
  obtain⟨v,hv,h1⟩:=h i x hx;exact⟨v,by simp [World.cell?,hb,hv],h1⟩
theorem sV {ρ:Ren}{G:Nat->Nat}{w:World}{b o:Nat}{cs:Array Value}{e:TypeId}{fr:Nat × Nat}(hb:w.heap[b]?=some (.cells cs e fr)){xs:List AV}
  (h:RVc ρ G w xs b o):∀{i:Nat} {x:AV},xs[i]?=some x->∃v,cs[o+i]?=some v/\RV ρ G w x v:=by
 intro i x hx;obtain⟨v,hv,h1⟩:=vZ h hx;exact⟨v,by simpa [World.cell?,hb] using hv,h1⟩
theorem add_plain(b o n:Nat):Addr.add ⟨b,o,none⟩ n=⟨b,o+n,none⟩:=Addr.add_lit b o n
theorem Oo {P:Program}{w:World}{a:Addr}{v:Value}(h:w.cell? a=some v):(load a).run P w=.ok v w:=by simp [h]
theorem run_loadCellsFrom {P:Program}{ρ:Ren}{G:Nat->Nat}{w:World}{b o:Nat}:∀(xs:List AV) (i:Nat) (acc:Array Value),RVc ρ G w xs b (o+i)->
  ∃l:List Value,(loadCellsFrom ⟨b,o,none⟩ i xs.length acc).run P w=.ok (acc++l.toArray) w/\RVs ρ G w xs l
 | [],i,acc,_=> ⟨[],by simp [loadCellsFrom],iI⟩
 | x::xs,i,acc,h=> by
  simp only [RVc] at h;obtain⟨⟨v,hv,h1⟩,h2⟩:=h;obtain⟨l,hl,h3⟩:=run_loadCellsFrom (P:=P) xs (i+1) (acc.push v) (by rw [<-zb7];exact h2);refine⟨v::l,?_,iF h1 h3⟩;simp only [zak,loadCellsFrom,Sem.run_bind,add_plain,Oo hv,Result.andThen_ok];rw [hl];simp
theorem run_loadCells {P:Program}{ρ:Ren}{G:Nat->Nat}{w:World}{b o:Nat}{xs:List AV}(h:RVc ρ G w xs b o):
  ∃l:List Value,(loadCells ⟨b,o,none⟩ xs.length).run P w=.ok l.toArray w/\RVs ρ G w xs l:=by
 obtain⟨l,hl,h1⟩:=run_loadCellsFrom (P:=P) xs 0 #[] (by simpa using h);exact⟨l,by simpa [loadCells] using hl,h1⟩
theorem AU {P:Program}{t:TypeId}{i:TypeInfo}(h:P.info? t=some i)(w:World):(typeInfo t).run P w=.ok i w:=by
 simp [typeInfo,h]
theorem run_sizeOf {P:Program}{t:TypeId}{n:Nat}(h:szT P t=some n)(w:World):(sizeOf t).run P w=.ok n w:=by
 unfold szT at h;cases hi:P.info? t with
 | none=> simp [hi] at h
 | some i=> simp [hi] at h;subst h;simp [sizeOf,AU hi]
theorem Ko {P:Program}{t:TypeId}{z:Value}(h:(if t < eH then(P.info? t).bind (·.zero) else none)=some z):t < eH:=by
 split at h
 ·assumption
 ·cases h
theorem qN {P:Program}{t:TypeId}{z:Value}(h:wR P t=some z):t < eH:=Ko h
theorem ZU {P:Program}{t:TypeId}{z:Value}(h:wR P t=some z):(P.info? t).bind (·.zero)=some z:=by
 have:=qN h;unfold wR at h
 rwa [if_pos this] at h
theorem eG {P:Program}{t:TypeId}{z:Value}(h:wR P t=some z)(w:World):(zeroValue t).run P w=.ok z w:=by
 unfold wR at h;rw [if_pos (Ko h)] at h;cases hi:P.info? t with
 | none=> simp [hi] at h
 | some i=> simp [hi] at h;simp [zeroValue,AU hi,h]
theorem wV {P:Program}{t:TypeId}{b:Bool}(h:ahf P t=some b)(w:World):(isAgg t).run P w=.ok b w:=by
 unfold ahf at h;cases hu:P.underlying t with
 | none=> simp [hu] at h
 | some d=> cases d <;> simp [hu] at h <;> subst h <;> simp [isAgg,run_underlying hu]
theorem CS {P:Program}{ρ:Ren}{G:Nat->Nat}{w:World}{b o:Nat}{cells:List AV}(h:RVc ρ G w cells b o){t:TypeId}{off:Nat}{v:AV}(hp:ER P t cells off=some v):
  ∃cv,(loadVar t ⟨b,o+off,none⟩).run P w=.ok cv w/\RV ρ G w v cv:=by
 unfold ER at hp;cases ha:ahf P t with
 | none=> simp [ha] at hp
 | some k=>
  cases hs:szT P t with
  | none=> simp [ha,hs] at hp
  | some n=>
   cases k with
   | true=>
    simp [ha,hs] at hp;obtain⟨hle,rfl⟩:=hp;obtain⟨l,hl,h1⟩:=run_loadCells (P:=P) (qM n (oI off h));refine⟨.agg l.toArray,?_,?_⟩
    ·have hlen:(List.take n (List.drop off cells)).length=n:=by simp;omega
     rw [hlen] at hl;simp [loadVar,wV ha,run_sizeOf hs,hl]
    ·simp only [RV];exact⟨_,rfl,h1⟩
   | false=>
    simp [ha,hs] at hp;obtain⟨cv,hc,h1⟩:=vZ h hp;exact⟨cv,by simp [loadVar,wV ha,hc],h1⟩
def jc(w:World)(b:Nat)(o:Obj):World:={ w with heap:=w.heap.setIfInBounds b o }
def updρ(ρ:Ren)(r:Nat)(x:Nat × Nat):Ren:=λy=> if y=r then some x else ρ y
theorem jY {w:World}{b:Nat}{o:Obj}(h:b < w.heap.size):(jc w b o).heap[b]?=some o:=by
 simp [jc,h]
theorem CU {w:World}{b b':Nat}{o:Obj}(h:b'≠b):(jc w b o).heap[b']?=w.heap[b']?:=by
 simp [jc,zbu (Ne.symm h)]
theorem Hq(w:World)(b:Nat)(o o':Obj):jc (jc w b o) b o'=jc w b o':=by
 simp [jc]
theorem Oq {w:World}{b:Nat}{o:Obj}(h:w.heap[b]?=some o):jc w b o=w:=by
 have hb:b < w.heap.size:=by
  rcases zaR b w.heap.size with hb | hb
  ·exact hb
  ·simp [Array.getElem?_eq_none hb] at h
 have:w.heap.setIfInBounds b o=w.heap:=by
  apply Array.ext_getElem?
  intro i;by_cases hi:b=i
  ·subst hi;rw [zbz hb] at h;simp only [Array.getElem?_setIfInBounds_self_of_lt hb,zbz hb,h]
  ·simp [zbu hi]
 simp [jc,this]
theorem lt_of_heap {w:World}{b:Nat}{o:Obj}(h:w.heap[b]?=some o):b < w.heap.size:=by
 rcases zaR b w.heap.size with hb | hb
 ·exact hb
 ·simp [Array.getElem?_eq_none hb] at h
theorem Rel.lt {ρ:Ren}{H:aj}{w:World}(R:Rel ρ H w){r b sh:Nat}(h:ρ r=some (b,sh)):r < H.next:=by
 rcases zaR r H.next with hr | hr
 ·exact hr
 ·rw [(R.out r hr).1] at h;cases h
theorem Rel.block {ρ:Ren}{H:aj}{w:World}(R:Rel ρ H w){r b sh:Nat}(h:ρ r=some (b,sh)):b < w.heap.size:=by
 have:=R.obj r b sh h;unfold vX at this;split at this
 ·obtain⟨cs,e,hb,_⟩:=this;exact lt_of_heap hb
 ·obtain⟨cs,e,hb,_⟩:=this;exact lt_of_heap hb
def zX:Obj->Option (TypeId × Nat)
 | .cells c e _=> some (e,c.size)
 | _=> none
theorem dI(w:World)(b:Nat):w.shape? b=(w.heap[b]?).bind zX:=by
 unfold World.shape? zX;cases w.heap[b]? with
 | none=> rfl
 | some o=> cases o <;> rfl
theorem qO(H:aj)(r x:Nat)(o:dR):(H.put r o).gen x=if x=r then o.gen else H.gen x:=by
 simp only [aj.gen,aj.put];split <;> rfl
theorem Ot(H:aj)(x:Nat)(o:dR):(H.new o).gen x=if x=H.next then o.gen else H.gen x:=by
 simp only [aj.gen,aj.new];split <;> rfl
theorem Vo {ρ:Ren}{H:aj}{w:World}{r b sh sh':Nat}{co co':Obj}{o:dR}(hr:ρ r=some (b,sh))(hb:w.heap[b]?=some co)
  (hs:zX co'=zX co) (hg:H.gen r<=o.gen) (hsh:o.gen=H.gen r->sh'=sh):Ext ρ H w (updρ ρ r (b,sh')) (H.put r o) (jc w b co') where
 next:=zac _
 mono:=λx=> by rw [qO];split <;> simp_all
 same:=λx y hx h=> by
  rw [qO] at h;unfold updρ
  split
  ·rename_i e;subst e;simp at h;rw [hsh h,<-hr,hx]
  ·exact hx
 kept:=λx _ h=> by
  unfold updρ
  split
  ·rename_i e;subst e;rw [hr] at h;cases h
  ·exact h
 range:=λx b' s h=> by
  unfold updρ at h;split at h
  ·cases h;rename_i e;subst e;exact .inr ⟨_,hr⟩
  ·exact .inr ⟨_,h⟩
 size:=by simp [jc]
 frame:=λb' hb' hi=> CU λe=> hi r sh (e ▸ hr)
 shape:=λb' hb'=> by
  rw [dI,dI];by_cases e:b'=b
  ·subst e;rw [jY hb',hb];exact hs
  ·rw [CU e]
 os:=rfl
 tape:=rfl
 output:=rfl
theorem vX.mono {ρ ρ':Ren}{G G':Nat->Nat}{w w':World}(M:acj ρ G w ρ' G' w'){o:dR}{b sh:Nat}(hb:w'.heap[b]?=w.heap[b]?)(h:vX ρ G w o b sh):vX ρ' G' w' o b sh:=by
 unfold vX at*;split at h
 ·obtain⟨cs,e,h1,h2,h3⟩:=h;exact⟨cs,e,by rw [hb];exact h1,h2,RVc.mono M _ _ _ (λo v hv=> by rw [cell?_of_block hb];exact hv) h3.1,h3.2⟩
 ·obtain⟨cs,e,h1,h2,h3⟩:=h;exact⟨cs,e,by rw [hb];exact h1,h2,RVm.mono M _ _ h3.1,h3.2⟩
theorem Vp {ρ:Ren}{H:aj}{w:World}(R:Rel ρ H w){r b sh sh':Nat}{co':Obj}{o:dR}(hr:ρ r=some (b,sh))
  (E:Ext ρ H w (updρ ρ r (b,sh')) (H.put r o) (jc w b co'))
  (ho:vX (updρ ρ r (b,sh')) (H.put r o).gen (jc w b co') o b sh'):Rel (updρ ρ r (b,sh')) (H.put r o) (jc w b co') where
 out:=λx hx=> by
  have hne:x≠r:=λe=> by have:=R.lt hr;subst e;exact absurd hx (by simpa [aj.put] using this)
  rw [qO,if_neg hne];unfold updρ;rw [if_neg hne];exact R.out x hx
 obj:=λx b' s h=> by
  unfold updρ at h;by_cases e:x=r
  ·subst e;simp at h;obtain⟨rfl,rfl⟩:=h
   simpa [aj.put] using ho
  ·rw [if_neg e] at h;have hne:b'≠b:=λe'=> e (R.inj x r b' s sh h (e' ▸ hr));have:(H.put r o).get x=H.get x:=by simp [aj.put,e]
   rw [this];exact vX.mono E.toMono (CU hne) (R.obj x b' s h)
 inj:=λx y b' s s' h h'=> by
  unfold updρ at h h';split at h <;> split at h'
  ·simp_all
  ·cases h;rename_i e _;subst e;exact(R.inj _ _ _ _ _ h' hr).symm
  ·cases h';rename_i _ e;subst e;exact R.inj _ _ _ _ _ h hr
  ·exact R.inj _ _ _ _ _ h h'
 gl:=R.gl.ext E
theorem Ht {ρ:Ren}{H:aj}{w:World}(R:Rel ρ H w){co:Obj}{o:dR}:Ext ρ H w (updρ ρ H.next (w.heap.size,0)) (H.new o) (w.alloc co) where
 next:=by simp [aj.new]
 mono:=λx=> by
  rw [Ot];split
  ·rename_i e;subst e;rw [(R.out _ (zac _)).2];exact zaT _
  ·exact zac _
 same:=λx y hx _=> by
  have hne:x≠H.next:=λe=> by subst e;rw [(R.out _ (zac _)).1] at hx;cases hx
  unfold updρ;rw [if_neg hne];exact hx
 kept:=λx hx h=> by
  unfold updρ
  rw [if_neg (by omega)];exact h
 range:=λx b' s h=> by
  unfold updρ at h;split at h
  ·cases h;exact .inl (zac _)
  ·exact .inr ⟨_,h⟩
 size:=by simp
 frame:=λb hb _=> by simp only [World.alloc,zbe,if_neg (zbX hb)]
 shape:=λb hb=> by
  rw [dI,dI];simp only [World.alloc,zbe,if_neg (zbX hb)]
 os:=rfl
 tape:=rfl
 output:=rfl
theorem Vq {ρ:Ren}{H:aj}{w:World}(R:Rel ρ H w){co:Obj}{o:dR}
  (ho:vX (updρ ρ H.next (w.heap.size,0)) (H.new o).gen (w.alloc co) o w.heap.size 0):Rel (updρ ρ H.next (w.heap.size,0)) (H.new o) (w.alloc co) where
 out:=λx hx=> by
  have hx1:H.next+1<=x:=hx
  have hne:x≠H.next:=by omega
  have hx':H.next<=x:=by omega
  rw [Ot,if_neg hne];unfold updρ;rw [if_neg hne];exact R.out x hx'
 obj:=λx b' s h=> by
  unfold updρ at h;by_cases e:x=H.next
  ·subst e;simp at h;obtain⟨rfl,rfl⟩:=h
   simpa [aj.new] using ho
  ·rw [if_neg e] at h;have:(H.new o).get x=H.get x:=by simp [aj.new,e]
   rw [this];have hb:=R.block h;exact vX.mono (Ht R (o:=o) (co:=co)).toMono (by simp only [World.alloc,zbe,if_neg (zbX hb)]) (R.obj x b' s h)
 inj:=λx y b' s s' h h'=> by
  unfold updρ at h h';split at h <;> split at h'
  ·simp_all
  ·cases h;have:=R.block h';omega
  ·cases h';have:=R.block h;omega
  ·exact R.inj _ _ _ _ _ h h'
 gl:=R.gl.ext (Ht R (o:=o) (co:=co))
theorem jg(w:World)(o:Obj):(w.alloc o).heap[w.heap.size]?=some o:=by
 show(w.heap.push o)[w.heap.size]?=some o;simp
theorem Vr {ρ:Ren}{H:aj}{w:World}(R:Rel ρ H w){e ty:TypeId}{cells:List AV}{cs:Array Value}(hl:cells.length<=cs.size)
  (hc:∀(i:Nat) (x:AV),cells[i]?=some x->∃v,cs[i]?=some v/\RV ρ H.gen w x v) (hX:Xct ty e 0 cs.size cells.length):
  Rel (updρ ρ H.next (w.heap.size,0)) (H.new (.blk 0 ty cells)) (w.alloc (.cells cs e))/\Ext ρ H w (updρ ρ H.next (w.heap.size,0)) (H.new (.blk 0 ty cells)) (w.alloc (.cells cs e)):=by
 have E:=Ht R (o:=.blk 0 ty cells) (co:=.cells cs e);refine⟨Vq R ⟨cs,e,jg w _,by omega,?_,hX⟩,E⟩;refine oJ (jg w _) λi x hx=> ?_;obtain⟨v,hv,h1⟩:=hc i x hx;exact⟨v,by simpa using hv,R.keep E h1⟩
theorem CV {ρ:Ren}{H:aj}{w:World}(R:Rel ρ H w){r b sh sh' g':Nat}{ty':TypeId}{cells':List AV}{cs cs':Array Value}{e:TypeId}(hr:ρ r=some (b,sh))
  (hb:w.heap[b]?=some (.cells cs e (0,0))) (hz:cs'.size=cs.size) (hg:H.gen r<=g') (hsh:g'=H.gen r->sh'=sh) (hl:sh'+cells'.length<=cs.size)
  (hc:∀(i:Nat) (x:AV),cells'[i]?=some x->∃v,cs'[sh'+i]?=some v/\RV ρ H.gen w x v) (hX:Xct ty' e sh' cs'.size cells'.length):
  Rel (updρ ρ r (b,sh')) (H.put r (.blk g' ty' cells')) (jc w b (.cells cs' e (0,0)))/\Ext ρ H w (updρ ρ r (b,sh')) (H.put r (.blk g' ty' cells')) (jc w b (.cells cs' e (0,0))):=by
 have E:=Vo (ρ:=ρ) (H:=H) (w:=w) (r:=r) (b:=b) (sh:=sh) (sh':=sh') (co:=.cells cs e (0,0)) (co':=.cells cs' e (0,0)) (o:=.blk g' ty' cells') hr hb (by simp [zX,hz]) hg hsh;refine⟨Vp R hr E ⟨cs',e,jY (R.block hr),by omega,?_,hX⟩,E⟩;refine oJ (jY (R.block hr)) λi x hx=> ?_;obtain⟨v,hv,h1⟩:=hc i x hx;exact⟨v,hv,R.keep E h1⟩
theorem Hu {ρ:Ren}{H:aj}{w:World}(R:Rel ρ H w){r b:Nat}{k:IntKind}{es es':List (Int × AV)}{ces ZJ:Array MapEntry}{cl cl':Nat}(hr:ρ r=some (b,0))(hget:H.get r=.map k es)
  (hb:w.heap[b]?=some (.map ces cl)) (hc:RVm ρ H.gen w k es' ZJ.toList) (hbn:Born ZJ.toList cl'):
  Rel ρ (H.put r (.map k es')) (jc w b (.map ZJ cl'))/\Ext ρ H w ρ (H.put r (.map k es')) (jc w b (.map ZJ cl')):=by
 have hρ:updρ ρ r (b,0)=ρ:=by
  funext x;unfold updρ;split
  ·rename_i e;subst e;exact hr.symm
  ·rfl
 have hg0:H.gen r=0:=by simp [aj.gen,hget,dR.gen]
 have E:=Vo (ρ:=ρ) (H:=H) (w:=w) (r:=r) (b:=b) (sh:=0) (sh':=0) (co:=.map ces cl) (co':=.map ZJ cl') (o:=.map k es') hr hb rfl (by simp [hg0]) (λ_=> rfl);have:=Vp R hr E ⟨ZJ,cl',jY (R.block hr),rfl,RVm.mono E.toMono _ _ hc,hbn⟩;rw [hρ] at this E;exact⟨this,E⟩
def setMany(cs:Array Value)(o:Nat):List Value->Array Value
 | []=> cs
 | v::vs=> setMany (cs.setIfInBounds o v) (o+1) vs
theorem dG:∀(vs:List Value) (cs:Array Value) (o:Nat),(setMany cs o vs).size=cs.size
 | [],_,_=> rfl
 | v::vs,cs,o=> by simp [setMany,dG vs]
theorem jZ:∀(vs:List Value) (cs:Array Value) (o i:Nat),o+vs.length<=cs.size->(setMany cs o vs)[i]?=if o<=i/\i < o+vs.length then vs[i - o]? else cs[i]?
 | [],cs,o,i,h=> by
  simp only [setMany,zat,zbf];rw [if_neg (by omega)]
 | v::vs,cs,o,i,h=> by
  simp only [zak] at h;simp only [setMany,zak];rw [jZ vs _ (o+1) i (by simp;omega)];by_cases h1:o=i
  ·subst h1;rw [if_neg (by omega),if_pos (by omega)];simp [show o < cs.size from by omega]
  ·by_cases h2:o+1<=i/\i < o+1+vs.length
   ·rw [if_pos h2,if_pos (by omega),show i - o=(i - (o+1))+1 from by omega];rfl
   ·rw [if_neg h2,if_neg (by omega),zbu h1]
theorem CW {P:Program}{w:World}{b o:Nat}{cs:Array Value}{e:TypeId}{v:Value}(hb:w.heap[b]?=some (.cells cs e (0,0)))(ho:o < cs.size)(hv:v.oneCell'=true):
  (store ⟨b,o,none⟩ v).run P w=.ok () (jc w b (.cells (cs.setIfInBounds o v) e (0,0))):=by
 have hc:w.cell? ⟨b,o,none⟩=some cs[o]:=by simp [World.cell?,hb,ho]
 have hf:w.frozen? ⟨b,o,none⟩=false:=by simp [World.frozen?,hb]
 rw [run_store P w _ v _ hv,hc];simp only [hf,if_false,zai];have hlt:=lt_of_heap hb;have:w.setCell ⟨b,o,none⟩ v=jc w b (.cells (cs.setIfInBounds o v) e (0,0)):=by
  simp only [World.setCell,jc]
  congr 1
  apply Array.ext_getElem?
  intro i;rw [Array.getElem?_modify];by_cases hi:b=i
  ·subst hi;rw [hb];simp [hlt]
  ·simp [hi,zbu hi]
 rw [this]
theorem jh {P:Program}{b o:Nat}{e:TypeId}:∀(vs:List Value) (w:World) (cs:Array Value) (i:Nat),w.heap[b]?=some (.cells cs e (0,0))->o+i+vs.length<=cs.size->(∀v∈vs,v.oneCell'=true)->
  (storeCells ⟨b,o,none⟩ vs i).run P w=.ok () (jc w b (.cells (setMany cs (o+i) vs) e (0,0)))
 | [],w,cs,i,hb,_,_=> by simp [storeCells,setMany,Oq hb]
 | v::vs,w,cs,i,hb,hl,hv=> by
  simp only [zak] at hl;simp only [storeCells,Sem.run_bind,add_plain,CW hb (show o+i < cs.size by omega) (hv v (by simp)),Result.andThen_ok];rw [jh vs _ (cs.setIfInBounds (o+i) v) (i+1) (jY (lt_of_heap hb)) (by simp;omega) (λu hu=> hv u (by simp [hu])),Hq];rfl
theorem TJ {ρ:Ren}{G:Nat->Nat}{w:World}{x:AV}{v:Value}(hx:x.aH=true)(h:RV ρ G w x v):v.oneCell'=true:=by
 cases x with
 | s u=>
  simp only [RV] at h;subst h;cases v <;> simp_all [AV.aH,Value.oneCell']
 | ref r g off=> simp only [RV] at h;obtain⟨a,rfl,_⟩:=h;rfl
 | sl r g off esz len cap ex=> simp only [RV] at h;obtain⟨b,o,c,rfl,_⟩:=h;rfl
 | ip cells=> simp only [RV] at h;obtain⟨b,o,rfl,_⟩:=h;rfl
 | vs n esz cells=> simp only [RV] at h;obtain⟨b,o,c,rfl,_⟩:=h;rfl
 | mp r=> simp only [RV] at h;obtain⟨b,rfl,_⟩:=h;rfl
 | fn f a c=> simp only [RV] at h;obtain⟨a,c,rfl,_⟩:=h;rfl
 | agg l=> simp [AV.aH] at hx
 | tup l=> simp [AV.aH] at hx
theorem nO {ρ:Ren}{G:Nat->Nat}{w:World}{xs:List AV}{l:List Value}(hx:xs.all AV.aH=true)(h:RVs ρ G w xs l):∀v∈l,v.oneCell'=true:=by
 intro v hv;obtain⟨i,hi,rfl⟩:=List.getElem_of_mem hv;have hl:=bM h;have hxi:xs[i]?=some (xs[i]'(by omega)):=zab _;obtain⟨u,hu,h1⟩:=iQ h hxi;rw [zab hi] at hu;cases hu;exact TJ (zaZ.1 hx _ (List.getElem_mem _)) h1
theorem Hw {ρ:Ren}{G:Nat->Nat}{w:World}{x:AV}{v:Value}(h:RV ρ G w x v):RVs ρ G w x.cells v.cells.toList:=by
 cases x with
 | s u=> simp only [RV] at h;subst h;exact fF _
 | agg l=> simp only [RV] at h;obtain⟨cs,rfl,h1⟩:=h;exact h1
 | ref r g off=>
  have h':=h;simp only [RV] at h;obtain⟨a,rfl,_⟩:=h;exact iF h' iI
 | sl r g off esz len cap ex=> have h':=h;simp only [RV] at h;obtain⟨b,o,c,rfl,_⟩:=h;exact iF h' iI
 | ip cells=> have h':=h;simp only [RV] at h;obtain⟨b,o,rfl,_⟩:=h;exact iF h' iI
 | vs n esz cells=> have h':=h;simp only [RV] at h;obtain⟨b,o,c,rfl,_⟩:=h;exact iF h' iI
 | mp r=> have h':=h;simp only [RV] at h;obtain⟨b,rfl,_⟩:=h;exact iF h' iI
 | fn f a c=> have h':=h;simp only [RV] at h;obtain⟨a,c,rfl,_⟩:=h;exact iF h' iI
 | tup l=> have h':=h;simp only [RV] at h;obtain⟨cs,rfl,_⟩:=h;exact iF h' iI
theorem sW(cells:List AV)(off:Nat)(xs:List AV)(h:off+xs.length<=cells.length)(i:Nat):(setAt cells off xs)[i]?=if off<=i/\i < off+xs.length then xs[i - off]? else cells[i]?:=by
 unfold setAt;rw [List.getElem?_append];simp only [zao];rw [zbg (by omega)];by_cases h1:i < off
 ·rw [if_pos h1,if_neg (by omega),zaA,if_pos h1]
 ·rw [if_neg h1,List.getElem?_append];by_cases h2:i - off < xs.length
  ·rw [if_pos h2,if_pos (by omega)]
  ·rw [if_neg h2,if_neg (by omega),zaF]
   congr 1;omega
theorem gX(cells:List AV)(off:Nat)(xs:List AV)(h:off+xs.length<=cells.length):(setAt cells off xs).length=cells.length:=by
 simp [setAt];omega
def Ok(P:Program)(ρ:Ren)(H:aj)(w:World)(s:Sem Value)(v:AV)(H':aj):Prop:=
 ∃cv ρ' w',s.run P w=.ok cv w'/\Rel ρ' H' w'/\RV ρ' H'.gen w' v cv/\Ext ρ H w ρ' H' w'
def OkP(P:Program)(ρ:Ren)(G:Nat->Nat)(w:World)(s:Sem Value)(v:AV):Prop:=∃cv,s.run P w=.ok cv w/\RV ρ G w v cv
theorem OkP.ok {P:Program}{ρ:Ren}{H:aj}{w:World}{s:Sem Value}{v:AV}(h:OkP P ρ H.gen w s v)(R:Rel ρ H w):Ok P ρ H w s v H:=
 let⟨cv,h1,h2⟩:=h;⟨cv,ρ,w,h1,R,h2,Ext.refl _ _ _⟩
theorem ku {α:Type}{P:Program}{s:Sem α}{a:α}(h:cO P s=some a)(w:World):s.run P w=.ok a w:=by
 induction s with
 | pure b=> simp [cO] at h;subst h;rfl
 | program k ih=> exact ih P h
 | _=> simp [cO] at h
mutual
theorem E9 {ρ:Ren}{G:Nat->Nat}{w:World}:∀(x:AV) (v u:Value),RV ρ G w x v->x.val?=some u->v=u
 | .s _,v,u,h,hu=> by simp only [RV] at h;simp only [AV.val?,zaa] at hu;rw [h,hu]
 | .agg l,v,u,h,hu=> by
  obtain⟨cs,rfl,h1⟩:=(by simpa only [RV] using h)
  simp only [AV.val?] at hu;cases hv:vals? l with
  | none=> simp [hv] at hu
  | some vs=> simp [hv] at hu;subst hu;rw [<-HY l _ _ h1 hv]
 | .tup l,v,u,h,hu=> by
  obtain⟨cs,rfl,h1⟩:=(by simpa only [RV] using h)
  simp only [AV.val?] at hu;cases hv:vals? l with
  | none=> simp [hv] at hu
  | some vs=> simp [hv] at hu;subst hu;rw [<-HY l _ _ h1 hv]
 | .ref ..,_,_,_,hu=> by simp [AV.val?] at hu
 | .sl ..,_,_,_,hu=> by simp [AV.val?] at hu
 | .ip ..,_,_,_,hu=> by simp [AV.val?] at hu
 | .vs ..,_,_,_,hu=> by simp [AV.val?] at hu
 | .mp ..,_,_,_,hu=> by simp [AV.val?] at hu
 | .fn ..,_,_,_,hu=> by simp [AV.val?] at hu
theorem HY {ρ:Ren}{G:Nat->Nat}{w:World}:∀(xs:List AV) (l us:List Value),RVs ρ G w xs l->vals? xs=some us->l=us
 | [],l,us,h,hu=> by simp only [RVs] at h;simp only [vals?,zaa] at hu;rw [h,hu]
 | x::xs,l,us,h,hu=> by
  obtain⟨y,ys,rfl,h1,h2⟩:=(by simpa only [RVs] using h)
  simp only [vals?] at hu;cases hx:x.val? with
  | none=> simp [hx] at hu
  | some v=>
   cases hxs:vals? xs with
   | none=> simp [hx,hxs] at hu
   | some vs=> simp [hx,hxs] at hu;subst hu;rw [E9 x y v h1 hx,HY xs ys vs h2 hxs]
end
section
variable {P:Program}{ρ:Ren}{H H':aj}{w:World}{v:AV}
theorem qP {f:Option dR->Option AV}{x:AV}(h:jy f x H=some (v,H')):f ((aT x).map H.get)=some v/\H'=H:=by
 unfold jy at h;cases hf:f ((aT x).map H.get) with
 | none=> rw [hf] at h;cases h
 | some u=> rw [hf] at h;simp only [zah,zaa,zad] at h;exact⟨by rw [h.1],h.2.symm⟩
theorem Vs(R:Rel ρ H w){t:TypeId}{x:AV}{cx:Value}(hx:RV ρ H.gen w x cx)(h:Ol P t x H=some (v,H')):H'=H/\OkP P ρ H.gen w (Instr.loadAt t cx) v:=by
 obtain⟨h',hh⟩:=qP h
 clear h
 subst hh;have h:=h'
 clear h'
 refine⟨rfl,?_⟩;unfold aeT at h;cases x with
 | ref r g off=>
  simp only [aT,zah] at h;cases ho:H'.get r with
  | map k es=> simp [ho] at h
  | blk g' ty cells=>
   simp only [ho] at h;by_cases hg:g'=g
   ·rw [if_pos hg] at h;simp only [RV] at hx;obtain⟨a,rfl,_,h2⟩:=hx;obtain⟨b,sh,hr,rfl⟩:=h2 (by simp [aj.gen,ho,dR.gen,hg]);have sF:=R.obj r b sh hr;simp only [vX,ho] at sF;obtain⟨cs,e,_,_,hc,_⟩:=sF;obtain⟨cv,h3,h4⟩:=CS (P:=P) hc h;exact⟨cv,by simp [Instr.loadAt,Instr.sureAddr,h3],h4⟩
   ·rw [if_neg hg] at h;cases h
 | ip cells=>
  simp only at h;simp only [RV] at hx;obtain⟨b,o,rfl,_,_,hc⟩:=hx;obtain⟨cv,h3,h4⟩:=CS (P:=P) hc h;exact⟨cv,by simp [Instr.loadAt,Instr.sureAddr] at h3 ⊢;simp [h3],h4⟩
 | _=> simp at h
theorem aS {α:Type}(a:Array α):a.toList.length=a.size:=rfl
theorem ZV(R:Rel ρ H w){t:TypeId}{x y:AV}{cx cy:Value}(hx:RV ρ H.gen w x cx)(hy:RV ρ H.gen w y cy)(h:J8 P t x y H=some (v,H')):
  v=aO/\∃ρ' w',(Instr.storeAt t cx cy).run P w=.ok () w'/\Rel ρ' H' w'/\Ext ρ H w ρ' H' w':=by
 unfold J8 at h;cases x with
 | ref r g off=>
  simp only at h;cases ho:H.get r with
  | map k es=> simp [ho] at h
  | blk g' ty cells=>
   simp only [ho] at h;split at h
   ·rename_i hc;obtain⟨rfl,_,hs,hcell,hle⟩:=hc;simp only [zaa,zad] at h;obtain⟨rfl,rfl⟩:=h;simp only [RV] at hx;obtain⟨a,rfl,_,h2⟩:=hx;obtain⟨b,sh,hr,rfl⟩:=h2 (by simp [aj.gen,ho,dR.gen]);have sF:=R.obj r b sh hr;simp only [vX,ho] at sF;obtain⟨cs,e,hb,hz,hcc,hX⟩:=sF;have hyc:=Hw hy;have hlen:=bM hyc;rw [aS] at hlen;have hrun:=jh (P:=P) (o:=sh+off) cy.cells.toList w cs 0 hb (by rw [aS];omega) (nO hcell hyc);have hgen:H.gen r=g':=by simp [aj.gen,ho,dR.gen]
    have hput:=CV (ty':=ty) (cells':=setAt cells off y.cells) (cs':=setMany cs (sh+off) cy.cells.toList) (g':=g') (sh':=sh) R hr hb (dG _ _ _) (by omega) (λ_=> rfl)
     (by rw [gX _ _ _ hle];exact hz) (by
      intro i u hu;rw [sW _ _ _ hle] at hu;rw [jZ _ _ _ _ (by rw [aS];omega),aS];by_cases hi:off<=i/\i < off+y.cells.length
      ·rw [if_pos hi] at hu;rw [if_pos (by omega),show sh+i - (sh+off)=i - off from by omega];exact iQ hyc hu
      ·rw [if_neg hi] at hu;rw [if_neg (by omega)];exact sV hb hcc hu) (by rw [dG,gX _ _ _ hle];exact hX)
    refine⟨rfl,_,_,?_,hput.1,hput.2⟩;simp only [Instr.storeAt,Instr.sureAddr,storeVar,Sem.run_bind,Sem.run_pure,Result.andThen_ok,run_sizeOf hs,hlen,ne_eq,not_true,if_false]
    simpa using hrun
   ·cases h
 | _=> simp at h
theorem Kq(R:Rel ρ H w)(t:TypeId)(ht:t < eH){cells:List AV}{cv:Value}(hc:RVs ρ H.gen w cells cv.cells.toList):
  Ok P ρ H w (do pure (.pointer (some (<-newVar t cv)))) (.ref H.next 0 0) (H.new (.blk 0 t cells)):=by
 have hn:=Vr (e:=t) (ty:=t) (cells:=cells) (cs:=cv.cells) R (by rw [<-aS,bM hc];exact zac _) (λi x hx=> by
  obtain⟨u,hu,h1⟩:=iQ hc hx;exact⟨u,by simpa using hu,h1⟩) (Xct.low ht (by have:=bM hc;rw [aS] at this;omega))
 refine⟨.pointer (some ⟨w.heap.size,0,none⟩),_,_,?_,hn.1,?_,hn.2⟩
 ·simp [newVar,newRow]
 ·simp only [RV];exact⟨_,rfl,by omega,λ_=> ⟨w.heap.size,0,by simp [updρ],by simp⟩⟩
theorem ahk(R:Rel ρ H w){t:TypeId}{x:AV}{cx:Value}(hx:RV ρ H.gen w x cx)(h:fA t x H=some (v,H')):Ok P ρ H w (Instr.box t cx) v H':=by
 unfold fA at h;split at h
 ·rename_i hh;simp only [zaa,zad] at h;obtain⟨rfl,rfl⟩:=h;exact Kq R t hh.2 (Hw hx)
 ·cases h
theorem ZW(R:Rel ρ H w){t:TypeId}(h:EZ P t H=some (v,H')):Ok P ρ H w (Instr.alloc t true (.tuple #[])) v H':=by
 unfold EZ vH at h;cases hz:wR P t with
 | none=> simp [hz] at h
 | some z=>
  simp only [hz,zah] at h;split at h
  ·simp only [zaa,zad] at h;obtain⟨rfl,rfl⟩:=h;obtain⟨cv,ρ',w',h1,h2,h3,h4⟩:=Kq (P:=P) R t (qN hz) (cells:=z.cells.toList.map .s) (cv:=z) (fF _);exact⟨cv,ρ',w',by simpa [Instr.alloc,eG hz] using h1,h2,h3,h4⟩
  ·cases h
theorem ES {f:Field}{n:Nat}{a:Addr}(h:szT P f.type=some (n+1)):(fieldPlace a f).run P w=.ok (a.add f.offset) w:=by
 simp [fieldPlace,run_sizeOf h]
theorem Kr {t:TypeId}{i:Nat}{x:AV}{cx:Value}(hx:RV ρ H.gen w x cx)(h:pW P t x i=some v):OkP P ρ H.gen w (Instr.fieldAt t cx i) v:=by
 unfold pW Qr at h;cases hu:P.underlying t with
 | none=> simp [hu] at h
 | some d=>
  cases d with
  | struct fs=>
   simp only [hu] at h;cases hf:fs[i]? with
   | none=> simp [hf] at h
   | some f=>
    simp only [hf] at h;cases hs:szT P f.type with
    | none=> simp [hs] at h
    | some n=>
     cases n with
     | zero=> simp [hs] at h
     | succ n=>
      simp only [hs] at h;have hrun:∀a,(Instr.fieldAt t (.pointer (some a)) i).run P w=.ok (.pointer (some (a.add f.offset))) w:=λa=> by
       simp [Instr.fieldAt,run_underlying hu,hf,Instr.sureAddr,ES hs]
      cases x with
      | ref r g off=>
       simp only [zaa] at h;subst h;simp only [RV] at hx;obtain⟨a,rfl,h1,h2⟩:=hx;refine⟨_,hrun a,?_⟩;simp only [RV];refine⟨_,rfl,h1,λhg=> ?_⟩;obtain⟨b,sh,hr,rfl⟩:=h2 hg;exact⟨b,sh,hr,by rw [add_plain,zb7]⟩
      | ip cells=>
       simp only [zaa] at h;subst h;simp only [RV] at hx;obtain⟨b,o,rfl,h1,h2,h3⟩:=hx;refine⟨_,hrun _,?_⟩;simp only [RV];exact⟨b,o+f.offset,by rw [add_plain],h1,h2,oI _ h3⟩
      | _=> simp at h
  | _=> simp [hu] at h
theorem Kt(_R:Rel ρ H w){t:TypeId}{x i:AV}{cx ci:Value}(hx:RV ρ H.gen w x cx)(hi:RV ρ H.gen w i ci)(h:pX P t x i H=some (v,H')):
  H'=H/\OkP P ρ H.gen w (Instr.indexAt t cx ci) v:=by
 obtain⟨h',hh⟩:=qP h
 clear h
 subst hh;have h:=h'
 clear h'
 refine⟨rfl,?_⟩;unfold yI at h;split at h
 ·rename_i e hu;split at h
  ·rename_i r g off esz len cap ex;split at h <;> first | (cases h;done) | skip
   rename_i k n;split at h <;> first | (cases h;done) | skip
   rename_i hc;obtain⟨hs,hg,h0,h1⟩:=hc;simp only [zaa] at h;subst h;simp only [RV] at hi hx;subst hi;obtain⟨b,o,c,rfl,q1,q2,q3,q4,q5⟩:=hx;obtain⟨sh,ty,m,hr,ho,hsh,hle⟩:=q5 hg;have ho':=ho (by omega);refine⟨.pointer (some ⟨b,o+n.toNat*esz,none⟩),?_,?_⟩
   ·simp [Instr.indexAt,asIntOf,run_underlying hu,run_sizeOf hs,add_plain,h0,h1]
   ·simp only [RV];exact⟨_,rfl,q4,λ_=> ⟨b,sh,hr,by rw [ho',zb7]⟩⟩
  ·rename_i len esz cells;split at h <;> first | (cases h;done) | skip
   rename_i k n;split at h <;> first | (cases h;done) | skip
   rename_i hc;obtain⟨hs,h0,h1⟩:=hc;simp only [zaa] at h;subst h;simp only [RV] at hi hx;subst hi;obtain⟨b,o,c,rfl,q1,q2,q3,q4,q5⟩:=hx;refine⟨.pointer (some ⟨b,o+n.toNat*esz,none⟩),?_,?_⟩
   ·simp [Instr.indexAt,asIntOf,run_underlying hu,run_sizeOf hs,add_plain,h0,h1]
   ·simp only [RV];exact⟨b,_,rfl,q3,q4,oI _ q5⟩
  ·cases h
 ·rename_i len e hu;split at h <;> first | (cases h;done) | skip
  rename_i m hs;split at h
  ·rename_i r g off;split at h <;> first | (cases h;done) | skip
   rename_i k n;split at h <;> first | (cases h;done) | skip
   rename_i hc;obtain⟨h0,h1⟩:=hc;simp only [zaa] at h;subst h;simp only [RV] at hi hx;subst hi;obtain⟨a,rfl,q1,q2⟩:=hx;refine⟨.pointer (some (a.add (n.toNat*m))),?_,?_⟩
   ·simp [Instr.indexAt,asIntOf,run_underlying hu,run_sizeOf hs,h0,h1,Instr.sureAddr]
   ·simp only [RV];refine⟨_,rfl,q1,λhg=> ?_⟩;obtain⟨b,sh,hr,rfl⟩:=q2 hg;exact⟨b,sh,hr,by rw [add_plain,zb7]⟩
  ·rename_i cells;split at h <;> first | (cases h;done) | skip
   rename_i k n;split at h <;> first | (cases h;done) | skip
   rename_i hc;obtain⟨h0,h1⟩:=hc;simp only [zaa] at h;subst h;simp only [RV] at hi hx;subst hi;obtain⟨b,o,rfl,q1,q2,q3⟩:=hx;refine⟨.pointer (some ⟨b,o+n.toNat*m,none⟩),?_,?_⟩
   ·simp [Instr.indexAt,asIntOf,run_underlying hu,run_sizeOf hs,h0,h1,Instr.sureAddr,add_plain]
   ·simp only [RV];exact⟨b,_,rfl,q1,q2,oI _ q3⟩
  ·cases h
 ·cases h
end
section
variable {P:Program}{ρ:Ren}{G:Nat->Nat}{w:World}{v:AV}
theorem AX {t:TypeId}{cells:List AV}{cs:Array Value}{off:Nat}(hc:RVs ρ G w cells cs.toList)(h:ER P t cells off=some v):OkP P ρ G w (part t cs off) v:=by
 unfold ER at h;cases ha:ahf P t with
 | none=> simp [ha] at h
 | some k=>
  cases hs:szT P t with
  | none=> simp [ha,hs] at h
  | some n=>
   cases k with
   | true=>
    simp [ha,hs] at h;obtain⟨hle,rfl⟩:=h;refine⟨.agg (cs.extract off (off+n)),by simp [part,wV ha,run_sizeOf hs],?_⟩;simp only [RV];refine⟨_,rfl,?_⟩;have:=ZR n (ZT off hc);rw [Array.toList_extract]
    simpa [List.extract] using this
   | false=>
    simp [ha,hs] at h;obtain⟨cv,hcv,h1⟩:=iQ hc h;refine⟨cv,?_,h1⟩;have:cs[off]?=some cv:=by simpa using hcv
    simp [part,wV ha,this]
theorem ZX {t:TypeId}{i:Nat}{x:AV}{cx:Value}(hx:RV ρ G w x cx)(h:J5 P t x i=some v):OkP P ρ G w (Instr.field t cx i) v:=by
 unfold J5 Qr at h;cases hu:P.underlying t with
 | none=> simp [hu] at h
 | some d=>
  cases d with
  | struct fs=>
   simp only [hu] at h;cases hf:fs[i]? with
   | none=> simp [hf] at h
   | some f=>
    simp only [hf] at h;split at h
    ·rename_i g cells hg;cases hg;simp only [RV] at hx;obtain⟨cs,rfl,h1⟩:=hx;obtain⟨cv,h2,h3⟩:=AX (P:=P) h1 h;exact⟨cv,by simp [Instr.field,run_underlying hu,hf,asAgg,h2],h3⟩
    ·rename_i g cs hg;cases hg;simp only [RV] at hx;subst hx;obtain⟨cv,h2,h3⟩:=AX (P:=P) (fF (ρ:=ρ) (G:=G) (w:=w) cs.toList) h;exact⟨cv,by simp [Instr.field,run_underlying hu,hf,asAgg,h2],h3⟩
    ·cases h
  | _=> simp [hu] at h
theorem ZY {t:TypeId}{x i:AV}{cx ci:Value}(hx:RV ρ G w x cx)(hi:RV ρ G w i ci)(h:J6 P t x i=some v):OkP P ρ G w (Instr.index t cx ci) v:=by
 unfold J6 at h;split at h
 ·rename_i s k n hu;simp only [RV] at hx hi;subst hx hi;split at h
  ·rename_i b hb;simp only [zaa] at h;subst h;exact⟨.int .u8 b.toNat,by simp [Instr.index,asIntOf,run_underlying hu,hb],by simp only [RV]⟩
  ·cases h
 ·rename_i len e cells k n hu;simp only [RV] at hx hi;subst hi;obtain⟨cs,rfl,h1⟩:=hx;cases hs:szT P e with
  | none=> simp [hs] at h
  | some m=>
   simp only [hs] at h;split at h
   ·rename_i hc;obtain⟨cv,h2,h3⟩:=AX (P:=P) h1 h;exact⟨cv,by simp [Instr.index,asIntOf,run_underlying hu,run_sizeOf hs,hc,h2],h3⟩
   ·cases h
 ·rename_i len e cs k n hu;simp only [RV] at hx hi;subst hx hi;cases hs:szT P e with
  | none=> simp [hs] at h
  | some m=>
   simp only [hs] at h;split at h
   ·rename_i hc;obtain⟨cv,h2,h3⟩:=AX (P:=P) (fF (ρ:=ρ) (G:=G) (w:=w) cs.toList) h;exact⟨cv,by simp [Instr.index,asIntOf,run_underlying hu,run_sizeOf hs,hc,h2],h3⟩
   ·cases h
 ·cases h
theorem TK {x:AV}{i:Nat}{cx:Value}(hx:RV ρ G w x cx)(h:aF x i=some v):OkP P ρ G w (Instr.extract cx i) v:=by
 unfold aF at h;split at h
 ·rename_i l;simp only [RV] at hx;obtain⟨cs,rfl,h1⟩:=hx;obtain⟨cv,hcv,h2⟩:=iQ h1 h;have:cs[i]?=some cv:=by simpa using hcv
  exact⟨cv,by simp [Instr.extract,this],h2⟩
 ·rename_i vs;simp only [RV] at hx;subst hx;cases hv:vs[i]? with
  | none=> simp [hv] at h
  | some u=> simp [hv] at h;subst h;exact⟨u,by simp [Instr.extract,hv],by simp only [RV]⟩
 ·cases h
theorem aeV {c a b:AV}{cc ca cb:Value}(hc:RV ρ G w c cc)(ha:RV ρ G w a ca)(hb:RV ρ G w b cb)(h:aU c a b=some v):
  OkP P ρ G w (do pure (if<-asBool cc then ca else cb)) v:=by
 unfold aU at h;split at h
 ·simp only [RV] at hc;subst hc;simp only [zaa] at h;subst h;exact⟨ca,by simp [asBool],ha⟩
 ·simp only [RV] at hc;subst hc;simp only [zaa] at h;subst h;exact⟨cb,by simp [asBool],hb⟩
 ·cases h
theorem amU {op:UnOp}{x:AV}{cx:Value}(hx:RV ρ G w x cx)(h:unA P op x=some v):OkP P ρ G w (Op.unary op cx) v:=by
 unfold unA at h;cases hv:x.val? with
 | none=> simp [hv] at h
 | some a=>
  simp only [hv] at h;rw [E9 x cx a hx hv];cases hp:cO P (Op.unary op a) with
  | none=> simp [hp] at h
  | some u=> simp [hp] at h;subst h;exact⟨u,ku hp w,by simp only [RV]⟩
theorem jQ {t:TypeId}{cx cy:Value}{b:Bool}(h:∀d,(Op.equalIn (d+1) t cx cy).run P w=.ok b w):(Op.equal t cx cy).run P w=.ok b w:=h 9999
theorem Qw {t:TypeId}{x y:AV}{cx cy:Value}{b:Bool}(hx:RV ρ G w x cx)(hy:RV ρ G w y cy)(h:J4 P t x y=some b):
  (Op.equal t cx cy).run P w=.ok b w/\(∀op u z,eqGuard op t u z cx cy=pure ())/\(binOp .eql t cx cy=(do pure (.bool (<-Op.equal t cx cy))))/\(binOp .neq t cx cy=(do pure (.bool (!(<-Op.equal t cx cy))))):=by
 unfold J4 at h;cases hu:P.underlying t with
 | none=> simp [hu] at h
 | some d=>
  cases d with
  | slice e=>
   simp only [hu] at h;split at h <;> first
    | (cases h;done)
    | (simp only [zaa] at h;subst h
       simp only [RV] at hx hy
       first
          | (obtain⟨_,_,_,rfl,_⟩:=hx;subst hy;exact⟨jQ λd=> by simp [Op.equalIn,run_underlying hu],λop _ _=> by cases op <;> rfl,rfl,rfl⟩)
          | (obtain⟨_,_,_,rfl,_⟩:=hy;subst hx;exact⟨jQ λd=> by simp [Op.equalIn,run_underlying hu],λop _ _=> by cases op <;> rfl,rfl,rfl⟩))
  | pointer e=>
   simp only [hu] at h;split at h <;> first
    | (cases h;done)
    | (simp only [zaa] at h;subst h
       simp only [RV] at hx hy
       first
          | (obtain⟨_,rfl,_⟩:=hx;subst hy;exact⟨jQ λd=> by simp [Op.equalIn,run_underlying hu],λop _ _=> by cases op <;> rfl,rfl,rfl⟩)
          | (obtain⟨_,rfl,_⟩:=hy;subst hx;exact⟨jQ λd=> by simp [Op.equalIn,run_underlying hu],λop _ _=> by cases op <;> rfl,rfl,rfl⟩)
          | (obtain⟨_,_,rfl,_⟩:=hx;subst hy;exact⟨jQ λd=> by simp [Op.equalIn,run_underlying hu],λop _ _=> by cases op <;> rfl,rfl,rfl⟩)
          | (obtain⟨_,_,rfl,_⟩:=hy;subst hx;exact⟨jQ λd=> by simp [Op.equalIn,run_underlying hu],λop _ _=> by cases op <;> rfl,rfl,rfl⟩))
  | map k e=>
   simp only [hu] at h;split at h <;> first
    | (cases h;done)
    | (simp only [zaa] at h;subst h
       simp only [RV] at hx hy
       first
          | (obtain⟨_,rfl,_⟩:=hx;subst hy;exact⟨jQ λd=> by simp [Op.equalIn,run_underlying hu],λop _ _=> by cases op <;> rfl,rfl,rfl⟩)
          | (obtain⟨_,rfl,_⟩:=hy;subst hx;exact⟨jQ λd=> by simp [Op.equalIn,run_underlying hu],λop _ _=> by cases op <;> rfl,rfl,rfl⟩))
  | func ps rs vd=>
   simp only [hu] at h;split at h <;> first
    | (cases h;done)
    | (simp only [zaa] at h;subst h
       simp only [RV] at hx hy
       first
          | (obtain⟨_,_,rfl,_⟩:=hx;subst hy;exact⟨jQ λd=> by simp [Op.equalIn,run_underlying hu],λop _ _=> by cases op <;> rfl,rfl,rfl⟩)
          | (obtain⟨_,_,rfl,_⟩:=hy;subst hx;exact⟨jQ λd=> by simp [Op.equalIn,run_underlying hu],λop _ _=> by cases op <;> rfl,rfl,rfl⟩))
  | _=> simp [hu] at h
theorem Ou {op:BinOp}{t:TypeId}{a b:Value}{x y:Operand}(h:(eqGuard op t (.tmp 0) (.tmp 0) a b).run P w=.ok () w):(eqGuard op t x y a b).run P w=.ok () w:=by
 cases op <;> first
  | rfl
  | (cases a <;> first
    | rfl
    | (cases b <;> first
      | rfl
      | exact h
      | (cases x <;> cases y <;> first | rfl | exact h)))
theorem Ku {z:Operand}(h:Qs z=true):z=.const .nilIface:=by
 unfold Qs at h;split at h
 ·rfl
 ·cases h
theorem Ov {op:BinOp}{t:TypeId}{a:Value}{x:Operand}:eqGuard op t x (.const .nilIface) a .nilIface=eqGuard op t (.tmp 0) (.const .nilIface) a .nilIface:=by
 cases op <;> first
  | rfl
  | (cases a <;> first
    | rfl
    | (cases x <;> rfl))
theorem ahl {op:BinOp}{t:TypeId}{x y:AV}{cx cy:Value}{u z:Operand}(hx:RV ρ G w x cx)(hy:RV ρ G w y cy)(h:mZ P op t x y=some v):
  OkP P ρ G w (do eqGuard op t u z cx cy;binOp op t cx cy) v:=by
 unfold mZ at h;split at h
 ·rename_i a b ha hb;rw [E9 x cx a hx ha,E9 y cy b hy hb];cases hp:cO P (do eqGuard op t (.tmp 0) (.tmp 0) a b;binOp op t a b) with
  | none=> simp [hp] at h
  | some r=>
   simp [hp] at h;subst h;have hr:=ku hp w;rw [Sem.run_bind] at hr;cases hg:(eqGuard op t (.tmp 0) (.tmp 0) a b).run P w with
   | halt e w'=> rw [hg] at hr;cases hr
   | ok c w'=>
    have hgp:∀w,(eqGuard op t (.tmp 0) (.tmp 0) a b).run P w=.ok c w:=by
     have hb':∀{α β:Type} (s:Sem α) (f:α->Sem β) (r:β),cO P (s.bind f)=some r->∃a,cO P s=some a:=by
      intro α β s f r
      induction s with
      | pure a=> intro _;exact⟨a,rfl⟩
      | program k ih=> intro h;exact ih P h
      | _=> intro h;simp [Sem.bind,cO] at h
     obtain⟨c',hc'⟩:=hb' _ _ _ hp;intro w0;have h1:=ku hc' w0;have h2:=ku hc' w;rw [hg] at h2;cases h2;exact h1
    have hg':=Ou (x:=u) (y:=z) (by simpa using hgp w);refine⟨r,?_,by simp only [RV]⟩;rw [Sem.run_bind,hg'];rw [hgp w] at hr;exact hr
 ·split at h
  ·cases hn:J4 P t x y with
   | none=> simp [hn] at h
   | some b=>
    simp [hn] at h;subst h;obtain⟨h1,h2,h3,h4⟩:=Qw hx hy hn;exact⟨.bool b,by rw [h2,h3];simp [h1],by simp only [RV]⟩
  ·cases hn:J4 P t x y with
   | none=> simp [hn] at h
   | some b=>
    simp [hn] at h;subst h;obtain⟨h1,h2,h3,h4⟩:=Qw hx hy hn;exact⟨.bool !b,by rw [h2,h4];simp [h1],by simp only [RV]⟩
  ·cases h
theorem aeW {op:BinOp}{t:TypeId}{x y:AV}{cx cy:Value}{u z:Operand}(hx:RV ρ G w x cx)(hy:RV ρ G w y cy)(hz:Qs z=true->cy=.nilIface)(h:ahg P op t z x y=some v):
  OkP P ρ G w (do eqGuard op t u z cx cy;binOp op t cx cy) v:=by
 unfold ahg at h;split at h
 ·rename_i hn;have e:=hz hn;have ez:=Ku hn;subst e ez;unfold apc at h;split at h
  ·rename_i a ha;rw [E9 x cx a hx ha,Ov];cases hp:cO P (do eqGuard op t (.tmp 0) (.const .nilIface) a .nilIface;binOp op t a .nilIface) with
   | none=> simp [hp] at h
   | some r=>
    simp [hp] at h;subst h;exact⟨r,ku hp w,by simp only [RV]⟩
  ·cases h
 ·exact ahl hx hy h
theorem lN {x:Option AV}{cx:Option Value}{d n:Nat}(hx:match x,cx with | some a,some c=> RV ρ G w a c | none,none=> True | _,_=> False)(h:gW x d=some n):
  (x=none/\cx=none/\n=d)∨∃k i,x=some (.s (.int k i))/\cx=some (.int k i)/\0<=i/\n=i.toNat:=by
 unfold gW at h;split at h
 ·cases cx with
  | none=> cases h;exact .inl ⟨rfl,rfl,rfl⟩
  | some c=> exact hx.elim
 ·rename_i k i;split at h
  ·cases cx with
   | none=> exact hx.elim
   | some c=>
    simp only [RV] at hx;subst hx;cases h;exact .inr ⟨k,i,rfl,rfl,‹_›,rfl⟩
  ·cases h
 ·cases h
theorem kN {k:IntKind}{i:Int}{y:Nat}{code:BoundsCode}(h0:0<=i)(h1:i<=y):(Instr.sliceBound (.int k i) y code).run P w=.ok i.toNat w:=
 run_sliceBound w k i y code h0 h1
end
section
variable {P:Program}{ρ:Ren}{H H':aj}{w:World}{v:AV}
def Ox(ρ:Ren)(G:Nat->Nat)(w:World)(x:Option AV)(cx:Option Value):Prop:=match x,cx with | some a,some c=> RV ρ G w a c | none,none=> True | _,_=> False
theorem kP {s:Bool}{len c l h m:Nat}{clo chi cmx:Option Value}
  (hm:(cmx=none/\m=c)∨∃k i,cmx=some (.int k i)/\0<=i/\m=i.toNat/\m<=c)
  (hh:(chi=none/\cmx=none/\h=len)∨∃k i,chi=some (.int k i)/\0<=i/\h=i.toNat/\h<=m)
  (hl:(clo=none/\l=0)∨∃k i,clo=some (.int k i)/\0<=i/\l=i.toNat/\l<=h):(Instr.sliceBounds s len c clo chi cmx).run P w=.ok (l,h,m) w:=by
 rcases hm with⟨rfl,rfl⟩ | ⟨km,im,rfl,hm0,rfl,hm1⟩
 ·rcases hh with⟨rfl,_,rfl⟩ | ⟨kh,ih,rfl,hh0,rfl,hh1⟩
  ·rcases hl with⟨rfl,rfl⟩ | ⟨kl,il,rfl,hl0,rfl,hl1⟩
   ·simp [Instr.sliceBounds]
   ·have a1:il<=(h:Int):=by omega
    simp [Instr.sliceBounds,kN hl0 a1]
  ·have a2:ih<=(m:Int):=by omega
   rcases hl with⟨rfl,rfl⟩ | ⟨kl,il,rfl,hl0,rfl,hl1⟩
   ·simp [Instr.sliceBounds,kN hh0 a2]
   ·have a1:il<=(ih.toNat:Int):=by omega
    simp only [Instr.sliceBounds,Sem.run_bind,Sem.run_pure,Result.andThen_ok,kN hh0 a2];simp [kN hl0 a1]
 ·rcases hh with⟨_,h2,_⟩ | ⟨kh,ih,rfl,hh0,rfl,hh1⟩
  ·cases h2
  ·rcases hl with⟨rfl,rfl⟩ | ⟨kl,il,rfl,hl0,rfl,hl1⟩
   ·have a3:im<=(c:Int):=by omega
    have a2:ih<=(im.toNat:Int):=by omega
    simp only [Instr.sliceBounds,Sem.run_bind,Sem.run_pure,Result.andThen_ok,kN hm0 a3,kN hh0 a2]
   ·have a3:im<=(c:Int):=by omega
    have a2:ih<=(im.toNat:Int):=by omega
    have a1:il<=(ih.toNat:Int):=by omega
    simp only [Instr.sliceBounds,Sem.run_bind,Sem.run_pure,Result.andThen_ok,kN hm0 a3,kN hh0 a2,kN hl0 a1]
theorem kQ {t e:TypeId}{len c l h m n:Nat}{a:Option Addr}{clo chi cmx:Option Value}(hu:P.underlying t=some (.slice e))(hs:szT P e=some n)
  (hb:(Instr.sliceBounds true len c clo chi cmx).run P w=.ok (l,h,m) w):
  (Instr.sliceAt t (.slice a len c) clo chi cmx).run P w=.ok (.slice (if m=l then a else a.map (·.add (l*n))) (h - l) (m - l)) w:=by
 simp only [Instr.sliceAt,Sem.run_bind,run_underlying hu,Result.andThen_ok,Instr.slice,hb,run_sizeOf hs,Sem.run_pure]
theorem Z4 {t:TypeId}{x:AV}{lo hi mx:Option AV}{cx:Value}{clo chi cmx:Option Value}(hx:RV ρ H.gen w x cx)(hlo:Ox ρ H.gen w lo clo)(hhi:Ox ρ H.gen w hi chi)(hmx:Ox ρ H.gen w mx cmx)
  (h:J7 P t x lo hi mx=some v):OkP P ρ H.gen w (Instr.sliceAt t cx clo chi cmx) v:=by
 unfold J7 at h;cases hu:P.underlying t with
 | none=> simp [hu] at h
 | some d=>
  cases d with
  | slice e=>
   simp only [hu] at h;split at h
   ·rename_i n hs;split at h <;> first | (cases h;done) | skip
    rename_i h1 h2 h3;split at h <;> first | (cases h;done) | skip
    rename_i hcond;simp only [zaa] at h;subst h;simp only [RV] at hx;subst hx;have b1:=lN (x:=lo) hlo h1;have b2:=lN (x:=hi) hhi h2;have b3:=lN (x:=mx) hmx h3;refine⟨.slice none 0 0,?_,by simp only [RV]⟩;rw [kQ hu hs (kP (l:=0) (h:=0) (m:=0) (by
       rcases b3 with⟨_,q,_⟩ | ⟨k,i,_,q,q0,q1⟩
       ·exact .inl ⟨q,rfl⟩
       ·exact .inr ⟨k,i,q,q0,q1,by omega⟩) (by
       rcases b2 with⟨p,q,_⟩ | ⟨k,i,_,q,q0,q1⟩
       ·refine .inl ⟨q,?_,rfl⟩;have:=hcond p;rcases b3 with⟨_,q',_⟩ | ⟨k,i,p',_⟩
        ·exact q'
        ·rw [this] at p';cases p'
       ·exact .inr ⟨k,i,q,q0,q1,by omega⟩) (by
       rcases b1 with⟨_,q,_⟩ | ⟨k,i,_,q,q0,q1⟩
       ·exact .inl ⟨q,rfl⟩
       ·exact .inr ⟨k,i,q,q0,q1,by omega⟩))]
    simp
   ·rename_i r g off esz len cap ex m hs;split at h <;> first | (cases h;done) | skip
    rename_i l hh k h1 h2 h3;split at h <;> first | (cases h;done) | skip
    rename_i hcond;obtain⟨rfl,c1,c2,c3,c4⟩:=hcond;simp only [zaa] at h;subst h;simp only [RV] at hx;obtain⟨b,o,c,rfl,q1,q2,q3,q4,q5⟩:=hx;have b1:=lN (x:=lo) hlo h1;have b2:=lN (x:=hi) hhi h2;have b3:=lN (x:=mx) hmx h3
    -- the capacity then
    obtain⟨m,hm,hkm,hmc,hex⟩:∃m,((cmx=none/\m=c)∨∃k i,cmx=some (.int k i)/\0<=i/\m=i.toNat/\m<=c)/\k<=m/\m<=c/\((ex || !isNone mx)=true->m=k):=by
     rcases b3 with⟨p,q,r⟩ | ⟨k',i,p,q,q0,r⟩
     ·refine⟨c,.inl ⟨q,rfl⟩,by omega,zac _,λhx=> ?_⟩;subst p;simp [isNone] at hx;rw [q3 hx,r]
     ·exact⟨k,.inr ⟨k',i,q,q0,r,by omega⟩,zac _,by omega,λ_=> rfl⟩
    have hb:=kP (P:=P) (w:=w) (s:=true) (len:=len) (c:=c) (l:=l) (h:=hh) (m:=m) hm (by
       rcases b2 with⟨p,q,r⟩ | ⟨k',i,_,q,q0,r⟩
       ·refine .inl ⟨q,?_,r⟩;have:=c4 p;rcases b3 with⟨_,q',_⟩ | ⟨_,_,p',_⟩
        ·exact q'
        ·rw [this] at p';cases p'
       ·exact .inr ⟨k',i,q,q0,r,by omega⟩) (by
       rcases b1 with⟨_,q,r⟩ | ⟨k',i,_,q,q0,r⟩
       ·exact .inl ⟨q,r⟩
       ·exact .inr ⟨k',i,q,q0,r,by omega⟩)
    refine⟨_,kQ hu hs hb,?_⟩;simp only [RV];by_cases hml:m=l
    ·refine⟨b,o,m - l,by simp [hml],by omega,by omega,λhx=> by rw [hex hx],q4,λhg=> ?_⟩;obtain⟨sh,ty,n,p1,p2,p3,p4⟩:=q5 hg;refine⟨sh,ty,n,p1,λhc=> by omega,p3,?_⟩;have:(m - l)*esz<=c*esz:=zaD _ (by omega);omega
    ·refine⟨b,o+l*esz,m - l,by simp [hml,add_plain],by omega,by omega,λhx=> by rw [hex hx],q4,λhg=> ?_⟩;obtain⟨sh,ty,n,p1,p2,p3,p4⟩:=q5 hg;refine⟨sh,ty,n,p1,λ_=> by rw [p2 (by omega)];omega,p3,?_⟩;have:l*esz+(m - l)*esz<=c*esz:=by rw [<-zbs];exact zaD _ (by omega)
     omega
   ·rename_i n esz cells m hs;split at h <;> first | (cases h;done) | skip
    rename_i l hh h1 h2;split at h <;> first | (cases h;done) | skip
    rename_i hcond;obtain⟨rfl,c1,c2⟩:=hcond;simp only [zaa] at h;subst h;simp only [RV] at hx;obtain⟨b,o,c,rfl,q1,q2,q3,q4,q5⟩:=hx;have b1:=lN (x:=lo) hlo h1;have b2:=lN (x:=hi) hhi h2;have hmn:cmx=none:=by
     cases cmx with
     | none=> rfl
     | some c=> exact hmx.elim
    have hb:=kP (P:=P) (w:=w) (s:=true) (len:=n) (c:=c) (l:=l) (h:=hh) (m:=c) (.inl ⟨hmn,rfl⟩) (by
       rcases b2 with⟨p,q,r⟩ | ⟨k',i,_,q,q0,r⟩
       ·exact .inl ⟨q,hmn,r⟩
       ·exact .inr ⟨k',i,q,q0,r,by omega⟩) (by
       rcases b1 with⟨_,q,r⟩ | ⟨k',i,_,q,q0,r⟩
       ·exact .inl ⟨q,r⟩
       ·exact .inr ⟨k',i,q,q0,r,by omega⟩)
    refine⟨_,kQ hu hs hb,?_⟩;simp only [RV];have hlen:(List.take ((hh - l)*esz) (List.drop (l*esz) cells)).length=(hh - l)*esz:=by
     simp only [zao,zaK,q2];have:(hh - l)*esz+l*esz<=n*esz:=by rw [<-zbs];exact zaD _ (by omega)
     omega
    by_cases hml:c=l
    ·have:hh - l=0:=by omega
     refine⟨b,o,c - l,by simp [hml],by omega,hlen,q3,q4,?_⟩;rw [this];simp [RVc]
    ·exact⟨b,o+l*esz,c - l,by simp [hml,add_plain],by omega,hlen,q3,q4,qM _ (oI _ q5)⟩
   ·cases h
  | string=>
   simp only [hu] at h;split at h
   ·rename_i s l h1;split at h <;> first | (cases h;done) | skip
    rename_i hh h2;split at h <;> first | (cases h;done) | skip
    rename_i hcond;simp only [zaa] at h;subst h;simp only [RV] at hx;subst hx;have b1:=lN (x:=lo) hlo h1;have b2:=lN (x:=hi) hhi h2;have hmn:cmx=none:=by
     cases cmx with
     | none=> rfl
     | some c=> exact hmx.elim
    subst hmn;have hb:=kP (P:=P) (w:=w) (s:=false) (len:=s.size) (c:=s.size) (l:=l) (h:=hh) (m:=s.size) (.inl ⟨rfl,rfl⟩) (by
       rcases b2 with⟨p,q,r⟩ | ⟨k',i,_,q,q0,r⟩
       ·exact .inl ⟨q,rfl,r⟩
       ·exact .inr ⟨k',i,q,q0,r,by omega⟩) (by
       rcases b1 with⟨_,q,r⟩ | ⟨k',i,_,q,q0,r⟩
       ·exact .inl ⟨q,r⟩
       ·exact .inr ⟨k',i,q,q0,r,by omega⟩)
    refine⟨.string (s.extract l hh),?_,by simp only [RV]⟩;simp only [Instr.sliceAt,Sem.run_bind,run_underlying hu,Result.andThen_ok,Instr.slice,zaL,zai,if_false,hb,Sem.run_pure]
   ·cases h
  | _=> simp [hu] at h
end
theorem uM(off:Nat):∀(l:List Value) (k:Nat) (cs:Array Value),(l.zipIdx k).foldl (λcs (p:Value × Nat)=> cs.setIfInBounds (off+p.2) p.1) cs=setMany cs (off+k) l
 | [],_,_=> rfl
 | v::l,k,cs=> by
  simp only [List.zipIdx_cons,zbL,setMany];exact uM off l (k+1) _
section
variable {P:Program}{ρ:Ren}{G:Nat->Nat}{H H':aj}{w:World}{v:AV}
theorem Vt {cells xs:List AV}{cs vs:List Value}{off:Nat}(hc:RVs ρ G w cells cs)(hx:RVs ρ G w xs vs)(hle:off+xs.length<=cells.length):RVs ρ G w (setAt cells off xs) (setMany cs.toArray off vs).toList:=by
 have h1:=bM hc;have h2:=bM hx;refine qc (by rw [gX _ _ _ hle,aS,dG];simp [h1]) λi x hi=> ?_;rw [sW _ _ _ hle] at hi;have hset:=jZ vs cs.toArray off i (by simp;omega);rw [h2] at hset;by_cases hlt:off<=i/\i < off+xs.length
 ·rw [if_pos hlt] at hi hset;obtain⟨u,hu,h3⟩:=iQ hx hi;exact⟨u,by rw [Array.getElem?_toList,hset,hu],h3⟩
 ·rw [if_neg hlt] at hi hset;obtain⟨u,hu,h3⟩:=iQ hc hi;exact⟨u,by rw [Array.getElem?_toList,hset];simpa using hu,h3⟩
theorem CX {place:Nat->Option (Nat × Nat)}:∀(parts:List (Nat × AV)) (mW:List (Nat × Value)) (cells:List AV) (cs:Array Value) (cells':List AV),
  parts.map (·.1)=mW.map (·.1)->RVs ρ G w (parts.map (·.2)) (mW.map (·.2))->RVs ρ G w cells cs.toList->dM place cells parts=some cells'->
  ∃cs',Instr.fill place cs mW=some cs'/\RVs ρ G w cells' cs'.toList
 | [],[],cells,cs,cells',_,_,hc,h=> by
  simp only [dM,zaa] at h;subst h;exact⟨cs,rfl,hc⟩
 | [],_::_,_,_,_,hi,_,_,_=> by simp at hi
 | _::_,[],_,_,_,hi,_,_,_=> by simp at hi
 | (i,x)::parts,(j,y)::mW,cells,cs,cells',hi,hp,hc,h=> by
  simp only [zaC,zbW] at hi;obtain⟨rfl,hi⟩:=hi;simp only [zaC,RVs] at hp;obtain⟨_,_,e,h1,h2⟩:=hp;cases e;simp only [dM] at h;cases hpl:place i with
  | none=> simp [hpl] at h
  | some os=>
   obtain⟨off,size⟩:=os;simp only [hpl] at h;split at h
   ·rename_i hcond;obtain⟨hs,hle⟩:=hcond;have hcells:=Hw h1;have hlen:=bM hcells;rw [aS] at hlen;have amV:=bM hc;rw [aS] at amV;have hset:=Vt hc hcells hle;obtain⟨cs',h3,h4⟩:=CX parts mW _ _ cells' hi h2 hset h;refine⟨cs',?_,h4⟩;simp only [Instr.fill,hpl];rw [if_neg (by simp;omega)];rw [<-h3]
    congr 1
    rw [<-Array.foldl_toList,Array.toList_zipIdx];exact uM off y.cells.toList 0 _
   ·cases h
theorem TL {fs:Array Field}(h:fs.all (λf=> (szT P f.type).isSome)=true):
  (fs.mapM λf=> do pure (f.offset,<-sizeOf f.type):Sem (Array (Nat × Nat))).run P w=.ok (fs.map λf=> (f.offset,(szT P f.type).getD 0)) w:=by
 rw [Array.mapM_eq_mapM_toList];have key:∀l:List Field,(∀f∈l,(szT P f.type).isSome=true)->(l.mapM λf=> do pure (f.offset,<-sizeOf f.type):Sem (List (Nat × Nat))).run P w=.ok (l.map λf=> (f.offset,(szT P f.type).getD 0)) w:=by
  intro l
  induction l with
  | nil=> intro _;simp
  | cons f l ih=>
   intro hl;have h0:=hl f (by simp);cases hs:szT P f.type with
   | none=> simp [hs] at h0
   | some n=>
    rw [zbp];simp only [Sem.run_bind,run_sizeOf hs,Sem.run_pure,Result.andThen_ok,ih (λg hg=> hl g (by simp [hg])),zaC,hs,zay]
 rw [Sem.run_map,key fs.toList (λf hf=> by
  have:=Array.all_eq_true'.1 h f (by simpa using hf);exact this)]
 simp only [Result.andThen_ok]
 congr 1
 exact(zcc.1 (by simp))
theorem Z5 {t:TypeId}{parts:List (Nat × AV)}{mW:Array (Nat × Value)}(hi:parts.map (·.1)=mW.toList.map (·.1))(hp:RVs ρ G w (parts.map (·.2)) (mW.toList.map (·.2)))
  (h:dS P t parts=some v):OkP P ρ G w (Instr.build t mW) v:=by
 unfold dS vH at h;cases hz:wR P t with
 | none=> simp [hz] at h
 | some z=>
  cases hu:P.underlying t with
  | none=> simp [hz,hu] at h
  | some d=>
   cases d with
   | struct fs=>
    simp only [hz,hu,zah] at h;split at h
    ·rename_i hall;cases hf:dM (J3 P fs) (z.cells.toList.map .s) parts with
     | none=> simp [hf] at h
     | some cells=>
      simp only [hf,zah,zaa] at h;subst h;obtain⟨cs,h1,h2⟩:=CX (ρ:=ρ) (G:=G) (w:=w) parts mW.toList _ z.cells cells hi hp (fF _) hf;refine⟨.agg cs,?_,by simp only [RV];exact⟨cs,rfl,h2⟩⟩;have ahm:(λi=> (fs.map λf=> (f.offset,(szT P f.type).getD 0))[i]?)=J3 P fs:=by
       funext i
       simp only [J3,Array.getElem?_map];cases hfi:fs[i]? with
       | none=> simp
       | some f=>
        have h0:=Array.all_eq_true'.1 hall f (Array.mem_of_getElem? hfi);cases hs:szT P f.type with
        | none=> simp [hs] at h0
        | some n=> simp [hs]
      simp only [Instr.build,Sem.run_bind,eG hz,run_underlying hu,Result.andThen_ok,TL hall];rw [ahm,h1];simp
    ·cases h
   | array n e=>
    simp only [hz,hu,zah] at h;cases hs:szT P e with
    | none=> simp [hs] at h
    | some m=>
     simp only [hs] at h;cases hf:dM (λi=> some (i*m,m)) (z.cells.toList.map .s) parts with
     | none=> simp [hf] at h
     | some cells=>
      simp only [hf,zah,zaa] at h;subst h;obtain⟨cs,h1,h2⟩:=CX (ρ:=ρ) (G:=G) (w:=w) parts mW.toList _ z.cells cells hi hp (fF _) hf;refine⟨.agg cs,?_,by simp only [RV];exact⟨cs,rfl,h2⟩⟩;simp only [Instr.build,Sem.run_bind,eG hz,run_underlying hu,Result.andThen_ok,run_sizeOf hs,h1,Sem.run_pure]
   | _=> simp [hz,hu] at h
theorem Fa(z:List AV)(hz:0 < z.length):∀(n i:Nat),i < n*z.length->(bI z n)[i]?=z[i % z.length]?
 | 0,i,h=> by simp at h
 | n+1,i,h=> by
  simp only [bI];rw [List.getElem?_append];by_cases hi:i < z.length
  ·rw [if_pos hi,zcd hi]
  ·have hmod:(i - z.length) % z.length=i % z.length:=by rw [Nat.mod_eq_sub_mod (a:=i) (by omega)]
   rw [if_neg hi,Fa z hz n (i - z.length) (by rw [zbs,zbd] at h;omega),hmod]
theorem gY(z:List AV):∀n,(bI z n).length=n*z.length
 | 0=> by simp [bI]
 | n+1=> by simp [bI,gY z n,zbs];omega
theorem sZ(z:Value)(n:Nat):RVs ρ G w (bI (z.cells.toList.map .s) n) ((Array.range (n*z.cells.size)).map (z.cells[· % z.cells.size]!)).toList:=by
 have hl:(z.cells.toList.map AV.s).length=z.cells.size:=by simp
 refine qc (by rw [gY,hl];simp) λi x hx=> ?_;have hi:i < n*z.cells.size:=by
  rcases zaR i (n*z.cells.size) with h | h
  ·exact h
  ·rw [zaG (by rw [gY,hl];exact h)] at hx;cases hx
 have hpos:0 < z.cells.size:=by
  rcases Nat.eq_zero_or_pos z.cells.size with h | h
  ·rw [h,Nat.mul_zero] at hi;omega
  ·exact h
 rw [Fa _ (by rw [hl];exact hpos) n i (by rw [hl];exact hi),hl] at hx;have hm:i % z.cells.size < z.cells.size:=Nat.mod_lt _ hpos;refine⟨z.cells[i % z.cells.size],?_,?_⟩
 ·simp [hi,hm]
 ·have:x=.s z.cells[i % z.cells.size]:=by
   simp [hm] at hx;exact hx.symm
  subst this;simp only [RV]
theorem lQ {t e:TypeId}(h:wQ P t=some e):P.underlying t=some (.slice e):=by
 unfold wQ at h;split at h
 ·rename_i hu;cases h;exact hu
 ·cases h
theorem wW {t:TypeId}{z:List AV}(h:vH P t=some z):∃v,wR P t=some v/\z=v.cells.toList.map .s:=by
 unfold vH at h;cases hz:wR P t with
 | none=> simp [hz] at h
 | some v=> simp [hz] at h;exact⟨v,rfl,h.symm⟩
theorem qQ(R:Rel ρ H w){e:TypeId}{cells:List AV}{cs:Array Value}{m len cap c:Nat}{ex:Bool}(hc:RVs ρ H.gen w cells (cs.toList.take cells.length))(hle:cells.length<=cs.size)(h1:len<=cap)(h2:cap<=c)(h3:ex=true->c=cap)(h4:c*m<=cs.size){ty:TypeId}(hX:Xct ty e 0 cs.size cells.length):
  ∃ρ',Rel ρ' (H.new (.blk 0 ty cells)) (w.alloc (.cells cs e))/\RV ρ' (H.new (.blk 0 ty cells)).gen (w.alloc (.cells cs e)) (.sl H.next 0 0 m len cap ex) (.slice (some ⟨w.heap.size,0,none⟩) len c)/\Ext ρ H w ρ' (H.new (.blk 0 ty cells)) (w.alloc (.cells cs e)):=by
 have hn:=Vr (e:=e) (ty:=ty) (cells:=cells) (cs:=cs) R hle (λi x hx=> by
  obtain⟨u,hu,h5⟩:=iQ hc hx;rw [zaA] at hu;split at hu
  ·exact⟨u,by simpa using hu,h5⟩
  ·cases hu) hX
 refine⟨_,hn.1,?_,hn.2⟩;simp only [RV];refine⟨w.heap.size,0,c,rfl,h1,h2,h3,by omega,λ_=> ⟨0,e,cs.size,by simp [updρ],λ_=> rfl,?_,by omega⟩⟩;rw [dI,jg];rfl
theorem Vu {xs:List AV}{l:List Value}(h:RVs ρ G w xs l):RVs ρ G w xs (l.take xs.length):=by
 rw [zas (by rw [bM h];exact zac _)];exact h
theorem Ib(R:Rel ρ H w){t:TypeId}{len:Nat}{parts:List (Nat × AV)}{mW:Array (Nat × Value)}(hi:parts.map (·.1)=mW.toList.map (·.1))(hp:RVs ρ H.gen w (parts.map (·.2)) (mW.toList.map (·.2)))
  (h:bG P t len parts H=some (v,H')):Ok P ρ H w (Instr.buildSlice t len mW) v H':=by
 unfold bG at h;cases he:wQ P t with
 | none=> simp [he] at h
 | some e=>
  simp only [he] at h;cases hs:szT P e with
  | none=> simp [hs] at h
  | some m=>
   cases hz:vH P e with
   | none=> simp [hs,hz] at h
   | some z=>
    simp only [hs,hz] at h;obtain⟨zv,hzv,rfl⟩:=wW hz;split at h <;> first | (cases h;done) | skip
    rename_i hcond;obtain⟨hzl,hbig⟩:=hcond;simp at hzl;split at h <;> first | (cases h;done) | skip
    rename_i cells hf;split at h <;> first | (cases h;done) | skip
    simp only [zaa,zad] at h;obtain⟨rfl,rfl⟩:=h
    -- the zero cells
    obtain⟨zc,hzr,hz0⟩:∃zc:Array Value,RVs ρ H.gen w (bI (zv.cells.toList.map .s) len) ((Array.range (len*m)).map (zc[· % zc.size]!)).toList/\((len*m=0/\zc=#[])∨(¬len*m=0/\zc=zv.cells)):=by
     by_cases h0:len*m=0
     ·refine⟨#[],?_,.inl ⟨h0,rfl⟩⟩;rw [h0];have:bI (zv.cells.toList.map .s) len=[]:=zan (by rw [gY];simp [hzl,h0]);rw [this];simp [RVs]
     ·refine⟨zv.cells,?_,.inr ⟨h0,rfl⟩⟩;have:=sZ (ρ:=ρ) (G:=H.gen) (w:=w) zv len;rw [hzl] at this ⊢;exact this
    obtain⟨cs,h1,h2⟩:=CX parts mW.toList _ _ cells hi hp hzr hf;have hlen:=bM h2;have hfl:cs.size=len*m:=by
     have hsz:∀(place:Nat->Option (Nat × Nat)) (l:List (Nat × Value)) (a b:Array Value),Instr.fill place a l=some b->b.size=a.size:=by
      intro place l
      induction l with
      | nil=> intro a b h;simp [Instr.fill] at h;rw [h]
      | cons p l ih=>
       intro a b h;obtain⟨i,x⟩:=p;simp only [Instr.fill] at h;split at h
       ·cases h
       ·split at h
        ·cases h
        ·rw [ih _ _ h,<-Array.foldl_toList,Array.toList_zipIdx,uM,dG]
     rw [hsz _ _ _ _ h1];simp
    obtain⟨ρ',q1,q2,q3⟩:=qQ (ty:=e) (hX:=Xct.low (qN hzv) (by have:=hlen;rw [aS] at this;omega)) (e:=e) (cells:=cells) (cs:=cs) (m:=m) (len:=len) (cap:=len) (c:=len) (ex:=true) R (Vu h2) (by rw [<-hlen,aS];exact zac _) (zac _) (zac _) (λ_=> rfl) (by rw [hfl];exact zac _);refine⟨_,ρ',_,?_,q1,q2,q3⟩;have hnb:¬len*m > 2 ^ 24:=by omega
    simp only [Instr.buildSlice,Sem.run_bind,run_underlying (lQ he),Result.andThen_ok,run_sizeOf hs,hnb,if_false];rcases hz0 with⟨h0,rfl⟩ | ⟨h0,rfl⟩
    ·rw [if_pos h0];simp only [Result.andThen_ok,h1,Sem.run_bind,newRow,run_newObj,Sem.run_pure];rfl
    ·rw [if_neg h0];simp only [Result.andThen_ok,h1,Sem.run_bind,newRow,run_newObj,Sem.run_pure,eG hzv];rfl
theorem Kv(R:Rel ρ H w){t:TypeId}{x y:AV}{cx cy:Value}(hx:RV ρ H.gen w x cx)(hy:RV ρ H.gen w y cy)(h:nG P t x y H=some (v,H')):Ok P ρ H w (Instr.makeSlice t cx cy) v H':=by
 unfold nG at h;split at h <;> first | (cases h;done) | skip
 rename_i e k1 l k2 c he;simp only [RV] at hx hy;subst hx hy;cases hs:szT P e with
 | none=> simp [hs] at h
 | some m=>
  cases hb:vK P e with
  | none=> simp [hs,hb] at h
  | some by_=>
   cases hz:vH P e with
   | none=> simp [hs,hb,hz] at h
   | some z=>
    simp only [hs,hb,hz] at h;obtain⟨zv,hzv,rfl⟩:=wW hz;split at h <;> first | (cases h;done) | skip
    rename_i hcond;obtain⟨hzl,hcell,h0,h1,h2,h3⟩:=hcond;simp at hzl;simp only [zaa,zad] at h;obtain⟨rfl,rfl⟩:=h;cases aeX:P.info? e with
    | none=> simp [szT,aeX] at hs
    | some inf=>
     simp [szT,aeX] at hs;simp [vK,aeX] at hb;have hzi:inf.zero=some zv:=by simpa [aeX] using ZU hzv
     have hrun:=run_make (P:=P) (w:=w) t e inf zv (lQ he) aeX hzi k1 k2 l c h0 h1 (by rw [hb];omega) (by omega);have acn:=sZ (ρ:=ρ) (G:=H.gen) (w:=w) zv c.toNat;have heq:((Array.range (c.toNat*zv.cells.size)).map (zv.cells[· % zv.cells.size]!))=madeCells zv.cells (c.toNat*inf.size):=by
      rw [madeCells,hs,hzl]
     have hml:(madeCells zv.cells (c.toNat*inf.size)).size=c.toNat*m:=by rw [size_madeCells,hs]
     have hzz:(bI (zv.cells.toList.map .s) c.toNat).length=c.toNat*m:=by rw [gY];simp [hzl]
     obtain⟨ρ',q1,q2,q3⟩:=qQ (ty:=e) (hX:=Xct.low (qN hzv) (by rw [hml,hzz])) (e:=e) (cells:=bI (zv.cells.toList.map .s) c.toNat) (cs:=madeCells zv.cells (c.toNat*inf.size)) (m:=m) (len:=l.toNat) (cap:=c.toNat) (c:=c.toNat) (ex:=true) R
      (Vu (by rw [heq] at acn;exact acn)) (by rw [hml,hzz];exact zac _) (by omega) (zac _) (λ_=> rfl) (by rw [hml];exact zac _)
     exact⟨_,ρ',_,hrun,q1,q2,q3⟩
end
section
variable {P:Program}{ρ:Ren}{G:Nat->Nat}{H H':aj}{w:World}{v:AV}
theorem Oy {t:TypeId}{k:IntKind}{e:TypeId}(h:ag7 P t=some (k,e)):∃kt,P.underlying t=some (.map kt e)/\P.underlying kt=some (.int k):=by
 unfold ag7 at h;split at h
 ·rename_i kt e' hu;split at h
  ·rename_i ik hk;simp only [zaa,zad] at h;obtain⟨rfl,rfl⟩:=h;exact⟨kt,hu,hk⟩
  ·cases h
 ·cases h
theorem kZ {b:Nat}{ces:Array MapEntry}{cl:Nat}(h:w.heap[b]?=some (.map ces cl)):(getObj b).run P w=.ok (.map ces cl) w:=by
 simp [getObj,Sem.run,h]
theorem uN {b:Nat}{ces:Array MapEntry}{cl:Nat}{o:Obj}(h:w.heap[b]?=some (.map ces cl)):(setObj b o).run P w=.ok () (jc w b o):=by
 simp [setObj,Sem.run,h,jc]
theorem run_checkKey {kt:TypeId}{k:IntKind}{n:Int}(hk:P.underlying kt=some (.int k))(e:Bool)(d:Nat):(Instr.checkKey e (d+1) kt (.int k n)).run P w=.ok () w:=by
 simp [Instr.checkKey,run_underlying hk]
theorem oK {k:IntKind}{n:Int}:∀(es:List (Int × AV)) (l:List MapEntry) (i:Nat),RVm ρ G w k es l->nM es n=none->Instr.findNow (.int k) (.int k n) l i=some none
 | [],l,i,h,_=> by simp only [RVm] at h;subst h;rfl
 | (m,x)::es,l,i,h,hf=> by
  obtain⟨e,l',rfl,hk,_,h2⟩:=(by simpa only [RVm] using h)
  simp only [nM] at hf;split at hf
  ·cases hf
  ·rename_i hne;simp only [Instr.findNow,hk,Instr.sameNow];have:(n==m)=false:=by simp;omega
   simp [this,oK es l' (i+1) h2 hf]
theorem oL {k:IntKind}{n:Int}{x:AV}:∀(es:List (Int × AV)) (l:List MapEntry) (i:Nat),RVm ρ G w k es l->nM es n=some x->
  ∃j e,Instr.findNow (.int k) (.int k n) l i=some (some (i+j,e.val))/\l[j]?=some e/\e.key=.int k n/\RV ρ G w x e.val/\
   (∀y cy,RV ρ G w y cy->RVm ρ G w k (G9 es n y) (l.modify j λe=> { e with key:=.int k n,val:=cy }))/\RVm ρ G w k (wS es n) (l.eraseIdx j)
 | [],l,i,h,hf=> by simp [nM] at hf
 | (m,z)::es,l,i,h,hf=> by
  obtain⟨e,l',rfl,hk,h1,h2⟩:=(by simpa only [RVm] using h)
  simp only [nM] at hf;split at hf
  ·rename_i heq;cases hf;subst heq;refine⟨0,e,?_,rfl,hk,h1,λy cy hy=> ?_,?_⟩
   ·simp [Instr.findNow,hk,Instr.sameNow]
   ·simp only [G9,if_true,List.modify_zero_cons,RVm];exact⟨_,_,rfl,rfl,hy,h2⟩
   ·simpa only [wS,if_true,List.eraseIdx_zero,List.tail_cons] using h2
  ·rename_i hne;obtain⟨j,e',p1,p2,p3,p4,p5,p6⟩:=oL es l' (i+1) h2 hf;refine⟨j+1,e',?_,by simpa using p2,p3,p4,λy cy hy=> ?_,?_⟩
   ·have:(n==m)=false:=by simp;omega
    simp only [Instr.findNow,hk,Instr.sameNow,if_true,this];rw [p1,show i+1+j=i+(j+1) from by omega]
   ·simp only [G9,if_neg hne,List.modify_succ_cons,RVm];exact⟨_,_,rfl,hk,h1,p5 y cy hy⟩
   ·simp only [wS,if_neg hne,List.eraseIdx_cons_succ,RVm];exact⟨_,_,rfl,hk,h1,p6⟩
theorem Kw {k:IntKind}{n:Int}{y:AV}{cy:Value}{born:Nat}(hy:RV ρ G w y cy):∀(es:List (Int × AV)) (l:List MapEntry),RVm ρ G w k es l->nM es n=none->RVm ρ G w k (G9 es n y) (l++[{ key:=.int k n,val:=cy,born }])
 | [],l,h,_=> by
  simp only [RVm] at h;subst h;simp only [G9,zaX,RVm];exact⟨_,_,rfl,rfl,hy,rfl⟩
 | (m,z)::es,l,h,hf=> by
  obtain⟨e,l',rfl,hk,h1,h2⟩:=(by simpa only [RVm] using h)
  simp only [nM] at hf;split at hf
  ·cases hf
  ·rename_i hne;simp only [G9,if_neg hne,zbP,RVm];exact⟨_,_,rfl,hk,h1,Kw hy es l' h2 hf⟩
theorem Fb {n:Int}:∀(es:List (Int × AV)),nM es n=none->wS es n=es
 | [],_=> rfl
 | (m,z)::es,hf=> by
  simp only [nM] at hf;split at hf
  ·cases hf
  ·rename_i hne;simp only [wS,if_neg hne,Fb es hf]
theorem run_findKey {kt:TypeId}{k:IntKind}{n:Int}{l:List MapEntry}{r:Option (Nat × Value)}(hk:P.underlying kt=some (.int k))(h:Instr.findNow (.int k) (.int k n) l 0=some r):
  (Instr.findKey kt (.int k n) l).run P w=.ok r w:=by
 simp [Instr.findKey,run_underlying hk,h]
theorem Born.push {es:List MapEntry}{cl:Nat}(h:Born es cl){key val:Value}:Born (es++[{ key,val,born:=cl }]) (cl+1):=by
 obtain⟨h1,h2⟩:=h;refine⟨λx hx=> ?_,?_⟩
 ·rcases za2.1 hx with hx | hx
  ·exact Nat.lt_succ_of_lt (h1 x hx)
  ·rw [zaS] at hx;subst hx;exact Nat.lt_succ_self _
 ·rw [zbk];refine List.nodup_append.2 ⟨h2,by simp,λa ha c hc=> ?_⟩;simp only [zaC,zbY,zaS] at hc;subst hc;obtain⟨x,hx,rfl⟩:=zaN.1 ha;exact zbX (h1 x hx)
theorem tq {g:MapEntry->MapEntry}(hg:∀e,(g e).born=e.born):∀(es:List MapEntry) (j:Nat),(es.modify j g).map (·.born)=es.map (·.born)
 | [],j=> by simp
 | e::es,0=> by simp [hg]
 | e::es,j+1=> by simp [tq hg es j]
theorem Born.modify {es:List MapEntry}{cl:Nat}(h:Born es cl){j:Nat}{g:MapEntry->MapEntry}(hg:∀e,(g e).born=e.born):Born (es.modify j g) cl:=by
 have hm:=tq hg es j;refine⟨λx hx=> ?_,by rw [hm];exact h.2⟩;have:x.born∈es.map (·.born):=by rw [<-hm];exact zaN.2 ⟨x,hx,rfl⟩
 obtain⟨y,hy,e⟩:=zaN.1 this;have:=h.1 y hy;rw [<-e];exact this
theorem Born.erase {es:List MapEntry}{cl:Nat}(h:Born es cl){j:Nat}:Born (es.eraseIdx j) cl:=
 ⟨λx hx=> h.1 x ((List.eraseIdx_sublist _ _).mem hx),h.2.sublist ((List.eraseIdx_sublist _ _).map _)⟩
theorem Ic(R:Rel ρ H w){r:Nat}{k:IntKind}{es:List (Int × AV)}{cx:Value}(hx:RV ρ H.gen w (.mp r) cx)(ho:H.get r=.map k es):
  ∃b ces cl,cx=.map (some b)/\ρ r=some (b,0)/\w.heap[b]?=some (.map ces cl)/\RVm ρ H.gen w k es ces.toList/\Born ces.toList cl:=by
 simp only [RV] at hx;obtain⟨b,rfl,hr⟩:=hx;have hr:=hr (by simp [aj.gen,ho,dR.gen]);have sF:=R.obj r b 0 hr;simp only [vX,ho] at sF;obtain⟨ces,cl,h1,_,h2,h3⟩:=sF;exact⟨b,ces,cl,rfl,hr,h1,h2,h3⟩
theorem Vw(R:Rel ρ H w){t:TypeId}{x i:AV}{ok:Bool}{cx ci:Value}(hx:RV ρ H.gen w x cx)(hi:RV ρ H.gen w i ci)(h:Om P t x i ok H=some (v,H')):H'=H/\OkP P ρ H.gen w (Instr.lookup t cx ci ok) v:=by
 obtain⟨h',hh⟩:=qP h
 clear h
 subst hh;have h:=h'
 clear h'
 refine⟨rfl,?_⟩;unfold Vm at h;split at h <;> first | (cases h;done) | skip
 rename_i k e hm;obtain⟨kt,hu,hk⟩:=Oy hm;split at h <;> first | (cases h;done) | skip
 rename_i z hz;split at h <;> first | (cases h;done) | skip
 rename_i r;split at h <;> first | (cases h;done) | skip
 rename_i k' n;split at h <;> first | (cases h;done) | skip
 rename_i k'' es ho;simp only [aT,zah,zaa] at ho;split at h <;> first | (cases h;done) | skip
 rename_i hkk;obtain⟨rfl,rfl⟩:=hkk;obtain⟨b,ces,cl,rfl,hr,hb,hes,hbn⟩:=Ic R hx ho;simp only [RV] at hi;subst hi;have hck:∀e',(Instr.checkKey e' 10000 kt (.int k'' n)).run P w=.ok () w:=λe'=> run_checkKey hk e' 9999;cases hf:nM es n with
 | none=>
  simp only [hf,zaa] at h;subst h;have hfind:=run_findKey (P:=P) (w:=w) hk (oK es ces.toList 0 hes hf);refine⟨if ok then .tuple #[z,.bool false] else z,?_,?_⟩
  ·simp only [Instr.lookup,Sem.run_bind,run_underlying hu,Result.andThen_ok,kZ hb,Sem.run_pure,hck,hfind,eG hz]
  ·cases ok
   ·simp only [RV,zai,if_false]
   ·simp only [RV,if_true];exact⟨_,rfl,iF (by simp only [RV]) (iF (by simp only [RV]) iI)⟩
 | some y=>
  simp only [hf,zaa] at h;subst h;obtain⟨j,en,p1,p2,p3,p4,_⟩:=oL es ces.toList 0 hes hf;have hfind:=run_findKey (P:=P) (w:=w) hk p1;refine⟨if ok then .tuple #[en.val,.bool true] else en.val,?_,?_⟩
  ·simp only [Instr.lookup,Sem.run_bind,run_underlying hu,Result.andThen_ok,kZ hb,Sem.run_pure,hck,hfind]
  ·cases ok
   ·simpa only [zai,if_false] using p4
   ·simp only [RV,if_true];exact⟨_,rfl,iF p4 (iF (by simp only [RV]) iI)⟩
theorem Ky(R:Rel ρ H w){t:TypeId}{x i y:AV}{cx ci cy:Value}(hx:RV ρ H.gen w x cx)(hi:RV ρ H.gen w i ci)(hy:RV ρ H.gen w y cy)(h:pY P t x i y H=some (v,H')):
  v=aO/\∃ρ' w',(Instr.mapUpdate t cx ci cy).run P w=.ok () w'/\Rel ρ' H' w'/\Ext ρ H w ρ' H' w':=by
 unfold pY at h;split at h <;> first | (cases h;done) | skip
 rename_i k e r k' n hm;obtain⟨kt,hu,hk⟩:=Oy hm;split at h <;> first | (cases h;done) | skip
 rename_i k'' es ho;split at h <;> first | (cases h;done) | skip
 rename_i hkk;obtain⟨rfl,rfl,_⟩:=hkk;simp only [zaa,zad] at h;obtain⟨rfl,rfl⟩:=h;obtain⟨b,ces,cl,rfl,hr,hb,hes,hbn⟩:=Ic R hx ho;simp only [RV] at hi;subst hi;have hck:(Instr.checkKey false 10000 kt (.int k'' n)).run P w=.ok () w:=run_checkKey hk false 9999;cases hf:nM es n with
 | none=>
  have hfind:=run_findKey (P:=P) (w:=w) hk (oK es ces.toList 0 hes hf);have hput:=Hu (es':=G9 es n y) (ZJ:=ces.push { key:=.int k'' n,val:=cy,born:=cl }) (cl':=cl+1) R hr ho hb (by rw [Array.toList_push];exact Kw hy es _ hes hf) (by rw [Array.toList_push];exact hbn.push);refine⟨rfl,ρ,_,?_,hput.1,hput.2⟩;simp only [Instr.mapUpdate,Sem.run_bind,run_underlying hu,Result.andThen_ok,kZ hb,hck,hfind,uN hb]
 | some z=>
  obtain⟨j,en,p1,p2,p3,p4,p5,_⟩:=oL es ces.toList 0 hes hf;rw [za7] at p1;have hfind:=run_findKey (P:=P) (w:=w) hk p1;have hput:=Hu (es':=G9 es n y) (ZJ:=ces.modify j λe=> { e with key:=.int k'' n,val:=cy }) (cl':=cl) R hr ho hb (by rw [Array.toList_modify];exact p5 y cy hy) (by rw [Array.toList_modify];exact hbn.modify λ_=> rfl);refine⟨rfl,ρ,_,?_,hput.1,hput.2⟩;have hg:ces[j]?=some en:=by simpa using p2
  have amW:Instr.keyThatStays en.key (.int k'' n)=pure (.int k'' n):=by
   rw [p3];simp [Instr.keyThatStays,Instr.sameBits]
  simp only [Instr.mapUpdate,Sem.run_bind,run_underlying hu,Result.andThen_ok,kZ hb,hck,hfind,hg,zah,zay,amW,Sem.run_pure,uN hb]
theorem Vx(R:Rel ρ H w){t ty:TypeId}{ts:Array TypeId}{x i:AV}{cx ci:Value}(ht:ts[0]?=some t)(hx:RV ρ H.gen w x cx)(hi:RV ρ H.gen w i ci)(h:Ho P t x i H=some (v,H')):
  Ok P ρ H w (Builtin.delete_ ts ty #[cx,ci]) v H':=by
 unfold Ho at h;split at h <;> first | (cases h;done) | skip
 rename_i k e r k' n hm;obtain⟨kt,hu,hk⟩:=Oy hm;split at h <;> first | (cases h;done) | skip
 rename_i k'' es ho;split at h <;> first | (cases h;done) | skip
 rename_i hkk;obtain⟨rfl,rfl,_⟩:=hkk;simp only [zaa,zad] at h;obtain⟨rfl,rfl⟩:=h;obtain⟨b,ces,cl,rfl,hr,hb,hes,hbn⟩:=Ic R hx ho;simp only [RV] at hi;subst hi;have hck:∀e',(Instr.checkKey e' 10000 kt (.int k'' n)).run P w=.ok () w:=λe'=> run_checkKey hk e' 9999;have a0:(#[Value.map (some b),Value.int k'' n]:Array Value)[0]?=some (.map (some b)):=rfl;have a1:(#[Value.map (some b),Value.int k'' n]:Array Value)[1]?=some (.int k'' n):=rfl;cases hf:nM es n with
 | none=>
  have hfind:=run_findKey (P:=P) (w:=w) hk (oK es ces.toList 0 hes hf);have hput:=Hu (es':=wS es n) (ZJ:=ces) (cl':=cl) R hr ho hb (by rw [Fb es hf];exact hes) hbn;refine⟨.tuple #[],ρ,_,?_,hput.1,by simp only [RV];exact⟨_,rfl,iI⟩,hput.2⟩;simp only [Builtin.delete_,ht,a0,a1,Sem.run_bind,run_underlying hu,Result.andThen_ok,kZ hb,hck,hfind,uN hb,Sem.run_pure]
 | some z=>
  obtain⟨j,en,p1,p2,p3,p4,_,p6⟩:=oL es ces.toList 0 hes hf;rw [za7] at p1;have hfind:=run_findKey (P:=P) (w:=w) hk p1;have hput:=Hu (es':=wS es n) (ZJ:=ces.eraseIdxIfInBounds j) (cl':=cl) R hr ho hb (by
   have:(ces.eraseIdxIfInBounds j).toList=ces.toList.eraseIdx j:=by simp
   rw [this];exact p6) (by
   have:(ces.eraseIdxIfInBounds j).toList=ces.toList.eraseIdx j:=by simp
   rw [this];exact hbn.erase)
  refine⟨.tuple #[],ρ,_,?_,hput.1,by simp only [RV];exact⟨_,rfl,iI⟩,hput.2⟩;simp only [Builtin.delete_,ht,a0,a1,Sem.run_bind,run_underlying hu,Result.andThen_ok,kZ hb,hck,hfind,uN hb,Sem.run_pure]
theorem TM(R:Rel ρ H w){t:TypeId}(h:uK P t H=some (v,H')):Ok P ρ H w (Instr.makeMap t none) v H':=by
 unfold uK at h;split at h <;> first | (cases h;done) | skip
 rename_i k e hm;simp only [zaa,zad] at h;obtain⟨rfl,rfl⟩:=h;have E:=Ht R (o:=.map k []) (co:=.map #[] 0);refine⟨.map (some w.heap.size),_,_,by simp [Instr.makeMap],Vq R ⟨#[],0,jg w _,rfl,by simp [RVm],by simp [Born]⟩,?_,E⟩;simp only [RV];exact⟨_,rfl,λ_=> by simp [updρ]⟩
theorem ahn(R:Rel ρ H w){t ty:TypeId}{x:AV}{cx:Value}(hx:RV ρ H.gen w x cx)(h:ahi P t x H=some (v,H')):H'=H/\OkP P ρ H.gen w (Builtin.len_ #[t] ty #[cx]) v:=by
 have a0:(#[t]:Array TypeId)[0]?=some t:=rfl;have a1:(#[cx]:Array Value)[0]?=some cx:=rfl;obtain⟨h',hh⟩:=qP h
 clear h
 subst hh;have h:=h'
 clear h'
 refine⟨rfl,?_⟩;unfold amA at h;cases hu:P.underlying t with
 | none=> simp [hu] at h
 | some d=>
  cases d with
  | slice e=>
   simp only [hu] at h;split at h <;> first | (cases h;done) | skip
   all_goals
    simp only [zaa] at h;subst h;simp only [RV] at hx
   ·obtain⟨_,_,_,rfl,_⟩:=hx;exact⟨_,by simp [Builtin.len_,run_underlying hu];rfl,by simp only [RV,goInt]⟩
   ·obtain⟨_,_,_,rfl,_⟩:=hx;exact⟨_,by simp [Builtin.len_,run_underlying hu];rfl,by simp only [RV,goInt]⟩
   ·subst hx;exact⟨_,by simp [Builtin.len_,run_underlying hu];rfl,by simp only [RV,goInt]⟩
  | string=>
   simp only [hu] at h;split at h <;> first | (cases h;done) | skip
   simp only [zaa] at h;subst h;simp only [RV] at hx;subst hx;exact⟨_,by simp [Builtin.len_,run_underlying hu];rfl,by simp only [RV,goInt]⟩
  | map kt e=>
   simp only [hu] at h;split at h <;> first | (cases h;done) | skip
   ·split at h <;> first | (cases h;done) | skip
    rename_i k es ho;simp only [aT,zah,zaa] at ho;simp only [zaa] at h;subst h;obtain⟨b,ces,cl,rfl,hr,hb,hes,hbn⟩:=Ic R hx ho;have hl:ces.size=es.length:=by
     have:∀(es:List (Int × AV)) (l:List MapEntry),RVm ρ H'.gen w k es l->l.length=es.length:=by
      intro es
      induction es with
      | nil=> intro l h;simp only [RVm] at h;subst h;rfl
      | cons p es ih=>
       intro l h;obtain⟨m,z⟩:=p;obtain⟨e,l',rfl,_,_,h2⟩:=(by simpa only [RVm] using h)
       simp [ih l' h2]
     rw [<-this es _ hes,aS]
    refine⟨.int .i64 es.length,?_,by simp only [RV]⟩;simp only [Builtin.len_,a0,a1,Sem.run_bind,run_underlying hu,Result.andThen_ok,kZ hb,Sem.run_pure,goInt,hl]
   ·simp only [zaa] at h;subst h;simp only [RV] at hx;subst hx;exact⟨.int .i64 0,by simp [Builtin.len_,run_underlying hu,goInt],by simp only [RV]⟩
  | _=> simp [hu] at h
theorem aho {t ty:TypeId}{x:AV}{cx:Value}(hx:RV ρ G w x cx)(h:aci P t x=some v):OkP P ρ G w (Builtin.cap_ #[t] ty #[cx]) v:=by
 unfold aci at h;cases hu:P.underlying t with
 | none=> simp [hu] at h
 | some d=>
  cases d with
  | slice e=>
   simp only [hu] at h;split at h <;> first | (cases h;done) | skip
   all_goals
    simp only [zaa] at h;subst h;simp only [RV] at hx
   ·obtain⟨_,_,c,rfl,_,_,h3,_⟩:=hx;rw [h3 trivial];exact⟨_,by simp [Builtin.cap_,run_underlying hu];rfl,by simp only [RV,goInt]⟩
   ·subst hx;exact⟨_,by simp [Builtin.cap_,run_underlying hu];rfl,by simp only [RV,goInt]⟩
  | _=> simp [hu] at h
theorem KA {mx:Bool}{ts:Array TypeId}{ty:TypeId}{xs:List AV}{cs:Array Value}(hx:RVs ρ G w xs cs.toList)(h:jl P mx ts ty xs=some v):
  OkP P ρ G w (if mx then Builtin.max_ ts ty cs else Builtin.min_ ts ty cs) v:=by
 unfold jl at h;cases hv:vals? xs with
 | none=> simp [hv] at h
 | some vs=>
  simp only [hv] at h;have he:=HY xs _ vs hx hv;have:cs=vs.toArray:=by rw [<-he]
  rw [this];cases hp:cO P (if mx=true then Builtin.max_ ts ty vs.toArray else Builtin.min_ ts ty vs.toArray) with
  | none=> simp [hp] at h
  | some u=> simp [hp] at h;subst h;exact⟨u,ku hp w,by simp only [RV]⟩
end
theorem Ext.drew(ρ:Ren)(H:aj)(w:World):Ext ρ H w ρ H w.drew where
 next:=zac _
 mono:=λ_=> zac _
 same:=λ_ _ h _=> h
 kept:=λ_ _ h=> h
 range:=λ_ _ sh h=> .inr ⟨sh,h⟩
 size:=zac _
 frame:=λ_ _ _=> rfl
 shape:=λ_ _=> rfl
 os:=rfl
 tape:=rfl
 output:=rfl
theorem Rel.drew {ρ:Ren}{H:aj}{w:World}(R:Rel ρ H w):Rel ρ H w.drew where
 out:=R.out
 obj:=λr b sh h=> vX.mono (Ext.drew ρ H w).toMono rfl (R.obj r b sh h)
 inj:=R.inj
 gl:=R.gl.ext (Ext.drew ρ H w)
theorem Ie {ρ:Ren}{H:aj}{w:World}{r:Nat}{y:Nat × Nat}(hx:ρ r=some y){co:Obj}{o:dR}(hg:H.gen r < o.gen):Ext ρ H w (updρ ρ r (w.heap.size,0)) (H.put r o) (w.alloc co) where
 next:=zac _
 mono:=λx=> by rw [qO];split <;> simp_all;omega
 same:=λx y hx h=> by
  rw [qO] at h;unfold updρ
  split
  ·rename_i e;subst e;simp at h;omega
  ·exact hx
 kept:=λx _ h=> by
  unfold updρ
  split
  ·rename_i e;subst e;rw [hx] at h;cases h
  ·exact h
 range:=λx b' s h=> by
  unfold updρ at h;split at h
  ·cases h;exact .inl (zac _)
  ·exact .inr ⟨_,h⟩
 size:=by simp
 frame:=λb hb _=> by simp only [World.alloc,zbe,if_neg (zbX hb)]
 shape:=λb hb=> by
  rw [dI,dI];simp only [World.alloc,zbe,if_neg (zbX hb)]
 os:=rfl
 tape:=rfl
 output:=rfl
theorem Z7 {ρ:Ren}{H:aj}{w:World}(R:Rel ρ H w){r:Nat}(hr:r < H.next){y:Nat × Nat}(hy:ρ r=some y){co:Obj}{o:dR}(hg:H.gen r < o.gen)
  (ho:vX (updρ ρ r (w.heap.size,0)) (H.put r o).gen (w.alloc co) o w.heap.size 0):Rel (updρ ρ r (w.heap.size,0)) (H.put r o) (w.alloc co) where
 out:=λx hx=> by
  have hx':H.next<=x:=hx
  have hne:x≠r:=by omega
  rw [qO,if_neg hne];unfold updρ;rw [if_neg hne];exact R.out x hx'
 obj:=λx b' s h=> by
  unfold updρ at h;by_cases e:x=r
  ·subst e;simp at h;obtain⟨rfl,rfl⟩:=h
   simpa [aj.put] using ho
  ·rw [if_neg e] at h;have:(H.put r o).get x=H.get x:=by simp [aj.put,e]
   rw [this];have hb:=R.block h;exact vX.mono (Ie (ρ:=ρ) (w:=w) (co:=co) hy hg).toMono (by simp only [World.alloc,zbe,if_neg (zbX hb)]) (R.obj x b' s h)
 inj:=λx y b' s s' h h'=> by
  unfold updρ at h h';split at h <;> split at h'
  ·simp_all
  ·cases h;have:=R.block h';omega
  ·cases h';have:=R.block h;omega
  ·exact R.inj _ _ _ _ _ h h'
 gl:=R.gl.ext (Ie (ρ:=ρ) (w:=w) (co:=co) hy hg)
theorem Z8 {ρ:Ren}{H:aj}{w:World}(R:Rel ρ H w){r g':Nat}(hr:r < H.next){y:Nat × Nat}(hy:ρ r=some y)(hg:H.gen r < g'){ty e:TypeId}{cells:List AV}{cs:Array Value}(hl:cells.length<=cs.size)
  (hc:∀(i:Nat) (x:AV),cells[i]?=some x->∃v,cs[i]?=some v/\RV ρ H.gen w x v) (hX:Xct ty e 0 cs.size cells.length):
  Rel (updρ ρ r (w.heap.size,0)) (H.put r (.blk g' ty cells)) (w.alloc (.cells cs e))/\Ext ρ H w (updρ ρ r (w.heap.size,0)) (H.put r (.blk g' ty cells)) (w.alloc (.cells cs e)):=by
 have E:=Ie (ρ:=ρ) (H:=H) (w:=w) (r:=r) (o:=.blk g' ty cells) (co:=.cells cs e) hy hg;refine⟨Z7 R hr hy hg ⟨cs,e,jg w _,by omega,?_,hX⟩,E⟩;refine oJ (jg w _) λi x hx=> ?_;obtain⟨v,hv,h1⟩:=hc i x hx;exact⟨v,by simpa using hv,R.keep E h1⟩
section
variable {P:Program}{ρ:Ren}{H H':aj}{w:World}{v:AV}
theorem iR(R:Rel ρ H w){y:AV}{cy:Value}{n m:Nat}{new:List AV}(hy:RV ρ H.gen w y cy)(hl:sliceLen y=some n)(hc:aX H y=some new)(hn:new.length=n*m):
  (Builtin.lenOf cy).run P w=.ok n w/\∃arr:Array Value,(Builtin.firstCells m n cy).run P w=.ok arr w/\RVs ρ H.gen w new arr.toList:=by
 unfold sliceLen at hl;split at hl <;> first | (cases hl;done) | skip
 ·simp only [zaa] at hl;subst hl;rename_i r g off esz len cap ex;simp only [RV] at hy;obtain⟨b,o,c,rfl,q1,q2,q3,q4,q5⟩:=hy;simp only [aX] at hc;split at hc <;> first | (cases hc;done) | skip
  rename_i g' ty cells ho;split at hc <;> first | (cases hc;done) | skip
  rename_i hcond;obtain⟨rfl,hle⟩:=hcond;simp only [zaa] at hc;subst hc;obtain⟨sh,e,k,hr,hoo,hsh,hcap⟩:=q5 (by simp [aj.gen,ho,dR.gen]);have sF:=R.obj r b sh hr;simp only [vX,ho] at sF;obtain⟨cs,e',hb,hz,hcc,_⟩:=sF;refine⟨by simp [Builtin.lenOf],?_⟩;by_cases h0:len=0
  ·subst h0;refine⟨#[],?_,by simp [RVs]⟩;simp [Builtin.firstCells,loadCells,loadCellsFrom]
  ·have ho':=hoo (by omega);have hcells:RVc ρ H.gen w ((cells.drop off).take (len*esz)) b (sh+off):=qM _ (oI _ hcc);obtain⟨l,hl',h1⟩:=run_loadCells (P:=P) hcells;rw [hn] at hl';exact⟨l.toArray,by simp only [Builtin.firstCells,ho'];exact hl',by simpa using h1⟩
 ·simp only [zaa] at hl;subst hl;simp only [RV] at hy;obtain⟨b,o,c,rfl,q1,q2,q3,q4,q5⟩:=hy;simp only [aX,zaa] at hc;subst hc;refine⟨by simp [Builtin.lenOf],?_⟩;obtain⟨l,hl',h1⟩:=run_loadCells (P:=P) q5;rw [hn] at hl';exact⟨l.toArray,by simp only [Builtin.firstCells];exact hl',by simpa using h1⟩
 ·simp only [zaa] at hl;subst hl;simp only [RV] at hy;subst hy;simp only [aX,zaa] at hc;subst hc;exact⟨by simp [Builtin.lenOf],#[],by simp [Builtin.firstCells],by simp [RVs]⟩
 ·simp only [zaa] at hl;subst hl;simp only [RV] at hy;subst hy;simp only [aX,zaa] at hc;subst hc;rename_i s;refine⟨by simp [Builtin.lenOf],(s.data.map λb=> .int .u8 b.toNat),?_,?_⟩
  ·have:s.extract 0 s.size=s:=by
    apply ByteArray.ext
    simp
   simp [Builtin.firstCells,this]
  ·have:(s.data.map λb=> Value.int .u8 b.toNat).toList=s.data.toList.map λb=> .int .u8 b.toNat:=by simp
   rw [this];have h2:(s.data.toList.map λb=> AV.s (.int .u8 b.toNat))=(s.data.toList.map λb=> Value.int .u8 b.toNat).map .s:=by simp
   rw [h2];exact fF _
def pI(elem:TypeId)(size:Nat)(zeros:Bool)(n:Nat)(appended:Sem (Array Value))(base:Option Addr)(sLen sCap:Nat)(s x:Value):Sem Value:=do
 let need:=sLen+n
 if need<=sCap then
  let new<-appended
  if let some a:=base then storeCells (a.add (sLen*size)) new.toList
  pure (.slice base need sCap)
 else
  if(need:Int) > IntKind.i64.max∧(zeros∨(←typeInfo elem).bytes=0) then runtimePanic (.error "growslice: len out of range")
  if Builtin.nextslicecap need sCap*(←typeInfo elem).bytes > 2 ^ 48 then(if zeros then runtimePanic (.error "growslice: len out of range") else do
   if !(<-Builtin.mayShare size sLen n base x) then mark .noRoom
   unsupported (.resourceLimit "append: a slice or a string whose bytes no memory bears"))
  let newCap<-choose (.appendCap need sCap elem)
  askRoom (newCap*(<-typeInfo elem).bytes)
  let old<-Builtin.firstCells size sLen s;let new<-appended;let rest:=Builtin.zeroCells (<-zeroValue elem).cells (newCap - need)
  pure (.slice (some (<-newRow elem (old++new++rest))) need newCap)
theorem aco {α:Type}(a b:α):(if false=true then a else b)=b:=rfl
theorem ahp {α:Type}(a b:α):(if true=true then a else b)=a:=rfl
theorem CY {t u ty e:TypeId}{d:TypeDesc}{m n sLen sCap:Nat}{base:Option Addr}{cy:Value}(hu:P.underlying t=some (.slice e))(hs:szT P e=some m)(hd:P.underlying u=some d)(hnd:∀k,d≠.int k)
  (hl:(Builtin.lenOf cy).run P w=.ok n w):
  (Builtin.append_ #[t,u] ty #[.slice base sLen sCap,cy]).run P w=(pI e m false n (Builtin.firstCells m n cy) base sLen sCap (.slice base sLen sCap) cy).run P w:=by
 have a0:(#[t,u]:Array TypeId)[0]?=some t:=rfl;have a1:(#[t,u]:Array TypeId)[1]?=some u:=rfl;have a2:(#[Value.slice base sLen sCap,cy]:Array Value)[0]?=some (.slice base sLen sCap):=rfl;have a3:(#[Value.slice base sLen sCap,cy]:Array Value)[1]?=some cy:=rfl;cases d
 case int k=> exact absurd rfl (hnd k)
 all_goals
  simp only [Builtin.append_,a0,a1,a2,a3,Sem.run_bind,run_underlying hu,Result.andThen_ok,run_sizeOf hs,run_underlying hd,Sem.run_pure,aco,hl];rfl
theorem AA {t u ty e:TypeId}{k:IntKind}{m by_ sLen sCap:Nat}{base:Option Addr}{k':IntKind}{n:Int}(hu:P.underlying t=some (.slice e))(hs:szT P e=some m)(hb:vK P e=some by_)(hd:P.underlying u=some (.int k))
  (h0:0<=n) (h1:n<=most) (h2:n*by_<=most):
  (Builtin.append_ #[t,u] ty #[.slice base sLen sCap,.int k' n]).run P w=
   (pI e m true n.toNat (if n.toNat*m=0 then pure #[] else do pure (Builtin.zeroCells (<-zeroValue e).cells n.toNat)) base sLen sCap (.slice base sLen sCap) (.int k' n)).run P w:=by
 have a0:(#[t,u]:Array TypeId)[0]?=some t:=rfl;have a1:(#[t,u]:Array TypeId)[1]?=some u:=rfl;have a2:(#[Value.slice base sLen sCap,.int k' n]:Array Value)[0]?=some (.slice base sLen sCap):=rfl;have a3:(#[Value.slice base sLen sCap,.int k' n]:Array Value)[1]?=some (.int k' n):=rfl;have hw:IntKind.i64.wrap n=n:=by rw [IntKind.wrap_i64];unfold most at h1;omega
 have aeX:∃i,P.info? e=some i/\i.bytes=by_:=by
  unfold vK at hb;cases hi:P.info? e with
  | none=> simp [hi] at hb
  | some i=> simp [hi] at hb;exact⟨i,rfl,hb⟩
 obtain⟨i,hi,rfl⟩:=aeX;have hn:¬n < 0:=by omega
 have hnb:¬n*(i.bytes:Int) > 2 ^ 48:=by unfold most at h2;omega
 simp only [-eq_self,Builtin.append_,a0,a1,a2,a3,Sem.run_bind,run_underlying hu,Result.andThen_ok,run_sizeOf hs,run_underlying hd,Sem.run_pure,ahp,asInt,asIntOf,hw,hn,if_false,AU hi,hnb];rfl
end
section
variable {P:Program}{ρ:Ren}{H H':aj}{w:World}{v:AV}
theorem Vy {e:TypeId}{b:Nat}(h:vK P e=some b):∃i,P.info? e=some i/\i.bytes=b:=by
 unfold vK at h;cases hi:P.info? e with
 | none=> simp [hi] at h
 | some i=> simp [hi] at h;exact⟨i,rfl,h⟩
theorem Qx {e:TypeId}{m n by_ sLen sCap:Nat}{zeros:Bool}{appended:Sem (Array Value)}{base:Option Addr}{s x zv:Value}{old arr:Array Value}(hb:vK P e=some by_)(hz:wR P e=some zv)
  (amX:¬sLen+n<=sCap) (hmax:sLen+n<=most) (hbig:(sLen+n)*by_<=most) (hold:(Builtin.firstCells m sLen s).run P w.drew=.ok old w.drew) (happ:appended.run P w.drew=.ok arr w.drew):
  ∃c,sLen+n<=c/\(pI e m zeros n appended base sLen sCap s x).run P w=
   .ok (.slice (some ⟨w.heap.size,0,none⟩) (sLen+n) c) (w.drew.alloc (.cells (old++arr++Builtin.zeroCells zv.cells (c - (sLen+n))) e)):=by
 obtain⟨i,hi,rfl⟩:=Vy hb;unfold most at hmax hbig;have h1:¬(((sLen+n:Nat):Int) > IntKind.i64.max/\((zeros:Prop)∨i.bytes=0)):=by
  rintro⟨h,_⟩;rw [IntKind.max_i64] at h;omega
 have h2:¬Builtin.nextslicecap (sLen+n) sCap*i.bytes > 2 ^ 48:=by
  have:=growslice_fits (need:=sLen+n) (old:=sCap) (bytes:=i.bytes) (by omega) hbig;omega
 have hf:(Question.appendCap (sLen+n) sCap e).forced=false:=rfl;refine⟨(Question.appendCap (sLen+n) sCap e).cut (w.tape w.drawn (Question.appendCap (sLen+n) sCap e)),by simp [Question.cut],?_⟩;simp only [pI,if_neg amX,Sem.run_bind,AU hi,Result.andThen_ok,if_neg h1,if_neg h2,Sem.run_pure,run_choose,hf,aco,run_askRoom,World.drew_eq,hold,happ,eG hz,newRow,run_newObj,World.alloc_eq];rfl
theorem AY(R:Rel ρ H w){r g off esz len cap:Nat}{ex:Bool}{ty:TypeId}{cells:List AV}{cx:Value}(hx:RV ρ H.gen w (.sl r g off esz len cap ex) cx)(ho:H.get r=.blk g ty cells):
  ∃b o c sh cs e,cx=.slice (some ⟨b,o,none⟩) len c/\len<=cap/\cap<=c/\(ex=true->c=cap)/\ρ r=some (b,sh)/\(0 < c->o=sh+off)/\w.heap[b]?=some (.cells cs e (0,0))/\o+c*esz<=cs.size/\
   sh+cells.length<=cs.size/\RVc ρ H.gen w cells b sh:=by
 simp only [RV] at hx;obtain⟨b,o,c,rfl,q1,q2,q3,q4,q5⟩:=hx;obtain⟨sh,ty',k,hr,hoo,hsh,hcap⟩:=q5 (by simp [aj.gen,ho,dR.gen]);have sF:=R.obj r b sh hr;simp only [vX,ho] at sF;obtain⟨cs,e,hb,hz,hcc,_⟩:=sF;have:cs.size=k:=by
  rw [dI,hb] at hsh;simp [zX] at hsh;exact hsh.2
 exact⟨b,o,c,sh,cs,e,rfl,q1,q2,q3,hr,hoo,hb,by omega,hz,hcc⟩
theorem vM(R:Rel ρ H w){e:TypeId}{m n by_:Nat}{zeros:Bool}{appended:Sem (Array Value)}{x:AV}{cx cy zv:Value}{new:List AV}(hs:szT P e=some m)(hb:vK P e=some by_)(hz:wR P e=some zv)(hzl:zv.cells.size=m)
  (hx:RV ρ H.gen w x cx) (happ:∀w',w'=w∨w'=w.drew->∃arr:Array Value,appended.run P w'=.ok arr w'/\RVs ρ H.gen w' new arr.toList)
  (h:bU e m by_ x n new H=some (v,H')):
  ∃base sLen sCap,cx=.slice base sLen sCap/\Ok P ρ H w (pI e m zeros n appended base sLen sCap cx cy) v H':=by
 unfold bU at h;split at h <;> first | (cases h;done) | skip
 rename_i hnew;obtain⟨hlen,hcell⟩:=hnew;split at h
 ·-- nil
  simp only [RV] at hx;subst hx;refine⟨none,0,0,rfl,?_⟩;by_cases h0:n=0
  ·subst h0;simp only [if_true,zaa,zad] at h;obtain⟨rfl,rfl⟩:=h;obtain⟨arr,ha,_⟩:=happ w (.inl rfl);refine OkP.ok ⟨.slice none 0 0,?_,by simp only [RV]⟩ R;simp [pI,ha]
  ·rw [if_neg h0] at h;split at h <;> first | (cases h;done) | skip
   rename_i hcond;simp only [zaa,zad] at h;obtain⟨rfl,rfl⟩:=h;obtain⟨arr,ha,hr⟩:=happ w.drew (.inr rfl);obtain⟨c,hc,hrun⟩:=Qx (P:=P) (w:=w) (e:=e) (m:=m) (n:=n) (by_:=by_) (sLen:=0) (sCap:=0) (zeros:=zeros) (appended:=appended) (base:=none) (s:=.slice none 0 0) (x:=cy) (zv:=zv) (old:=#[]) (arr:=arr) hb hz (by omega) (by omega) (by simpa using hcond.2) (by simp [Builtin.firstCells]) ha;have hal:=bM hr;rw [aS,hlen] at hal;obtain⟨ρ',q1,q2,q3⟩:=qQ (ty:=e+eH) (hX:=Xct.grown) (e:=e) (cells:=new) (cs:=#[]++arr++Builtin.zeroCells zv.cells (c - (0+n))) (m:=m) (len:=n) (cap:=n) (c:=c) (ex:=false) R.drew
    (by
     have:(#[]++arr++Builtin.zeroCells zv.cells (c - (0+n))).toList.take new.length=arr.toList:=by
      rw [hlen,<-hal];simp
     rw [this];exact hr) (by rw [hlen];simp [hal]) (zac _) (by omega) (by simp) (by
     have h3:(Builtin.zeroCells zv.cells (c - (0+n))).size=(c - n)*m:=by simp [Builtin.zeroCells,hzl]
     rw [Array.size_append,h3];simp only [Array.size_append,List.size_toArray,zat,hal];rw [za7,<-zbs];have:n+(c - n)=c:=by omega
     rw [this];exact zac _)
   refine⟨_,ρ',_,hrun,q1,?_,(Ext.drew ρ H w).trans q3⟩
   simpa using q2
 ·rename_i r g off esz len cap ex;split at h <;> first | (cases h;done) | skip
  rename_i g' ty cells ho;split at h <;> first | (cases h;done) | skip
  rename_i hcond;obtain⟨rfl,rfl,hle⟩:=hcond;have hpl:=AY R hx ho;obtain⟨b,o,c,sh,cs,e',hcx,q1,q2,q3,hr,hoo,hbk,hcs,hz',hcc⟩:=hpl;subst hcx;refine⟨some ⟨b,o,none⟩,len,c,rfl,?_⟩;have hgen:H.gen r=g':=by simp [aj.gen,ho,dR.gen]
  have hfirst:∀w',(w'=w∨w'=w.drew)->∃arr:Array Value,(Builtin.firstCells esz len (.slice (some ⟨b,o,none⟩) len c)).run P w'=.ok arr w'/\RVs ρ H.gen w' ((cells.drop off).take (len*esz)) arr.toList:=by
   intro w' hw';have R':Rel ρ H w':=by
    rcases hw' with rfl | rfl
    ·exact R
    ·exact R.drew
   have hx':RV ρ H.gen w' (.sl r g' off esz len cap ex) (.slice (some ⟨b,o,none⟩) len c):=by
    rcases hw' with rfl | rfl
    ·exact hx
    ·exact R.keep (Ext.drew ρ H w) hx
   exact(iR (P:=P) (m:=esz) R' hx' rfl (by simp [aX,ho,hle]) (by simp;omega)).2
  by_cases h0:n=0
  ·subst h0;simp only [if_true,zaa,zad] at h;obtain⟨rfl,rfl⟩:=h;obtain⟨arr,ha,hra⟩:=happ w (.inl rfl);have harr:arr.toList=[]:=by
    have:=bM hra;rw [hlen] at this
    simpa using this
   refine OkP.ok ⟨.slice (some ⟨b,o,none⟩) len c,?_,hx⟩ R;simp [pI,ha,harr,storeCells,show len<=c by omega]
  ·rw [if_neg h0] at h;by_cases hin:len+n<=cap
   ·rw [if_pos hin] at h;split at h <;> first | (cases h;done) | skip
    rename_i hc2;simp only [zaa,zad] at h;obtain⟨rfl,rfl⟩:=h;obtain⟨arr,ha,hra⟩:=happ w (.inl rfl);have hal:=bM hra;rw [hlen] at hal;have hoff:o=sh+off:=hoo (by omega);have hmul:(len+n)*esz=len*esz+n*esz:=zbs _ _ _;have hst:=jh (P:=P) (o:=o+len*esz) arr.toList w cs 0 hbk (by
     rw [hal];have:(len+n)*esz<=c*esz:=zaD _ (by omega);omega) (nO hcell hra)
    have kX:Xct ty e' sh cs.size cells.length:=by
     have sF:=R.obj r b sh hr;simp only [vX,ho] at sF;obtain⟨cs2,e2,k1,_,_,k4⟩:=sF;rw [hbk] at k1;cases k1;exact k4
    have hput:=CV (hX:=by rw [dG,gX _ _ _ (by rw [hlen];omega)];exact kX) (ty':=ty) (cells':=setAt cells (off+len*esz) new) (cs':=setMany cs (o+len*esz) arr.toList) (g':=g') (sh':=sh) R hr hbk (dG _ _ _) (by omega) (λ_=> rfl)
     (by rw [gX _ _ _ (by rw [hlen];omega)];exact hz') (by
      intro i u hu;rw [sW _ _ _ (by rw [hlen];omega)] at hu;rw [jZ _ _ _ _ (by rw [hal];omega),hal];by_cases hi:off+len*esz<=i/\i < off+len*esz+new.length
      ·rw [if_pos hi] at hu;rw [hlen] at hi;rw [if_pos (by omega),show sh+i - (o+len*esz)=i - (off+len*esz) from by omega];exact iQ hra hu
      ·rw [if_neg hi] at hu;rw [hlen] at hi;rw [if_neg (by omega)];exact sV hbk hcc hu)
    refine⟨.slice (some ⟨b,o,none⟩) (len+n) c,_,_,?_,hput.1,?_,hput.2⟩
    ·simp only [pI,if_pos (show len+n<=c by omega),Sem.run_bind,ha,Result.andThen_ok,add_plain];simp only [zbf] at hst;simp [hst]
    ·simp only [RV];refine⟨b,o,c,rfl,hin,q2,q3,?_,λ_=> ⟨sh,e',cs.size,by simp [updρ],λ_=> hoff,?_,hcs⟩⟩
     ·rw [qO];simp [dR.gen]
     ·rw [dI,jY (lt_of_heap hbk)];simp [zX,dG]
   ·rw [if_neg hin] at h;split at h <;> first | (cases h;done) | skip
    rename_i hc2;obtain⟨amY,hby⟩:=hc2;have hmul:(len+n)*esz=len*esz+n*esz:=zbs _ _ _;have hpre:((cells.drop off).take (len*esz)).length=len*esz:=by simp;omega
    -- the way that makes a new row
    have grow:¬len+n<=c->∃c' old arr,len+n<=c'/\(pI e esz zeros n appended (some ⟨b,o,none⟩) len c (.slice (some ⟨b,o,none⟩) len c) cy).run P w=
      .ok (.slice (some ⟨w.heap.size,0,none⟩) (len+n) c') (w.drew.alloc (.cells (old++arr++Builtin.zeroCells zv.cells (c' - (len+n))) e))/\RVs ρ H.gen w.drew ((cells.drop off).take (len*esz)) old.toList/\RVs ρ H.gen w.drew new arr.toList:=by
     intro hno;obtain⟨old,hold,hro⟩:=hfirst w.drew (.inr rfl);obtain⟨arr,ha,hra⟩:=happ w.drew (.inr rfl);obtain⟨c',hc',hrun⟩:=Qx (P:=P) (w:=w) (e:=e) (m:=esz) (n:=n) (by_:=by_) (sLen:=len) (sCap:=c) (zeros:=zeros) (appended:=appended) (base:=some ⟨b,o,none⟩) (s:=.slice (some ⟨b,o,none⟩) len c) (x:=cy) (zv:=zv) (old:=old) (arr:=arr) hb hz hno amY hby hold ha;exact⟨c',old,arr,hc',hrun,hro,hra⟩
    have whole:∀(c':Nat) (old arr:Array Value),len+n<=c'->RVs ρ H.gen w.drew ((cells.drop off).take (len*esz)) old.toList->RVs ρ H.gen w.drew new arr.toList->
      RVs ρ H.gen w.drew ((cells.drop off).take (len*esz)++new) ((old++arr++Builtin.zeroCells zv.cells (c' - (len+n))).toList.take ((cells.drop off).take (len*esz)++new).length)/\
      ((cells.drop off).take (len*esz)++new).length<=(old++arr++Builtin.zeroCells zv.cells (c' - (len+n))).size/\c'*esz<=(old++arr++Builtin.zeroCells zv.cells (c' - (len+n))).size:=by
     intro c' old arr hc' hro hra;have l1:=bM hro;have l2:=bM hra;rw [hpre] at l1;rw [hlen] at l2;have h3:(Builtin.zeroCells zv.cells (c' - (len+n))).size=(c' - (len+n))*esz:=by simp [Builtin.zeroCells,hzl]
     have hsz:(old++arr++Builtin.zeroCells zv.cells (c' - (len+n))).size=c'*esz:=by
      rw [Array.size_append,Array.size_append,h3,<-aS old,<-aS arr,l1,l2,<-zbs,<-zbs]
      congr 1;omega
     refine⟨?_,?_,by rw [hsz];exact zac _⟩
     ·have:(old++arr++Builtin.zeroCells zv.cells (c' - (len+n))).toList.take ((cells.drop off).take (len*esz)++new).length=old.toList++arr.toList:=by
       have hll:((cells.drop off).take (len*esz)++new).length=(old.toList++arr.toList).length:=by
        rw [zaq,zaq,l1,l2,hpre,hlen]
       rw [hll,zca,zca,List.take_left]
      rw [this];exact nH hro hra
     ·rw [hsz,zaq,hpre,hlen,<-hmul];exact zaD _ hc'
    by_cases hex:ex=true
    ·rw [if_pos hex] at h;simp only [zaa,zad] at h;obtain⟨rfl,rfl⟩:=h;obtain⟨c',old,arr,hc',hrun,hro,hra⟩:=grow (by rw [q3 hex];exact hin);obtain⟨w1,w2,w3⟩:=whole c' old arr hc' hro hra;obtain⟨ρ',p1,p2,p3⟩:=qQ (ty:=e+eH) (hX:=Xct.grown) (e:=e) (m:=esz) (len:=len+n) (cap:=len+n) (c:=c') (ex:=false) R.drew w1 w2 (zac _) hc' (by simp) w3;refine⟨_,ρ',_,hrun,p1,?_,(Ext.drew ρ H w).trans p3⟩
     simpa using p2
    ·rw [if_neg hex] at h;split at h <;> first | (cases h;done) | skip
     simp only [zaa,zad] at h;obtain⟨rfl,rfl⟩:=h;by_cases hc:len+n<=c
     ·-- in place
      obtain⟨arr,ha,hra⟩:=happ w (.inl rfl);have hal:=bM hra;rw [hlen] at hal;have hoff:o=sh+off:=hoo (by omega);have hmc:(len+n)*esz<=c*esz:=zaD _ hc;have hst:=jh (P:=P) (o:=o+len*esz) arr.toList w cs 0 hbk (by rw [hal];omega) (nO hcell hra);have kX:Xct ty e' sh cs.size cells.length:=by
       have sF:=R.obj r b sh hr;simp only [vX,ho] at sF;obtain⟨cs2,e2,k1,_,_,k4⟩:=sF;rw [hbk] at k1;cases k1;exact k4
      have hput:=CV (hX:=by rw [hoff];exact aeS (qN hz) kX) (ty':=grT e ty off) (cells':=(cells.drop off).take (len*esz)++new) (cs':=setMany cs (o+len*esz) arr.toList) (g':=g'+1) (sh':=o) R hr hbk (dG _ _ _) (by omega) (λhh=> by omega)
       (by rw [zaq,hpre,hlen];omega) (by
        intro i u hu;rw [List.getElem?_append,hpre] at hu;rw [jZ _ _ _ _ (by rw [hal];omega),hal];by_cases hi:i < len*esz
        ·rw [if_pos hi,zaA,if_pos hi,zaF] at hu;rw [if_neg (by omega),hoff,zb7];exact sV hbk hcc hu
        ·rw [if_neg hi] at hu;have aqz:i - len*esz < n*esz:=by
          rw [<-hlen];exact(zaf.1 hu).1
         rw [if_pos (by omega),show o+i - (o+len*esz)=i - len*esz from by omega];exact iQ hra hu)
      refine⟨.slice (some ⟨b,o,none⟩) (len+n) c,_,_,?_,hput.1,?_,hput.2⟩
      ·simp only [pI,if_pos hc,Sem.run_bind,ha,Result.andThen_ok,add_plain];simp only [zbf] at hst;simp [hst]
      ·simp only [RV];refine⟨b,o,c,rfl,zac _,hc,by simp,?_,λ_=> ⟨o,e',cs.size,by simp [updρ],λ_=> rfl,?_,hcs⟩⟩
       ·rw [qO];simp [dR.gen]
       ·rw [dI,jY (lt_of_heap hbk)];simp [zX,dG]
     ·-- a new row
      obtain⟨c',old,arr,hc',hrun,hro,hra⟩:=grow hc;obtain⟨w1,w2,w3⟩:=whole c' old arr hc' hro hra;have hmv:=Z8 (hX:=aeR) (r:=r) (g':=g'+1) (ty:=grT e ty off) (e:=e) (cells:=(cells.drop off).take (len*esz)++new) R.drew (R.lt hr) hr (by omega) w2 (by
       intro i u hu;obtain⟨cv,hcv,h1⟩:=iQ w1 hu;rw [zaA] at hcv;split at hcv
       ·exact⟨cv,by rw [<-Array.getElem?_toList];exact hcv,h1⟩
       ·cases hcv)
      refine⟨_,_,_,hrun,hmv.1,?_,(Ext.drew ρ H w).trans hmv.2⟩;simp only [RV];refine⟨w.heap.size,0,c',rfl,zac _,hc',by simp,?_,λ_=> ⟨0,e,_,by simp [updρ],λ_=> rfl,?_,by rw [za7];exact w3⟩⟩
      ·rw [qO];simp [dR.gen]
      ·rw [dI];have:(w.drew.alloc (.cells (old++arr++Builtin.zeroCells zv.cells (c' - (len+n))) e)).heap[w.heap.size]?=some (.cells (old++arr++Builtin.zeroCells zv.cells (c' - (len+n))) e):=jg w.drew _;rw [this];rfl
 ·cases h
end
section
variable {P:Program}{ρ:Ren}{H H':aj}{w:World}{v:AV}
theorem Vz(R:Rel ρ H w){t u ty:TypeId}{x y:AV}{cx cy:Value}(hx:RV ρ H.gen w x cx)(hy:RV ρ H.gen w y cy)(h:Hl P t u x y H=some (v,H')):Ok P ρ H w (Builtin.append_ #[t,u] ty #[cx,cy]) v H':=by
 unfold Hl at h;split at h <;> first | (cases h;done) | skip
 rename_i e d he hd;split at h <;> first | (cases h;done) | skip
 rename_i m by_ z hs hb hz;split at h <;> first | (cases h;done) | skip
 rename_i hzl;obtain⟨zv,hzv,rfl⟩:=wW hz;simp at hzl;split at h
 ·rename_i k;split at h <;> first | (cases h;done) | skip
  rename_i k' n;split at h <;> first | (cases h;done) | skip
  rename_i hcond;obtain⟨h0,h1,h2⟩:=hcond;simp only [RV] at hy;subst hy;have happ:∀w',w'=w∨w'=w.drew->∃arr:Array Value,(if n.toNat*m=0 then pure #[] else do pure (Builtin.zeroCells (<-zeroValue e).cells n.toNat):Sem (Array Value)).run P w'=.ok arr w'/\RVs ρ H.gen w' (bI (zv.cells.toList.map .s) n.toNat) arr.toList:=by
   intro w' _;by_cases h3:n.toNat*m=0
   ·rw [if_pos h3];have:bI (zv.cells.toList.map .s) n.toNat=[]:=zan (by rw [gY];simp [hzl,h3]);exact⟨#[],rfl,by rw [this];exact iI⟩
   ·rw [if_neg h3];exact⟨Builtin.zeroCells zv.cells n.toNat,by simp [eG hzv],sZ zv n.toNat⟩
  obtain⟨base,sLen,sCap,rfl,hok⟩:=vM (P:=P) (zeros:=true) (cy:=.int k' n) R hs hb hzv hzl hx happ h;obtain⟨cv,ρ',w',p1,p2,p3,p4⟩:=hok;exact⟨cv,ρ',w',by rw [AA (lQ he) hs hb hd h0 h1 h2];exact p1,p2,p3,p4⟩
 ·rename_i hnd;split at h <;> first | (cases h;done) | skip
  rename_i n new hn hnew;have hnl:new.length=n*m:=by
   unfold bU at h;split at h
   ·rename_i hc;exact hc.1
   ·cases h
  have hl:=(iR (P:=P) R hy hn hnew hnl).1;have happ:∀w',w'=w∨w'=w.drew->∃arr:Array Value,(Builtin.firstCells m n cy).run P w'=.ok arr w'/\RVs ρ H.gen w' new arr.toList:=by
   rintro w' (rfl | rfl)
   ·exact(iR (P:=P) R hy hn hnew hnl).2
   ·exact(iR (P:=P) R.drew (R.keep (Ext.drew ρ H w) hy) hn hnew hnl).2
  obtain⟨base,sLen,sCap,rfl,hok⟩:=vM (P:=P) (zeros:=false) (cy:=cy) R hs hb hzv hzl hx happ h;obtain⟨cv,ρ',w',p1,p2,p3,p4⟩:=hok;exact⟨cv,ρ',w',by rw [CY (lQ he) hs hd (λk hk=> hnd k hk) hl];exact p1,p2,p3,p4⟩
theorem aeY(R:Rel ρ H w){ts:Array TypeId}{t ty:TypeId}{x y:AV}{cx cy:Value}(ht:ts[0]?=some t)(hx:RV ρ H.gen w x cx)(hy:RV ρ H.gen w y cy)(h:ZP P t x y H=some (v,H')):Ok P ρ H w (Builtin.copy_ ts ty #[cx,cy]) v H':=by
 have a0:(#[cx,cy]:Array Value)[0]?=some cx:=rfl;have a1:(#[cx,cy]:Array Value)[1]?=some cy:=rfl;unfold ZP at h;split at h <;> first | (cases h;done) | skip
 rename_i e he;split at h <;> first | (cases h;done) | skip
 rename_i m d n new hs hd hn hnew;simp only at h;split at h <;> first | (cases h;done) | skip
 rename_i hcond;obtain⟨hnl,hcell⟩:=hcond;obtain⟨hl,_⟩:=iR (P:=P) R hy hn hnew hnl
 -- the Z9 length
 have hdst:∀{base:Option Addr} {dl dc:Nat},cx=.slice base dl dc->dl=d:=by
  intro base dl dc hcx;subst hcx;unfold sliceLen at hd;split at hd <;> first | (cases hd;done) | skip
  ·simp only [RV] at hx;obtain⟨_,_,_,h1,_⟩:=hx;cases h1;cases hd;rfl
  ·simp only [RV] at hx;obtain⟨_,_,_,h1,_⟩:=hx;cases h1;cases hd;rfl
  ·simp only [RV] at hx;cases hx;cases hd;rfl
  ·simp only [RV] at hx;cases hx
 have first:∃arr:Array Value,(Builtin.firstCells m (min n d) cy).run P w=.ok arr w/\RVs ρ H.gen w (new.take (min n d*m)) arr.toList:=by
  -- the first cells of the source
  unfold sliceLen at hn;split at hn <;> first | (cases hn;done) | skip
  ·rename_i r g off esz len cap ex;simp only [zaa] at hn;subst hn;simp only [aX] at hnew;split at hnew <;> first | (cases hnew;done) | skip
   rename_i g' ty' cells ho;split at hnew <;> first | (cases hnew;done) | skip
   rename_i hc2;obtain⟨rfl,hle⟩:=hc2;simp only [zaa] at hnew;subst hnew;obtain⟨b,o,c,sh,cs,e',rfl,q1,q2,q3,hr,hoo,hbk,hcs,hz',hcc⟩:=AY R hy ho;have hlen:((cells.drop off).take (len*esz)).length=len*esz:=by simp;omega
   by_cases h0:min len d*m=0
   ·refine⟨#[],?_,by rw [h0];simp [RVs]⟩;simp [Builtin.firstCells,h0,loadCells,loadCellsFrom]
   ·have hpos:0 < min len d:=Nat.pos_of_ne_zero λhh=> h0 (by rw [hh,zba]);have ho':=hoo (by omega);have hcells:RVc ρ H.gen w (((cells.drop off).take (len*esz)).take (min len d*m)) b (sh+off):=qM _ (qM _ (oI _ hcc));obtain⟨l,hl',h1⟩:=run_loadCells (P:=P) hcells;have hll:(((cells.drop off).take (len*esz)).take (min len d*m)).length=min len d*m:=by
     rw [zao,hnl];have:min len d*m<=len*m:=zaD _ (Nat.min_le_left _ _);omega
    rw [hll] at hl';exact⟨l.toArray,by simp only [Builtin.firstCells,ho'];exact hl',by simpa using h1⟩
  ·rename_i n' esz cells;simp only [zaa] at hn;subst hn;simp only [aX,zaa] at hnew;subst hnew;simp only [RV] at hy;obtain⟨b,o,c,rfl,q1,q2,q3,q4,q5⟩:=hy;obtain⟨l,hl',h1⟩:=run_loadCells (P:=P) (qM (min n' d*m) q5);have hll:(cells.take (min n' d*m)).length=min n' d*m:=by
    rw [zao,hnl];have:min n' d*m<=n'*m:=zaD _ (Nat.min_le_left _ _);omega
   rw [hll] at hl';exact⟨l.toArray,by simp only [Builtin.firstCells];exact hl',by simpa using h1⟩
  ·simp only [RV] at hy;subst hy;simp only [aX,zaa] at hnew;subst hnew;exact⟨#[],by simp [Builtin.firstCells],by simp [RVs]⟩
  ·rename_i s;simp only [zaa] at hn;subst hn;simp only [RV] at hy;subst hy;simp only [aX,zaa] at hnew;subst hnew;refine⟨((s.extract 0 (min s.size d)).data.map λb=> .int .u8 b.toNat),by simp [Builtin.firstCells],?_⟩;have hm:m=1∨s.size=0:=by
    have h3:s.data.toList.length=s.size:=rfl;rw [zaE,h3] at hnl;rcases Nat.eq_zero_or_pos s.size with h | h
    ·exact .inr h
    ·left;rcases m with _ | _ | m
     ·rw [Nat.mul_zero] at hnl;omega
     ·rfl
     ·have:s.size*2<=s.size*(m+1+1):=Nat.mul_le_mul_left _ (by omega);omega
   have h2:((s.data.toList.map λb=> AV.s (.int .u8 b.toNat)).take (min s.size d*m))=(((s.extract 0 (min s.size d)).data.map λb=> Value.int .u8 b.toNat).toList).map .s:=by
    rcases hm with rfl | h0
    ·simp [ByteArray.data_extract,List.map_take];rfl
    ·have h3:s.data.toList=[]:=zan h0;have h4:s.data=#[]:=by simpa using h3
     simp [ByteArray.data_extract,h4]
   rw [h2];exact fF _
 obtain⟨arr,ha,hra⟩:=first
 by_cases hk:min n d=0
 ·rw [if_pos hk] at h;split at h <;> first | (cases h;done) | skip
  rename_i hns;simp only [zaa,zad] at h;obtain⟨rfl,rfl⟩:=h;have harr:arr.toList=[]:=by
   have:=bM hra;rw [hk,zba] at this
   simpa using this
  obtain⟨base,dl,dc,rfl⟩:∃base dl dc,cx=.slice base dl dc:=by
   unfold sliceLen at hd;split at hd <;> first | (cases hd;done) | skip
   ·simp only [RV] at hx;obtain⟨_,_,_,rfl,_⟩:=hx;exact⟨_,_,_,rfl⟩
   ·simp only [RV] at hx;obtain⟨_,_,_,rfl,_⟩:=hx;exact⟨_,_,_,rfl⟩
   ·simp only [RV] at hx;subst hx;exact⟨_,_,_,rfl⟩
   ·exact(hns _ rfl).elim
  obtain rfl:=hdst rfl;refine OkP.ok ⟨.int .i64 0,?_,by simp only [RV]⟩ R;have hmin:Nat.min n dl=min n dl:=rfl;simp only [Builtin.copy_,ht,a0,a1,Sem.run_bind,run_underlying (lQ he),Result.andThen_ok,hl,run_sizeOf hs,hmin,ha];cases base with
  | none=> simp [goInt,hk]
  | some a=> simp [goInt,hk,harr,storeCells]
 ·rw [if_neg hk] at h;split at h <;> first | (cases h;done) | skip
  rename_i r g off esz len cap ex;split at h <;> first | (cases h;done) | skip
  rename_i g' ty' cells ho;split at h <;> first | (cases h;done) | skip
  rename_i hc2;obtain⟨rfl,rfl,hbase,hle⟩:=hc2;simp only [zaa,zad] at h;obtain⟨rfl,rfl⟩:=h;obtain⟨b,o,c,sh,cs,e',rfl,q1,q2,q3,hr,hoo,hbk,hcs,hz',hcc⟩:=AY R hx ho;obtain rfl:=hdst rfl;have hgen:H.gen r=g':=by simp [aj.gen,ho,dR.gen]
  have hoff:o=sh+off:=hoo (by omega);have hal:=bM hra;have htl:(new.take (min n len*esz)).length=min n len*esz:=by
   rw [zao,hnl];have:min n len*esz<=n*esz:=zaD _ (Nat.min_le_left _ _);omega
  rw [htl] at hal;have hml:min n len*esz<=len*esz:=zaD _ (Nat.min_le_right _ _);have hlc:len*esz<=c*esz:=zaD _ (by omega);have hcell':(new.take (min n len*esz)).all AV.aH=true:=by
   rw [zaZ] at hcell ⊢;intro a ha';exact hcell a (List.mem_of_mem_take ha')
  have hst:=jh (P:=P) (o:=o) arr.toList w cs 0 hbk (by rw [hal];omega) (nO hcell' hra);have kX:Xct ty' e' sh cs.size cells.length:=by
   have sF:=R.obj r b sh hr;simp only [vX,ho] at sF;obtain⟨cs2,e2,k1,_,_,k4⟩:=sF;rw [hbk] at k1;cases k1;exact k4
  have hput:=CV (hX:=by rw [dG,gX _ _ _ (by rw [htl];omega)];exact kX) (ty':=ty') (cells':=setAt cells off (new.take (min n len*esz))) (cs':=setMany cs o arr.toList) (g':=g') (sh':=sh) R hr hbk (dG _ _ _) (by omega) (λ_=> rfl)
   (by rw [gX _ _ _ (by rw [htl];omega)];exact hz') (by
    intro i u hu;rw [sW _ _ _ (by rw [htl];omega),htl] at hu;rw [jZ _ _ _ _ (by rw [hal];omega),hal];by_cases hi:off<=i/\i < off+min n len*esz
    ·rw [if_pos hi] at hu;rw [if_pos (by omega),show sh+i - o=i - off from by omega];exact iQ hra hu
    ·rw [if_neg hi] at hu;rw [if_neg (by omega)];exact sV hbk hcc hu)
  refine⟨.int .i64 ((min n len:Nat):Int),_,_,?_,hput.1,by simp only [RV],hput.2⟩;have hmin:Nat.min n len=min n len:=rfl;simp only [zbf] at hst;simp only [Builtin.copy_,ht,a0,a1,Sem.run_bind,run_underlying (lQ he),Result.andThen_ok,hl,run_sizeOf hs,hmin,ha,hst,Sem.run_pure,goInt]
theorem aac(R:Rel ρ H w){t ty:TypeId}{x:AV}{cx:Value}(hx:RV ρ H.gen w x cx)(h:Qu P t x H=some (v,H')):Ok P ρ H w (Builtin.clear_ #[t] ty #[cx]) v H':=by
 have a0:(#[t]:Array TypeId)[0]?=some t:=rfl;have a1:(#[cx]:Array Value)[0]?=some cx:=rfl;unfold Qu at h;split at h <;> first | (cases h;done) | skip
 rename_i e he;split at h <;> first | (cases h;done) | skip
 ·rename_i m z r g off esz len cap ex hs hz;obtain⟨zv,hzv,rfl⟩:=wW hz;by_cases h0:len=0
  ·subst h0;simp only [if_true,zaa,zad] at h;obtain⟨rfl,rfl⟩:=h;simp only [RV] at hx;obtain⟨b,o,c,rfl,_⟩:=hx;refine OkP.ok ⟨.tuple #[],?_,by simp only [RV];exact⟨_,rfl,iI⟩⟩ R;simp [Builtin.clear_,run_underlying (lQ he)]
  ·rw [if_neg h0] at h;split at h <;> first | (cases h;done) | skip
   rename_i g' ty' cells ho;split at h <;> first | (cases h;done) | skip
   rename_i hc2;obtain⟨rfl,rfl,hbase,hzl,hcell,hle⟩:=hc2;simp only [zaa,zad] at h;obtain⟨rfl,rfl⟩:=h;simp at hzl;obtain⟨b,o,c,sh,cs,e',rfl,q1,q2,q3,hr,hoo,hbk,hcs,hz',hcc⟩:=AY R hx ho;have hgen:H.gen r=g':=by simp [aj.gen,ho,dR.gen]
   have hoff:o=sh+off:=hoo (by omega);have hlc:len*esz<=c*esz:=zaD _ (by omega);have hzr:=sZ (ρ:=ρ) (G:=H.gen) (w:=w) zv len;have heq:((Array.range (len*zv.cells.size)).map (zv.cells[· % zv.cells.size]!))=Builtin.zeroCells zv.cells len:=rfl;rw [heq] at hzr;have VA:(bI (zv.cells.toList.map .s) len).length=len*esz:=by rw [gY];simp [hzl]
   have hal:=bM hzr;rw [VA] at hal;have hcz:(bI (zv.cells.toList.map .s) len).all AV.aH=true:=by
    have key:∀n,(bI (zv.cells.toList.map .s) n).all AV.aH=true:=by
     intro n
     induction n with
     | zero=> rfl
     | succ n ih=> simp only [bI,zbb,ih,hcell,zb8]
    exact key len
   have hst:=jh (P:=P) (o:=o) (Builtin.zeroCells zv.cells len).toList w cs 0 hbk (by rw [hal];omega) (nO hcz hzr);have kX:Xct ty' e' sh cs.size cells.length:=by
    have sF:=R.obj r b sh hr;simp only [vX,ho] at sF;obtain⟨cs2,e2,k1,_,_,k4⟩:=sF;rw [hbk] at k1;cases k1;exact k4
   have hput:=CV (hX:=by rw [dG,gX _ _ _ (by rw [VA];omega)];exact kX) (ty':=ty') (cells':=setAt cells off (bI (zv.cells.toList.map .s) len)) (cs':=setMany cs o (Builtin.zeroCells zv.cells len).toList) (g':=g') (sh':=sh) R hr hbk (dG _ _ _) (by omega) (λ_=> rfl)
    (by rw [gX _ _ _ (by rw [VA];omega)];exact hz') (by
     intro i u hu;rw [sW _ _ _ (by rw [VA];omega),VA] at hu;rw [jZ _ _ _ _ (by rw [hal];omega),hal];by_cases hi:off<=i/\i < off+len*esz
     ·rw [if_pos hi] at hu;rw [if_pos (by omega),show sh+i - o=i - off from by omega];exact iQ hzr hu
     ·rw [if_neg hi] at hu;rw [if_neg (by omega)];exact sV hbk hcc hu)
   refine⟨.tuple #[],_,_,?_,hput.1,by simp only [RV];exact⟨_,rfl,iI⟩,hput.2⟩;simp only [zbf] at hst;obtain⟨len,rfl⟩:∃k,len=k+1:=⟨len - 1,by omega⟩
   simp only [Builtin.clear_,a0,a1,Sem.run_bind,run_underlying (lQ he),Result.andThen_ok,eG hzv,hst,Sem.run_pure]
 ·simp only [zaa,zad] at h;obtain⟨rfl,rfl⟩:=h;simp only [RV] at hx;subst hx;refine OkP.ok ⟨.tuple #[],?_,by simp only [RV];exact⟨_,rfl,iI⟩⟩ R;simp [Builtin.clear_,run_underlying (lQ he)]
end
section
variable {P:Program}{ρ:Ren}{H H':aj}{w:World}{v:AV}
theorem wo {G:Nat->Nat}:∀(xs:List AV) (l:List Value) (ns:List Int),RVs ρ G w xs l->lK xs=some ns->l=ns.map (Value.int .u8)
 | [],l,ns,h,hn=> by
  simp only [RVs] at h;subst h;simp only [lK,zaa] at hn;subst hn;rfl
 | x::xs,l,ns,h,hn=> by
  obtain⟨y,ys,rfl,h1,h2⟩:=(by simpa only [RVs] using h)
  simp only [lK] at hn;split at hn <;> first | (cases hn;done) | skip
  split at hn <;> first | (cases hn;done) | skip
  rename_i l' hl';simp only [zaa] at hn;subst hn;simp only [RV] at h1;subst h1;rw [wo xs ys l' h2 hl'];rfl
theorem ahq(R:Rel ρ H w){x:AV}{cx:Value}{s:ByteArray}(hx:RV ρ H.gen w x cx)(h:ag8 x ((aT x).map H.get)=some s):(Conv.bytesToString cx).run P w=.ok (.string s) w/\∃a l c,cx=.slice a l c:=by
 unfold ag8 at h;split at h <;> first | (cases h;done) | skip
 ·rename_i r g off esz len cap ex;split at h <;> first | (cases h;done) | skip
  rename_i h1;subst h1;split at h <;> first | (cases h;done) | skip
  rename_i g' ty cells ho;simp only [aT,zah,zaa] at ho;split at h <;> first | (cases h;done) | skip
  rename_i hcond;obtain⟨rfl,hle⟩:=hcond;cases hb:lK ((cells.drop off).take (len*1)) with
  | none=> rw [hb] at h;cases h
  | some ns=>
   simp only [hb,zah,zaa] at h;subst h;have hc:aX H (.sl r g' off 1 len cap ex)=some ((cells.drop off).take (len*1)):=by simp only [aX,ho];rw [if_pos ⟨trivial,hle⟩]
   have hlen:((cells.drop off).take (len*1)).length=len*1:=by simp;omega
   obtain⟨_,arr,ha,hra⟩:=iR (P:=P) (m:=1) R hx rfl hc hlen;have harr:=wo _ _ ns hra hb;simp only [RV] at hx;obtain⟨b,o,c,rfl,_⟩:=hx;have hl:(loadCells ⟨b,o,none⟩ len).run P w=.ok (ns.map (Value.int .u8)).toArray w:=by
    simp only [Builtin.firstCells,zbt] at ha;rw [ha,<-harr]
   exact⟨run_bytesToString w ⟨b,o,none⟩ len c ns hl,_,_,_,rfl⟩
 ·rename_i n esz cells;split at h <;> first | (cases h;done) | skip
  rename_i h1;subst h1;cases hb:lK cells with
  | none=> simp [hb] at h
  | some ns=>
   simp only [hb,zah,zaa] at h;subst h;have hx':=hx;simp only [RV] at hx;obtain⟨b,o,c,rfl,q1,q2,_⟩:=hx;obtain⟨_,arr,ha,hra⟩:=iR (P:=P) (m:=1) R hx' rfl rfl q2;have harr:=wo _ _ ns hra hb;have hl:(loadCells ⟨b,o,none⟩ n).run P w=.ok (ns.map (Value.int .u8)).toArray w:=by
    simp only [Builtin.firstCells,zbt] at ha;rw [ha,<-harr]
   exact⟨run_bytesToString w ⟨b,o,none⟩ n c ns hl,_,_,_,rfl⟩
 ·simp only [zaa] at h;subst h;simp only [RV] at hx;subst hx;exact⟨by simp [Conv.bytesToString],_,_,_,rfl⟩
theorem TN {src dst:TypeId}(h:CJ P src dst=true):∃e,P.underlying src=some (.slice e)/\P.underlying dst=some .string/\P.underlying e=some (.int .u8):=by
 unfold CJ at h;split at h <;> first | (cases h;done) | skip
 rename_i e hs hd;split at h <;> first | (cases h;done) | skip
 rename_i he;exact⟨e,hs,hd,he⟩
theorem TP(R:Rel ρ H w){src dst:TypeId}{x:AV}{cx:Value}(hx:RV ρ H.gen w x cx)(h:iP P src dst x H=some (v,H')):H'=H/\OkP P ρ H.gen w (convert src dst cx) v:=by
 obtain⟨h',hh⟩:=qP h
 clear h
 subst hh;have h:=h'
 clear h'
 refine⟨rfl,?_⟩;unfold wU at h;split at h
 ·rename_i hb;obtain⟨e,hs,hd,he⟩:=TN hb;cases hst:ag8 x ((aT x).map H'.get) with
  | none=> simp [hst] at h
  | some s=>
   simp only [hst,zah,zaa] at h;subst h;obtain⟨hrun,a,l,c,rfl⟩:=ahq (P:=P) R hx hst;exact⟨.string s,by rw [run_convert_bytes_string w src dst e _ _ _ hs he hd];exact hrun,by simp only [RV]⟩
 ·split at h <;> first | (cases h;done) | skip
  rename_i u hu;rw [E9 x cx u hx hu];cases hp:cO P (convert src dst u) with
  | none=> simp [hp] at h
  | some r=>
   simp only [hp,zah,zaa] at h;subst h;exact⟨r,ku hp w,by simp only [RV]⟩
theorem KC {G:Nat->Nat}{x:AV}{cx:Value}(hx:RV ρ G w x cx)(h:au x=some v):v=x/\(match cx with
  | .pointer none | .nilIface | .nilFunc=> (runtimePanic .nilDeref:Sem Next)
  | .func (.method name) first captured=>
   match(first[0]?:Option Value) with
   | some .nilIface=> runtimePanic .nilDeref
   | some (.iface t w)=> do
    if(<-nilAhead ((<-program).types.size+Made.depth) t w name) !=some false then
     unsupported (.noEntry "op/nilCheck.the method's receiver behind this interface value is a nil pointer, or cannot be seen to be none, and the arguments act or may panic (ledger 612)")
    pure (.value (.func (.method name) first captured))
   | _=> pure (.value (.func (.method name) first captured))
  | x=> pure (.value x)).run P w=.ok (.value cx) w:=by
 unfold au at h;split at h <;> first | (cases h;done) | skip
 all_goals
  simp only [zaa] at h;subst h;refine⟨rfl,?_⟩;simp only [RV] at hx
 ·obtain⟨a,rfl,_⟩:=hx;rfl
 ·obtain⟨b,o,rfl,_⟩:=hx;rfl
 ·obtain⟨a,c,rfl,_⟩:=hx;rfl
 ·subst hx;rfl
end
def Sound(P:Program)(C:Callee):Prop:=
 ∀f args H v H',C f args H=some (v,H')->∀(ρ:Ren) (w:World) (jJ:Array Value),Rel ρ H w->RVs ρ H.gen w args jJ.toList->
  Calls P f jJ w λe w'=>∃cv ρ',e=.returned cv/\Rel ρ' H' w'/\RV ρ' H'.gen w' v cv/\Ext ρ H w ρ' H' w'
section
variable {P:Program}{ρ:Ren}{H H':aj}{w:World}{v:AV}
theorem aad {o:Oper}{a:Act}{K:Act->World->Prop}{Q:Exit->Act->World->Prop}{s:Sem Value}{cv:Value}{w':World}(he:execOp a.eval o=(do pure (.value (<-s))))(hr:s.run P w=.ok cv w')(hk:K (a.put o.dst cv) w'):
  o.wp P a w K Q:=by
 unfold Oper.wp;rw [he,Sem.run_bind,hr];exact hk
theorem aeZ {o:Oper}{a:Act}{K:Act->World->Prop}{Q:Exit->Act->World->Prop}{s:Sem Unit}{w':World}(he:execOp a.eval o=(do s;pure .skip))(hr:s.run P w=.ok () w')(hk:K (a.put o.dst undef) w'):
  o.wp P a w K Q:=by
 unfold Oper.wp;rw [he,Sem.run_bind,hr];exact hk
theorem ae0 {o:Oper}{a:Act}{K:Act->World->Prop}{Q:Exit->Act->World->Prop}{s:Sem Next}{cv:Value}{w':World}(he:execOp a.eval o=s)(hr:s.run P w=.ok (.value cv) w')(hk:K (a.put o.dst cv) w'):
  o.wp P a w K Q:=by
 unfold Oper.wp;rw [he,hr];exact hk
theorem AZ {G:Nat->Nat}:RV ρ G w aO undef:=by
 unfold aO undef;simp only [RV];exact⟨_,rfl,iI⟩
theorem yJ {G:Nat->Nat}{t:dU}{a:Act}:∀(xs:List Operand),(∀x∈xs,RV ρ G w (bT t x) (a.eval x))->RVs ρ G w (xs.map (bT t)) (xs.map a.eval)
 | [],_=> iI
 | x::xs,h=> iF (h x (by simp)) (yJ xs λy hy=> h y (by simp [hy]))
theorem CZ {G:Nat->Nat}{t:dU}{a:Act}{x:Option Operand}(h:∀y∈x.toArray,RV ρ G w (bT t y) (a.eval y)):Ox ρ G w (x.map (bT t)) (x.map a.eval):=by
 cases x with
 | none=> trivial
 | some y=> exact h y (by simp)
theorem KD {f:FuncId}{args:Array Value}(h:nN P f=true):(callFunc f args).run P w=.ok (.enter f args) w:=by
 unfold nN at h;cases hf:P.funcs[f]? with
 | none=> simp [hf] at h
 | some fn=>
  simp only [hf,zaj,zbi] at h;have hb:fn.body.isNone=false:=by
   cases hbd:fn.body with
   | none=> simp [hbd] at h
   | some b=> rfl
  simp only [callFunc,Sem.run_bind,run_program,Result.andThen_ok,hf,h.1,zai,if_false,hb,Sem.run_pure]
theorem ae1 {C:Callee}(hC:Sound P C){o:Oper}{c:Call}{f:Operand}(hop:o.op=.call c)(Oz:c.callee=.value f){a:Act}{K:Act->World->Prop}{Q:Exit->Act->World->Prop}{x:AV}{args:List AV}(R:Rel ρ H w)
  (hf:RV ρ H.gen w x (a.eval f)) (hargs:RVs ρ H.gen w args (c.args.map a.eval).toList) (h:qJ P C x args H=some (v,H'))
  (hK:∀cv ρ' w',Rel ρ' H' w'->RV ρ' H'.gen w' v cv->Ext ρ H w ρ' H' w'->K (a.put o.dst cv) w'):o.wp P a w K Q:=by
 have key:∀(fid:FuncId) (first captured:Array Value) (xs:List AV),a.eval f=.func (.func fid) first captured->nN P fid=true->C fid xs H=some (v,H')->RVs ρ H.gen w xs (first++c.args.map a.eval++captured).toList->o.wp P a w K Q:=by
  intro fid first captured xs hev hen hc hxs
  have hrun:(execOp a.eval o).run P w=.ok (.enter fid (first++c.args.map a.eval++captured)) w:=by
   unfold execOp;rw [hop];simp only [resolve,Oz,hev,Deferred.ofValue,Sem.run_bind,Sem.run_pure,Result.andThen_ok,invoke];exact KD hen
  unfold Oper.wp;rw [hrun];refine(hC fid xs H v H' hc ρ w _ R hxs).mono λe w' he=> ?_;obtain⟨cv,ρ',rfl,h1,h2,h3⟩:=he;exact hK cv ρ' w' h1 h2 h3
 unfold qJ at h;split at h <;> first | (cases h;done) | skip
 ·rename_i fid first captured
  split at h <;> first | (cases h;done) | skip
  rename_i hen;simp only [RV] at hf;obtain⟨fa,ca,hev,h1,h2⟩:=hf;refine key fid fa ca _ hev hen h ?_;rw [zca,zca];exact nH (nH h1 hargs) h2
 ·rename_i fid first captured
  split at h <;> first | (cases h;done) | skip
  rename_i hen;simp only [RV] at hf;refine key fid first captured _ hf hen h ?_
  rw [zca,zca];exact nH (nH (fF _) hargs) (fF _)
theorem qR {α:Type}{x:Option α}{u:α}(h:aC x H=some (u,H')):x=some u/\H'=H:=by
 unfold aC at h;cases x with
 | none=> cases h
 | some y=> simp only [zah,zaa,zad] at h;exact⟨by rw [h.1],h.2.symm⟩
theorem TQ(R:Rel ρ H w){b:Builtin}{ts:Array TypeId}{ty:TypeId}{consts:Array Bool}{args:List AV}{jJ:Array Value}(hargs:RVs ρ H.gen w args jJ.toList)(h:gy P b ts ty args H=some (v,H')):
  ∃s:Sem Value,builtin b ts ty consts jJ=(do pure (.value (<-s)))/\Ok P ρ H w s v H':=by
 have two:∀{x y:AV},args=[x,y]->∃cx cy,jJ=#[cx,cy]/\RV ρ H.gen w x cx/\RV ρ H.gen w y cy:=by
  intro x y hxy;subst hxy;obtain⟨cx,l,e,h1,h2⟩:=(by simpa only [RVs] using hargs)
  obtain⟨cy,l',e',h3,h4⟩:=(by simpa only [RVs] using h2)
  subst e' h4;exact⟨cx,cy,zcc.1 (by simpa using e),h1,h3⟩
 have one:∀{x:AV},args=[x]->∃cx,jJ=#[cx]/\RV ρ H.gen w x cx:=by
  intro x hxy;subst hxy;obtain⟨cx,l,e,h1,h2⟩:=(by simpa only [RVs] using hargs)
  subst h2;exact⟨cx,zcc.1 (by simpa using e),h1⟩
 have tys:∀{l:List TypeId},ts.toList=l->ts=l.toArray:=λh=> by rw [<-h]
 unfold gy at h;split at h
 ·rename_i t u x y hts;obtain⟨cx,cy,rfl,h1,h2⟩:=two rfl;rw [tys hts];exact⟨_,rfl,Vz R h1 h2 h⟩
 ·rename_i t x hts;obtain⟨cx,rfl,h1⟩:=one rfl;rw [tys hts];obtain⟨rfl,h2⟩:=ahn (ty:=ty) R h1 h;exact⟨_,rfl,h2.ok R⟩
 ·rename_i t x hts;obtain⟨cx,rfl,h1⟩:=one rfl;rw [tys hts];unfold aC at h;cases hc:aci P t x with
  | none=> simp [hc] at h
  | some u=>
   simp only [hc,zah,zaa,zad] at h;obtain⟨rfl,rfl⟩:=h;exact⟨_,rfl,(aho (ty:=ty) h1 hc).ok R⟩
 ·rename_i t ts' x y hts;obtain⟨cx,cy,rfl,h1,h2⟩:=two rfl;exact⟨_,rfl,aeY R (by rw [tys hts];rfl) h1 h2 h⟩
 ·rename_i t x hts;obtain⟨cx,rfl,h1⟩:=one rfl;rw [tys hts];exact⟨_,rfl,aac R h1 h⟩
 ·rename_i t ts' x y hts;obtain⟨cx,cy,rfl,h1,h2⟩:=two rfl;exact⟨_,rfl,Vx R (by rw [tys hts];rfl) h1 h2 h⟩
 ·obtain⟨hc,rfl⟩:=qR h;have:=KA hargs hc;simp only [if_true] at this;exact⟨_,rfl,this.ok R⟩
 ·obtain⟨hc,rfl⟩:=qR h;have:=KA hargs hc;simp only [zai,if_false] at this;exact⟨_,rfl,this.ok R⟩
 ·cases h
theorem Ig {G:Nat->Nat}{t:dU}{a:Act}(ps:Array (Nat × Operand))(h:∀x∈(ps.toList.map (·.2)).toArray,RV ρ G w (bT t x) (a.eval x)):
  (ps.toList.map λp=> (p.1,bT t p.2)).map (·.1)=((ps.map λ(i,x)=> (i,a.eval x)).toList).map (·.1)/\RVs ρ G w ((ps.toList.map λp=> (p.1,bT t p.2)).map (·.2)) (((ps.map λ(i,x)=> (i,a.eval x)).toList).map (·.2)):=by
 refine⟨by simp [Function.comp_def],?_⟩;have h1:(ps.toList.map λp=> (p.1,bT t p.2)).map (·.2)=(ps.toList.map (·.2)).map (bT t):=by simp [Function.comp_def]
 have h2:((ps.map λ(i,x)=> (i,a.eval x)).toList).map (·.2)=(ps.toList.map (·.2)).map a.eval:=by simp [Function.comp_def]
 rw [h1,h2];exact yJ _ λx hx=> h x (by simpa using hx)
theorem Ih {C:Callee}(hC:Sound P C){t:dU}{o:Oper}(h:opA P C t o H=some (v,H'))(R:Rel ρ H w){a:Act}(hop:∀x∈o.op.operands,RV ρ H.gen w (bT t x) (a.eval x)){K:Act->World->Prop}{Q:Exit->Act->World->Prop}
  (hK:∀cv ρ' w',Rel ρ' H' w'->RV ρ' H'.gen w' v cv->Ext ρ H w ρ' H' w'->K (a.put o.dst cv) w'):o.wp P a w K Q:=by
 obtain⟨dst,op,type,pos,after,guard⟩:=o;simp only at hop hK;have OB:∀{s:Sem Value},execOp a.eval ⟨dst,op,type,pos,after,guard⟩=(do pure (.value (<-s)))->Ok P ρ H w s v H'->(⟨dst,op,type,pos,after,guard⟩:Oper).wp P a w K Q:=by
  intro s he hok;obtain⟨cv,ρ',w',h1,h2,h3,h4⟩:=hok;exact aad he h1 (hK cv ρ' w' h2 h3 h4)
 have ahr:∀{s:Sem Value},execOp a.eval ⟨dst,op,type,pos,after,guard⟩=(do pure (.value (<-s)))->H'=H->OkP P ρ H.gen w s v->(⟨dst,op,type,pos,after,guard⟩:Oper).wp P a w K Q:=by
  intro s he hh hok;subst hh;exact OB he (hok.ok R)
 have apd:∀{s:Sem Unit},execOp a.eval ⟨dst,op,type,pos,after,guard⟩=(do s;pure .skip)->(v=aO/\∃ρ' w',s.run P w=.ok () w'/\Rel ρ' H' w'/\Ext ρ H w ρ' H' w')->(⟨dst,op,type,pos,after,guard⟩:Oper).wp P a w K Q:=by
  intro s he hok;obtain⟨rfl,ρ',w',h1,h2,h3⟩:=hok;exact aeZ he h1 (hK undef ρ' w' h2 AZ h3)
 have Ve:∀{s:Sem Value} {x:Option AV},execOp a.eval ⟨dst,op,type,pos,after,guard⟩=(do pure (.value (<-s)))->aC x H=some (v,H')->(x=some v->OkP P ρ H.gen w s v)->(⟨dst,op,type,pos,after,guard⟩:Oper).wp P a w K Q:=by
  intro s x he hl hok;obtain⟨h1,h2⟩:=qR hl;exact ahr he h2 (hok h1)
 have i1:∀{x:Operand},op.operands=#[x]->RV ρ H.gen w (bT t x) (a.eval x):=λhe=> hop _ (by rw [he];simp);have i2:∀{x y:Operand},op.operands=#[x,y]->RV ρ H.gen w (bT t x) (a.eval x)/\RV ρ H.gen w (bT t y) (a.eval y):=λhe=> ⟨hop _ (by rw [he];simp),hop _ (by rw [he];simp)⟩
 have i3:∀{x y z:Operand},op.operands=#[x,y,z]->RV ρ H.gen w (bT t x) (a.eval x)/\RV ρ H.gen w (bT t y) (a.eval y)/\RV ρ H.gen w (bT t z) (a.eval z):=λhe=> ⟨hop _ (by rw [he];simp),hop _ (by rw [he];simp),hop _ (by rw [he];simp)⟩
 cases op with
 | move x=>
  refine Ve (s:=pure (a.eval x)) rfl h λhx=> ?_;cases hx;exact⟨_,rfl,i1 rfl⟩
 | assign x=>
  refine Ve (s:=pure (a.eval x)) rfl h λhx=> ?_;cases hx;exact⟨_,rfl,i1 rfl⟩
 | pick c x y=>
  obtain⟨h1,h2,h3⟩:=i3 rfl;refine Ve (s:=do pure (if<-asBool (a.eval c) then a.eval x else a.eval y)) ?_ h λhx=> aeV h1 h2 h3 hx;simp [execOp]
 | alloc e=> exact OB rfl (ZW R h)
 | box e x=> exact OB rfl (ahk R (i1 rfl) h)
 | build ty ps=>
  obtain⟨h1,h2⟩:=Ig (ρ:=ρ) (w:=w) (G:=H.gen) (t:=t) (a:=a) ps hop;exact Ve rfl h λhx=> Z5 h1 h2 hx
 | buildSlice ty n ps=>
  obtain⟨h1,h2⟩:=Ig (ρ:=ρ) (w:=w) (G:=H.gen) (t:=t) (a:=a) ps hop;exact OB rfl (Ib R h1 h2 h)
 | load ty x=>
  obtain⟨h1,h2⟩:=Vs R (i1 rfl) h;exact ahr rfl h1 h2
 | store ty x y=>
  obtain⟨h1,h2⟩:=i2 rfl;exact apd rfl (ZV R h1 h2 h)
 | nilCheck x=>
  obtain⟨h1,h2⟩:=qR h;subst h2;obtain⟨rfl,h3⟩:=KC (P:=P) (i1 rfl) h1;exact ae0 rfl h3 (hK _ ρ w R (i1 rfl) (Ext.refl _ _ _))
 | binOp b ty x y ty'=>
  obtain⟨h1,h2⟩:=i2 rfl;exact Ve rfl h λhx=> aeW h1 h2 (λhn=> by rw [Ku hn];rfl) hx
 | unOp b ty x=> exact Ve rfl h λhx=> amU (i1 rfl) hx
 | convert src dst x=>
  obtain⟨h1,h2⟩:=TP R (i1 rfl) h;exact ahr rfl h1 h2
 | makeFunc f fs cs=>
  refine Ve (s:=Instr.makeFunc f (fs.map a.eval) (cs.map a.eval)) rfl h λhx=> ?_;cases hx;refine⟨_,rfl,?_⟩;simp only [RV];refine⟨_,_,rfl,?_,?_⟩
  ·rw [Array.toList_map];exact yJ _ λx hx=> hop x (by simp [Op.operands];exact .inl (by simpa using hx))
  ·rw [Array.toList_map];exact yJ _ λx hx=> hop x (by simp [Op.operands];exact .inr (by simpa using hx))
 | makeMap ty r=>
  cases r with
  | none=> exact OB rfl (TM R h)
  | some r=> cases h
 | makeSlice ty l c=>
  obtain⟨h1,h2⟩:=i2 rfl;exact OB rfl (Kv R h1 h2 h)
 | slice ty x lo hi mx=>
  have hx0:RV ρ H.gen w (bT t x) (a.eval x):=hop x (by simp [Op.operands]);have hlo:Ox ρ H.gen w (lo.map (bT t)) (lo.map a.eval):=CZ λy hy=> hop y (by simp [Op.operands] at hy ⊢;simp [hy]);have hhi:Ox ρ H.gen w (hi.map (bT t)) (hi.map a.eval):=CZ λy hy=> hop y (by simp [Op.operands] at hy ⊢;simp [hy]);have hmx:Ox ρ H.gen w (mx.map (bT t)) (mx.map a.eval):=CZ λy hy=> hop y (by simp [Op.operands] at hy ⊢;simp [hy]);exact Ve rfl h λhh=> Z4 hx0 hlo hhi hmx hh
 | fieldAddr ty x i=> exact Ve rfl h λhx=> Kr (i1 rfl) hx
 | field ty x i=> exact Ve rfl h λhx=> ZX (i1 rfl) hx
 | indexAddr ty x i=>
  obtain⟨h1,h2⟩:=i2 rfl;obtain⟨h3,h4⟩:=Kt R h1 h2 h;exact ahr rfl h3 h4
 | index ty x i=>
  obtain⟨h1,h2⟩:=i2 rfl;exact Ve rfl h λhx=> ZY h1 h2 hx
 | lookup ty x i ok=>
  obtain⟨h1,h2⟩:=i2 rfl;obtain⟨h3,h4⟩:=Vw R h1 h2 h;exact ahr rfl h3 h4
 | mapUpdate ty m k x=>
  obtain⟨h1,h2,h3⟩:=i3 rfl;exact apd rfl (Ky R h1 h2 h3 h)
 | extract x i=> exact Ve rfl h λhx=> TK (i1 rfl) hx
 | call c=>
  simp only [opA,sU] at h;split at h
  ·rename_i f Oz;have hargs:RVs ρ H.gen w (c.args.toList.map (bT t)) (c.args.map a.eval).toList:=by
    rw [Array.toList_map];exact yJ _ λx hx=> hop x (by simp [Op.operands,Call.operands,Oz];exact .inr (by simpa using hx))
   exact ae1 hC rfl Oz R (hop f (by simp [Op.operands,Call.operands,Oz])) hargs h hK
  ·rename_i b Oz;have hargs:RVs ρ H.gen w (c.args.toList.map (bT t)) (c.args.map a.eval).toList:=by
    rw [Array.toList_map];exact yJ _ λx hx=> hop x (by simp [Op.operands,Call.operands,Oz];simpa using hx)
   obtain⟨s,h1,h2⟩:=TQ (P:=P) (consts:=c.args.map fun | .const _=> true | _=> false) R hargs h;refine OB (s:=s) ?_ h2;rw [<-h1];simp only [execOp,resolve,Oz];rfl
  ·cases h
 | _=> cases h
end
def VB(o o':dR):Prop:=∀g ty c,o=.blk g ty c->∃g' ty' c',o'=.blk g' ty' c'/\(ty'=ty∨eH<=ty')
theorem VB.refl(o:dR):VB o o:=λg ty c h=> ⟨g,ty,c,h,.inl rfl⟩
theorem VB.trans {a b c:dR}(h:VB a b)(h':VB b c):VB a c:=λg ty cs e=> by
 obtain⟨g1,t1,c1,e1,k1⟩:=h g ty cs e;obtain⟨g2,t2,c2,e2,k2⟩:=h' g1 t1 c1 e1;refine⟨g2,t2,c2,e2,?_⟩;rcases k2 with rfl | k2
 ·exact k1
 ·exact .inr k2
theorem wX {o:dR}{g g' ty:Nat}{c c':List AV}(h:o=.blk g ty c):VB o (.blk g' ty c'):=λ_ _ _ e=> by
 rw [h] at e;cases e;exact⟨_,_,_,rfl,.inl rfl⟩
theorem Qy {o:dR}{g' ty':Nat}{c':List AV}(h:eH<=ty'):VB o (.blk g' ty' c'):=λ_ _ _ _=> ⟨_,_,_,rfl,.inr h⟩
theorem Qz {o o':dR}{k:IntKind}{es:List (Int × AV)}(h:o=.map k es):VB o o':=λ_ _ _ e=> by rw [h] at e;cases e
theorem QA {e ty off:Nat}:eH<=grT e ty off:=by
 unfold grT;split <;> omega
structure Keeps(H H':aj):Prop where
 base:H'.base=H.base
 next:H.next<=H'.next
 get:∀r,r < H.base->r < H.next->H'.get r=H.get r
 types:∀r,r < H.next->VB (H.get r) (H'.get r)
theorem Keeps.refl(H:aj):Keeps H H:=⟨rfl,zac _,λ_ _ _=> rfl,λ_ _=> .refl _⟩
theorem Keeps.trans {H H' H'':aj}(a:Keeps H H')(b:Keeps H' H''):Keeps H H'':=
 ⟨b.base.trans a.base,zaz a.next b.next,λr h1 h2=> (b.get r (by rw [a.base];exact h1) (zaw h2 a.next)).trans (a.get r h1 h2),λr h=> (a.types r h).trans (b.types r (zaw h a.next))⟩
theorem Keeps.new(H:aj)(o:dR):Keeps H (H.new o):=⟨rfl,by simp [aj.new],λr _ h=> by simp [aj.new];intro e;omega,λr h=> by
 have:(H.new o).get r=H.get r:=by simp [aj.new];intro e;omega
 rw [this];exact .refl _⟩
theorem Keeps.put {H:aj}{r:Nat}(o:dR)(h:H.base<=r)(ho:VB (H.get r) o):Keeps H (H.put r o):=⟨rfl,zac _,λx h1 _=> by simp [aj.put];intro e;omega,λx _=> by
 by_cases e:x=r
 ·subst e;simp only [aj.put,if_true];exact ho
 ·simp only [aj.put,e,if_false];exact .refl _⟩
def jB(C:Callee):Prop:=∀f args H v H',C f args H=some (v,H')->Keeps H H'
def OC(H H':aj):Prop:=H'.base=H.base/\H.next<=H'.next/\∀r,r < H.next->H'.get r=H.get r
section
variable {P:Program}{C:Callee}{t:dU}{o:Oper}{H H':aj}{v:AV}
theorem qg {e:TypeId}{m b n:Nat}{x:AV}{new:List AV}(h:bU e m b x n new H=some (v,H')):Keeps H H':=by
 unfold bU at h;split at h <;> first | (cases h;done) | skip
 split at h <;> first | (cases h;done) | skip
 ·split at h
  ·simp only [zaa,zad] at h;rw [<-h.2];exact .refl _
  ·split at h <;> first | (cases h;done) | skip
   simp only [zaa,zad] at h;rw [<-h.2];exact .new _ _
 ·split at h <;> first | (cases h;done) | skip
  split at h <;> first | (cases h;done) | skip
  split at h
  ·simp only [zaa,zad] at h;rw [<-h.2];exact .refl _
  ·split at h
   ·split at h <;> first | (cases h;done) | skip
    rename_i hc;simp only [zaa,zad] at h;rw [<-h.2];exact .put _ hc.1 (by first | exact Qy QA | exact wX (by assumption))
   ·split at h <;> first | (cases h;done) | skip
    split at h
    ·simp only [zaa,zad] at h;rw [<-h.2];exact .new _ _
    ·split at h <;> first | (cases h;done) | skip
     rename_i hc;simp only [zaa,zad] at h;rw [<-h.2];exact .put _ hc (by first | exact Qy QA | exact wX (by assumption))
theorem TS(hf:oH o.op=true):∃F:Option dR->Option AV,(looks o.op=false->∀a b,F a=F b)/\∀H:aj,opA P C t o H=(F ((jP t o.op).map H.get)).map λv=> (v,H):=by
 obtain⟨dst,op,type,pos,after,guard⟩:=o;have lift:∀{x:Option AV},opA P C t ⟨dst,op,type,pos,after,guard⟩=aC x->∃F:Option dR->Option AV,(looks op=false->∀a b,F a=F b)/\∀H:aj,opA P C t ⟨dst,op,type,pos,after,guard⟩ H=(F ((jP t op).map H.get)).map λv=> (v,H):=
  λ{x} he=> ⟨λ_=> x,λ_ _ _=> rfl,λH=> by rw [he];rfl⟩
 cases op with
 | move x=> exact lift rfl
 | assign x=> exact lift rfl
 | pick c a b=> exact lift rfl
 | build ty ps=> exact lift rfl
 | nilCheck x=> exact lift rfl
 | binOp b ty x y ty'=> exact lift rfl
 | unOp b ty x=> exact lift rfl
 | makeFunc f a c=> exact lift rfl
 | slice ty x lo hi mx=> exact lift rfl
 | fieldAddr ty x i=> exact lift rfl
 | field ty x i=> exact lift rfl
 | index ty x i=> exact lift rfl
 | extract x i=> exact lift rfl
 | load ty x=> exact⟨_,(λh=> by cases h),λH=> rfl⟩
 | lookup ty x i ok=> exact⟨_,(λh=> by cases h),λH=> rfl⟩
 | indexAddr ty x i=> exact⟨_,(λh=> by cases h),λH=> rfl⟩
 | convert src dst x=> exact⟨_,(λh=> by cases h),λH=> rfl⟩
 | call c=>
  have ahs:∀H,opA P C t ⟨dst,.call c,type,pos,after,guard⟩ H=sU P C t c type H:=λ_=> rfl;simp only [oH] at hf;cases Oz:c.callee with
  | value f=> simp [Oz] at hf
  | invoke r m=> simp [Oz] at hf
  | builtin b=>
   have hb:∀H,sU P C t c type H=gy P b c.argTypes type (c.args.toList.map (bT t)) H:=λH=> by simp only [sU,Oz]
   have none':(∀H,gy P b c.argTypes type (c.args.toList.map (bT t)) H=none)->∃F:Option dR->Option AV,(looks (.call c)=false->∀a b,F a=F b)/\∀H:aj,opA P C t ⟨dst,.call c,type,pos,after,guard⟩ H=(F ((jP t (.call c)).map H.get)).map λv=> (v,H):=
    λhn=> ⟨λ_=> none,λ_ _ _=> rfl,λH=> by rw [ahs,hb,hn];rfl⟩
   have lift':∀x,(∀H,gy P b c.argTypes type (c.args.toList.map (bT t)) H=aC x H)->∃F:Option dR->Option AV,(looks (.call c)=false->∀a b,F a=F b)/\∀H:aj,opA P C t ⟨dst,.call c,type,pos,after,guard⟩ H=(F ((jP t (.call c)).map H.get)).map λv=> (v,H):=
    λx hn=> ⟨λ_=> x,λ_ _ _=> rfl,λH=> by rw [ahs,hb,hn];rfl⟩
   cases b with
   | len=>
    cases hts:c.argTypes.toList with
    | nil=> exact none' λH=> by simp only [gy,hts]
    | cons u us=>
     cases us with
     | cons u2 us=> exact none' λH=> by simp only [gy,hts]
     | nil=>
      cases hcl:c.args.toList with
      | nil=> exact none' λH=> by simp only [gy,hts,hcl,zbY]
      | cons y ys=>
       cases ys with
       | cons z zs=> exact none' λH=> by simp only [gy,hts,hcl,zaC]
       | nil=>
        refine⟨amA P u (bT t y),(λh=> by simp [looks,Oz] at h),λH=> ?_⟩;rw [ahs,hb];simp only [gy,hts,hcl,zaC,zbY,ahi,jy,jP]
   | cap=>
    cases hts:c.argTypes.toList with
    | nil=> exact none' λH=> by simp only [gy,hts]
    | cons u us=>
     cases us with
     | cons u2 us=> exact none' λH=> by simp only [gy,hts]
     | nil=>
      cases hcl:c.args.toList with
      | nil=> exact none' λH=> by simp only [gy,hts,hcl,zbY]
      | cons y ys=>
       cases ys with
       | cons z zs=> exact none' λH=> by simp only [gy,hts,hcl,zaC]
       | nil=> exact lift' (aci P u (bT t y)) λH=> by simp only [gy,hts,hcl,zaC,zbY]
   | max=> exact lift' (jl P true c.argTypes type (c.args.toList.map (bT t))) λH=> rfl
   | min=> exact lift' (jl P false c.argTypes type (c.args.toList.map (bT t))) λH=> rfl
   | _=> simp [Oz] at hf
 | _=> cases hf
theorem Ii(hf:oH o.op=true)(h:opA P C t o H=some (v,H')):H'=H/\∀H2:aj,(looks o.op=true->∀r,jP t o.op=some r->H2.get r=H.get r)->opA P C t o H2=some (v,H2):=by
 obtain⟨F,h1,h2⟩:=TS (P:=P) (C:=C) (t:=t) hf;rw [h2] at h;cases hF:F ((jP t o.op).map H.get) with
 | none=> rw [hF] at h;cases h
 | some u=>
  rw [hF] at h;simp only [zah,zaa,zad] at h;refine⟨h.2.symm,λH2 hw=> ?_⟩;rw [h2];have:F ((jP t o.op).map H2.get)=F ((jP t o.op).map H.get):=by
   cases hl:looks o.op with
   | false=> exact h1 hl _ _
   | true=>
    cases hwa:jP t o.op with
    | none=> rfl
    | some r=> simp only [zah,hw hl r hwa]
  rw [this,hF,h.1];rfl
theorem OD(hC:jB C){f:AV}{args:List AV}(h:qJ P C f args H=some (v,H')):Keeps H H':=by
 unfold qJ at h;split at h <;> first | (cases h;done) | skip
 ·split at h <;> first | (cases h;done) | skip
  exact hC _ _ _ _ _ h
 ·split at h <;> first | (cases h;done) | skip
  exact hC _ _ _ _ _ h
theorem A8(hC:jB C)(h:opA P C t o H=some (v,H')):Keeps H H':=by
 by_cases hf:oH o.op=true
 ·rw [(Ii hf h).1];exact .refl _
 obtain⟨dst,op,type,pos,after,guard⟩:=o;cases op with
 | alloc e=>
  simp only [opA,EZ] at h;split at h <;> first | (cases h;done) | skip
  split at h <;> first | (cases h;done) | skip
  simp only [zaa,zad] at h;rw [<-h.2];exact .new _ _
 | box e x=>
  simp only [opA,fA] at h;split at h <;> first | (cases h;done) | skip
  simp only [zaa,zad] at h;rw [<-h.2];exact .new _ _
 | buildSlice ty n ps=>
  simp only [opA,bG] at h;split at h <;> first | (cases h;done) | skip
  split at h <;> first | (cases h;done) | skip
  split at h <;> first | (cases h;done) | skip
  split at h <;> first | (cases h;done) | skip
  split at h <;> first | (cases h;done) | skip
  simp only [zaa,zad] at h;rw [<-h.2];exact .new _ _
 | store ty x y=>
  simp only [opA,J8] at h;split at h <;> first | (cases h;done) | skip
  split at h <;> first | (cases h;done) | skip
  split at h <;> first | (cases h;done) | skip
  rename_i hc;simp only [zaa,zad] at h;rw [<-h.2];exact .put _ hc.2.1 (wX (by assumption))
 | makeMap ty r=>
  cases r with
  | none=>
   simp only [opA,uK] at h;split at h <;> first | (cases h;done) | skip
   simp only [zaa,zad] at h;rw [<-h.2];exact .new _ _
  | some r=> cases h
 | makeSlice ty l c=>
  simp only [opA,nG] at h;split at h <;> first | (cases h;done) | skip
  split at h <;> first | (cases h;done) | skip
  split at h <;> first | (cases h;done) | skip
  simp only [zaa,zad] at h;rw [<-h.2];exact .new _ _
 | mapUpdate ty m k x=>
  simp only [opA,pY] at h;split at h <;> first | (cases h;done) | skip
  split at h <;> first | (cases h;done) | skip
  split at h <;> first | (cases h;done) | skip
  rename_i hc;simp only [zaa,zad] at h;rw [<-h.2];exact .put _ hc.2.2 (Qz (by assumption))
 | call c=>
  have ahs:opA P C t ⟨dst,.call c,type,pos,after,guard⟩=sU P C t c type:=rfl;rw [ahs] at h;unfold sU at h;split at h <;> first | (cases h;done) | skip
  ·exact OD hC h
  ·unfold gy at h;split at h <;> first | (cases h;done) | skip
   ·unfold Hl at h;split at h <;> first | (cases h;done) | skip
    split at h <;> first | (cases h;done) | skip
    split at h <;> first | (cases h;done) | skip
    split at h
    ·split at h <;> first | (cases h;done) | skip
     split at h <;> first | (cases h;done) | skip
     exact qg h
    ·split at h <;> first | (cases h;done) | skip
     exact qg h
   ·rw [(qP h).2];exact .refl _
   ·rw [(qR h).2];exact .refl _
   ·unfold ZP at h;split at h <;> first | (cases h;done) | skip
    split at h <;> first | (cases h;done) | skip
    simp only at h;split at h <;> first | (cases h;done) | skip
    split at h
    ·split at h <;> first | (cases h;done) | skip
     simp only [zaa,zad] at h;rw [<-h.2];exact .refl _
    ·split at h <;> first | (cases h;done) | skip
     split at h <;> first | (cases h;done) | skip
     split at h <;> first | (cases h;done) | skip
     rename_i hc;simp only [zaa,zad] at h;rw [<-h.2];exact .put _ hc.2.2.1 (wX (by assumption))
   ·unfold Qu at h;split at h <;> first | (cases h;done) | skip
    split at h <;> first | (cases h;done) | skip
    ·split at h
     ·simp only [zaa,zad] at h;rw [<-h.2];exact .refl _
     ·split at h <;> first | (cases h;done) | skip
      split at h <;> first | (cases h;done) | skip
      rename_i hc;simp only [zaa,zad] at h;rw [<-h.2];exact .put _ hc.2.2.1 (wX (by assumption))
    ·simp only [zaa,zad] at h;rw [<-h.2];exact .refl _
   ·unfold Ho at h;split at h <;> first | (cases h;done) | skip
    split at h <;> first | (cases h;done) | skip
    split at h <;> first | (cases h;done) | skip
    rename_i hc;simp only [zaa,zad] at h;rw [<-h.2];exact .put _ hc.2.2 (Qz (by assumption))
   ·rw [(qR h).2];exact .refl _
   ·rw [(qR h).2];exact .refl _
 | _=> first | (cases h;done) | exact absurd rfl hf
theorem OC.new(H:aj)(o:dR):OC H (H.new o):=⟨rfl,by simp [aj.new],λr h=> by simp [aj.new];intro e;omega⟩
theorem OE(hq:qL o.op=true)(hc:kH o.op=false)(h:opA P C t o H=some (v,H')):OC H H':=by
 obtain⟨dst,op,type,pos,after,guard⟩:=o;cases op with
 | box e x=>
  simp only [opA,fA] at h;split at h <;> first | (cases h;done) | skip
  simp only [zaa,zad] at h;rw [<-h.2];exact .new _ _
 | buildSlice ty n ps=>
  simp only [opA,bG] at h;split at h <;> first | (cases h;done) | skip
  split at h <;> first | (cases h;done) | skip
  split at h <;> first | (cases h;done) | skip
  split at h <;> first | (cases h;done) | skip
  split at h <;> first | (cases h;done) | skip
  simp only [zaa,zad] at h;rw [<-h.2];exact .new _ _
 | makeMap ty r=>
  cases r with
  | none=>
   simp only [opA,uK] at h;split at h <;> first | (cases h;done) | skip
   simp only [zaa,zad] at h;rw [<-h.2];exact .new _ _
  | some r=> cases h
 | makeSlice ty l c=>
  simp only [opA,nG] at h;split at h <;> first | (cases h;done) | skip
  split at h <;> first | (cases h;done) | skip
  split at h <;> first | (cases h;done) | skip
  simp only [zaa,zad] at h;rw [<-h.2];exact .new _ _
 | call c=>
  simp only [qL] at hq;simp only [kH] at hc;cases Oz:c.callee <;> simp_all
 | _=> cases hq
theorem C9(hC:jB C)(h:opG P C t o H=some (v,H')):OC H H'/\∃H1,opA P C t o H.guard=some (v,H1)/\H'={ H1 with base:=H.base }:=by
 unfold opG at h;split at h <;> first | (cases h;done) | skip
 rename_i u H1 h1;simp only [zaa,zad] at h;obtain⟨rfl,rfl⟩:=h;have hk:=A8 hC h1;exact⟨⟨rfl,hk.next,λr hr=> hk.get r hr hr⟩,H1,h1,rfl⟩
theorem aae(hc:AQ o.op=true)(h:opA P C t o H=some (v,H')):
  ∃(ty:TypeId) (z:List AV) (mk:Nat->AV),v=mk H.next/\H'=H.new (.blk 0 ty z)/\
   ∀(ρ:Ren) (G:Nat->Nat) (w:World) (a:Act),∃(cs:Array Value) (cv:Value),(execOp a.eval o).run P w=.ok (.value cv) (w.alloc (.cells cs ty))/\(RVs ρ G w z cs.toList/\ty < eH)/\
    ∀(ρ':Ren) (G':Nat->Nat) (r:Nat),G' r=0->ρ' r=some (w.heap.size,0)->RV ρ' G' (w.alloc (.cells cs ty)) (mk r) cv:=by
 obtain⟨dst,op,type,pos,after,guard⟩:=o;cases op with
 | alloc e=>
  simp only [opA,EZ,vH] at h;cases hz:wR P e with
  | none=> simp [hz] at h
  | some z=>
   simp only [hz,zah] at h;split at h <;> first | (cases h;done) | skip
   simp only [zaa,zad] at h;refine⟨e,_,λr=> .ref r 0 0,h.1.symm,h.2.symm,fun ρ G w a=> ⟨z.cells,.pointer (some ⟨w.heap.size,0,none⟩),?_,⟨fF _,qN hz⟩,fun ρ' G' r hg hr=> ?_⟩⟩
   ·simp [execOp,Instr.alloc,eG hz,newVar,newRow]
   ·simp only [RV];exact⟨_,rfl,by omega,λ_=> ⟨_,0,hr,by simp⟩⟩
 | buildSlice ty n ps=>
  simp only [AQ] at hc;simp only [opA] at h;have hparts:∀(a:Act) (p:Nat × Operand),p∈ps.toList->∃u,p.2=.const u:=by
   intro a p hp;have:=Array.all_eq_true'.1 hc p (by simpa using hp);cases hp2:p.2 with
   | const u=> exact⟨u,rfl⟩
   | _=> rw [hp2] at this;cases this
  have hev:∀(ρ:Ren) (G:Nat->Nat) (w:World) (a:Act),∀x∈(ps.toList.map (·.2)).toArray,RV ρ G w (bT t x) (a.eval x):=by
   intro ρ G w a x hx;simp only [List.mem_toArray,zaN] at hx;obtain⟨p,hp,rfl⟩:=hx;obtain⟨u,hu⟩:=hparts a p hp;rw [hu];simp only [bT,Act.eval,RV]
  unfold bG at h;cases he:wQ P ty with
  | none=> simp [he] at h
  | some e=>
   simp only [he] at h;cases hs:szT P e with
   | none=> simp [hs] at h
   | some m=>
    cases hz:vH P e with
    | none=> simp [hs,hz] at h
    | some z=>
     simp only [hs,hz] at h;obtain⟨zv,hzv,rfl⟩:=wW hz;split at h <;> first | (cases h;done) | skip
     rename_i hcond;obtain⟨hzl,hbig⟩:=hcond;simp at hzl;split at h <;> first | (cases h;done) | skip
     rename_i cells hf;split at h <;> first | (cases h;done) | skip
     simp only [zaa,zad] at h;refine⟨e,cells,λr=> .sl r 0 0 m n n true,h.1.symm,h.2.symm,fun ρ G w a=> ?_⟩;obtain⟨hi,hp⟩:=Ig (ρ:=ρ) (w:=w) (G:=G) (t:=t) (a:=a) ps (hev ρ G w a);obtain⟨zc,hzr,hz0⟩:∃zc:Array Value,RVs ρ G w (bI (zv.cells.toList.map .s) n) ((Array.range (n*m)).map (zc[· % zc.size]!)).toList/\((n*m=0/\zc=#[])∨(¬n*m=0/\zc=zv.cells)):=by
      by_cases h0:n*m=0
      ·refine⟨#[],?_,.inl ⟨h0,rfl⟩⟩;rw [h0];have:bI (zv.cells.toList.map .s) n=[]:=zan (by rw [gY];simp [hzl,h0]);rw [this];simp [RVs]
      ·refine⟨zv.cells,?_,.inr ⟨h0,rfl⟩⟩;have:=sZ (ρ:=ρ) (G:=G) (w:=w) zv n;rw [hzl] at this ⊢;exact this
     obtain⟨cs,h1,h2⟩:=CX _ _ _ _ cells hi hp hzr hf;have hfl:cs.size=n*m:=by
      have hsz:∀(place:Nat->Option (Nat × Nat)) (l:List (Nat × Value)) (a b:Array Value),Instr.fill place a l=some b->b.size=a.size:=by
       intro place l
       induction l with
       | nil=> intro a b h;simp [Instr.fill] at h;rw [h]
       | cons p l ih=>
        intro a b h;obtain⟨i,x⟩:=p;simp only [Instr.fill] at h;split at h
        ·cases h
        ·split at h
         ·cases h
         ·rw [ih _ _ h,<-Array.foldl_toList,Array.toList_zipIdx,uM,dG]
      rw [hsz _ _ _ _ h1];simp
     refine⟨cs,.slice (some ⟨w.heap.size,0,none⟩) n n,?_,⟨h2,qN hzv⟩,fun ρ' G' r hg hr=> ?_⟩
     ·have hnb:¬n*m > 2 ^ 24:=by omega
      simp only [execOp,Instr.buildSlice,Sem.run_bind,run_underlying (lQ he),Result.andThen_ok,run_sizeOf hs,hnb,if_false];rcases hz0 with⟨h0,rfl⟩ | ⟨h0,rfl⟩
      ·rw [if_pos h0];simp only [Result.andThen_ok,h1,Sem.run_bind,newRow,run_newObj,Sem.run_pure];rfl
      ·rw [if_neg h0];simp only [Result.andThen_ok,h1,Sem.run_bind,newRow,run_newObj,Sem.run_pure,eG hzv];rfl
     ·simp only [RV];refine⟨w.heap.size,0,n,rfl,zac _,zac _,λ_=> rfl,by omega,λ_=> ⟨0,e,cs.size,hr,λ_=> rfl,?_,by rw [hfl];omega⟩⟩;rw [dI,jg];rfl
 | _=> cases hc
end
theorem qU {ops:List Oper}{L:Nat->Prop}(hdown:∀j o,ops[j]?=some o->L j->∀e∈o.after,Region.binds .any e=true->L e.on):
  ∀i j,kL ops i j=true->L j->L i:=by
 have key:∀(l pre:List Oper) (acc:Array Nat),pre.length=acc.size->(∀i j,(acc.getD j 0).testBit i=true->(pre++l=ops)->L j->L i)->pre++l=ops->
   ∀i j,((l.foldl (init:=acc) λacc o=> acc.push (o.after.foldl (λs e=> if Region.binds .any e then s ||| 2 ^ e.on ||| acc.getD e.on 0 else s) 0)).getD j 0).testBit i=true->L j->L i:=by
  intro l
  induction l with
  | nil=>
   intro pre acc _ h he i j hb hl;exact h i j hb he hl
  | cons o l ih=>
   intro pre acc hsz h he i j hb hl;simp only [zbL] at hb;refine ih (pre++[o]) _ (by simp [hsz]) ?_ (by simpa using he) i j hb hl;intro i j hb he' hl;by_cases hj:j < acc.size
   ·refine h i j ?_ he hl
    simpa [Array.getD,hj,Nat.lt_succ_of_lt hj,Array.getElem_push_lt hj] using hb
   ·by_cases hj':j=acc.size
    ·subst hj';have hoj:ops[acc.size]?=some o:=by rw [<-he,<-hsz];simp
     have hs:((acc.push (o.after.foldl (λs e=> if Region.binds .any e then s ||| 2 ^ e.on ||| acc.getD e.on 0 else s) 0)).getD acc.size 0)=o.after.foldl (λs e=> if Region.binds .any e then s ||| 2 ^ e.on ||| acc.getD e.on 0 else s) 0:=by simp
     rw [hs] at hb;have inner:∀(es:List Edge) (s:Nat),(∀e∈es,e∈o.after)->(s.testBit i=true->L i)->(es.foldl (λs e=> if Region.binds .any e then s ||| 2 ^ e.on ||| acc.getD e.on 0 else s) s).testBit i=true->L i:=by
      intro es
      induction es with
      | nil=> intro s _ hs hb;exact hs hb
      | cons e es ih2=>
       intro s hin hs hb;simp only [zbL] at hb;refine ih2 _ (λe' h'=> hin e' (by simp [h'])) ?_ hb;intro hb2;split at hb2
       ·rename_i hbi;simp only [Nat.testBit_or,zbl,Nat.testBit_two_pow] at hb2;have hle:=hdown _ o hoj hl e (hin e (by simp)) hbi;rcases hb2 with(hb2 | hb2) | hb2
        ·exact hs hb2
        ·simp at hb2;rw [<-hb2];exact hle
        ·exact h i e.on hb2 he hle
       ·exact hs hb2
     refine inner o.after.toList 0 (λe he=> by simpa using he) (λhz=> by simp at hz) ?_;rw [Array.foldl_toList];exact hb
    ·have:(acc.push (o.after.foldl (λs e=> if Region.binds .any e then s ||| 2 ^ e.on ||| acc.getD e.on 0 else s) 0)).getD j 0=0:=by
      simp [Array.getD,show¬j < acc.size+1 by omega]
     rw [this] at hb;simp at hb
 intro i j hb hl;refine key ops [] #[] rfl (λi j hb=> by simp at hb) rfl i j ?_ hl;unfold kL Region.before at hb;rw [<-Array.foldl_toList] at hb;exact hb
theorem ji {n:Nat}{f:Nat->Bool}(h:Az n f=true){i:Nat}(hi:i < n):f i=true:=by
 unfold Az at h;exact zaZ.1 h i (zaW.2 hi)
structure Dc(ops:List Oper):Prop where
 edges:∀j o,ops[j]?=some o->∀e∈o.after,Region.binds .any e=true->e.on < ops.length/\ahead ops e.on j=true
 amB:∀(i j:Nat) (oi oj:Oper) (d:Tmp),ops[i]?=some oi->ops[j]?=some oj->oi.dst=some d->oj.dst=some d->i=j
 uses:∀(i j:Nat) (oi oj:Oper) (d:Tmp),i≠j->ops[i]?=some oi->ops[j]?=some oj->oi.dst=some d->d∈oj.looksAt ops.toArray->(kL ops i j=true/\ahead ops i j=true)∨(kL ops j i=true/\ahead ops j i=true)
 chain:∀i j,i < j->j < ops.length->chn ops i=true->chn ops j=true->kL ops i j=true
 const:∀j o,ops[j]?=some o->cst ops j=true->o.guard=none/\o.dst.isSome=true
 loose:∀j e,j < ops.length->e < ops.length->cst ops j=true->chn ops e=true->kL ops j e=false->(qL (getOp ops e)=true∨aeU (getOp ops e)=true)/\kL ops e j=false
theorem bQ {α:Type}{l:List α}{i:Nat}{x:α}(h:l[i]?=some x):i < l.length:=(zaf.1 h).1
theorem qV {ops:List Oper}{j:Nat}{o:Oper}(h:ops[j]?=some o):getOp ops j=o.op:=by simp [getOp,h]
theorem Df {ops:List Oper}{j:Nat}{o:Oper}(h:ops[j]?=some o):E8 ops j=o.dst:=by simp [E8,h]
theorem zY {ops:List Oper}(h:Qv ops=true):Dc ops:=by
 unfold Qv at h;simp only [zaj] at h;obtain⟨⟨⟨⟨⟨h1,h2⟩,h3⟩,h4⟩,h5⟩,h6⟩:=h;refine⟨λj o ho e he hb=> ?_,λi j oi oj d hi hj di dj=> ?_,λi j oi oj d hne hi hj di hd=> ?_,λi j hij hj ci cj=> ?_,λj o ho hc=> ?_,λj e hj he hc hch hb=> ?_⟩
 ·have:=ji h1 (bQ ho);simp only [ho,zah,zay] at this;have:=Array.all_eq_true'.1 this e he
  simpa [hb] using this
 ·have aux:∀(i j:Nat) (oi oj:Oper),ops[i]?=some oi->ops[j]?=some oj->oi.dst=some d->oj.dst=some d->¬i < j:=by
   intro i j oi oj hi hj di dj hlt;have:=ji (ji h2 (bQ hi)) (bQ hj);rw [Df hi,Df hj,di,dj] at this;simp [hlt] at this
  have a1:=aux i j oi oj hi hj di dj;have a2:=aux j i oj oi hj hi dj di;omega
 ·have:=ji (ji h3 (bQ hi)) (bQ hj);rw [Df hi,di,hj] at this;simp only [zbl,beq_iff_eq,zbi,zaj] at this;rcases this with h | (h | h) | h
  ·exact absurd h hne
  ·have hc:(oj.looksAt ops.toArray).contains d=true:=List.contains_iff_mem.2 hd;rw [hc] at h;cases h
  ·exact .inl h
  ·exact .inr h
 ·have:=ji (ji h4 (Nat.lt_trans hij hj)) hj
  simpa [ci,cj,hij] using this
 ·have:=ji h5 (bQ ho);simp only [hc,zae,zbH,ho,zah,zay,zaj] at this;exact⟨Option.isNone_iff_eq_none.1 this.1,this.2⟩
 ·have:=ji (ji h6 hj) he;simp only [hc,hch,hb,zal,zb8,zae,zbH,zaj,zbi,zbl] at this;exact this
theorem vN {P:Program}{C:Callee}{ops:List Oper}:∀(l m:List Nat) (t:dU) (H:aj),
  dP P C ops (l++m) t H=(dP P C ops l t H).bind λs=> dP P C ops m s.1 s.2
 | [],m,t,H=> rfl
 | i::l,m,t,H=> by
  simp only [zbP,dP];cases ops[i]? with
  | none=> rfl
  | some o=>
   simp only;cases kK P C ops (loose ops i && kH o.op) o t H with
   | none=> rfl
   | some r=> exact vN l m _ _
theorem yK(f:Nat->Bool)(p:Nat):(List.range (p+1)).filter f=(List.range p).filter f++(if f p then [p] else []):=by
 rw [zcj,zcg]
 congr 1
 simp only [zbQ,List.filter_nil]
theorem tu {P:Program}{C:Callee}{ops:List Oper}{p:Nat}{t:dU}{H:aj}:CO P C ops (p+1) t H=
  (CO P C ops p t H).bind λs=> if cst ops p then some s else dP P C ops [p] s.1 s.2:=by
 unfold CO;rw [yK,vN]
 congr 1
 funext s
 cases cst ops p <;> rfl
theorem VD {P:Program}{C:Callee}{ops:List Oper}{t:dU}{H:aj}{n:Nat}{s:dU × aj}(h:CO P C ops n t H=some s):∀k p,p+k=n->∃s',CO P C ops p t H=some s':=by
 intro k
 induction k generalizing n s with
 | zero=> intro p hp;simp at hp;subst hp;exact⟨s,h⟩
 | succ k ih=>
  intro p hp;cases n with
  | zero=> omega
  | succ n=>
   rw [tu] at h;cases hn:CO P C ops n t H with
   | none=> rw [hn] at h;cases h
   | some s'=> exact ih hn p (by omega)
structure yL(P:Program)(C:Callee)(ops:List Oper)(t0:dU)(H0:aj)(T:Nat->dU)(Hp:Nat->aj)(val:Nat->AV):Prop where
 zero:T 0=t0/\Hp 0=H0
 at_:∀p,p<=ops.length->CO P C ops p t0 H0=some (T p,Hp p)
 skip:∀p,p < ops.length->cst ops p=true->T (p+1)=T p/\Hp (p+1)=Hp p
 step:∀p o,ops[p]?=some o->cst ops p=false->kK P C ops (loose ops p && kH o.op) o (T p) (Hp p)=some (val p,Hp (p+1))/\T (p+1)=sS (T p) o.dst (val p)
theorem Fe {P:Program}{C:Callee}{ops:List Oper}{t0:dU}{H0:aj}{s:dU × aj}(h:dP P C ops (kM ops) t0 H0=some s)(vc:Nat->AV):
  ∃T Hp val,yL P C ops t0 H0 T Hp val/\(T ops.length,Hp ops.length)=s/\∀p,cst ops p=true->val p=vc p:=by
 have hn:CO P C ops ops.length t0 H0=some s:=h;let S:Nat->dU × aj:=λp=> (CO P C ops p t0 H0).getD (t0,H0)
 have hS:∀p,p<=ops.length->CO P C ops p t0 H0=some (S p):=λp hp=> by
  obtain⟨s',hs'⟩:=VD hn (ops.length - p) p (by omega);simp only [S,hs',zay]
 have hstep:∀p o,ops[p]?=some o->cst ops p=false->∃v,kK P C ops (loose ops p && kH o.op) o (S p).1 (S p).2=some (v,(S (p+1)).2)/\(S (p+1)).1=sS (S p).1 o.dst v:=by
  intro p o ho hc;have hp:=bQ ho;have h1:=hS (p+1) hp;rw [tu,hS p (by omega)] at h1;simp only [zaV,hc,zai,if_false,dP,ho] at h1;cases hst:kK P C ops (loose ops p && kH o.op) o (S p).1 (S p).2 with
  | none=> rw [hst] at h1;cases h1
  | some r=>
   rw [hst] at h1;simp only [zaa] at h1;exact⟨r.1,by rw [<-h1],by rw [<-h1]⟩
 refine⟨λp=> (S p).1,λp=> (S p).2,λp=> if cst ops p then vc p else match ops[p]? with
  | some o=> (match kK P C ops (loose ops p && kH o.op) o (S p).1 (S p).2 with | some r=> r.1 | none=> aO)
  | none=> aO,⟨⟨rfl,rfl⟩,hS,λp hp hc=> ?_,λp o ho hc=> ?_⟩,?_,λp hc=> by simp [hc]⟩
 ·have h1:=hS (p+1) hp;rw [tu,hS p (by omega)] at h1;simp only [zaV,hc,if_true,zaa] at h1;rw [<-h1];exact⟨rfl,rfl⟩
 ·obtain⟨v,h1,h2⟩:=hstep p o ho hc;simp only [hc,zai,if_false,ho,h1,h2,and_self]
 ·have:=hS ops.length (zac _);rw [hn] at this;cases this;rfl
structure KG(P:Program)(o:Oper)(v:AV)(r:Nat)(ob:dR):Prop where
 ex:∃(ty:TypeId) (z:List AV) (mk:Nat->AV),v=mk r/\ob=.blk 0 ty z/\
   ∀(ρ:Ren) (G:Nat->Nat) (w:World) (a:Act),∃(cs:Array Value) (cv:Value),(execOp a.eval o).run P w=.ok (.value cv) (w.alloc (.cells cs ty))/\(RVs ρ G w z cs.toList/\ty < eH)/\
    ∀(ρ':Ren) (G':Nat->Nat) (r:Nat),G' r=0->ρ' r=some (w.heap.size,0)->RV ρ' G' (w.alloc (.cells cs ty)) (mk r) cv
theorem kC(t:dU)(d:Option Tmp)(v:AV):(sS t d v).length=t.length:=by cases d <;> simp [sS]
theorem Ij(t:dU)(d:Option Tmp)(v:AV)(i:Nat):(sS t d v)[i]?=if d=some i/\i < t.length then some v else t[i]?:=by
 cases d with
 | none=> simp [sS]
 | some d=>
  simp only [sS,List.getElem?_set,zaa];by_cases h:d=i
  ·subst h;by_cases hl:d < t.length
   ·simp [hl]
   ·simp [hl]
  ·simp [h]
theorem qW {P:Program}{C:Callee}{ops:List Oper}:∀(is:List Nat) (t:dU) (H:aj) (t0:dU) (H0:aj),is.Nodup->(∀j∈is,cst ops j=true)->
  (∀i∈is,∀j∈is,∀(oi oj:Oper) (d:Tmp),ops[i]?=some oi->ops[j]?=some oj->oi.dst=some d->oj.dst=some d->i=j)->gB P C ops is t H=some (t0,H0)->
  OC H H0/\(∀r,H.next<=r->H.gen r=0->H0.gen r=0)/\t0.length=t.length/\∃(nm:Nat->Nat) (vl:Nat->AV),(∀j∈is,∃o,ops[j]?=some o/\H.next<=nm j/\nm j < H0.next/\KG P o (vl j) (nm j) (H0.get (nm j))/\∀d,o.dst=some d->d < t.length->t0[d]?=some (vl j))/\
   (∀i∈is,∀j∈is,nm i=nm j->i=j)/\∀d,(∀j∈is,∀o,ops[j]?=some o->o.dst≠some d)->t0[d]?=t[d]?
 | [],t,H,t0,H0,_,_,_,h=> by
  simp only [gB,zaa,zad] at h;obtain⟨rfl,rfl⟩:=h;exact⟨⟨rfl,zac _,λ_ _=> rfl⟩,λ_ _ h=> h,rfl,λ_=> 0,λ_=> aO,by simp,by simp,λ_ _=> rfl⟩
 | i::is,t,H,t0,H0,hnd,ape,hdst,h=> by
  simp only [gB] at h;cases ho:ops[i]? with
  | none=> rw [ho] at h;cases h
  | some o=>
   rw [ho] at h;simp only at h;cases hop:opA P C t o H with
   | none=> rw [hop] at h;cases h
   | some r=>
    obtain⟨v,H1⟩:=r;rw [hop] at h;simp only at h;have hco:AQ o.op=true:=by have:=ape i (by simp);simpa [cst,qV ho] using this
    obtain⟨ty,z,mk,rfl,rfl,hrun⟩:=aae hco hop;obtain⟨hf,hg,hlen,nm,vl,h1,h2,h3⟩:=qW is _ _ t0 H0 (List.nodup_cons.1 hnd).2 (λj hj=> ape j (by simp [hj])) (λa ha b hb=> hdst a (by simp [ha]) b (by simp [hb])) h;have hni:i∉is:=(List.nodup_cons.1 hnd).1;have hget:H0.get H.next=.blk 0 ty z:=by
     rw [hf.2.2 H.next (by simp [aj.new])];simp [aj.new]
    refine⟨⟨hf.1,zaz (by simp [aj.new]) hf.2.1,λr hr=> ?_⟩,λr hr hgr=> ?_,by rw [hlen,kC],λj=> if j=i then H.next else nm j,λj=> if j=i then mk H.next else vl j,λj hj=> ?_,λa ha b hb hab=> ?_,λd hd=> ?_⟩
    ·rw [hf.2.2 r (by simp [aj.new];omega)];simp [aj.new,show r≠H.next by omega]
    ·rcases zaR H.next r with hlt | hge
     ·refine hg r (by simp [aj.new];omega) ?_;rw [Ot,if_neg (by omega)];exact hgr
     ·have:r=H.next:=by omega
      subst this;simp [aj.gen,hget,dR.gen]
    ·by_cases hji:j=i
     ·subst hji;simp only [if_true];refine⟨o,ho,zac _,zaw (by simp [aj.new]) hf.2.1,⟨ty,z,mk,rfl,hget,hrun⟩,λd hd hlt=> ?_⟩;rw [h3 d (λk hk ok hok hkd=> hni (by
       have:=hdst j (by simp) k (by simp [hk]) o ok d ho hok hd hkd;rw [this];exact hk)),Ij,if_pos ⟨hd,hlt⟩]
     ·simp only [if_neg hji];obtain⟨oj,hoj,q1,q2,q3,q4⟩:=h1 j (by
       rcases zam.1 hj with e | e
       ·exact absurd e hji
       ·exact e)
      refine⟨oj,hoj,zaz (by simp [aj.new]) q1,q2,q3,λd hd hlt=> q4 d hd (by rw [kC];exact hlt)⟩
    ·by_cases ha':a=i <;> by_cases hb':b=i
     ·rw [ha',hb']
     ·simp only [ha',if_true,if_neg hb'] at hab;obtain⟨_,_,q1,_⟩:=h1 b (by exact(zam.1 hb).resolve_left hb');simp [aj.new] at q1;omega
     ·simp only [hb',if_true,if_neg ha'] at hab;obtain⟨_,_,q1,_⟩:=h1 a (by exact(zam.1 ha).resolve_left ha');simp [aj.new] at q1;omega
     ·simp only [if_neg ha',if_neg hb'] at hab;exact h2 a (by exact(zam.1 ha).resolve_left ha') b (by exact(zam.1 hb).resolve_left hb') hab
    ·rw [h3 d (λj hj=> hd j (by simp [hj])),Ij,if_neg (λhc=> hd i (by simp) o ho hc.1)]
structure TOn(ρ:Ren)(G:Nat->Nat)(w:World)(D:Tmp->Prop)(t:dU)(a:Act):Prop where
 size:a.tmps.size=t.length
 get:∀d,D d->d < t.length->RV ρ G w (t.getD d aO) (a.tmps.getD d undef)
section
variable {P:Program}{C:Callee}{ops:List Oper}{H H':aj}{t:dU}{a:Act}{w:World}{ρ:Ren}{G:Nat->Nat}{o:Oper}{v:AV}
theorem TOn.any {D:Tmp->Prop}(h:TOn ρ G w D t a)(d:Tmp)(hd:D d):RV ρ G w (t.getD d aO) (a.tmps.getD d undef):=by
 by_cases hl:d < t.length
 ·exact h.get d hd hl
 ·have h1:t.getD d aO=aO:=by simp [List.getD,zaG (Nat.not_lt.1 hl)]
  have h2:a.tmps.getD d undef=undef:=by
   have:¬d < a.tmps.size:=by rw [h.size];exact hl
   simp [Array.getD,this]
  rw [h1,h2];exact AZ
theorem TOn.eval(h:TOn ρ G w (· ∈o.looksAt ops.toArray) t a):∀x∈o.op.operands,RV ρ G w (bT t x) (a.eval x):=by
 intro x hx;cases x with
 | tmp d=>
  exact h.any d (List.mem_append_left _ (List.mem_filterMap.2 ⟨.tmp d,by simpa using hx,rfl⟩))
 | const v=> simp [bT,Act.eval,RV]
 | global g=> simp [bT,Act.eval,RV]
 | func f=> simp [bT,Act.eval,RV,RVs]
theorem TOn.wanted {b:Bool}(h:TOn ρ G w (· ∈o.looksAt ops.toArray) t a)(hw:qK ops t o=some b):Region.wanted o (yielded ops.toArray a.tmps)=b:=by
 unfold qK at hw;unfold Region.wanted;cases hg:o.guard with
 | none=> rw [hg] at hw;simpa using hw
 | some gw=>
  obtain⟨j,want⟩:=gw;rw [hg] at hw;simp only at hw;cases hj:ops[j]? with
  | none=> rw [hj] at hw;cases hw
  | some p=>
   rw [hj] at hw;simp only at hw;cases hd:p.dst with
   | none=> rw [hd] at hw;cases hw
   | some d=>
    rw [hd] at hw;simp only at hw;have hmem:d∈o.looksAt ops.toArray:=by
     unfold Oper.looksAt;refine List.mem_append_right _ ?_;simp [hg,hj,hd]
    cases htd:t[d]? with
    | none=> rw [htd] at hw;cases hw
    | some x=>
     have hlt:d < t.length:=(zaf.1 htd).1;have hrv:=h.get d hmem hlt;have hx:t.getD d aO=x:=by simp [List.getD,htd]
     have hlt':d < a.tmps.size:=by rw [h.size];exact hlt
     have hav:a.tmps[d]?=some (a.tmps.getD d undef):=by simp [Array.getD,hlt']
     rw [hx] at hrv;rw [htd] at hw;have hy:yielded ops.toArray a.tmps j=(match a.tmps.getD d undef with | .bool b=> some b | _=> none):=by
      unfold yielded;have:(ops.toArray[j]?).bind (·.dst)=some d:=by simp [hj,hd]
      rw [this,zaV,hav];cases a.tmps.getD d undef <;> rfl
     simp only;split at hw <;> first | (cases hw;done) | skip
     ·rename_i hbx;cases hbx;simp only [RV] at hrv;rw [hy,hrv];simp only [zaa] at hw;rw [<-hw];rename_i b0;cases b0 <;> cases want <;> rfl
     ·rename_i hbx;cases hbx;simp only [RV,RVs] at hrv;obtain⟨cs,hcs,_⟩:=hrv;rw [hy,hcs]
      simpa using hw
theorem TOn.put {D:Tmp->Prop}(h:TOn ρ G w D t a)(d:Option Tmp){cv:Value}(hv:RV ρ G w v cv):TOn ρ G w D (sS t d v) (a.put d cv):=by
 refine⟨?_,λx hx hl=> ?_⟩
 ·rw [kC,<-h.size];cases d <;> simp [Act.put]
 ·rw [kC] at hl;have hl':x < a.tmps.size:=by rw [h.size];exact hl
  cases d with
  | none=> exact h.get x hx hl
  | some d=>
   by_cases e:d=x
   ·subst e;have h1:(sS t (some d) v).getD d aO=v:=by simp [sS,List.getD,hl]
    have h2:(a.put (some d) cv).tmps.getD d undef=cv:=by simp [Act.put,Array.getD,hl']
    rw [h1,h2];exact hv
   ·have h1:(sS t (some d) v).getD x aO=t.getD x aO:=by simp [sS,List.getD,e]
    have h2:(a.put (some d) cv).tmps.getD x undef=a.tmps.getD x undef:=by
     simp [Act.put,zbu e]
    rw [h1,h2];exact h.get x hx hl
theorem TOn.keep {ρ':Ren}{w':World}{D:Tmp->Prop}(h:TOn ρ H.gen w D t a)(E:Ext ρ H w ρ' H' w'):TOn ρ' H'.gen w' D t a:=
 ⟨h.size,λd hd hl=> RV.mono E.toMono _ _ (h.get d hd hl)⟩
theorem TOn.sub {D D':Tmp->Prop}(h:TOn ρ G w D t a)(hs:∀d,D' d->D d):TOn ρ G w D' t a:=⟨h.size,λd hd=> h.get d (hs d hd)⟩
theorem Ik(hC:Sound P C){lo:Bool}(h:kK P C ops lo o t H=some (v,H'))(R:Rel ρ H w)(T:TOn ρ H.gen w (· ∈o.looksAt ops.toArray) t a){i:Nat}(ho:ops[i]?=some o)
  {K:Act->World->Prop} {Q:Exit->Act->World->Prop} (hK:∀cv ρ' w',Rel ρ' H' w'->RV ρ' H'.gen w' v cv->Ext ρ H w ρ' H' w'->K (a.put o.dst cv) w'):wpOp P ops.toArray Q i K a w:=by
 unfold wpOp;have hoa:ops.toArray[i]?=some o:=by simpa using ho
 simp only [hoa];unfold kK at h;split at h <;> first | (cases h;done) | skip
 ·rename_i hw;rw [T.wanted hw,if_pos rfl];left;split at h
  ·unfold opG at h;split at h <;> first | (cases h;done) | skip
   rename_i u H1 h1;simp only [zaa,zad] at h;obtain⟨rfl,rfl⟩:=h;exact Ih hC h1 (H:=H.guard) ⟨R.out,R.obj,R.inj,R.gl⟩ T.eval λcv ρ' w' r e x=>
    hK cv ρ' w' ⟨r.out,r.obj,r.inj,r.gl⟩ e ⟨x.next,x.mono,x.same,x.kept,x.range,x.size,x.frame,x.shape,x.os,x.tape,x.output⟩
  ·exact Ih hC h R T.eval hK
 ·rename_i hw;rw [T.wanted hw];simp only [zaa,zad] at h;obtain⟨rfl,rfl⟩:=h;simp only [zai,if_false];exact hK undef ρ w R AZ (Ext.refl _ _ _)
theorem KI {X:Prop}(h:o.wp P a w (λ_ _=> X) (λ_ _ _=> False)):X:=by
 unfold Oper.wp at h;generalize (execOp a.eval o).run P w=r at h;cases r with
 | ok n w'=>
  cases n <;> simp only [Oper.upon] at h <;> first | exact h | skip
  ·obtain⟨e,w',fr,hR,_⟩:=h [];cases e <;> simp only [LetsOut,exists_false] at hR;exact hR
  ·obtain⟨_,_,hR,_⟩:=h (Frame.ofRow P "" #[] .normal) []
   exact hR
 | halt x w'=> cases x <;> exact False.elim h
theorem OG {X:Prop}{i:Nat}{arr:Array Oper}(h:wpOp P arr (λ_ _ _=> False) i (λ_ _=> X) a w):X:=by
 unfold wpOp at h;split at h
 ·exact h
 ·split at h
  ·rcases h with h | ⟨_,a,w,h⟩
   ·exact KI h
   ·exact h.elim
  ·exact h
theorem wu(hC:Sound P C):∀(is:List Nat) (t:dU) (H:aj) (t0:dU) (H0:aj) (ρ:Ren) (w:World) (a:Act),gB P C ops is t H=some (t0,H0)->Rel ρ H w->TOn ρ H.gen w (λ_=> True) t a->
  ∃ρ' w' a',Rel ρ' H0 w'/\TOn ρ' H0.gen w' (λ_=> True) t0 a'
 | [],t,H,t0,H0,ρ,w,a,h,R,T=> by
  simp only [gB,zaa,zad] at h;obtain⟨rfl,rfl⟩:=h;exact⟨ρ,w,a,R,T⟩
 | i::is,t,H,t0,H0,ρ,w,a,h,R,T=> by
  simp only [gB] at h;cases ho:ops[i]? with
  | none=> rw [ho] at h;cases h
  | some o=>
   rw [ho] at h;simp only at h;cases hop:opA P C t o H with
   | none=> rw [hop] at h;cases h
   | some r=>
    rw [hop] at h;simp only at h;obtain⟨ρ',w',cv,r1,r2⟩:∃ρ' w' cv,Rel ρ' r.2 w'/\TOn ρ' r.2.gen w' (λ_=> True) (sS t o.dst r.1) (a.put o.dst cv):=
     KI (Ih hC hop R ((T.sub (D':=(· ∈o.looksAt ops.toArray)) λ_ _=> trivial).eval) (Q:=λ_ _ _=> False)
      λcv ρ' w' r1 r2 r3=> ⟨ρ',w',cv,r1,(T.keep r3).put _ r2⟩)
    exact wu hC is _ _ t0 H0 ρ' w' _ h r1 r2
theorem Fg(hC:Sound P C){t0:dU}{H0:aj}{T:Nat->dU}{Hp:Nat->aj}{val:Nat->AV}(S:yL P C ops t0 H0 T Hp val)(R:Rel ρ H0 w)(TR:TOn ρ H0.gen w (λ_=> True) t0 a):
  ∀p,p<=ops.length->∃ρ' w' a',Rel ρ' (Hp p) w'/\TOn ρ' (Hp p).gen w' (λ_=> True) (T p) a':=by
 intro p
 induction p with
 | zero=> intro _;rw [S.zero.1,S.zero.2];exact⟨ρ,w,a,R,TR⟩
 | succ p ih=>
  intro hp;obtain⟨ρ1,w1,a1,R1,T1⟩:=ih (by omega);cases hc:cst ops p with
  | true=> obtain⟨h1,h2⟩:=S.skip p (by omega) hc;rw [h1,h2];exact⟨ρ1,w1,a1,R1,T1⟩
  | false=>
   have ho:ops[p]?=some (ops[p]'(by omega)):=zab _;obtain⟨h1,h2⟩:=S.step p _ ho hc;rw [h2];exact OG (Ik hC h1 R1 (T1.sub λ_ _=> trivial) ho (Q:=λ_ _ _=> False) λcv ρ' w' r1 r2 r3=> ⟨ρ',w',_,r1,(T1.keep r3).put _ r2⟩)
theorem KJ {x:AV}{n r:Nat}(h:NV n x)(hw:aT x=some r):r < n:=by
 cases x <;> simp only [aT] at hw <;> first | (cases hw;done) | (cases hw;simpa only [NV] using h)
theorem QB {n r:Nat}(h:∀x∈o.op.operands,NV n (bT t x))(hw:jP t o.op=some r):r < n:=by
 obtain⟨dst,op,type,pos,after,guard⟩:=o;cases op <;> simp only [jP] at hw <;> first | (cases hw;done) | skip
 case call c=>
  split at hw
  ·rename_i x hx;refine KJ (h x ?_) hw;have:x∈c.args:=by
    have:x∈c.args.toList:=by rw [hx];simp
    simpa using this
   simp [Op.operands,Call.operands,this]
  ·cases hw
 all_goals exact KJ (h _ (by simp [Op.operands])) hw
theorem aaf {n:Nat}(h:∀d,NV n (t.getD d aO))(x:Operand):NV n (bT t x):=by
 cases x with
 | tmp d=> exact h d
 | _=> simp [bT,NV,NVs]
end
end
end Go.Proofs.YthmoogcacpmjiaaGreat
