/-
  Own work: an interpreter over named blocks, its soundness, and what the functions of this seat compute (part 1 of 11).
  Conditions: those of the statement alone.
-/
import Derived.Calls
import Derived.Orders
import Derived.Laws.World
import Derived.Laws.Entries
import Derived.Laws.Slices
import Derived.Laws.Append
import Derived.Laws.MakeOwn
import Derived.Laws.BytesString
set_option linter.all false
set_option linter.unusedSectionVars false
set_option linter.unusedVariables false
set_option linter.unusedSimpArgs false
namespace Go.Proofs.YtgplhpgkompkmaaGreat
noncomputable section
def zaa:=@Option.some.injEq.{0}
def zab:=@List.getElem?_eq_getElem.{0}
def zac:=@Nat.le_refl
def zad:=@Prod.mk.injEq.{0,0}
def zae:=@Bool.not_true
def zaf:=@Bool.and_eq_true
def zah:=@Bool.false_eq_true
def zai:=@List.getElem?_eq_some_iff.{0}
def zaj:=@List.mem_cons.{0}
def zak:=@Option.map_some.{0,0}
def zal:=@Bool.not_false
def zam:=@List.length_cons.{0}
def zan:=@List.length_nil.{0}
def zao:=@List.length_append.{0}
def zaq:=@List.mem_of_getElem?.{0}
def zar:=@Option.getD_some.{0}
def zas:=@List.eq_nil_of_length_eq_zero.{0}
def zat:=@Int.toNat_natCast
def zau:=@Nat.le_trans
def zav:=@Nat.lt_of_lt_of_le
def zaw:=@List.map_cons.{0,0}
def zax:=@List.length_take.{0}
def zay:=@List.not_mem_nil.{0}
def zaz:=@List.take_of_length_le.{0}
def zaA:=@List.getElem?_take.{0}
def zaB:=@Nat.mul_le_mul_right
def zaC:=@List.getElem?_drop.{0}
def zaD:=@List.length_map.{0,0}
def zaE:=@List.flatMap_cons.{0,0}
def zaF:=@List.getD_eq_getElem?_getD.{0}
def zaG:=@Option.isSome_none.{0}
def zaH:=@List.mem_map.{0,0}
def zaI:=@Option.isSome_some.{0}
def zaJ:=@List.nil_append.{0}
def zaK:=@List.getElem?_eq_none.{0}
def zaL:=@List.length_drop.{0}
def zaM:=@List.mem_singleton.{0}
def zaN:=@List.getElem?_append_left.{0}
def zaO:=@List.mem_append.{0}
def zaP:=@List.getElem?_cons_zero.{0}
def zaQ:=@List.drop_zero.{0}
def zaR:=@List.getElem?_map.{0,0}
def zaS:=@List.drop_of_length_le.{0}
def zaT:=@Nat.zero_le
def zaU:=@Bool.true_and
def zaV:=@Bool.false_and
def zaW:=@Nat.lt_or_ge
def zaX:=@List.mem_range
def zaY:=@List.nodup_cons.{0}
def zaZ:=@Option.some.inj.{0}
def za0:=@List.getElem?_append_right.{0}
def za1:=@Option.getD_none.{0}
def za2:=@List.all_eq_true.{0}
def za3:=@Nat.zero_add
def za4:=@Option.bind_some.{0,0}
def za5:=@List.mem_cons_of_mem.{0}
def za6:=@Nat.le_succ
def za7:=@List.mem_of_find?_eq_some.{0}
def za8:=@Bool.not_eq_true'
def za9:=@List.mem_flatMap.{0,0}
def zba:=@Int.le_refl
def zbb:=@List.getElem?_cons_succ.{0}
def zbc:=@List.pairwise_cons.{0}
def zbd:=@List.getElem?_set_self.{0}
def zbe:=@List.cons_append.{0}
def zbf:=@List.getElem?_mapIdx.{0,0}
def zbg:=@List.ext_getElem?.{0}
def zbh:=@List.append_assoc.{0}
def zbi:=@Array.getElem?_push.{0}
def zbj:=@List.map_append.{0,0}
def zbk:=@Bool.or_eq_true
def zbl:=@List.append_nil.{0}
def zbm:=@List.getElem?_set_ne.{0}
def zbn:=@List.mem_filter.{0}
def zbo:=@Nat.one_mul
def zbp:=@Nat.add_zero
def zbq:=@Nat.zero_mul
def zbr:=@Nat.min_eq_left
def zbs:=@BitVec.xor_assoc
def zbt:=@List.map_congr_left.{0,0}
def zbu:=@Nat.add_mul
def zbv:=@Array.getElem?_setIfInBounds_ne.{0}
def zbw:=@List.mapM_cons.{0,0,0}
def zbx:=@Array.getElem?_eq_some_iff.{0}
def zby:=@Int.tmod_eq_emod_of_nonneg
def zbz:=@List.findIdx?_eq_some_iff_findIdx_eq.{0}
def zbA:=@List.drop_eq_getElem_cons.{0}
def zbB:=@List.getElem?_range
def zbC:=@List.map_nil.{0,0}
def zbD:=@Nat.eq_of_beq_eq_true
def zbE:=@List.drop_drop.{0}
def zbF:=@List.find?_eq_none.{0}
def zbG:=@Bool.true_eq_false
def zbH:=@Nat.eq_of_mul_eq_mul_right
def zbI:=@Nat.mul_one
def zbJ:=@List.foldl_cons.{0,0}
def zbK:=@List.cons.injEq.{0}
def zbL:=@List.all_append.{0}
def zbM:=@List.take_append_of_le_length.{0}
def zbN:=@List.filter_cons.{0}
def zbO:=@Nat.succ_mul
def zbP:=@List.length_mapIdx.{0,0}
def zbQ:=@List.nodup_append.{0}
def zbR:=@Nat.le_succ_of_le
def zbS:=@List.find?_some.{0}
def zbT:=@List.flatMap_append.{0,0}
def zbU:=@Nat.ne_of_lt
def zbV:=@Option.map_eq_some_iff.{0,0}
def zbW:=@Int.fdiv_eq_ediv_of_nonneg
def zbX:=@List.sum_cons.{0}
def zbY:=@List.any_eq_true.{0}
def zbZ:=@Bool.and_false
def zb0:=@List.take_take.{0}
def zb1:=@Int.mul_le_mul
def zb2:=@List.set_cons_zero.{0}
def zb3:=@List.set_cons_succ.{0}
def zb4:=@List.length_replicate.{0}
def zb5:=@Nat.add_right_cancel_iff
def zb6:=@BitVec.getLsbD_shiftLeft
def zb7:=@Int.emod_nonneg
def zb8:=@List.forall_mem_cons.{0}
def zb9:=@Nat.add_assoc
def zca:=@Bool.false_or
def zcb:=@BitVec.eq_of_getLsbD_eq
def zcc:=@Array.toList_append.{0}
def zcd:=@Option.bind_eq_bind.{0}
def zce:=@Array.toList_inj.{0}
def zcf:=@List.drop_take.{0}
def zcg:=@List.filter_append.{0}
def zch:=@Array.getD_eq_getD_getElem?.{0}
def zci:=@BitVec.toNat_ofNat
def zcj:=@Int.emod_lt_of_pos
def zck:=@List.range_succ
def zcl:=@List.take_append_drop.{0}
def zcm:=@List.length_set.{0}
def zcn:=@List.length_filter_le.{0}
def zco:=@List.singleton_append.{0}
def zcp:=@Bool.and_self
def zcq:=@List.pairwise_map.{0,0}
def zcr:=@Bool.not_eq_false
def zcs:=@Array.getElem?_eq_getElem.{0}
def zct:=@List.mem_or_eq_of_mem_set.{0}
def zcu:=@Nat.shiftRight_eq_div_pow
def zcv:=@Nat.testBit_or
def zcw:=@Int.mul_nonneg
def zcx:=@Nat.mod_eq_of_lt
def zcy:=@List.mem_of_mem_eraseIdx.{0}
def zcz:=@List.not_all_eq_any_not.{0}
def zcA:=@Array.foldl_toList.{0,0}
def zcB:=@Array.all_eq_true'.{0}
def zcC:=@Option.pure_def.{0}
def zcD:=@Option.isNone_none.{0}
def zcE:=@BitVec.xor_self
def zcF:=@List.findIdx?_cons.{0}
def zcG:=@List.sum_append.{0}
def zcH:=@Option.toList_some.{0}
def zcI:=@List.getElem?_set.{0}
def zcJ:=@Array.getElem?_toList.{0}
def zcK:=@List.eraseIdx_sublist.{0}
def zcL:=@Bool.true_or
def zcM:=@Bool.and_eq_false_iff
def zcN:=@List.mem_iff_getElem?.{0}
def zcO:=@List.getElem_mem.{0}
def zcP:=@List.getElem?_append.{0}
def zcQ:=@List.mem_of_mem_take.{0}
def zcR:=@List.mem_append_left.{0}
def zcS:=@List.range_eq_range'
def zcT:=@List.mem_iff_getElem.{0}
def zcU:=@List.findIdx?_isSome.{0}
def zcV:=@List.map_take.{0,0}
def zcW:=@BitVec.getLsbD_ushiftRight
def zcX:=@Int.tdiv_eq_ediv_of_nonneg
def zcY:=@Nat.testBit_two_pow
def zcZ:=@Int.toNat_of_nonneg
def zc0:=@Option.map_none.{0,0}
def zc1:=@Nat.mul_eq_zero
def zc2:=@List.map_map.{0,0,0}
def zc3:=@Option.isSome_iff_exists.{0}
def zc4:=@List.eraseIdx_cons_succ.{0}
def zc5:=@List.getElem?_replicate.{0}
def zc6:=@Array.size_append.{0}
def zc7:=@List.filter_congr.{0}
def zc8:=@List.foldl_append.{0,0}
def zc9:=@List.length_range
def zda:=@Array.getElem?_eq_none.{0}
def zdb:=@List.set_eq_take_append_cons_drop.{0}
def zdc:=@Bool.or_false
def zdd:=@Nat.lt_succ_self
def zde:=@Array.toList_map.{0,0}
def zdf:=@Bool.not_eq_true
def zdg:=@List.range'_succ
def zdh:=@List.drop_append.{0}
def zdi:=@List.perm_middle.{0}
def zdj:=@Nat.testBit_eq_decide_div_mod_eq
def zdk:=@Nat.shiftLeft_eq
def zdl:=@List.mem_append_right.{0}
def zdm:=@List.perm_append_comm.{0}
def zdn:=@Bool.or_true
def zdo:=@BitVec.xor_zero
def zdp:=@BitVec.ofInt_natCast
def zdq:=@Bool.eq_iff_iff
def zdr:=@List.getElem_of_mem.{0}
def zds:=@Array.toList_zipIdx.{0}
def zdu:=@List.length_pos_iff.{0}
def zdv:=@Option.some_ne_none.{0}
def zdw:=@List.take_zero.{0}
def zdx:=@List.take_succ.{0}
def zdy:=@Bool.false_ne_true
def zdz:=@List.filter_filter.{0}
def zdA:=@BitVec.ofNat_toNat
def zdB:=@Int.tmod_lt_of_pos
def zdC:=@List.map_drop.{0,0}
def zdD:=@List.size_toArray.{0}
def zdE:=@Bool.eq_false_iff
def zdF:=@List.find?_append.{0}
def zdG:=@List.flatten_cons.{0}
def zdH:=@List.take_add_one.{0}
def zdI:=@Nat.not_lt
structure Fix where
 blocks:List Nat
 ok:World->Prop
 frame:∀w w':World,(∀b∈blocks,w'.heap[b]?=w.heap[b]?)->ok w->ok w'
def fx:Fix:=⟨[],λ_=> True,λ_ _ _ h=> h⟩
inductive AV where
 | s (v:Value)
 | ref (r g off:Nat)
 | sl (r g off esz len cap:Nat) (ex:Bool)
 | ip (cells:List AV)
 | vs (n esz:Nat) (cells:List AV)
 | mp (r:Nat)
 | fn (f:Fn) (first captured:List AV)
 | agg (cells:List AV)
 | tup (cells:List AV)
 deriving Inhabited
inductive fU where
 | blk (g:Nat) (ty:TypeId) (cells:List AV)
 | map (k:IntKind) (es:List (Int × AV))
 deriving Inhabited
def fU.gen:fU->Nat
 | .blk g _ _=> g
 | .map _ _=> 0
structure ah where
 next:Nat
 base:Nat
 get:Nat->fU
def ah.gen(H:ah)(r:Nat):Nat:=(H.get r).gen
def ah.put(H:ah)(r:Nat)(o:fU):ah:={ H with get:=λx=> if x=r then o else H.get x }
def ah.new(H:ah)(o:fU):ah:={ next:=H.next+1,base:=H.base,get:=λx=> if x=H.next then o else H.get x }
def ah.guard(H:ah):ah:={ H with base:=H.next }
def ah.empty:ah:={ next:=0,base:=0,get:=λ_=> .blk 0 0 [] }
abbrev Ren:=Nat->Option (Nat × Nat)
def Imm(ρ:Ren)(b:Nat):Prop:=∀r sh,ρ r≠some (b,sh)
mutual
def RV(ρ:Ren)(G:Nat->Nat)(w:World):AV->Value->Prop
 | .s v,cv=> cv=v
 | .ref r g off,cv=>∃a,cv=.pointer (some a)/\g<=G r/\(G r=g->∃b sh,ρ r=some (b,sh)/\a=⟨b,sh+off,none⟩)
 | .sl r g off esz len cap ex,cv=>∃b o c,cv=.slice (some ⟨b,o,none⟩) len c/\len<=cap/\cap<=c/\(ex=true->c=cap)/\g<=G r/\
   (G r=g->∃sh e n,ρ r=some (b,sh)/\(0 < c->o=sh+off)/\w.shape? b=some (e,n)/\o+c*esz<=n)
 | .ip cells,cv=>∃b o,cv=.pointer (some ⟨b,o,none⟩)/\b < w.heap.size/\Imm ρ b/\RVc ρ G w cells b o
 | .vs n esz cells,cv=>∃b o c,cv=.slice (some ⟨b,o,none⟩) n c/\n<=c/\cells.length=n*esz/\b < w.heap.size/\Imm ρ b/\RVc ρ G w cells b o
 | .mp r,cv=>∃b,cv=.map (some b)/\(G r=0->ρ r=some (b,0))
 | .fn f first captured,cv=>∃a c,cv=.func f a c/\RVs ρ G w first a.toList/\RVs ρ G w captured c.toList
 | .agg cells,cv=>∃cs,cv=.agg cs/\RVs ρ G w cells cs.toList
 | .tup cells,cv=>∃cs,cv=.tuple cs/\RVs ρ G w cells cs.toList
def RVs(ρ:Ren)(G:Nat->Nat)(w:World):List AV->List Value->Prop
 | [],l=> l=[]
 | x::xs,l=>∃y ys,l=y::ys/\RV ρ G w x y/\RVs ρ G w xs ys
def RVc(ρ:Ren)(G:Nat->Nat)(w:World):List AV->Nat->Nat->Prop
 | [],_,_=> True
 | x::xs,b,o=> (∃v,w.cell? ⟨b,o,none⟩=some v/\RV ρ G w x v)/\RVc ρ G w xs b (o+1)
end
def RVm(ρ:Ren)(G:Nat->Nat)(w:World)(k:IntKind):List (Int × AV)->List MapEntry->Prop
 | [],l=> l=[]
 | (n,x)::xs,l=>∃e es,l=e::es/\e.key=.int k n/\RV ρ G w x e.val/\RVm ρ G w k xs es
def Born(es:List MapEntry)(bW:Nat):Prop:=(∀x∈es,x.born < bW)/\(es.map (·.born)).Nodup
def gV:Nat:=1000000000
def Xct(ty e sh n l:Nat):Prop:=(ty < gV->e=ty/\sh=0/\n=l)/\(gV<=ty->ty < gV+gV->ty=e+gV/\sh=0)
theorem Xct.low {e n l:Nat}(h:e < gV)(hn:n=l):Xct e e 0 n l:=⟨λ_=> ⟨rfl,rfl,hn⟩,λh1=> absurd h1 (Nat.not_le.2 h)⟩
theorem Xct.grown {e n l:Nat}:Xct (e+gV) e 0 n l:=⟨λh=> absurd h (zdI.2 (Nat.le_add_left _ _)),λ_ _=> ⟨rfl,rfl⟩⟩
theorem Xct.void {e sh n l:Nat}:Xct (gV+gV) e sh n l:=⟨λh=> absurd h (zdI.2 (Nat.le_add_left _ _)),λ_ h=> absurd h (Nat.lt_irrefl _)⟩
def grT(e ty off:Nat):Nat:=if(ty=e∨ty=e+gV)/\off=0 then e+gV else gV+gV
theorem agM {e ty off n l:Nat}:Xct (grT e ty off) e 0 n l:=by
 unfold grT;split
 ·exact Xct.grown
 ·exact Xct.void
theorem agN {e e' ty sh off n l n' l':Nat}(he:e < gV)(h:Xct ty e' sh n l):Xct (grT e ty off) e' (sh+off) n' l':=by
 unfold grT;split
 ·rename_i hh;obtain⟨h1,rfl⟩:=hh;rcases h1 with rfl | rfl
  ·obtain⟨rfl,rfl,_⟩:=h.1 he;exact Xct.grown
  ·obtain⟨h2,rfl⟩:=h.2 (Nat.le_add_left _ _) (by omega);have:e'=e:=by omega
   subst this;exact Xct.grown
 ·exact Xct.void
def yF(ρ:Ren)(G:Nat->Nat)(w:World)(o:fU)(b sh:Nat):Prop:=
 match o with
 | .blk _ ty cells=>∃cs e,w.heap[b]?=some (.cells cs e (0,0))/\sh+cells.length<=cs.size/\RVc ρ G w cells b sh/\Xct ty e sh cs.size cells.length
 | .map k es=>∃ces bW,w.heap[b]?=some (.map ces bW)/\sh=0/\RVm ρ G w k es ces.toList/\Born ces.toList bW
def abL(ρ:Ren)(w:World):Prop:=(∀b∈fx.blocks,b < w.heap.size/\Imm ρ b)/\fx.ok w
structure Rel(ρ:Ren)(H:ah)(w:World):Prop where
 out:∀r,H.next<=r->ρ r=none/\H.gen r=0
 obj:∀r b sh,ρ r=some (b,sh)->yF ρ H.gen w (H.get r) b sh
 inj:∀r r' b sh sh',ρ r=some (b,sh)->ρ r'=some (b,sh')->r=r'
 gl:abL ρ w
structure Ext(ρ:Ren)(H:ah)(w:World)(ρ':Ren)(H':ah)(w':World):Prop where
 next:H.next<=H'.next
 mono:∀r,H.gen r<=H'.gen r
 same:∀r x,ρ r=some x->H'.gen r=H.gen r->ρ' r=some x
 kept:∀r,r < H.next->ρ r=none->ρ' r=none
 range:∀r b sh,ρ' r=some (b,sh)->w.heap.size<=b∨∃sh',ρ r=some (b,sh')
 size:w.heap.size<=w'.heap.size
 frame:∀b,b < w.heap.size->Imm ρ b->w'.heap[b]?=w.heap[b]?
 shape:∀b,b < w.heap.size->w'.shape? b=w.shape? b
 os:w'.os=w.os
 tape:w'.tape=w.tape
 output:w'.output=w.output
theorem abL.of {ρ ρ':Ren}{w w':World}(h:abL ρ w)(hs:w.heap.size<=w'.heap.size)(hr:∀r b sh,ρ' r=some (b,sh)->w.heap.size<=b∨∃r' sh',ρ r'=some (b,sh'))(hf:∀b,b < w.heap.size->Imm ρ b->w'.heap[b]?=w.heap[b]?):abL ρ' w':=by
 refine⟨λb hb=> ?_,fx.frame w w' (λb hb=> hf b (h.1 b hb).1 (h.1 b hb).2) h.2⟩;obtain⟨h1,h2⟩:=h.1 b hb;refine⟨zav h1 hs,λr sh e=> ?_⟩;rcases hr r b sh e with h | ⟨r',sh',h⟩
 ·omega
 ·exact h2 r' sh' h
theorem abL.ext {ρ ρ':Ren}{H H':ah}{w w':World}(h:abL ρ w)(E:Ext ρ H w ρ' H' w'):abL ρ' w':=
 h.of E.size (λr b sh e=> (E.range r b sh e).imp id λ⟨sh',h⟩=> ⟨r,sh',h⟩) E.frame
mutual
def AV.val?:AV->Option Value
 | .s v=> some v
 | .agg l=> (vals? l).map λvs=> .agg vs.toArray
 | .tup l=> (vals? l).map λvs=> .tuple vs.toArray
 | .ref ..=> none
 | .sl ..=> none
 | .ip ..=> none
 | .vs ..=> none
 | .mp ..=> none
 | .fn ..=> none
def vals?:List AV->Option (List Value)
 | []=> some []
 | x::xs=> match x.val?,vals? xs with
  | some v,some vs=> some (v::vs)
  | _,_=> none
end
def AV.cells:AV->List AV
 | .agg l=> l
 | .s v=> v.cells.toList.map .s
 | x=> [x]
def AV.aX:AV->Bool
 | .agg _=> false
 | .tup _=> false
 | .s (.agg _)=> false
 | .s (.tuple _)=> false
 | _=> true
def aY:AV:=.tup []
def aN(cells:List AV)(off:Nat)(xs:List AV):List AV:=cells.take off++(xs++cells.drop (off+xs.length))
def iP {α:Type}(P:Program):Sem α->Option α
 | .pure a=> some a
 | .program k=> iP P (k P)
 | _=> none
def szT(P:Program)(t:TypeId):Option Nat:=(P.info? t).map (·.size)
def yg(P:Program)(t:TypeId):Option Nat:=(P.info? t).map (·.bytes)
def ai6(P:Program)(t:TypeId):Option Bool:=
 match P.underlying t with
 | some (.struct _)=> some true
 | some (.array _ _)=> some true
 | some _=> some false
 | none=> none
def y7(P:Program)(t:TypeId):Option TypeId:=
 match P.underlying t with
 | some (.slice e)=> some e
 | _=> none
def y8(P:Program)(t:TypeId):Option Value:=if t < gV then(P.info? t).bind (·.zero) else none
def xR(P:Program)(t:TypeId):Option (List AV):=(y8 P t).map λv=> v.cells.toList.map .s
def TT(P:Program)(t:TypeId)(i:Nat):Option Field:=
 match P.underlying t with
 | some (.struct fs)=> fs[i]?
 | _=> none
def IB(P:Program)(t:TypeId)(cells:List AV)(off:Nat):Option AV:=
 match ai6 P t,szT P t with
 | some true,some n=> if off+n<=cells.length then some (.agg ((cells.drop off).take n)) else none
 | some false,some _=> cells[off]?
 | _,_=> none
def gI(place:Nat->Option (Nat × Nat))(cells:List AV):List (Nat × AV)->Option (List AV)
 | []=> some cells
 | (i,v)::rest=>
  match place i with
  | none=> none
  | some (off,size)=>
   if v.cells.length=size/\off+v.cells.length<=cells.length then gI place (aN cells off v.cells) rest else none
def N7(P:Program)(fs:Array Field)(i:Nat):Option (Nat × Nat):=
 match fs[i]? with
 | some f=> (szT P f.type).map λn=> (f.offset,n)
 | none=> none
def iq(P:Program)(t:TypeId)(parts:List (Nat × AV)):Option AV:=
 match xR P t,P.underlying t with
 | some z,some (.struct fs)=> if fs.all (λf=> (szT P f.type).isSome) then(gI (N7 P fs) z parts).map .agg else none
 | some z,some (.array _ e)=> match szT P e with
  | some n=> (gI (λi=> some (i*n,n)) z parts).map .agg
  | none=> none
 | _,_=> none
def N8(P:Program)(t:TypeId)(x y:AV):Option Bool:=
 match P.underlying t with
 | some (.slice _)=> match x,y with
  | .sl ..,.s (.slice none _ _)=> some false
  | .vs ..,.s (.slice none _ _)=> some false
  | .s (.slice none _ _),.sl ..=> some false
  | .s (.slice none _ _),.vs ..=> some false
  | _,_=> none
 | some (.pointer _)=> match x,y with
  | .ref ..,.s (.pointer none)=> some false
  | .ip ..,.s (.pointer none)=> some false
  | .s (.pointer none),.ref ..=> some false
  | .s (.pointer none),.ip ..=> some false
  | _,_=> none
 | some (.map _ _)=> match x,y with
  | .mp ..,.s (.map none)=> some false
  | .s (.map none),.mp ..=> some false
  | _,_=> none
 | some (.func _ _ _)=> match x,y with
  | .fn ..,.s .nilFunc=> some false
  | .s .nilFunc,.fn ..=> some false
  | _,_=> none
 | _=> none
def oQ(P:Program)(op:BinOp)(t:TypeId)(x y:AV):Option AV:=
 match x.val?,y.val? with
 | some a,some b=> (iP P (do eqGuard op t (.tmp 0) (.tmp 0) a b;binOp op t a b)).map .s
 | _,_=> match op with
  | .eql=> (N8 P t x y).map λb=> .s (.bool b)
  | .neq=> (N8 P t x y).map λb=> .s (.bool !b)
  | _=> none
def ap5(P:Program)(op:BinOp)(t:TypeId)(x:AV):Option AV:=
 match x.val? with
 | some a=> (iP P (do eqGuard op t (.tmp 0) (.const .nilIface) a .nilIface;binOp op t a .nilIface)).map .s
 | none=> none
def TU:Operand->Bool
 | .const .nilIface=> true
 | _=> false
def ai7(P:Program)(op:BinOp)(t:TypeId)(yo:Operand)(x y:AV):Option AV:=
 match TU yo with
 | true=> ap5 P op t x
 | false=> oQ P op t x y
def unA(P:Program)(op:UnOp)(x:AV):Option AV:=
 match x.val? with
 | some a=> (iP P (Op.unary op a)).map .s
 | none=> none
def sH(P:Program)(t:TypeId)(x:AV)(i:Nat):Option AV:=
 match TT P t i with
 | some f=> match szT P f.type with
  | some (_+1)=> match x with
   | .ref r g off=> some (.ref r g (off+f.offset))
   | .ip cells=> some (.ip (cells.drop f.offset))
   | _=> none
  | _=> none
 | none=> none
def N9(P:Program)(t:TypeId)(x:AV)(i:Nat):Option AV:=
 match TT P t i,x with
 | some f,.agg cells=> IB P f.type cells f.offset
 | some f,.s (.agg cs)=> IB P f.type (cs.toList.map .s) f.offset
 | _,_=> none
def Oa(P:Program)(t:TypeId)(x i:AV):Option AV:=
 match P.underlying t,x,i with
 | some .string,.s (.string s),.s (.int _ n)=> match(if 0<=n then s[n.toNat]? else none) with
  | some b=> some (.s (.int .u8 b.toNat))
  | none=> none
 | some (.array len e),.agg cells,.s (.int _ n)=> match szT P e with
  | some m=> if 0<=n/\n < len then IB P e cells (n.toNat*m) else none
  | none=> none
 | some (.array len e),.s (.agg cs),.s (.int _ n)=> match szT P e with
  | some m=> if 0<=n/\n < len then IB P e (cs.toList.map .s) (n.toNat*m) else none
  | none=> none
 | _,_,_=> none
def aJ(x:AV)(i:Nat):Option AV:=
 match x with
 | .tup l=> l[i]?
 | .s (.tuple vs)=> (vs[i]?).map .s
 | _=> none
def jl:Option AV->Nat->Option Nat
 | none,d=> some d
 | some (.s (.int _ n)),_=> if 0<=n then some n.toNat else none
 | _,_=> none
def isNone {α:Type}:Option α->Bool
 | none=> true
 | some _=> false
def Ob(P:Program)(t:TypeId)(x:AV)(lo hi mx:Option AV):Option AV:=
 match P.underlying t with
 | some (.slice e)=> match x,szT P e with
  | .s (.slice none 0 0),some _=> match jl lo 0,jl hi 0,jl mx 0 with
   | some 0,some 0,some 0=> if hi=none->mx=none then some (.s (.slice none 0 0)) else none
   | _,_,_=> none
  | .sl r g off esz len cap ex,some m=> match jl lo 0,jl hi len,jl mx cap with
   | some l,some h,some k=>
    if esz=m/\l<=h/\h<=k/\k<=cap/\(hi=none->mx=none) then some (.sl r g (off+l*esz) esz (h - l) (k - l) (ex || !isNone mx)) else none
   | _,_,_=> none
  | .vs n esz cells,some m=> match jl lo 0,jl hi n,mx with
   | some l,some h,none=> if esz=m/\l<=h/\h<=n then some (.vs (h - l) esz ((cells.drop (l*esz)).take ((h - l)*esz))) else none
   | _,_,_=> none
  | _,_=> none
 | some .string=> match x,jl lo 0,mx with
  | .s (.string s),some l,none=> match jl hi s.size with
   | some h=> if l<=h/\h<=s.size then some (.s (.string (s.extract l h))) else none
   | none=> none
  | _,_,_=> none
 | _=> none
abbrev AM(α:Type):=ah->Option (α × ah)
def fQ {α:Type}(x:Option α):AM α:=λH=> x.map λv=> (v,H)
def bQ:AV->Option Nat
 | .ref r _ _=> some r
 | .sl r _ _ _ _ _ _=> some r
 | .mp r=> some r
 | _=> none
def kF(f:Option fU->Option AV)(x:AV):AM AV:=λH=> (f ((bQ x).map H.get)).map λv=> (v,H)
def agO(P:Program)(t:TypeId)(x:AV)(ob:Option fU):Option AV:=
 match x with
 | .ref _ g off=> match ob with
  | some (.blk g' _ cells)=> if g'=g then IB P t cells off else none
  | _=> none
 | .ip cells=> IB P t cells 0
 | _=> none
def QT(P:Program)(t:TypeId)(x:AV):AM AV:=kF (agO P t x) x
def Oc(P:Program)(t:TypeId)(x v:AV):AM AV:=λH=>
 match x with
 | .ref r g off=> match H.get r with
  | .blk g' ty cells=>
   if g'=g/\H.base<=r/\szT P t=some v.cells.length/\v.cells.all AV.aX=true/\off+v.cells.length<=cells.length then
    some (aY,H.put r (.blk g ty (aN cells off v.cells)))
   else none
  | .map ..=> none
 | _=> none
def IZ(P:Program)(t:TypeId):AM AV:=λH=>
 match xR P t with
 | some z=> if z.all AV.aX=true then some (.ref H.next 0 0,H.new (.blk 0 t z)) else none
 | none=> none
def jc(t:TypeId)(v:AV):AM AV:=λH=>
 if v.cells.all AV.aX=true/\t < gV then some (.ref H.next 0 0,H.new (.blk 0 t v.cells)) else none
def dY(z:List AV):Nat->List AV
 | 0=> []
 | n+1=> z++dY z n
def dP(P:Program)(t:TypeId)(len:Nat)(parts:List (Nat × AV)):AM AV:=λH=>
 match y7 P t with
 | some e=> match szT P e,xR P e with
  | some m,some z=>
   if z.length=m/\len*m<=16777216 then
    match gI (λi=> some (i*m,m)) (dY z len) parts with
    | some cells=> if cells.all AV.aX=true then some (.sl H.next 0 0 m len len true,H.new (.blk 0 e cells)) else none
    | none=> none
   else none
  | _,_=> none
 | none=> none
def pX(P:Program)(t:TypeId)(len cap:AV):AM AV:=λH=>
 match y7 P t,len,cap with
 | some e,.s (.int _ l),.s (.int _ c)=> match szT P e,yg P e,xR P e with
  | some m,some by_,some z=>
   if z.length=m/\z.all AV.aX=true/\0<=l/\l<=c/\c<=140737488355328/\by_*c<=140737488355328 then
    some (.sl H.next 0 0 m l.toNat c.toNat true,H.new (.blk 0 e (dY z c.toNat)))
   else none
  | _,_,_=> none
 | _,_,_=> none
def anZ:Option fU->Nat
 | some o=> o.gen
 | none=> 0
def Bg(P:Program)(t:TypeId)(x i:AV)(ob:Option fU):Option AV:=
 match P.underlying t with
 | some (.slice e)=> match x with
  | .sl r g off esz len _ _=> match i with
   | .s (.int _ n)=> if szT P e=some esz/\anZ ob=g/\0<=n/\n < len then some (.ref r g (off+n.toNat*esz)) else none
   | _=> none
  | .vs len esz cells=> match i with
   | .s (.int _ n)=> if szT P e=some esz/\0<=n/\n < len then some (.ip (cells.drop (n.toNat*esz))) else none
   | _=> none
  | _=> none
 | some (.array len e)=> match szT P e with
  | some m=> match x with
   | .ref r g off=> match i with
    | .s (.int _ n)=> if 0<=n/\n < len then some (.ref r g (off+n.toNat*m)) else none
    | _=> none
   | .ip cells=> match i with
    | .s (.int _ n)=> if 0<=n/\n < len then some (.ip (cells.drop (n.toNat*m))) else none
    | _=> none
   | _=> none
  | none=> none
 | _=> none
def sJ(P:Program)(t:TypeId)(x i:AV):AM AV:=kF (Bg P t x i) x
def aiY(P:Program)(t:TypeId):Option (IntKind × TypeId):=
 match P.underlying t with
 | some (.map k e)=> match P.underlying k with
  | some (.int ik)=> some (ik,e)
  | _=> none
 | _=> none
def wY(P:Program)(t:TypeId):AM AV:=λH=>
 match aiY P t with
 | some (k,_)=> some (.mp H.next,H.new (.map k []))
 | none=> none
def qh:List (Int × AV)->Int->Option AV
 | [],_=> none
 | (k,v)::es,n=> if k=n then some v else qh es n
def Ku:List (Int × AV)->Int->AV->List (Int × AV)
 | [],n,x=> [(n,x)]
 | (k,v)::es,n,x=> if k=n then(n,x)::es else(k,v)::Ku es n x
def y9:List (Int × AV)->Int->List (Int × AV)
 | [],_=> []
 | (k,v)::es,n=> if k=n then es else(k,v)::y9 es n
def XW(P:Program)(t:TypeId)(x i:AV)(ok:Bool)(ob:Option fU):Option AV:=
 match aiY P t with
 | some (k,e)=> match y8 P e with
  | some z=> match x with
   | .mp _=> match i with
    | .s (.int k' n)=> match ob with
     | some (.map k'' es)=>
      if k'=k/\k''=k then
       match qh es n with
       | some v=> some (if ok then .tup [v,.s (.bool true)] else v)
       | none=> some (if ok then .tup [.s z,.s (.bool false)] else .s z)
      else none
     | _=> none
    | _=> none
   | _=> none
  | none=> none
 | none=> none
def QU(P:Program)(t:TypeId)(x i:AV)(ok:Bool):AM AV:=kF (XW P t x i ok) x
def sK(P:Program)(t:TypeId)(x i v:AV):AM AV:=λH=>
 match aiY P t,x,i with
 | some (k,_),.mp r,.s (.int k' n)=> match H.get r with
  | .map k'' es=> if k'=k/\k''=k/\H.base<=r then some (aY,H.put r (.map k (Ku es n v))) else none
  | _=> none
 | _,_,_=> none
def dw(H:ah):AV->Option (List AV)
 | .sl r g off esz len _ _=> match H.get r with
  | .blk g' _ cells=> if g'=g/\off+len*esz<=cells.length then some ((cells.drop off).take (len*esz)) else none
  | .map ..=> none
 | .vs _ _ cells=> some cells
 | .s (.slice none _ _)=> some []
 | .s (.string s)=> some (s.data.toList.map λb=> .s (.int .u8 b.toNat))
 | _=> none
def jV:AV->Option Nat
 | .sl _ _ _ _ len _ _=> some len
 | .vs n _ _=> some n
 | .s (.slice none n _)=> some n
 | .s (.string s)=> some s.size
 | _=> none
def most:Nat:=140737488355328
def dW(e:TypeId)(m by_:Nat)(x:AV)(n:Nat)(new:List AV):AM AV:=λH=>
 if new.length=n*m/\new.all AV.aX=true then
  match x with
  | .s (.slice none 0 0)=>
   if n=0 then some (x,H)
   else if n<=most/\n*by_<=most then some (.sl H.next 0 0 m n n false,H.new (.blk 0 (e+gV) new))
   else none
  | .sl r g off esz len cap ex=> match H.get r with
   | .blk g' ty cells=>
    if esz=m/\g'=g/\off+len*m<=cells.length then
     if n=0 then some (x,H)
     else if len+n<=cap then
      (if H.base<=r/\off+(len+n)*m<=cells.length then some (.sl r g off m (len+n) cap ex,H.put r (.blk g ty (aN cells (off+len*m) new))) else none)
     else if len+n<=most/\(len+n)*by_<=most then
      if ex then some (.sl H.next 0 0 m (len+n) (len+n) false,H.new (.blk 0 (e+gV) ((cells.drop off).take (len*m)++new)))
      else if H.base<=r then some (.sl r (g+1) 0 m (len+n) (len+n) false,H.put r (.blk (g+1) (grT e ty off) ((cells.drop off).take (len*m)++new)))
      else none
     else none
    else none
   | .map ..=> none
  | _=> none
 else none
def Kv(P:Program)(t u:TypeId)(x y:AV):AM AV:=λH=>
 match y7 P t,P.underlying u with
 | some e,some d=> match szT P e,yg P e,xR P e with
  | some m,some by_,some z=>
   if z.length=m then
    match d with
    | .int _=> match y with
     | .s (.int _ n)=> if 0<=n/\n<=most/\n*by_<=most then dW e m by_ x n.toNat (dY z n.toNat) H else none
     | _=> none
    | _=> match jV y,dw H y with
     | some n,some new=> dW e m by_ x n new H
     | _,_=> none
   else none
  | _,_,_=> none
 | _,_=> none
def abO(P:Program)(t:TypeId)(x y:AV):AM AV:=λH=>
 match y7 P t with
 | some e=> match szT P e,jV x,jV y,dw H y with
  | some m,some d,some n,some new=>
   let k:=min n d
   if new.length=n*m/\new.all AV.aX=true then
    if k=0 then(match x with | .s (.string _)=> none | _=> some (.s (.int .i64 0),H)) else
    match x with
    | .sl r g off esz len _ _=> match H.get r with
     | .blk g' ty cells=>
      if esz=m/\g'=g/\H.base<=r/\off+len*m<=cells.length then
       some (.s (.int .i64 k),H.put r (.blk g ty (aN cells off (new.take (k*m)))))
      else none
     | .map ..=> none
    | _=> none
   else none
  | _,_,_,_=> none
 | none=> none
def TV(P:Program)(t:TypeId)(x:AV):AM AV:=λH=>
 match y7 P t with
 | some e=> match szT P e,xR P e,x with
  | some m,some z,.sl r g off esz len _ _=>
   if len=0 then some (.tup [],H) else
   match H.get r with
   | .blk g' ty cells=>
    if esz=m/\g'=g/\H.base<=r/\z.length=m/\z.all AV.aX=true/\off+len*m<=cells.length then
     some (.tup [],H.put r (.blk g ty (aN cells off (dY z len))))
    else none
   | .map ..=> none
  | some _,some _,.s (.slice none _ _)=> some (.tup [],H)
  | _,_,_=> none
 | none=> none
def Kw(P:Program)(t:TypeId)(x i:AV):AM AV:=λH=>
 match aiY P t,x,i with
 | some (k,_),.mp r,.s (.int k' n)=> match H.get r with
  | .map k'' es=> if k'=k/\k''=k/\H.base<=r then some (.tup [],H.put r (.map k (y9 es n))) else none
  | _=> none
 | _,_,_=> none
def an1(P:Program)(t:TypeId)(x:AV)(ob:Option fU):Option AV:=
 match P.underlying t with
 | some (.slice _)=> match x with
  | .sl _ _ _ _ len _ _=> some (.s (.int .i64 len))
  | .vs n _ _=> some (.s (.int .i64 n))
  | .s (.slice _ n _)=> some (.s (.int .i64 n))
  | _=> none
 | some .string=> match x with
  | .s (.string s)=> some (.s (.int .i64 s.size))
  | _=> none
 | some (.map _ _)=> match x with
  | .mp _=> match ob with
   | some (.map _ es)=> some (.s (.int .i64 es.length))
   | _=> none
  | .s (.map none)=> some (.s (.int .i64 0))
  | _=> none
 | _=> none
def ai8(P:Program)(t:TypeId)(x:AV):AM AV:=kF (an1 P t x) x
def ad7(P:Program)(t:TypeId)(x:AV):Option AV:=
 match P.underlying t with
 | some (.slice _)=> match x with
  | .sl _ _ _ _ _ cap true=> some (.s (.int .i64 cap))
  | .s (.slice none _ c)=> some (.s (.int .i64 c))
  | _=> none
 | _=> none
def oh:List AV->Option (List Int)
 | []=> some []
 | x::xs=> match x with
  | .s (.int .u8 n)=> match oh xs with
   | some l=> some (n::l)
   | none=> none
  | _=> none
def Oe(ns:List Int):ByteArray:=ns.foldl (λs n=> s.push (UInt8.ofNat n.toNat)) ByteArray.empty
def aiZ(x:AV)(ob:Option fU):Option ByteArray:=
 match x with
 | .sl _ g off esz len _ _=> if esz=1 then match ob with
   | some (.blk g' _ cells)=> if g'=g/\off+len*esz<=cells.length then(oh ((cells.drop off).take (len*esz))).map Oe else none
   | _=> none
  else none
 | .vs _ esz cells=> if esz=1 then(oh cells).map Oe else none
 | .s (.slice none _ _)=> some ByteArray.empty
 | _=> none
def Fb(P:Program)(src dst:TypeId):Bool:=
 match P.underlying src,P.underlying dst with
 | some (.slice e),some .string=> match P.underlying e with
  | some (.int .u8)=> true
  | _=> false
 | _,_=> false
def zf(P:Program)(src dst:TypeId)(x:AV)(ob:Option fU):Option AV:=
 if Fb P src dst=true then(aiZ x ob).map λs=> .s (.string s)
 else match x.val? with
  | some v=> (iP P (convert src dst v)).map .s
  | none=> none
def jW(P:Program)(src dst:TypeId)(x:AV):AM AV:=kF (zf P src dst x) x
def bV(H:ah)(n:Nat):Nat->AV->Option AV
 | 0,_=> none
 | d+1,x=> match x with
  | .s v=> some (.s v)
  | .ref r g off=> if r < n then some (.ref r g off) else none
  | .mp r=> if r < n then some (.mp r) else none
  | .sl r g off esz len cap ex=>
   if r < n then some (.sl r g off esz len cap ex)
   else match dw H (.sl r g off esz len cap ex) with
    | some cells=> (cells.mapM (bV H n d)).map λl=> .vs len esz l
    | none=> none
  | .ip cells=> (cells.mapM (bV H n d)).map .ip
  | .vs k esz cells=> (cells.mapM (bV H n d)).map (.vs k esz)
  | .fn f a c=> match a.mapM (bV H n d),c.mapM (bV H n d) with
   | some a,some c=> some (.fn f a c)
   | _,_=> none
  | .agg cells=> (cells.mapM (bV H n d)).map .agg
  | .tup cells=> (cells.mapM (bV H n d)).map .tup
abbrev aC:=FuncId->List AV->AM AV
abbrev fO:=List AV
def dO(t:fO):Operand->AV
 | .tmp i=> t.getD i aY
 | .const v=> .s v
 | .global g=> .s (.pointer (some ⟨g,0,none⟩))
 | .func f=> .fn (.func f) [] []
def vT(t:fO)(dst:Option Tmp)(v:AV):fO:=
 match dst with
 | some d=> t.set d v
 | none=> t
def mg(P:Program)(f:FuncId):Bool:=
 match P.funcs[f]? with
 | some fn=> !(fn.name=="runtime.NumGoroutine") && fn.body.isSome
 | none=> false
def rP(P:Program)(C:aC)(f:AV)(args:List AV):AM AV:=
 match f with
 | .fn (.func f) first captured=> if mg P f=true then C f (first++args++captured) else λ_=> none
 | .s (.func (.func f) first captured)=> if mg P f=true then C f (first.toList.map .s++args++captured.toList.map .s) else λ_=> none
 | _=> λ_=> none
def dG(c a b:AV):Option AV:=
 match c with
 | .s (.bool true)=> some a
 | .s (.bool false)=> some b
 | _=> none
def aA(x:AV):Option AV:=
 match x with
 | .ref ..=> some x
 | .ip ..=> some x
 | .fn (.func _) _ _=> some x
 | .s (.pointer (some _))=> some x
 | _=> none
def lK(P:Program)(isMax:Bool)(argTypes:Array TypeId)(type:TypeId)(args:List AV):Option AV:=
 match vals? args with
 | some vs=> (iP P (if isMax then Builtin.max_ argTypes type vs.toArray else Builtin.min_ argTypes type vs.toArray)).map .s
 | none=> none
def iI(P:Program)(b:Builtin)(argTypes:Array TypeId)(type:TypeId)(args:List AV):AM AV:=λH=>
 match b,argTypes.toList,args with
 | .append,[t,u],[x,y]=> Kv P t u x y H
 | .len,[t],[x]=> ai8 P t x H
 | .cap,[t],[x]=> fQ (ad7 P t x) H
 | .copy,t::_,[x,y]=> abO P t x y H
 | .clear,[t],[x]=> TV P t x H
 | .delete,t::_,[x,y]=> Kw P t x y H
 | .max,_,args=> fQ (lK P true argTypes type args) H
 | .min,_,args=> fQ (lK P false argTypes type args) H
 | _,_,_=> none
def vU(P:Program)(C:aC)(t:fO)(c:Call)(type:TypeId):AM AV:=λH=>
 match c.callee with
 | .value f=> rP P C (dO t f) (c.args.toList.map (dO t)) H
 | .builtin b=> iI P b c.argTypes type (c.args.toList.map (dO t)) H
 | .invoke _ _=> none
def opA(P:Program)(C:aC)(t:fO)(o:Oper):AM AV:=
 match o.op with
 | .move x=> fQ (some (dO t x))
 | .assign x=> fQ (some (dO t x))
 | .pick c a b=> fQ (dG (dO t c) (dO t a) (dO t b))
 | .alloc e=> IZ P e
 | .box e x=> jc e (dO t x)
 | .build ty ps=> fQ (iq P ty (ps.toList.map λp=> (p.1,dO t p.2)))
 | .buildSlice ty n ps=> dP P ty n (ps.toList.map λp=> (p.1,dO t p.2))
 | .load ty x=> QT P ty (dO t x)
 | .store ty x v=> Oc P ty (dO t x) (dO t v)
 | .nilCheck x=> fQ (aA (dO t x))
 | .binOp op ty x y _=> fQ (ai7 P op ty y (dO t x) (dO t y))
 | .unOp op _ x=> fQ (unA P op (dO t x))
 | .convert src dst x=> jW P src dst (dO t x)
 | .makeFunc f a c=> fQ (some (.fn f (a.toList.map (dO t)) (c.toList.map (dO t))))
 | .makeMap ty none=> wY P ty
 | .makeSlice ty l c=> pX P ty (dO t l) (dO t c)
 | .slice ty x lo hi mx=> fQ (Ob P ty (dO t x) (lo.map (dO t)) (hi.map (dO t)) (mx.map (dO t)))
 | .fieldAddr ty x i=> fQ (sH P ty (dO t x) i)
 | .field ty x i=> fQ (N9 P ty (dO t x) i)
 | .indexAddr ty x i=> sJ P ty (dO t x) (dO t i)
 | .index ty x i=> fQ (Oa P ty (dO t x) (dO t i))
 | .lookup ty x i ok=> QU P ty (dO t x) (dO t i) ok
 | .mapUpdate ty m k v=> sK P ty (dO t m) (dO t k) (dO t v)
 | .extract x i=> fQ (aJ (dO t x) i)
 | .call c=> vU P C t c o.type
 | _=> λ_=> none
def ug(ops:List Oper)(t:fO)(o:Oper):Option Bool:=
 match o.guard with
 | none=> some true
 | some (j,want)=> match ops[j]? with
  | some p=> match p.dst with
   | some d=> match t[d]? with
    | some (.s (.bool b))=> some (b==want)
    | some (.tup [])=> some false
    | _=> none
   | none=> none
  | none=> none
def Og(P:Program)(C:aC)(ops:List Oper):List Oper->fO->AM fO
 | [],t,H=> some (t,H)
 | o::rest,t,H=> match ug ops t o with
  | some true=> match opA P C t o H with
   | some (v,H')=> Og P C ops rest (vT t o.dst v) H'
   | none=> none
  | some false=> Og P C ops rest (vT t o.dst aY) H
  | none=> none
def ai9:List Nat:=[
 191,
 48,
 198,
 15,
 49,
 199,
 22,
 0]
def abP:Operand->Bool
 | .const _=> true
 | _=> false
def D7:Op->Bool
 | .alloc _=> true
 | .buildSlice _ _ ps=> ps.all λp=> abP p.2
 | _=> false
def qP:Op->Bool
 | .move _=> true
 | .assign _=> true
 | .pick _ _ _=> true
 | .build _ _=> true
 | .nilCheck _=> true
 | .binOp _ _ _ _ _=> true
 | .unOp _ _ _=> true
 | .makeFunc _ _ _=> true
 | .slice _ _ _ _ _=> true
 | .fieldAddr _ _ _=> true
 | .field _ _ _=> true
 | .index _ _ _=> true
 | .extract _ _=> true
 | .load _ _=> true
 | .lookup _ _ _ _=> true
 | .indexAddr _ _ _=> true
 | .convert _ _ _=> true
 | .call c=> match c.callee with
  | .builtin .len=> true
  | .builtin .cap=> true
  | .builtin .max=> true
  | .builtin .min=> true
  | _=> false
 | _=> false
def aon:Operand->Bool
 | .func f=> ai9.contains f
 | _=> false
def uh:Op->Bool
 | .box _ _=> true
 | .buildSlice _ _ _=> true
 | .makeMap _ _=> true
 | .makeSlice _ _ _=> true
 | .call c=> match c.callee with
  | .value x=> !aon x
  | _=> false
 | _=> false
def lW:Op->Bool
 | .call c=> match c.callee with
  | .value x=> !aon x
  | _=> false
 | _=> false
def agP:Op->Bool
 | .call c=> match c.callee with
  | .value x=> aon x
  | _=> false
 | _=> false
def Ky:Op->Bool
 | .load _ _=> true
 | .lookup _ _ _ _=> true
 | .indexAddr _ _ _=> true
 | .convert _ _ _=> true
 | .call c=> match c.callee with
  | .builtin .len=> true
  | _=> false
 | _=> false
def kZ(t:fO):Op->Option Nat
 | .load _ x=> bQ (dO t x)
 | .lookup _ x _ _=> bQ (dO t x)
 | .indexAddr _ x _=> bQ (dO t x)
 | .convert _ _ x=> bQ (dO t x)
 | .call c=> match c.args.toList with
  | [x]=> bQ (dO t x)
  | _=> none
 | _=> none
def mD(ops:List Oper)(i j:Nat):Bool:=((Region.before ops.toArray).getD j 0).testBit i
def qj(ops:List Oper)(i:Nat):Op:=(ops[i]?.map (·.op)).getD (.alloc 0)
def I4(ops:List Oper)(i:Nat):Option Tmp:=ops[i]?.bind (·.dst)
def cst(ops:List Oper)(i:Nat):Bool:=D7 (qj ops i)
def flo(ops:List Oper)(i:Nat):Bool:=qP (qj ops i)
def chn(ops:List Oper)(i:Nat):Bool:=!cst ops i && !flo ops i
def Fe(ops:List Oper)(i j:Nat):Bool:=if cst ops i==cst ops j then decide (i < j) else cst ops i
def DU(n:Nat)(f:Nat->Bool):Bool:=(List.range n).all f
def VU(ops:List Oper)(j e:Nat):Bool:=chn ops e && flo ops j && Ky (qj ops j) && !mD ops j e && !mD ops e j
def loose(ops:List Oper)(e:Nat):Bool:=(List.range ops.length).any λj=> VU ops j e || (cst ops j && chn ops e && !mD ops j e)
def lF(ops:List Oper):List (Nat × Nat):=
 (List.range ops.length).flatMap λj=> ((List.range ops.length).filter λe=> (VU ops j e && !uh (qj ops e)) || (cst ops j && chn ops e && !mD ops j e && agP (qj ops e))).map λe=> (j,e)
def TW(ops:List Oper):Bool:=
 let n:=ops.length
 (DU n λj=> (ops[j]?.map λo=> o.after.all λe=> !Region.binds .any e || (decide (e.on < n) && Fe ops e.on j)).getD false) &&
 (DU n λi=> DU n λj=> !(decide (i < j)) || (I4 ops i).isNone || !(I4 ops i==I4 ops j)) &&
 (DU n λi=> DU n λj=> i==j || (match I4 ops i,ops[j]? with
  | some d,some o=> !(o.looksAt ops.toArray).contains d || (mD ops i j && Fe ops i j) || (mD ops j i && Fe ops j i)
  | _,_=> true)) &&
 (DU n λi=> DU n λj=> !(chn ops i && chn ops j && decide (i < j)) || mD ops i j) &&
 (DU n λj=> !cst ops j || ((ops[j]?.map λo=> o.guard.isNone && o.dst.isSome).getD false)) &&
 (DU n λj=> DU n λe=> !(cst ops j && chn ops e && !mD ops j e) || ((uh (qj ops e) || agP (qj ops e)) && !mD ops e j))
def opG(P:Program)(C:aC)(t:fO)(o:Oper):AM AV:=λH=>
 match opA P C t o H.guard with
 | some (v,H')=> some (v,{ H' with base:=H.base })
 | none=> none
def lZ(P:Program)(C:aC)(ops:List Oper)(lo:Bool)(o:Oper)(t:fO):AM AV:=λH=>
 match ug ops t o with
 | some true=> if lo then opG P C t o H else opA P C t o H
 | some false=> some (aY,H)
 | none=> none
def iJ(P:Program)(C:aC)(ops:List Oper):List Nat->fO->ah->Option (fO × ah)
 | [],t,H=> some (t,H)
 | i::is,t,H=> match ops[i]? with
  | some o=> match opA P C t o H with
   | some (v,H')=> iJ P C ops is (vT t o.dst v) H'
   | none=> none
  | none=> none
def fH(P:Program)(C:aC)(ops:List Oper):List Nat->fO->ah->Option (fO × ah)
 | [],t,H=> some (t,H)
 | i::is,t,H=> match ops[i]? with
  | some o=> match lZ P C ops (loose ops i && lW o.op) o t H with
   | some (v,H')=> fH P C ops is (vT t o.dst v) H'
   | none=> none
  | none=> none
def oq(ops:List Oper):List Nat:=(List.range ops.length).filter (cst ops)
def mF(ops:List Oper):List Nat:=(List.range ops.length).filter λi=> !cst ops i
def Fg(P:Program)(C:aC)(ops:List Oper)(p:Nat)(t:fO)(H:ah):Option (fO × ah):=
 fH P C ops ((List.range p).filter λi=> !cst ops i) t H
def agree(P:Program)(C:aC)(ops:List Oper)(s:Nat)(t:fO)(H:ah)(p:Nat × Nat):Prop:=
 if cst ops p.1=true then
  ∀te He te' He',Fg P C ops p.2 t H=some (te,He)->Fg P C ops (p.2+1) t H=some (te',He')->∀r,s<=r->r < H.next->He'.get r=He.get r
 else
 ∀tj Hj te He te' He',Fg P C ops p.1 t H=some (tj,Hj)->Fg P C ops p.2 t H=some (te,He)->Fg P C ops (p.2+1) t H=some (te',He')->
  ∀r,kZ tj (qj ops p.1)=some r->He'.get r=He.get r
open Classical in
def yG(P:Program)(C:aC)(ops:List Oper)(t:fO)(H:ah):Option (fO × ah):=
 if TW ops=true then
  match iJ P C ops (oq ops) t H with
  | some (t0,H0)=> match lF ops with
   | []=> fH P C ops (mF ops) t0 H0
   | ps=> if∀p∈ps,agree P C ops H.next t0 H0 p then fH P C ops (mF ops) t0 H0 else none
  | none=> none
 else none
mutual
def NV(n:Nat):AV->Prop
 | .s _=> True
 | .ref r _ _=> r < n
 | .sl r _ _ _ _ _ _=> r < n
 | .ip cells=> NVs n cells
 | .vs _ _ cells=> NVs n cells
 | .mp r=> r < n
 | .fn _ a c=> NVs n a/\NVs n c
 | .agg cells=> NVs n cells
 | .tup cells=> NVs n cells
def NVs(n:Nat):List AV->Prop
 | []=> True
 | x::xs=> NV n x/\NVs n xs
end
mutual
theorem RV.nv {ρ:Ren}{G:Nat->Nat}{w:World}{n:Nat}(out:∀r,n<=r->ρ r=none/\G r=0):∀(x:AV) (v:Value),RV ρ G w x v->NV n x
 | .s _,_,_=> by simp [NV]
 | .ref r g off,v,h=> by
  obtain⟨a,_,h1,h2⟩:=(by simpa only [RV] using h)
  simp only [NV];rcases zaW r n with hr | hr
  ·exact hr
  ·obtain⟨o1,o2⟩:=out r hr;obtain⟨b,sh,hb,_⟩:=h2 (by omega);rw [o1] at hb;cases hb
 | .sl r g off esz len cap ex,v,h=> by
  obtain⟨b,o,c,_,_,_,_,h1,h2⟩:=(by simpa only [RV] using h)
  simp only [NV];rcases zaW r n with hr | hr
  ·exact hr
  ·obtain⟨o1,o2⟩:=out r hr;obtain⟨sh,e,m,hb,_⟩:=h2 (by omega);rw [o1] at hb;cases hb
 | .ip cells,v,h=> by
  obtain⟨b,o,_,_,_,h1⟩:=(by simpa only [RV] using h)
  simp only [NV];exact RVc.nv out cells b o h1
 | .vs m esz cells,v,h=> by
  obtain⟨b,o,c,_,_,_,_,_,h1⟩:=(by simpa only [RV] using h)
  simp only [NV];exact RVc.nv out cells b o h1
 | .mp r,v,h=> by
  obtain⟨b,_,h1⟩:=(by simpa only [RV] using h)
  simp only [NV];rcases zaW r n with hr | hr
  ·exact hr
  ·obtain⟨o1,o2⟩:=out r hr;have:=h1 o2;rw [o1] at this;cases this
 | .fn f a c,v,h=> by
  obtain⟨a',c',_,h1,h2⟩:=(by simpa only [RV] using h)
  simp only [NV];exact⟨RVs.nv out a _ h1,RVs.nv out c _ h2⟩
 | .agg cells,v,h=> by
  obtain⟨cs,_,h1⟩:=(by simpa only [RV] using h)
  simp only [NV];exact RVs.nv out cells _ h1
 | .tup cells,v,h=> by
  obtain⟨cs,_,h1⟩:=(by simpa only [RV] using h)
  simp only [NV];exact RVs.nv out cells _ h1
theorem RVs.nv {ρ:Ren}{G:Nat->Nat}{w:World}{n:Nat}(out:∀r,n<=r->ρ r=none/\G r=0):∀(xs:List AV) (l:List Value),RVs ρ G w xs l->NVs n xs
 | [],_,_=> by simp [NVs]
 | x::xs,l,h=> by
  obtain⟨y,ys,_,h1,h2⟩:=(by simpa only [RVs] using h)
  simp only [NVs];exact⟨RV.nv out x y h1,RVs.nv out xs ys h2⟩
theorem RVc.nv {ρ:Ren}{G:Nat->Nat}{w:World}{n:Nat}(out:∀r,n<=r->ρ r=none/\G r=0):∀(xs:List AV) (b o:Nat),RVc ρ G w xs b o->NVs n xs
 | [],_,_,_=> by simp [NVs]
 | x::xs,b,o,h=> by
  obtain⟨⟨y,_,h1⟩,h2⟩:=(by simpa only [RVc] using h)
  simp only [NVs];exact⟨RV.nv out x y h1,RVc.nv out xs b (o+1) h2⟩
end
structure ad8(ρ:Ren)(G:Nat->Nat)(w:World)(ρ':Ren)(G':Nat->Nat)(w':World):Prop where
 mono:∀r,G r<=G' r
 same:∀r x,ρ r=some x->G' r=G r->ρ' r=some x
 imm:∀b,b < w.heap.size->Imm ρ b->b < w'.heap.size/\Imm ρ' b/\∀o,w'.cell? ⟨b,o,none⟩=w.cell? ⟨b,o,none⟩
 shape:∀b e m,w.shape? b=some (e,m)->w'.shape? b=some (e,m)
mutual
theorem RV.mono {ρ ρ':Ren}{G G':Nat->Nat}{w w':World}(M:ad8 ρ G w ρ' G' w'):∀(x:AV) (v:Value),RV ρ G w x v->RV ρ' G' w' x v
 | .s _,_,h=> by simpa only [RV] using h
 | .ref r g off,v,h=> by
  obtain⟨a,e,h1,h2⟩:=(by simpa only [RV] using h)
  simp only [RV];have m:=M.mono r;refine⟨a,e,by omega,λhg=> ?_⟩;have he:G r=g:=by omega
  obtain⟨b,sh,hr,ha⟩:=h2 he;exact⟨b,sh,M.same r _ hr (by omega),ha⟩
 | .sl r g off esz len cap ex,v,h=> by
  obtain⟨b,o,c,e,k1,k2,k3,h1,h2⟩:=(by simpa only [RV] using h)
  simp only [RV];have m:=M.mono r;refine⟨b,o,c,e,k1,k2,k3,by omega,λhg=> ?_⟩;have he:G r=g:=by omega
  obtain⟨sh,ty,k,q1,q2,q3,q4⟩:=h2 he;exact⟨sh,ty,k,M.same r _ q1 (by omega),q2,M.shape _ _ _ q3,q4⟩
 | .ip cells,v,h=> by
  obtain⟨b,o,e,hb,hi,h1⟩:=(by simpa only [RV] using h)
  simp only [RV];obtain⟨hb',hi',hc⟩:=M.imm b hb hi;exact⟨b,o,e,hb',hi',RVc.mono M cells b o (λo v hv=> by rw [hc];exact hv) h1⟩
 | .vs m esz cells,v,h=> by
  obtain⟨b,o,c,e,k1,k2,hb,hi,h1⟩:=(by simpa only [RV] using h)
  simp only [RV];obtain⟨hb',hi',hc⟩:=M.imm b hb hi;exact⟨b,o,c,e,k1,k2,hb',hi',RVc.mono M cells b o (λo v hv=> by rw [hc];exact hv) h1⟩
 | .mp r,v,h=> by
  obtain⟨b,e,h1⟩:=(by simpa only [RV] using h)
  simp only [RV];have m:=M.mono r;refine⟨b,e,λhg=> ?_⟩;have he:G r=0:=by omega
  exact M.same r _ (h1 he) (by omega)
 | .fn f a c,v,h=> by
  obtain⟨a',c',e,h1,h2⟩:=(by simpa only [RV] using h)
  simp only [RV];exact⟨a',c',e,RVs.mono M a _ h1,RVs.mono M c _ h2⟩
 | .agg cells,v,h=> by
  obtain⟨cs,e,h1⟩:=(by simpa only [RV] using h)
  simp only [RV];exact⟨cs,e,RVs.mono M cells _ h1⟩
 | .tup cells,v,h=> by
  obtain⟨cs,e,h1⟩:=(by simpa only [RV] using h)
  simp only [RV];exact⟨cs,e,RVs.mono M cells _ h1⟩
theorem RVs.mono {ρ ρ':Ren}{G G':Nat->Nat}{w w':World}(M:ad8 ρ G w ρ' G' w'):∀(xs:List AV) (l:List Value),RVs ρ G w xs l->RVs ρ' G' w' xs l
 | [],_,h=> by simpa only [RVs] using h
 | x::xs,l,h=> by
  obtain⟨y,ys,e,h1,h2⟩:=(by simpa only [RVs] using h)
  simp only [RVs];exact⟨y,ys,e,RV.mono M x y h1,RVs.mono M xs ys h2⟩
theorem RVc.mono {ρ ρ':Ren}{G G':Nat->Nat}{w w':World}(M:ad8 ρ G w ρ' G' w'):∀(xs:List AV) (b o:Nat),(∀o v,w.cell? ⟨b,o,none⟩=some v->w'.cell? ⟨b,o,none⟩=some v)->RVc ρ G w xs b o->RVc ρ' G' w' xs b o
 | [],_,_,_,_=> by simp only [RVc]
 | x::xs,b,o,hc,h=> by
  obtain⟨⟨y,e,h1⟩,h2⟩:=(by simpa only [RVc] using h)
  simp only [RVc];exact⟨⟨y,hc _ _ e,RV.mono M x y h1⟩,RVc.mono M xs b (o+1) hc h2⟩
end
structure Back(n:Nat)(ρ:Ren)(G:Nat->Nat)(ρ':Ren)(G':Nat->Nat):Prop where
 gen:∀r,r < n->G' r=G r
 same:∀r,r < n->ρ' r=none∨ρ' r=ρ r
 sub:∀r x,ρ' r=some x->ρ r=some x
theorem Back.imm {n:Nat}{ρ ρ':Ren}{G G':Nat->Nat}(B:Back n ρ G ρ' G'){b:Nat}(h:Imm ρ b):Imm ρ' b:=λr sh hr=> h r sh (B.sub r _ hr)
mutual
theorem RV.back {n:Nat}{ρ ρ':Ren}{G G':Nat->Nat}{w w0:World}(B:Back n ρ G ρ' G')(out:∀r,n<=r->ρ' r=none/\G' r=0):∀(x:AV) (v v0:Value),RV ρ' G' w0 x v0->RV ρ G w x v->RV ρ' G' w x v
 | .s _,_,_,_,h=> by simpa only [RV] using h
 | .ref r g off,v,v0,h0,h=> by
  have hn:=RV.nv out _ _ h0;simp only [NV] at hn;obtain⟨a0,_,g1,g2⟩:=(by simpa only [RV] using h0)
  obtain⟨a,e,h1,h2⟩:=(by simpa only [RV] using h)
  simp only [RV];refine⟨a,e,by rw [B.gen r hn];exact h1,λhg=> ?_⟩;obtain⟨b0,sh0,hr0,_⟩:=g2 hg;obtain⟨b,sh,hr,ha⟩:=h2 (by rw [<-B.gen r hn];exact hg);refine⟨b,sh,?_,ha⟩;rcases B.same r hn with q | q
  ·rw [q] at hr0;cases hr0
  ·rw [q];exact hr
 | .sl r g off esz len cap ex,v,v0,h0,h=> by
  have hn:=RV.nv out _ _ h0;simp only [NV] at hn;obtain⟨_,_,_,_,_,_,_,_,g2⟩:=(by simpa only [RV] using h0)
  obtain⟨b,o,c,e,k1,k2,k3,h1,h2⟩:=(by simpa only [RV] using h)
  simp only [RV];refine⟨b,o,c,e,k1,k2,k3,by rw [B.gen r hn];exact h1,λhg=> ?_⟩;obtain⟨_,_,_,hr0,_⟩:=g2 hg;obtain⟨sh,ty,k,q1,q2,q3,q4⟩:=h2 (by rw [<-B.gen r hn];exact hg);refine⟨sh,ty,k,?_,q2,q3,q4⟩;rcases B.same r hn with q | q
  ·rw [q] at hr0;cases hr0
  ·rw [q];exact q1
 | .ip cells,v,v0,h0,h=> by
  obtain⟨b0,o0,_,_,_,g1⟩:=(by simpa only [RV] using h0)
  obtain⟨b,o,e,hb,hi,h1⟩:=(by simpa only [RV] using h)
  simp only [RV];exact⟨b,o,e,hb,B.imm hi,RVc.back B out cells b o b0 o0 g1 h1⟩
 | .vs m esz cells,v,v0,h0,h=> by
  obtain⟨b0,o0,_,_,_,_,_,_,g1⟩:=(by simpa only [RV] using h0)
  obtain⟨b,o,c,e,k1,k2,hb,hi,h1⟩:=(by simpa only [RV] using h)
  simp only [RV];exact⟨b,o,c,e,k1,k2,hb,B.imm hi,RVc.back B out cells b o b0 o0 g1 h1⟩
 | .mp r,v,v0,h0,h=> by
  have hn:=RV.nv out _ _ h0;simp only [NV] at hn;obtain⟨_,_,g1⟩:=(by simpa only [RV] using h0)
  obtain⟨b,e,h1⟩:=(by simpa only [RV] using h)
  simp only [RV];refine⟨b,e,λhg=> ?_⟩;have:=g1 hg;rcases B.same r hn with q | q
  ·rw [q] at this;cases this
  ·rw [q];exact h1 (by rw [<-B.gen r hn];exact hg)
 | .fn f a c,v,v0,h0,h=> by
  obtain⟨_,_,_,g1,g2⟩:=(by simpa only [RV] using h0)
  obtain⟨a',c',e,h1,h2⟩:=(by simpa only [RV] using h)
  simp only [RV];exact⟨a',c',e,RVs.back B out a _ _ g1 h1,RVs.back B out c _ _ g2 h2⟩
 | .agg cells,v,v0,h0,h=> by
  obtain⟨_,_,g1⟩:=(by simpa only [RV] using h0)
  obtain⟨cs,e,h1⟩:=(by simpa only [RV] using h)
  simp only [RV];exact⟨cs,e,RVs.back B out cells _ _ g1 h1⟩
 | .tup cells,v,v0,h0,h=> by
  obtain⟨_,_,g1⟩:=(by simpa only [RV] using h0)
  obtain⟨cs,e,h1⟩:=(by simpa only [RV] using h)
  simp only [RV];exact⟨cs,e,RVs.back B out cells _ _ g1 h1⟩
theorem RVs.back {n:Nat}{ρ ρ':Ren}{G G':Nat->Nat}{w w0:World}(B:Back n ρ G ρ' G')(out:∀r,n<=r->ρ' r=none/\G' r=0):∀(xs:List AV) (l l0:List Value),RVs ρ' G' w0 xs l0->RVs ρ G w xs l->RVs ρ' G' w xs l
 | [],_,_,_,h=> by simpa only [RVs] using h
 | x::xs,l,l0,h0,h=> by
  obtain⟨_,_,_,g1,g2⟩:=(by simpa only [RVs] using h0)
  obtain⟨y,ys,e,h1,h2⟩:=(by simpa only [RVs] using h)
  simp only [RVs];exact⟨y,ys,e,RV.back B out x y _ g1 h1,RVs.back B out xs ys _ g2 h2⟩
theorem RVc.back {n:Nat}{ρ ρ':Ren}{G G':Nat->Nat}{w w0:World}(B:Back n ρ G ρ' G')(out:∀r,n<=r->ρ' r=none/\G' r=0):∀(xs:List AV) (b o b0 o0:Nat),RVc ρ' G' w0 xs b0 o0->RVc ρ G w xs b o->RVc ρ' G' w xs b o
 | [],_,_,_,_,_,_=> by simp only [RVc]
 | x::xs,b,o,b0,o0,h0,h=> by
  obtain⟨⟨_,_,g1⟩,g2⟩:=(by simpa only [RVc] using h0)
  obtain⟨⟨y,e,h1⟩,h2⟩:=(by simpa only [RVc] using h)
  simp only [RVc];exact⟨⟨y,e,RV.back B out x y _ g1 h1⟩,RVc.back B out xs b (o+1) b0 (o0+1) g2 h2⟩
end
theorem RVm.nv {ρ:Ren}{G:Nat->Nat}{w:World}{n:Nat}(out:∀r,n<=r->ρ r=none/\G r=0){k:IntKind}:∀(es:List (Int × AV)) (l:List MapEntry),RVm ρ G w k es l->NVs n (es.map (·.2))
 | [],_,_=> by simp [NVs]
 | (m,x)::xs,l,h=> by
  obtain⟨e,es,_,_,h1,h2⟩:=(by simpa only [RVm] using h)
  simp only [zaw,NVs];exact⟨RV.nv out x _ h1,RVm.nv out xs es h2⟩
theorem RVm.mono {ρ ρ':Ren}{G G':Nat->Nat}{w w':World}(M:ad8 ρ G w ρ' G' w'){k:IntKind}:∀(xs:List (Int × AV)) (l:List MapEntry),RVm ρ G w k xs l->RVm ρ' G' w' k xs l
 | [],_,h=> by simpa only [RVm] using h
 | (m,x)::xs,l,h=> by
  obtain⟨e,es,e1,e2,h1,h2⟩:=(by simpa only [RVm] using h)
  simp only [RVm];exact⟨e,es,e1,e2,RV.mono M x _ h1,RVm.mono M xs es h2⟩
theorem RVm.back {n:Nat}{ρ ρ':Ren}{G G':Nat->Nat}{w w0:World}(B:Back n ρ G ρ' G')(out:∀r,n<=r->ρ' r=none/\G' r=0){k:IntKind}:∀(xs:List (Int × AV)) (l l0:List MapEntry),RVm ρ' G' w0 k xs l0->RVm ρ G w k xs l->RVm ρ' G' w k xs l
 | [],_,_,_,h=> by simpa only [RVm] using h
 | (m,x)::xs,l,l0,h0,h=> by
  obtain⟨_,_,_,_,g1,g2⟩:=(by simpa only [RVm] using h0)
  obtain⟨e,es,e1,e2,h1,h2⟩:=(by simpa only [RVm] using h)
  simp only [RVm];exact⟨e,es,e1,e2,RV.back B out x _ _ g1 h1,RVm.back B out xs es _ g2 h2⟩
theorem cell?_of_block {w w':World}{b o:Nat}(h:w'.heap[b]?=w.heap[b]?):w'.cell? ⟨b,o,none⟩=w.cell? ⟨b,o,none⟩:=by
 simp only [World.cell?,h]
theorem Oh {w:World}{b:Nat}{e:TypeId}{m:Nat}(h:w.shape? b=some (e,m)):b < w.heap.size:=by
 rcases zaW b w.heap.size with hb | hb
 ·exact hb
 ·simp [World.shape?,zda hb] at h
theorem Ext.toMono {ρ ρ':Ren}{H H':ah}{w w':World}(E:Ext ρ H w ρ' H' w'):ad8 ρ H.gen w ρ' H'.gen w' where
 mono:=E.mono
 same:=E.same
 imm:=λb hb hi=> ⟨zav hb E.size,λr sh hr=> by
   rcases E.range r b sh hr with h | ⟨sh',h⟩
   ·omega
   ·exact hi r sh' h,λo=> cell?_of_block (E.frame b hb hi)⟩
 shape:=λb e m h=> by rw [E.shape b (Oh h)];exact h
theorem Ext.refl(ρ:Ren)(H:ah)(w:World):Ext ρ H w ρ H w where
 next:=zac _
 mono:=λ_=> zac _
 same:=λ_ _ h _=> h
 kept:=λ_ _ h=> h
 range:=λ_ _ sh h=> .inr ⟨sh,h⟩
 size:=zac _
 frame:=λ_ _ _=> rfl
 shape:=λ_ _=> rfl
 os:=rfl
 tape:=rfl
 output:=rfl
theorem Ext.trans {ρ ρ' ρ'':Ren}{H H' H'':ah}{w w' w'':World}(E:Ext ρ H w ρ' H' w')(F:Ext ρ' H' w' ρ'' H'' w''):Ext ρ H w ρ'' H'' w'' where
 next:=zau E.next F.next
 mono:=λr=> zau (E.mono r) (F.mono r)
 same:=λr x hr h=> by
  have h1:=E.mono r;have h2:=F.mono r;exact F.same r x (E.same r x hr (by omega)) (by omega)
 kept:=λr hr h=> F.kept r (zav hr E.next) (E.kept r hr h)
 range:=λr b sh h=> by
  rcases F.range r b sh h with h | ⟨sh',h⟩
  ·exact .inl (zau E.size h)
  ·exact E.range r b sh' h
 size:=zau E.size F.size
 frame:=λb hb hi=> by
  rw [F.frame b (zav hb E.size) (E.toMono.imm b hb hi).2.1,E.frame b hb hi]
 shape:=λb hb=> by rw [F.shape b (zav hb E.size),E.shape b hb]
 os:=F.os.trans E.os
 tape:=F.tape.trans E.tape
 output:=F.output.trans E.output
theorem Rel.keep {ρ ρ':Ren}{H H':ah}{w w':World}(_R:Rel ρ H w)(E:Ext ρ H w ρ' H' w'){x:AV}{v:Value}(h:RV ρ H.gen w x v):RV ρ' H'.gen w' x v:=
 RV.mono E.toMono x v h
theorem Rel.keeps {ρ ρ':Ren}{H H':ah}{w w':World}(_R:Rel ρ H w)(E:Ext ρ H w ρ' H' w'){xs:List AV}{l:List Value}(h:RVs ρ H.gen w xs l):RVs ρ' H'.gen w' xs l:=
 RVs.mono E.toMono xs l h
theorem jm {ρ:Ren}{G:Nat->Nat}{w:World}:RVs ρ G w [] []:=by simp only [RVs]
theorem jh {ρ:Ren}{G:Nat->Nat}{w:World}{x:AV}{y:Value}{xs:List AV}{ys:List Value}(h:RV ρ G w x y)(t:RVs ρ G w xs ys):RVs ρ G w (x::xs) (y::ys):=by
 simp only [RVs];exact⟨y,ys,rfl,h,t⟩
theorem dL {ρ:Ren}{G:Nat->Nat}{w:World}:∀{xs:List AV} {l:List Value},RVs ρ G w xs l->l.length=xs.length
 | [],l,h=> by simp only [RVs] at h;subst h;rfl
 | x::xs,l,h=> by
  simp only [RVs] at h;obtain⟨y,ys,rfl,_,h2⟩:=h;simp [dL h2]
theorem jQ {ρ:Ren}{G:Nat->Nat}{w:World}:∀{xs:List AV} {l:List Value},RVs ρ G w xs l->∀{i:Nat} {x:AV},xs[i]?=some x->∃v,l[i]?=some v/\RV ρ G w x v
 | [],l,h,i,x,hx=> by simp at hx
 | y::xs,l,h,i,x,hx=> by
  simp only [RVs] at h;obtain⟨z,zs,rfl,h1,h2⟩:=h;cases i with
  | zero=> simp at hx;subst hx;exact⟨z,rfl,h1⟩
  | succ i=> simp at hx;simpa using jQ h2 hx
theorem sN {ρ:Ren}{G:Nat->Nat}{w:World}:∀{xs:List AV} {l:List Value},l.length=xs.length->(∀(i:Nat) (x:AV),xs[i]?=some x->∃v,l[i]?=some v/\RV ρ G w x v)->RVs ρ G w xs l
 | [],l,h,_=> by cases l with | nil=> exact jm | cons a l=> simp at h
 | x::xs,l,h,hg=> by
  cases l with
  | nil=> simp at h
  | cons y ys=>
   obtain⟨v,hv,h1⟩:=hg 0 x rfl;simp at hv;subst hv;exact jh h1 (sN (by simpa using h) λi x hx=> by simpa using hg (i+1) x (by simpa using hx))
theorem pY {ρ:Ren}{G:Nat->Nat}{w:World}:∀{xs ys:List AV} {l m:List Value},RVs ρ G w xs l->RVs ρ G w ys m->RVs ρ G w (xs++ys) (l++m)
 | [],ys,l,m,h,h'=> by simp only [RVs] at h;subst h;simpa using h'
 | x::xs,ys,l,m,h,h'=> by
  simp only [RVs] at h;obtain⟨z,zs,rfl,h1,h2⟩:=h;exact jh h1 (pY h2 h')
theorem abQ {ρ:Ren}{G:Nat->Nat}{w:World}(n:Nat):∀{xs:List AV} {l:List Value},RVs ρ G w xs l->RVs ρ G w (xs.take n) (l.take n):=by
 intro xs l h;refine sN (by simp [dL h]) λi x hx=> ?_;rw [zaA] at hx;split at hx
 ·obtain⟨v,hv,h1⟩:=jQ h hx;exact⟨v,by rw [zaA,if_pos ‹_›];exact hv,h1⟩
 ·cases hx
theorem abR {ρ:Ren}{G:Nat->Nat}{w:World}(n:Nat):∀{xs:List AV} {l:List Value},RVs ρ G w xs l->RVs ρ G w (xs.drop n) (l.drop n):=by
 intro xs l h;refine sN (by simp [dL h]) λi x hx=> ?_;rw [zaC] at hx;obtain⟨v,hv,h1⟩:=jQ h hx;exact⟨v,by rw [zaC];exact hv,h1⟩
theorem gU {ρ:Ren}{G:Nat->Nat}{w:World}:∀(l:List Value),RVs ρ G w (l.map .s) l
 | []=> jm
 | v::l=> jh (by simp only [RV]) (gU l)
theorem Fh {ρ:Ren}{G:Nat->Nat}{w:World}:∀{xs:List AV} {b o:Nat},RVc ρ G w xs b o->∀{i:Nat} {x:AV},xs[i]?=some x->∃v,w.cell? ⟨b,o+i,none⟩=some v/\RV ρ G w x v
 | [],b,o,h,i,x,hx=> by simp at hx
 | y::xs,b,o,h,i,x,hx=> by
  simp only [RVc] at h;obtain⟨⟨v,hv,h1⟩,h2⟩:=h;cases i with
  | zero=> simp at hx;subst hx;exact⟨v,hv,h1⟩
  | succ i=> simp at hx;have:=Fh h2 hx;rwa [show o+1+i=o+(i+1) from by omega] at this
theorem wZ {ρ:Ren}{G:Nat->Nat}{w:World}:∀{xs:List AV} {b o:Nat},(∀(i:Nat) (x:AV),xs[i]?=some x->∃v,w.cell? ⟨b,o+i,none⟩=some v/\RV ρ G w x v)->RVc ρ G w xs b o
 | [],_,_,_=> by simp only [RVc]
 | x::xs,b,o,h=> by
  simp only [RVc];exact⟨h 0 x rfl,wZ λi y hy=> by have:=h (i+1) y (by simpa using hy);rwa [show o+(i+1)=o+1+i from by omega] at this⟩
theorem qQ {ρ:Ren}{G:Nat->Nat}{w:World}{xs:List AV}{b o:Nat}(n:Nat)(h:RVc ρ G w xs b o):RVc ρ G w (xs.drop n) b (o+n):=
 wZ λi x hx=> by
  rw [zaC] at hx;have:=Fh h hx
  rwa [show o+(n+i)=o+n+i from by omega] at this
theorem uj {ρ:Ren}{G:Nat->Nat}{w:World}{xs:List AV}{b o:Nat}(n:Nat)(h:RVc ρ G w xs b o):RVc ρ G w (xs.take n) b o:=
 wZ λi x hx=> by
  rw [zaA] at hx;split at hx
  ·exact Fh h hx
  ·cases hx
theorem qR {ρ:Ren}{G:Nat->Nat}{w:World}{b o:Nat}{cs:Array Value}{e:TypeId}{fr:Nat × Nat}(hb:w.heap[b]?=some (.cells cs e fr)){xs:List AV}
  (h:∀(i:Nat) (x:AV),xs[i]?=some x->∃v,cs[o+i]?=some v/\RV ρ G w x v):RVc ρ G w xs b o:=
 wZ λi x hx=> by
  obtain⟨v,hv,h1⟩:=h i x hx;exact⟨v,by simp [World.cell?,hb,hv],h1⟩
theorem vV {ρ:Ren}{G:Nat->Nat}{w:World}{b o:Nat}{cs:Array Value}{e:TypeId}{fr:Nat × Nat}(hb:w.heap[b]?=some (.cells cs e fr)){xs:List AV}
  (h:RVc ρ G w xs b o):∀{i:Nat} {x:AV},xs[i]?=some x->∃v,cs[o+i]?=some v/\RV ρ G w x v:=by
 intro i x hx;obtain⟨v,hv,h1⟩:=Fh h hx;exact⟨v,by simpa [World.cell?,hb] using hv,h1⟩
theorem jH(b o n:Nat):Addr.add ⟨b,o,none⟩ n=⟨b,o+n,none⟩:=Addr.add_lit b o n
theorem QV {P:Program}{w:World}{a:Addr}{v:Value}(h:w.cell? a=some v):(load a).run P w=.ok v w:=by simp [h]
theorem sO {P:Program}{ρ:Ren}{G:Nat->Nat}{w:World}{b o:Nat}:∀(xs:List AV) (i:Nat) (acc:Array Value),RVc ρ G w xs b (o+i)->
  ∃l:List Value,(loadCellsFrom ⟨b,o,none⟩ i xs.length acc).run P w=.ok (acc++l.toArray) w/\RVs ρ G w xs l
 | [],i,acc,_=> ⟨[],by simp [loadCellsFrom],jm⟩
 | x::xs,i,acc,h=> by
  simp only [RVc] at h;obtain⟨⟨v,hv,h1⟩,h2⟩:=h;obtain⟨l,hl,h3⟩:=sO (P:=P) xs (i+1) (acc.push v) (by rw [<-zb9];exact h2);refine⟨v::l,?_,jh h1 h3⟩;simp only [zam,loadCellsFrom,Sem.run_bind,jH,QV hv,Result.andThen_ok];rw [hl];simp
theorem mG {P:Program}{ρ:Ren}{G:Nat->Nat}{w:World}{b o:Nat}{xs:List AV}(h:RVc ρ G w xs b o):
  ∃l:List Value,(loadCells ⟨b,o,none⟩ xs.length).run P w=.ok l.toArray w/\RVs ρ G w xs l:=by
 obtain⟨l,hl,h1⟩:=sO (P:=P) xs 0 #[] (by simpa using h);exact⟨l,by simpa [loadCells] using hl,h1⟩
theorem D8 {P:Program}{t:TypeId}{i:TypeInfo}(h:P.info? t=some i)(w:World):(typeInfo t).run P w=.ok i w:=by
 simp [typeInfo,h]
theorem eP {P:Program}{t:TypeId}{n:Nat}(h:szT P t=some n)(w:World):(sizeOf t).run P w=.ok n w:=by
 unfold szT at h;cases hi:P.info? t with
 | none=> simp [hi] at h
 | some i=> simp [hi] at h;subst h;simp [sizeOf,D8 hi]
theorem Oi {P:Program}{t:TypeId}{z:Value}(h:(if t < gV then(P.info? t).bind (·.zero) else none)=some z):t < gV:=by
 split at h
 ·assumption
 ·cases h
theorem um {P:Program}{t:TypeId}{z:Value}(h:y8 P t=some z):t < gV:=Oi h
theorem abS {P:Program}{t:TypeId}{z:Value}(h:y8 P t=some z):(P.info? t).bind (·.zero)=some z:=by
 have:=um h;unfold y8 at h
 rwa [if_pos this] at h
theorem gu {P:Program}{t:TypeId}{z:Value}(h:y8 P t=some z)(w:World):(zeroValue t).run P w=.ok z w:=by
 unfold y8 at h;rw [if_pos (Oi h)] at h;cases hi:P.info? t with
 | none=> simp [hi] at h
 | some i=> simp [hi] at h;simp [zeroValue,D8 hi,h]
theorem zh {P:Program}{t:TypeId}{b:Bool}(h:ai6 P t=some b)(w:World):(isAgg t).run P w=.ok b w:=by
 unfold ai6 at h;cases hu:P.underlying t with
 | none=> simp [hu] at h
 | some d=> cases d <;> simp [hu] at h <;> subst h <;> simp [isAgg,run_underlying hu]
theorem Fj {P:Program}{ρ:Ren}{G:Nat->Nat}{w:World}{b o:Nat}{cells:List AV}(h:RVc ρ G w cells b o){t:TypeId}{off:Nat}{v:AV}(hp:IB P t cells off=some v):
  ∃cv,(loadVar t ⟨b,o+off,none⟩).run P w=.ok cv w/\RV ρ G w v cv:=by
 unfold IB at hp;cases ha:ai6 P t with
 | none=> simp [ha] at hp
 | some k=>
  cases hs:szT P t with
  | none=> simp [ha,hs] at hp
  | some n=>
   cases k with
   | true=>
    simp [ha,hs] at hp;obtain⟨hle,rfl⟩:=hp;obtain⟨l,hl,h1⟩:=mG (P:=P) (uj n (qQ off h));refine⟨.agg l.toArray,?_,?_⟩
    ·have hlen:(List.take n (List.drop off cells)).length=n:=by simp;omega
     rw [hlen] at hl;simp [loadVar,zh ha,eP hs,hl]
    ·simp only [RV];exact⟨_,rfl,h1⟩
   | false=>
    simp [ha,hs] at hp;obtain⟨cv,hc,h1⟩:=Fh h hp;exact⟨cv,by simp [loadVar,zh ha,hc],h1⟩
def jI(w:World)(b:Nat)(o:Obj):World:={ w with heap:=w.heap.setIfInBounds b o }
def updρ(ρ:Ren)(r:Nat)(x:Nat × Nat):Ren:=λy=> if y=r then some x else ρ y
theorem lM {w:World}{b:Nat}{o:Obj}(h:b < w.heap.size):(jI w b o).heap[b]?=some o:=by
 simp [jI,h]
theorem Fp {w:World}{b b':Nat}{o:Obj}(h:b'≠b):(jI w b o).heap[b']?=w.heap[b']?:=by
 simp [jI,zbv (Ne.symm h)]
theorem KA(w:World)(b:Nat)(o o':Obj):jI (jI w b o) b o'=jI w b o':=by
 simp [jI]
theorem QW {w:World}{b:Nat}{o:Obj}(h:w.heap[b]?=some o):jI w b o=w:=by
 have hb:b < w.heap.size:=by
  rcases zaW b w.heap.size with hb | hb
  ·exact hb
  ·simp [zda hb] at h
 have:w.heap.setIfInBounds b o=w.heap:=by
  apply Array.ext_getElem?
  intro i;by_cases hi:b=i
  ·subst hi;rw [zcs hb] at h;simp only [Array.getElem?_setIfInBounds_self_of_lt hb,zcs hb,h]
  ·simp [zbv hi]
 simp [jI,this]
theorem nN {w:World}{b:Nat}{o:Obj}(h:w.heap[b]?=some o):b < w.heap.size:=by
 rcases zaW b w.heap.size with hb | hb
 ·exact hb
 ·simp [zda hb] at h
theorem Rel.lt {ρ:Ren}{H:ah}{w:World}(R:Rel ρ H w){r b sh:Nat}(h:ρ r=some (b,sh)):r < H.next:=by
 rcases zaW r H.next with hr | hr
 ·exact hr
 ·rw [(R.out r hr).1] at h;cases h
theorem Rel.block {ρ:Ren}{H:ah}{w:World}(R:Rel ρ H w){r b sh:Nat}(h:ρ r=some (b,sh)):b < w.heap.size:=by
 have:=R.obj r b sh h;unfold yF at this;split at this
 ·obtain⟨cs,e,hb,_⟩:=this;exact nN hb
 ·obtain⟨cs,e,hb,_⟩:=this;exact nN hb
def Df:Obj->Option (TypeId × Nat)
 | .cells c e _=> some (e,c.size)
 | _=> none
theorem fB(w:World)(b:Nat):w.shape? b=(w.heap[b]?).bind Df:=by
 unfold World.shape? Df;cases w.heap[b]? with
 | none=> rfl
 | some o=> cases o <;> rfl
theorem uo(H:ah)(r x:Nat)(o:fU):(H.put r o).gen x=if x=r then o.gen else H.gen x:=by
 simp only [ah.gen,ah.put];split <;> rfl
theorem QX(H:ah)(x:Nat)(o:fU):(H.new o).gen x=if x=H.next then o.gen else H.gen x:=by
 simp only [ah.gen,ah.new];split <;> rfl
theorem XY {ρ:Ren}{H:ah}{w:World}{r b sh sh':Nat}{co co':Obj}{o:fU}(hr:ρ r=some (b,sh))(hb:w.heap[b]?=some co)
  (hs:Df co'=Df co) (hg:H.gen r<=o.gen) (hsh:o.gen=H.gen r->sh'=sh):Ext ρ H w (updρ ρ r (b,sh')) (H.put r o) (jI w b co') where
 next:=zac _
 mono:=λx=> by rw [uo];split <;> simp_all
 same:=λx y hx h=> by
  rw [uo] at h;unfold updρ
  split
  ·rename_i e;subst e;simp at h;rw [hsh h,<-hr,hx]
  ·exact hx
 kept:=λx _ h=> by
  unfold updρ
  split
  ·rename_i e;subst e;rw [hr] at h;cases h
  ·exact h
 range:=λx b' s h=> by
  unfold updρ at h;split at h
  ·cases h;rename_i e;subst e;exact .inr ⟨_,hr⟩
  ·exact .inr ⟨_,h⟩
 size:=by simp [jI]
 frame:=λb' hb' hi=> Fp λe=> hi r sh (e ▸ hr)
 shape:=λb' hb'=> by
  rw [fB,fB];by_cases e:b'=b
  ·subst e;rw [lM hb',hb];exact hs
  ·rw [Fp e]
 os:=rfl
 tape:=rfl
 output:=rfl
theorem yF.mono {ρ ρ':Ren}{G G':Nat->Nat}{w w':World}(M:ad8 ρ G w ρ' G' w'){o:fU}{b sh:Nat}(hb:w'.heap[b]?=w.heap[b]?)(h:yF ρ G w o b sh):yF ρ' G' w' o b sh:=by
 unfold yF at*;split at h
 ·obtain⟨cs,e,h1,h2,h3⟩:=h;exact⟨cs,e,by rw [hb];exact h1,h2,RVc.mono M _ _ _ (λo v hv=> by rw [cell?_of_block hb];exact hv) h3.1,h3.2⟩
 ·obtain⟨cs,e,h1,h2,h3⟩:=h;exact⟨cs,e,by rw [hb];exact h1,h2,RVm.mono M _ _ h3.1,h3.2⟩
theorem XZ {ρ:Ren}{H:ah}{w:World}(R:Rel ρ H w){r b sh sh':Nat}{co':Obj}{o:fU}(hr:ρ r=some (b,sh))
  (E:Ext ρ H w (updρ ρ r (b,sh')) (H.put r o) (jI w b co'))
  (ho:yF (updρ ρ r (b,sh')) (H.put r o).gen (jI w b co') o b sh'):Rel (updρ ρ r (b,sh')) (H.put r o) (jI w b co') where
 out:=λx hx=> by
  have hne:x≠r:=λe=> by have:=R.lt hr;subst e;exact absurd hx (by simpa [ah.put] using this)
  rw [uo,if_neg hne];unfold updρ;rw [if_neg hne];exact R.out x hx
 obj:=λx b' s h=> by
  unfold updρ at h;by_cases e:x=r
  ·subst e;simp at h;obtain⟨rfl,rfl⟩:=h
   simpa [ah.put] using ho
  ·rw [if_neg e] at h;have hne:b'≠b:=λe'=> e (R.inj x r b' s sh h (e' ▸ hr));have:(H.put r o).get x=H.get x:=by simp [ah.put,e]
   rw [this];exact yF.mono E.toMono (Fp hne) (R.obj x b' s h)
 inj:=λx y b' s s' h h'=> by
  unfold updρ at h h';split at h <;> split at h'
  ·simp_all
  ·cases h;rename_i e _;subst e;exact(R.inj _ _ _ _ _ h' hr).symm
  ·cases h';rename_i _ e;subst e;exact R.inj _ _ _ _ _ h hr
  ·exact R.inj _ _ _ _ _ h h'
 gl:=R.gl.ext E
theorem KC {ρ:Ren}{H:ah}{w:World}(R:Rel ρ H w){co:Obj}{o:fU}:Ext ρ H w (updρ ρ H.next (w.heap.size,0)) (H.new o) (w.alloc co) where
 next:=by simp [ah.new]
 mono:=λx=> by
  rw [QX];split
  ·rename_i e;subst e;rw [(R.out _ (zac _)).2];exact zaT _
  ·exact zac _
 same:=λx y hx _=> by
  have hne:x≠H.next:=λe=> by subst e;rw [(R.out _ (zac _)).1] at hx;cases hx
  unfold updρ;rw [if_neg hne];exact hx
 kept:=λx hx h=> by
  unfold updρ
  rw [if_neg (by omega)];exact h
 range:=λx b' s h=> by
  unfold updρ at h;split at h
  ·cases h;exact .inl (zac _)
  ·exact .inr ⟨_,h⟩
 size:=by simp
 frame:=λb hb _=> by simp only [World.alloc,zbi,if_neg (zbU hb)]
 shape:=λb hb=> by
  rw [fB,fB];simp only [World.alloc,zbi,if_neg (zbU hb)]
 os:=rfl
 tape:=rfl
 output:=rfl
theorem X0 {ρ:Ren}{H:ah}{w:World}(R:Rel ρ H w){co:Obj}{o:fU}
  (ho:yF (updρ ρ H.next (w.heap.size,0)) (H.new o).gen (w.alloc co) o w.heap.size 0):Rel (updρ ρ H.next (w.heap.size,0)) (H.new o) (w.alloc co) where
 out:=λx hx=> by
  have hx1:H.next+1<=x:=hx
  have hne:x≠H.next:=by omega
  have hx':H.next<=x:=by omega
  rw [QX,if_neg hne];unfold updρ;rw [if_neg hne];exact R.out x hx'
 obj:=λx b' s h=> by
  unfold updρ at h;by_cases e:x=H.next
  ·subst e;simp at h;obtain⟨rfl,rfl⟩:=h
   simpa [ah.new] using ho
  ·rw [if_neg e] at h;have:(H.new o).get x=H.get x:=by simp [ah.new,e]
   rw [this];have hb:=R.block h;exact yF.mono (KC R (o:=o) (co:=co)).toMono (by simp only [World.alloc,zbi,if_neg (zbU hb)]) (R.obj x b' s h)
 inj:=λx y b' s s' h h'=> by
  unfold updρ at h h';split at h <;> split at h'
  ·simp_all
  ·cases h;have:=R.block h';omega
  ·cases h';have:=R.block h;omega
  ·exact R.inj _ _ _ _ _ h h'
 gl:=R.gl.ext (KC R (o:=o) (co:=co))
theorem jM(w:World)(o:Obj):(w.alloc o).heap[w.heap.size]?=some o:=by
 show(w.heap.push o)[w.heap.size]?=some o;simp
theorem X3 {ρ:Ren}{H:ah}{w:World}(R:Rel ρ H w){e ty:TypeId}{cells:List AV}{cs:Array Value}(hl:cells.length<=cs.size)
  (hc:∀(i:Nat) (x:AV),cells[i]?=some x->∃v,cs[i]?=some v/\RV ρ H.gen w x v) (hX:Xct ty e 0 cs.size cells.length):
  Rel (updρ ρ H.next (w.heap.size,0)) (H.new (.blk 0 ty cells)) (w.alloc (.cells cs e))/\Ext ρ H w (updρ ρ H.next (w.heap.size,0)) (H.new (.blk 0 ty cells)) (w.alloc (.cells cs e)):=by
 have E:=KC R (o:=.blk 0 ty cells) (co:=.cells cs e);refine⟨X0 R ⟨cs,e,jM w _,by omega,?_,hX⟩,E⟩;refine qR (jM w _) λi x hx=> ?_;obtain⟨v,hv,h1⟩:=hc i x hx;exact⟨v,by simpa using hv,R.keep E h1⟩
theorem Fq {ρ:Ren}{H:ah}{w:World}(R:Rel ρ H w){r b sh sh' g':Nat}{ty':TypeId}{cells':List AV}{cs cs':Array Value}{e:TypeId}(hr:ρ r=some (b,sh))
  (hb:w.heap[b]?=some (.cells cs e (0,0))) (hz:cs'.size=cs.size) (hg:H.gen r<=g') (hsh:g'=H.gen r->sh'=sh) (hl:sh'+cells'.length<=cs.size)
  (hc:∀(i:Nat) (x:AV),cells'[i]?=some x->∃v,cs'[sh'+i]?=some v/\RV ρ H.gen w x v) (hX:Xct ty' e sh' cs'.size cells'.length):
  Rel (updρ ρ r (b,sh')) (H.put r (.blk g' ty' cells')) (jI w b (.cells cs' e (0,0)))/\Ext ρ H w (updρ ρ r (b,sh')) (H.put r (.blk g' ty' cells')) (jI w b (.cells cs' e (0,0))):=by
 have E:=XY (ρ:=ρ) (H:=H) (w:=w) (r:=r) (b:=b) (sh:=sh) (sh':=sh') (co:=.cells cs e (0,0)) (co':=.cells cs' e (0,0)) (o:=.blk g' ty' cells') hr hb (by simp [Df,hz]) hg hsh;refine⟨XZ R hr E ⟨cs',e,lM (R.block hr),by omega,?_,hX⟩,E⟩;refine qR (lM (R.block hr)) λi x hx=> ?_;obtain⟨v,hv,h1⟩:=hc i x hx;exact⟨v,hv,R.keep E h1⟩
theorem KD {ρ:Ren}{H:ah}{w:World}(R:Rel ρ H w){r b:Nat}{k:IntKind}{es es':List (Int × AV)}{ces abM:Array MapEntry}{cl cl':Nat}(hr:ρ r=some (b,0))(hget:H.get r=.map k es)
  (hb:w.heap[b]?=some (.map ces cl)) (hc:RVm ρ H.gen w k es' abM.toList) (hbn:Born abM.toList cl'):
  Rel ρ (H.put r (.map k es')) (jI w b (.map abM cl'))/\Ext ρ H w ρ (H.put r (.map k es')) (jI w b (.map abM cl')):=by
 have hρ:updρ ρ r (b,0)=ρ:=by
  funext x;unfold updρ;split
  ·rename_i e;subst e;exact hr.symm
  ·rfl
 have hg0:H.gen r=0:=by simp [ah.gen,hget,fU.gen]
 have E:=XY (ρ:=ρ) (H:=H) (w:=w) (r:=r) (b:=b) (sh:=0) (sh':=0) (co:=.map ces cl) (co':=.map abM cl') (o:=.map k es') hr hb rfl (by simp [hg0]) (λ_=> rfl);have:=XZ R hr E ⟨abM,cl',lM (R.block hr),rfl,RVm.mono E.toMono _ _ hc,hbn⟩;rw [hρ] at this E;exact⟨this,E⟩
def kT(cs:Array Value)(o:Nat):List Value->Array Value
 | []=> cs
 | v::vs=> kT (cs.setIfInBounds o v) (o+1) vs
theorem eH:∀(vs:List Value) (cs:Array Value) (o:Nat),(kT cs o vs).size=cs.size
 | [],_,_=> rfl
 | v::vs,cs,o=> by simp [kT,eH vs]
theorem lN:∀(vs:List Value) (cs:Array Value) (o i:Nat),o+vs.length<=cs.size->(kT cs o vs)[i]?=if o<=i/\i < o+vs.length then vs[i - o]? else cs[i]?
 | [],cs,o,i,h=> by
  simp only [kT,zan,zbp];rw [if_neg (by omega)]
 | v::vs,cs,o,i,h=> by
  simp only [zam] at h;simp only [kT,zam];rw [lN vs _ (o+1) i (by simp;omega)];by_cases h1:o=i
  ·subst h1;rw [if_neg (by omega),if_pos (by omega)];simp [show o < cs.size from by omega]
  ·by_cases h2:o+1<=i/\i < o+1+vs.length
   ·rw [if_pos h2,if_pos (by omega),show i - o=(i - (o+1))+1 from by omega];rfl
   ·rw [if_neg h2,if_neg (by omega),zbv h1]
theorem Fv {P:Program}{w:World}{b o:Nat}{cs:Array Value}{e:TypeId}{v:Value}(hb:w.heap[b]?=some (.cells cs e (0,0)))(ho:o < cs.size)(hv:v.oneCell'=true):
  (store ⟨b,o,none⟩ v).run P w=.ok () (jI w b (.cells (cs.setIfInBounds o v) e (0,0))):=by
 have hc:w.cell? ⟨b,o,none⟩=some cs[o]:=by simp [World.cell?,hb,ho]
 have hf:w.frozen? ⟨b,o,none⟩=false:=by simp [World.frozen?,hb]
 rw [run_store P w _ v _ hv,hc];simp only [hf,if_false,zah];have hlt:=nN hb;have:w.setCell ⟨b,o,none⟩ v=jI w b (.cells (cs.setIfInBounds o v) e (0,0)):=by
  simp only [World.setCell,jI]
  congr 1
  apply Array.ext_getElem?
  intro i;rw [Array.getElem?_modify];by_cases hi:b=i
  ·subst hi;rw [hb];simp [hlt]
  ·simp [hi,zbv hi]
 rw [this]
theorem jO {P:Program}{b o:Nat}{e:TypeId}:∀(vs:List Value) (w:World) (cs:Array Value) (i:Nat),w.heap[b]?=some (.cells cs e (0,0))->o+i+vs.length<=cs.size->(∀v∈vs,v.oneCell'=true)->
  (storeCells ⟨b,o,none⟩ vs i).run P w=.ok () (jI w b (.cells (kT cs (o+i) vs) e (0,0)))
 | [],w,cs,i,hb,_,_=> by simp [storeCells,kT,QW hb]
 | v::vs,w,cs,i,hb,hl,hv=> by
  simp only [zam] at hl;simp only [storeCells,Sem.run_bind,jH,Fv hb (show o+i < cs.size by omega) (hv v (by simp)),Result.andThen_ok];rw [jO vs _ (cs.setIfInBounds (o+i) v) (i+1) (lM (nN hb)) (by simp;omega) (λu hu=> hv u (by simp [hu])),KA];rfl
theorem VW {ρ:Ren}{G:Nat->Nat}{w:World}{x:AV}{v:Value}(hx:x.aX=true)(h:RV ρ G w x v):v.oneCell'=true:=by
 cases x with
 | s u=>
  simp only [RV] at h;subst h;cases v <;> simp_all [AV.aX,Value.oneCell']
 | ref r g off=> simp only [RV] at h;obtain⟨a,rfl,_⟩:=h;rfl
 | sl r g off esz len cap ex=> simp only [RV] at h;obtain⟨b,o,c,rfl,_⟩:=h;rfl
 | ip cells=> simp only [RV] at h;obtain⟨b,o,rfl,_⟩:=h;rfl
 | vs n esz cells=> simp only [RV] at h;obtain⟨b,o,c,rfl,_⟩:=h;rfl
 | mp r=> simp only [RV] at h;obtain⟨b,rfl,_⟩:=h;rfl
 | fn f a c=> simp only [RV] at h;obtain⟨a,c,rfl,_⟩:=h;rfl
 | agg l=> simp [AV.aX] at hx
 | tup l=> simp [AV.aX] at hx
theorem ql {ρ:Ren}{G:Nat->Nat}{w:World}{xs:List AV}{l:List Value}(hx:xs.all AV.aX=true)(h:RVs ρ G w xs l):∀v∈l,v.oneCell'=true:=by
 intro v hv;obtain⟨i,hi,rfl⟩:=zdr hv;have hl:=dL h;have hxi:xs[i]?=some (xs[i]'(by omega)):=zab _;obtain⟨u,hu,h1⟩:=jQ h hxi;rw [zab hi] at hu;cases hu;exact VW (za2.1 hx _ (zcO _)) h1
theorem KG {ρ:Ren}{G:Nat->Nat}{w:World}{x:AV}{v:Value}(h:RV ρ G w x v):RVs ρ G w x.cells v.cells.toList:=by
 cases x with
 | s u=> simp only [RV] at h;subst h;exact gU _
 | agg l=> simp only [RV] at h;obtain⟨cs,rfl,h1⟩:=h;exact h1
 | ref r g off=>
  have h':=h;simp only [RV] at h;obtain⟨a,rfl,_⟩:=h;exact jh h' jm
 | sl r g off esz len cap ex=> have h':=h;simp only [RV] at h;obtain⟨b,o,c,rfl,_⟩:=h;exact jh h' jm
 | ip cells=> have h':=h;simp only [RV] at h;obtain⟨b,o,rfl,_⟩:=h;exact jh h' jm
 | vs n esz cells=> have h':=h;simp only [RV] at h;obtain⟨b,o,c,rfl,_⟩:=h;exact jh h' jm
 | mp r=> have h':=h;simp only [RV] at h;obtain⟨b,rfl,_⟩:=h;exact jh h' jm
 | fn f a c=> have h':=h;simp only [RV] at h;obtain⟨a,c,rfl,_⟩:=h;exact jh h' jm
 | tup l=> have h':=h;simp only [RV] at h;obtain⟨cs,rfl,_⟩:=h;exact jh h' jm
theorem vW(cells:List AV)(off:Nat)(xs:List AV)(h:off+xs.length<=cells.length)(i:Nat):(aN cells off xs)[i]?=if off<=i/\i < off+xs.length then xs[i - off]? else cells[i]?:=by
 unfold aN;rw [zcP];simp only [zax];rw [zbr (by omega)];by_cases h1:i < off
 ·rw [if_pos h1,if_neg (by omega),zaA,if_pos h1]
 ·rw [if_neg h1,zcP];by_cases h2:i - off < xs.length
  ·rw [if_pos h2,if_pos (by omega)]
  ·rw [if_neg h2,if_neg (by omega),zaC]
   congr 1;omega
theorem iT(cells:List AV)(off:Nat)(xs:List AV)(h:off+xs.length<=cells.length):(aN cells off xs).length=cells.length:=by
 simp [aN];omega
def Ok(P:Program)(ρ:Ren)(H:ah)(w:World)(s:Sem Value)(v:AV)(H':ah):Prop:=
 ∃cv ρ' w',s.run P w=.ok cv w'/\Rel ρ' H' w'/\RV ρ' H'.gen w' v cv/\Ext ρ H w ρ' H' w'
def OkP(P:Program)(ρ:Ren)(G:Nat->Nat)(w:World)(s:Sem Value)(v:AV):Prop:=∃cv,s.run P w=.ok cv w/\RV ρ G w v cv
theorem OkP.ok {P:Program}{ρ:Ren}{H:ah}{w:World}{s:Sem Value}{v:AV}(h:OkP P ρ H.gen w s v)(R:Rel ρ H w):Ok P ρ H w s v H:=
 let⟨cv,h1,h2⟩:=h;⟨cv,ρ,w,h1,R,h2,Ext.refl _ _ _⟩
theorem lQ {α:Type}{P:Program}{s:Sem α}{a:α}(h:iP P s=some a)(w:World):s.run P w=.ok a w:=by
 induction s with
 | pure b=> simp [iP] at h;subst h;rfl
 | program k ih=> exact ih P h
 | _=> simp [iP] at h
mutual
theorem I5 {ρ:Ren}{G:Nat->Nat}{w:World}:∀(x:AV) (v u:Value),RV ρ G w x v->x.val?=some u->v=u
 | .s _,v,u,h,hu=> by simp only [RV] at h;simp only [AV.val?,zaa] at hu;rw [h,hu]
 | .agg l,v,u,h,hu=> by
  obtain⟨cs,rfl,h1⟩:=(by simpa only [RV] using h)
  simp only [AV.val?] at hu;cases hv:vals? l with
  | none=> simp [hv] at hu
  | some vs=> simp [hv] at hu;subst hu;rw [<-KI l _ _ h1 hv]
 | .tup l,v,u,h,hu=> by
  obtain⟨cs,rfl,h1⟩:=(by simpa only [RV] using h)
  simp only [AV.val?] at hu;cases hv:vals? l with
  | none=> simp [hv] at hu
  | some vs=> simp [hv] at hu;subst hu;rw [<-KI l _ _ h1 hv]
 | .ref ..,_,_,_,hu=> by simp [AV.val?] at hu
 | .sl ..,_,_,_,hu=> by simp [AV.val?] at hu
 | .ip ..,_,_,_,hu=> by simp [AV.val?] at hu
 | .vs ..,_,_,_,hu=> by simp [AV.val?] at hu
 | .mp ..,_,_,_,hu=> by simp [AV.val?] at hu
 | .fn ..,_,_,_,hu=> by simp [AV.val?] at hu
theorem KI {ρ:Ren}{G:Nat->Nat}{w:World}:∀(xs:List AV) (l us:List Value),RVs ρ G w xs l->vals? xs=some us->l=us
 | [],l,us,h,hu=> by simp only [RVs] at h;simp only [vals?,zaa] at hu;rw [h,hu]
 | x::xs,l,us,h,hu=> by
  obtain⟨y,ys,rfl,h1,h2⟩:=(by simpa only [RVs] using h)
  simp only [vals?] at hu;cases hx:x.val? with
  | none=> simp [hx] at hu
  | some v=>
   cases hxs:vals? xs with
   | none=> simp [hx,hxs] at hu
   | some vs=> simp [hx,hxs] at hu;subst hu;rw [I5 x y v h1 hx,KI xs ys vs h2 hxs]
end
section
variable {P:Program}{ρ:Ren}{H H':ah}{w:World}{v:AV}
theorem uq {f:Option fU->Option AV}{x:AV}(h:kF f x H=some (v,H')):f ((bQ x).map H.get)=some v/\H'=H:=by
 unfold kF at h;cases hf:f ((bQ x).map H.get) with
 | none=> rw [hf] at h;cases h
 | some u=> rw [hf] at h;simp only [zak,zaa,zad] at h;exact⟨by rw [h.1],h.2.symm⟩
theorem X4(R:Rel ρ H w){t:TypeId}{x:AV}{cx:Value}(hx:RV ρ H.gen w x cx)(h:QT P t x H=some (v,H')):H'=H/\OkP P ρ H.gen w (Instr.loadAt t cx) v:=by
 obtain⟨h',hh⟩:=uq h
 clear h
 subst hh;have h:=h'
 clear h'
 refine⟨rfl,?_⟩;unfold agO at h;cases x with
 | ref r g off=>
  simp only [bQ,zak] at h;cases ho:H'.get r with
  | map k es=> simp [ho] at h
  | blk g' ty cells=>
   simp only [ho] at h;by_cases hg:g'=g
   ·rw [if_pos hg] at h;simp only [RV] at hx;obtain⟨a,rfl,_,h2⟩:=hx;obtain⟨b,sh,hr,rfl⟩:=h2 (by simp [ah.gen,ho,fU.gen,hg]);have vG:=R.obj r b sh hr;simp only [yF,ho] at vG;obtain⟨cs,e,_,_,hc,_⟩:=vG;obtain⟨cv,h3,h4⟩:=Fj (P:=P) hc h;exact⟨cv,by simp [Instr.loadAt,Instr.sureAddr,h3],h4⟩
   ·rw [if_neg hg] at h;cases h
 | ip cells=>
  simp only at h;simp only [RV] at hx;obtain⟨b,o,rfl,_,_,hc⟩:=hx;obtain⟨cv,h3,h4⟩:=Fj (P:=P) hc h;exact⟨cv,by simp [Instr.loadAt,Instr.sureAddr] at h3 ⊢;simp [h3],h4⟩
 | _=> simp at h
theorem bI {α:Type}(a:Array α):a.toList.length=a.size:=rfl
theorem abT(R:Rel ρ H w){t:TypeId}{x y:AV}{cx cy:Value}(hx:RV ρ H.gen w x cx)(hy:RV ρ H.gen w y cy)(h:Oc P t x y H=some (v,H')):
  v=aY/\∃ρ' w',(Instr.storeAt t cx cy).run P w=.ok () w'/\Rel ρ' H' w'/\Ext ρ H w ρ' H' w':=by
 unfold Oc at h;cases x with
 | ref r g off=>
  simp only at h;cases ho:H.get r with
  | map k es=> simp [ho] at h
  | blk g' ty cells=>
   simp only [ho] at h;split at h
   ·rename_i hc;obtain⟨rfl,_,hs,hcell,hle⟩:=hc;simp only [zaa,zad] at h;obtain⟨rfl,rfl⟩:=h;simp only [RV] at hx;obtain⟨a,rfl,_,h2⟩:=hx;obtain⟨b,sh,hr,rfl⟩:=h2 (by simp [ah.gen,ho,fU.gen]);have vG:=R.obj r b sh hr;simp only [yF,ho] at vG;obtain⟨cs,e,hb,hz,hcc,hX⟩:=vG;have hyc:=KG hy;have hlen:=dL hyc;rw [bI] at hlen;have hrun:=jO (P:=P) (o:=sh+off) cy.cells.toList w cs 0 hb (by rw [bI];omega) (ql hcell hyc);have hgen:H.gen r=g':=by simp [ah.gen,ho,fU.gen]
    have hput:=Fq (ty':=ty) (cells':=aN cells off y.cells) (cs':=kT cs (sh+off) cy.cells.toList) (g':=g') (sh':=sh) R hr hb (eH _ _ _) (by omega) (λ_=> rfl)
     (by rw [iT _ _ _ hle];exact hz) (by
      intro i u hu;rw [vW _ _ _ hle] at hu;rw [lN _ _ _ _ (by rw [bI];omega),bI];by_cases hi:off<=i/\i < off+y.cells.length
      ·rw [if_pos hi] at hu;rw [if_pos (by omega),show sh+i - (sh+off)=i - off from by omega];exact jQ hyc hu
      ·rw [if_neg hi] at hu;rw [if_neg (by omega)];exact vV hb hcc hu) (by rw [eH,iT _ _ _ hle];exact hX)
    refine⟨rfl,_,_,?_,hput.1,hput.2⟩;simp only [Instr.storeAt,Instr.sureAddr,storeVar,Sem.run_bind,Sem.run_pure,Result.andThen_ok,eP hs,hlen,ne_eq,not_true,if_false]
    simpa using hrun
   ·cases h
 | _=> simp at h
theorem Oj(R:Rel ρ H w)(t:TypeId)(ht:t < gV){cells:List AV}{cv:Value}(hc:RVs ρ H.gen w cells cv.cells.toList):
  Ok P ρ H w (do pure (.pointer (some (<-newVar t cv)))) (.ref H.next 0 0) (H.new (.blk 0 t cells)):=by
 have hn:=X3 (e:=t) (ty:=t) (cells:=cells) (cs:=cv.cells) R (by rw [<-bI,dL hc];exact zac _) (λi x hx=> by
  obtain⟨u,hu,h1⟩:=jQ hc hx;exact⟨u,by simpa using hu,h1⟩) (Xct.low ht (by have:=dL hc;rw [bI] at this;omega))
 refine⟨.pointer (some ⟨w.heap.size,0,none⟩),_,_,?_,hn.1,?_,hn.2⟩
 ·simp [newVar,newRow]
 ·simp only [RV];exact⟨_,rfl,by omega,λ_=> ⟨w.heap.size,0,by simp [updρ],by simp⟩⟩
theorem aja(R:Rel ρ H w){t:TypeId}{x:AV}{cx:Value}(hx:RV ρ H.gen w x cx)(h:jc t x H=some (v,H')):Ok P ρ H w (Instr.box t cx) v H':=by
 unfold jc at h;split at h
 ·rename_i hh;simp only [zaa,zad] at h;obtain⟨rfl,rfl⟩:=h;exact Oj R t hh.2 (KG hx)
 ·cases h
theorem abU(R:Rel ρ H w){t:TypeId}(h:IZ P t H=some (v,H')):Ok P ρ H w (Instr.alloc t true (.tuple #[])) v H':=by
 unfold IZ xR at h;cases hz:y8 P t with
 | none=> simp [hz] at h
 | some z=>
  simp only [hz,zak] at h;split at h
  ·simp only [zaa,zad] at h;obtain⟨rfl,rfl⟩:=h;obtain⟨cv,ρ',w',h1,h2,h3,h4⟩:=Oj (P:=P) R t (um hz) (cells:=z.cells.toList.map .s) (cv:=z) (gU _);exact⟨cv,ρ',w',by simpa [Instr.alloc,gu hz] using h1,h2,h3,h4⟩
  ·cases h
theorem IC {f:Field}{n:Nat}{a:Addr}(h:szT P f.type=some (n+1)):(fieldPlace a f).run P w=.ok (a.add f.offset) w:=by
 simp [fieldPlace,eP h]
theorem Ol {t:TypeId}{i:Nat}{x:AV}{cx:Value}(hx:RV ρ H.gen w x cx)(h:sH P t x i=some v):OkP P ρ H.gen w (Instr.fieldAt t cx i) v:=by
 unfold sH TT at h;cases hu:P.underlying t with
 | none=> simp [hu] at h
 | some d=>
  cases d with
  | struct fs=>
   simp only [hu] at h;cases hf:fs[i]? with
   | none=> simp [hf] at h
   | some f=>
    simp only [hf] at h;cases hs:szT P f.type with
    | none=> simp [hs] at h
    | some n=>
     cases n with
     | zero=> simp [hs] at h
     | succ n=>
      simp only [hs] at h;have hrun:∀a,(Instr.fieldAt t (.pointer (some a)) i).run P w=.ok (.pointer (some (a.add f.offset))) w:=λa=> by
       simp [Instr.fieldAt,run_underlying hu,hf,Instr.sureAddr,IC hs]
      cases x with
      | ref r g off=>
       simp only [zaa] at h;subst h;simp only [RV] at hx;obtain⟨a,rfl,h1,h2⟩:=hx;refine⟨_,hrun a,?_⟩;simp only [RV];refine⟨_,rfl,h1,λhg=> ?_⟩;obtain⟨b,sh,hr,rfl⟩:=h2 hg;exact⟨b,sh,hr,by rw [jH,zb9]⟩
      | ip cells=>
       simp only [zaa] at h;subst h;simp only [RV] at hx;obtain⟨b,o,rfl,h1,h2,h3⟩:=hx;refine⟨_,hrun _,?_⟩;simp only [RV];exact⟨b,o+f.offset,by rw [jH],h1,h2,qQ _ h3⟩
      | _=> simp at h
  | _=> simp [hu] at h
theorem Om(_R:Rel ρ H w){t:TypeId}{x i:AV}{cx ci:Value}(hx:RV ρ H.gen w x cx)(hi:RV ρ H.gen w i ci)(h:sJ P t x i H=some (v,H')):
  H'=H/\OkP P ρ H.gen w (Instr.indexAt t cx ci) v:=by
 obtain⟨h',hh⟩:=uq h
 clear h
 subst hh;have h:=h'
 clear h'
 refine⟨rfl,?_⟩;unfold Bg at h;split at h
 ·rename_i e hu;split at h
  ·rename_i r g off esz len cap ex;split at h <;> first | (cases h;done) | skip
   rename_i k n;split at h <;> first | (cases h;done) | skip
   rename_i hc;obtain⟨hs,hg,h0,h1⟩:=hc;simp only [zaa] at h;subst h;simp only [RV] at hi hx;subst hi;obtain⟨b,o,c,rfl,q1,q2,q3,q4,q5⟩:=hx;obtain⟨sh,ty,m,hr,ho,hsh,hle⟩:=q5 hg;have ho':=ho (by omega);refine⟨.pointer (some ⟨b,o+n.toNat*esz,none⟩),?_,?_⟩
   ·simp [Instr.indexAt,asIntOf,run_underlying hu,eP hs,jH,h0,h1]
   ·simp only [RV];exact⟨_,rfl,q4,λ_=> ⟨b,sh,hr,by rw [ho',zb9]⟩⟩
  ·rename_i len esz cells;split at h <;> first | (cases h;done) | skip
   rename_i k n;split at h <;> first | (cases h;done) | skip
   rename_i hc;obtain⟨hs,h0,h1⟩:=hc;simp only [zaa] at h;subst h;simp only [RV] at hi hx;subst hi;obtain⟨b,o,c,rfl,q1,q2,q3,q4,q5⟩:=hx;refine⟨.pointer (some ⟨b,o+n.toNat*esz,none⟩),?_,?_⟩
   ·simp [Instr.indexAt,asIntOf,run_underlying hu,eP hs,jH,h0,h1]
   ·simp only [RV];exact⟨b,_,rfl,q3,q4,qQ _ q5⟩
  ·cases h
 ·rename_i len e hu;split at h <;> first | (cases h;done) | skip
  rename_i m hs;split at h
  ·rename_i r g off;split at h <;> first | (cases h;done) | skip
   rename_i k n;split at h <;> first | (cases h;done) | skip
   rename_i hc;obtain⟨h0,h1⟩:=hc;simp only [zaa] at h;subst h;simp only [RV] at hi hx;subst hi;obtain⟨a,rfl,q1,q2⟩:=hx;refine⟨.pointer (some (a.add (n.toNat*m))),?_,?_⟩
   ·simp [Instr.indexAt,asIntOf,run_underlying hu,eP hs,h0,h1,Instr.sureAddr]
   ·simp only [RV];refine⟨_,rfl,q1,λhg=> ?_⟩;obtain⟨b,sh,hr,rfl⟩:=q2 hg;exact⟨b,sh,hr,by rw [jH,zb9]⟩
  ·rename_i cells;split at h <;> first | (cases h;done) | skip
   rename_i k n;split at h <;> first | (cases h;done) | skip
   rename_i hc;obtain⟨h0,h1⟩:=hc;simp only [zaa] at h;subst h;simp only [RV] at hi hx;subst hi;obtain⟨b,o,rfl,q1,q2,q3⟩:=hx;refine⟨.pointer (some ⟨b,o+n.toNat*m,none⟩),?_,?_⟩
   ·simp [Instr.indexAt,asIntOf,run_underlying hu,eP hs,h0,h1,Instr.sureAddr,jH]
   ·simp only [RV];exact⟨b,_,rfl,q1,q2,qQ _ q3⟩
  ·cases h
 ·cases h
end
section
variable {P:Program}{ρ:Ren}{G:Nat->Nat}{w:World}{v:AV}
theorem D9 {t:TypeId}{cells:List AV}{cs:Array Value}{off:Nat}(hc:RVs ρ G w cells cs.toList)(h:IB P t cells off=some v):OkP P ρ G w (part t cs off) v:=by
 unfold IB at h;cases ha:ai6 P t with
 | none=> simp [ha] at h
 | some k=>
  cases hs:szT P t with
  | none=> simp [ha,hs] at h
  | some n=>
   cases k with
   | true=>
    simp [ha,hs] at h;obtain⟨hle,rfl⟩:=h;refine⟨.agg (cs.extract off (off+n)),by simp [part,zh ha,eP hs],?_⟩;simp only [RV];refine⟨_,rfl,?_⟩;have:=abQ n (abR off hc);rw [Array.toList_extract]
    simpa [List.extract] using this
   | false=>
    simp [ha,hs] at h;obtain⟨cv,hcv,h1⟩:=jQ hc h;refine⟨cv,?_,h1⟩;have:cs[off]?=some cv:=by simpa using hcv
    simp [part,zh ha,this]
theorem abV {t:TypeId}{i:Nat}{x:AV}{cx:Value}(hx:RV ρ G w x cx)(h:N9 P t x i=some v):OkP P ρ G w (Instr.field t cx i) v:=by
 unfold N9 TT at h;cases hu:P.underlying t with
 | none=> simp [hu] at h
 | some d=>
  cases d with
  | struct fs=>
   simp only [hu] at h;cases hf:fs[i]? with
   | none=> simp [hf] at h
   | some f=>
    simp only [hf] at h;split at h
    ·rename_i g cells hg;cases hg;simp only [RV] at hx;obtain⟨cs,rfl,h1⟩:=hx;obtain⟨cv,h2,h3⟩:=D9 (P:=P) h1 h;exact⟨cv,by simp [Instr.field,run_underlying hu,hf,asAgg,h2],h3⟩
    ·rename_i g cs hg;cases hg;simp only [RV] at hx;subst hx;obtain⟨cv,h2,h3⟩:=D9 (P:=P) (gU (ρ:=ρ) (G:=G) (w:=w) cs.toList) h;exact⟨cv,by simp [Instr.field,run_underlying hu,hf,asAgg,h2],h3⟩
    ·cases h
  | _=> simp [hu] at h
theorem abW {t:TypeId}{x i:AV}{cx ci:Value}(hx:RV ρ G w x cx)(hi:RV ρ G w i ci)(h:Oa P t x i=some v):OkP P ρ G w (Instr.index t cx ci) v:=by
 unfold Oa at h;split at h
 ·rename_i s k n hu;simp only [RV] at hx hi;subst hx hi;split at h
  ·rename_i b hb;simp only [zaa] at h;subst h;exact⟨.int .u8 b.toNat,by simp [Instr.index,asIntOf,run_underlying hu,hb],by simp only [RV]⟩
  ·cases h
 ·rename_i len e cells k n hu;simp only [RV] at hx hi;subst hi;obtain⟨cs,rfl,h1⟩:=hx;cases hs:szT P e with
  | none=> simp [hs] at h
  | some m=>
   simp only [hs] at h;split at h
   ·rename_i hc;obtain⟨cv,h2,h3⟩:=D9 (P:=P) h1 h;exact⟨cv,by simp [Instr.index,asIntOf,run_underlying hu,eP hs,hc,h2],h3⟩
   ·cases h
 ·rename_i len e cs k n hu;simp only [RV] at hx hi;subst hx hi;cases hs:szT P e with
  | none=> simp [hs] at h
  | some m=>
   simp only [hs] at h;split at h
   ·rename_i hc;obtain⟨cv,h2,h3⟩:=D9 (P:=P) (gU (ρ:=ρ) (G:=G) (w:=w) cs.toList) h;exact⟨cv,by simp [Instr.index,asIntOf,run_underlying hu,eP hs,hc,h2],h3⟩
   ·cases h
 ·cases h
theorem VX {x:AV}{i:Nat}{cx:Value}(hx:RV ρ G w x cx)(h:aJ x i=some v):OkP P ρ G w (Instr.extract cx i) v:=by
 unfold aJ at h;split at h
 ·rename_i l;simp only [RV] at hx;obtain⟨cs,rfl,h1⟩:=hx;obtain⟨cv,hcv,h2⟩:=jQ h1 h;have:cs[i]?=some cv:=by simpa using hcv
  exact⟨cv,by simp [Instr.extract,this],h2⟩
 ·rename_i vs;simp only [RV] at hx;subst hx;cases hv:vs[i]? with
  | none=> simp [hv] at h
  | some u=> simp [hv] at h;subst h;exact⟨u,by simp [Instr.extract,hv],by simp only [RV]⟩
 ·cases h
theorem agQ {c a b:AV}{cc ca cb:Value}(hc:RV ρ G w c cc)(ha:RV ρ G w a ca)(hb:RV ρ G w b cb)(h:dG c a b=some v):
  OkP P ρ G w (do pure (if<-asBool cc then ca else cb)) v:=by
 unfold dG at h;split at h
 ·simp only [RV] at hc;subst hc;simp only [zaa] at h;subst h;exact⟨ca,by simp [asBool],ha⟩
 ·simp only [RV] at hc;subst hc;simp only [zaa] at h;subst h;exact⟨cb,by simp [asBool],hb⟩
 ·cases h
theorem aoo {op:UnOp}{x:AV}{cx:Value}(hx:RV ρ G w x cx)(h:unA P op x=some v):OkP P ρ G w (Op.unary op cx) v:=by
 unfold unA at h;cases hv:x.val? with
 | none=> simp [hv] at h
 | some a=>
  simp only [hv] at h;rw [I5 x cx a hx hv];cases hp:iP P (Op.unary op a) with
  | none=> simp [hp] at h
  | some u=> simp [hp] at h;subst h;exact⟨u,lQ hp w,by simp only [RV]⟩
theorem lg {t:TypeId}{cx cy:Value}{b:Bool}(h:∀d,(Op.equalIn (d+1) t cx cy).run P w=.ok b w):(Op.equal t cx cy).run P w=.ok b w:=h 9999
theorem TY {t:TypeId}{x y:AV}{cx cy:Value}{b:Bool}(hx:RV ρ G w x cx)(hy:RV ρ G w y cy)(h:N8 P t x y=some b):
  (Op.equal t cx cy).run P w=.ok b w/\(∀op u z,eqGuard op t u z cx cy=pure ())/\(binOp .eql t cx cy=(do pure (.bool (<-Op.equal t cx cy))))/\(binOp .neq t cx cy=(do pure (.bool (!(<-Op.equal t cx cy))))):=by
 unfold N8 at h;cases hu:P.underlying t with
 | none=> simp [hu] at h
 | some d=>
  cases d with
  | slice e=>
   simp only [hu] at h;split at h <;> first
    | (cases h;done)
    | (simp only [zaa] at h;subst h
       simp only [RV] at hx hy
       first
          | (obtain⟨_,_,_,rfl,_⟩:=hx;subst hy;exact⟨lg λd=> by simp [Op.equalIn,run_underlying hu],λop _ _=> by cases op <;> rfl,rfl,rfl⟩)
          | (obtain⟨_,_,_,rfl,_⟩:=hy;subst hx;exact⟨lg λd=> by simp [Op.equalIn,run_underlying hu],λop _ _=> by cases op <;> rfl,rfl,rfl⟩))
  | pointer e=>
   simp only [hu] at h;split at h <;> first
    | (cases h;done)
    | (simp only [zaa] at h;subst h
       simp only [RV] at hx hy
       first
          | (obtain⟨_,rfl,_⟩:=hx;subst hy;exact⟨lg λd=> by simp [Op.equalIn,run_underlying hu],λop _ _=> by cases op <;> rfl,rfl,rfl⟩)
          | (obtain⟨_,rfl,_⟩:=hy;subst hx;exact⟨lg λd=> by simp [Op.equalIn,run_underlying hu],λop _ _=> by cases op <;> rfl,rfl,rfl⟩)
          | (obtain⟨_,_,rfl,_⟩:=hx;subst hy;exact⟨lg λd=> by simp [Op.equalIn,run_underlying hu],λop _ _=> by cases op <;> rfl,rfl,rfl⟩)
          | (obtain⟨_,_,rfl,_⟩:=hy;subst hx;exact⟨lg λd=> by simp [Op.equalIn,run_underlying hu],λop _ _=> by cases op <;> rfl,rfl,rfl⟩))
  | map k e=>
   simp only [hu] at h;split at h <;> first
    | (cases h;done)
    | (simp only [zaa] at h;subst h
       simp only [RV] at hx hy
       first
          | (obtain⟨_,rfl,_⟩:=hx;subst hy;exact⟨lg λd=> by simp [Op.equalIn,run_underlying hu],λop _ _=> by cases op <;> rfl,rfl,rfl⟩)
          | (obtain⟨_,rfl,_⟩:=hy;subst hx;exact⟨lg λd=> by simp [Op.equalIn,run_underlying hu],λop _ _=> by cases op <;> rfl,rfl,rfl⟩))
  | func ps rs vd=>
   simp only [hu] at h;split at h <;> first
    | (cases h;done)
    | (simp only [zaa] at h;subst h
       simp only [RV] at hx hy
       first
          | (obtain⟨_,_,rfl,_⟩:=hx;subst hy;exact⟨lg λd=> by simp [Op.equalIn,run_underlying hu],λop _ _=> by cases op <;> rfl,rfl,rfl⟩)
          | (obtain⟨_,_,rfl,_⟩:=hy;subst hx;exact⟨lg λd=> by simp [Op.equalIn,run_underlying hu],λop _ _=> by cases op <;> rfl,rfl,rfl⟩))
  | _=> simp [hu] at h
theorem QY {op:BinOp}{t:TypeId}{a b:Value}{x y:Operand}(h:(eqGuard op t (.tmp 0) (.tmp 0) a b).run P w=.ok () w):(eqGuard op t x y a b).run P w=.ok () w:=by
 cases op <;> first
  | rfl
  | (cases a <;> first
    | rfl
    | (cases b <;> first
      | rfl
      | exact h
      | (cases x <;> cases y <;> first | rfl | exact h)))
theorem Oo {z:Operand}(h:TU z=true):z=.const .nilIface:=by
 unfold TU at h;split at h
 ·rfl
 ·cases h
theorem QZ {op:BinOp}{t:TypeId}{a:Value}{x:Operand}:eqGuard op t x (.const .nilIface) a .nilIface=eqGuard op t (.tmp 0) (.const .nilIface) a .nilIface:=by
 cases op <;> first
  | rfl
  | (cases a <;> first
    | rfl
    | (cases x <;> rfl))
theorem ajb {op:BinOp}{t:TypeId}{x y:AV}{cx cy:Value}{u z:Operand}(hx:RV ρ G w x cx)(hy:RV ρ G w y cy)(h:oQ P op t x y=some v):
  OkP P ρ G w (do eqGuard op t u z cx cy;binOp op t cx cy) v:=by
 unfold oQ at h;split at h
 ·rename_i a b ha hb;rw [I5 x cx a hx ha,I5 y cy b hy hb];cases hp:iP P (do eqGuard op t (.tmp 0) (.tmp 0) a b;binOp op t a b) with
  | none=> simp [hp] at h
  | some r=>
   simp [hp] at h;subst h;have hr:=lQ hp w;rw [Sem.run_bind] at hr;cases hg:(eqGuard op t (.tmp 0) (.tmp 0) a b).run P w with
   | halt e w'=> rw [hg] at hr;cases hr
   | ok c w'=>
    have hgp:∀w,(eqGuard op t (.tmp 0) (.tmp 0) a b).run P w=.ok c w:=by
     have hb':∀{α β:Type} (s:Sem α) (f:α->Sem β) (r:β),iP P (s.bind f)=some r->∃a,iP P s=some a:=by
      intro α β s f r
      induction s with
      | pure a=> intro _;exact⟨a,rfl⟩
      | program k ih=> intro h;exact ih P h
      | _=> intro h;simp [Sem.bind,iP] at h
     obtain⟨c',hc'⟩:=hb' _ _ _ hp;intro w0;have h1:=lQ hc' w0;have h2:=lQ hc' w;rw [hg] at h2;cases h2;exact h1
    have hg':=QY (x:=u) (y:=z) (by simpa using hgp w);refine⟨r,?_,by simp only [RV]⟩;rw [Sem.run_bind,hg'];rw [hgp w] at hr;exact hr
 ·split at h
  ·cases hn:N8 P t x y with
   | none=> simp [hn] at h
   | some b=>
    simp [hn] at h;subst h;obtain⟨h1,h2,h3,h4⟩:=TY hx hy hn;exact⟨.bool b,by rw [h2,h3];simp [h1],by simp only [RV]⟩
  ·cases hn:N8 P t x y with
   | none=> simp [hn] at h
   | some b=>
    simp [hn] at h;subst h;obtain⟨h1,h2,h3,h4⟩:=TY hx hy hn;exact⟨.bool !b,by rw [h2,h4];simp [h1],by simp only [RV]⟩
  ·cases h
theorem agR {op:BinOp}{t:TypeId}{x y:AV}{cx cy:Value}{u z:Operand}(hx:RV ρ G w x cx)(hy:RV ρ G w y cy)(hz:TU z=true->cy=.nilIface)(h:ai7 P op t z x y=some v):
  OkP P ρ G w (do eqGuard op t u z cx cy;binOp op t cx cy) v:=by
 unfold ai7 at h;split at h
 ·rename_i hn;have e:=hz hn;have ez:=Oo hn;subst e ez;unfold ap5 at h;split at h
  ·rename_i a ha;rw [I5 x cx a hx ha,QZ];cases hp:iP P (do eqGuard op t (.tmp 0) (.const .nilIface) a .nilIface;binOp op t a .nilIface) with
   | none=> simp [hp] at h
   | some r=>
    simp [hp] at h;subst h;exact⟨r,lQ hp w,by simp only [RV]⟩
  ·cases h
 ·exact ajb hx hy h
theorem oz {x:Option AV}{cx:Option Value}{d n:Nat}(hx:match x,cx with | some a,some c=> RV ρ G w a c | none,none=> True | _,_=> False)(h:jl x d=some n):
  (x=none/\cx=none/\n=d)∨∃k i,x=some (.s (.int k i))/\cx=some (.int k i)/\0<=i/\n=i.toNat:=by
 unfold jl at h;split at h
 ·cases cx with
  | none=> cases h;exact .inl ⟨rfl,rfl,rfl⟩
  | some c=> exact hx.elim
 ·rename_i k i;split at h
  ·cases cx with
   | none=> exact hx.elim
   | some c=>
    simp only [RV] at hx;subst hx;cases h;exact .inr ⟨k,i,rfl,rfl,‹_›,rfl⟩
  ·cases h
 ·cases h
theorem mJ {k:IntKind}{i:Int}{y:Nat}{code:BoundsCode}(h0:0<=i)(h1:i<=y):(Instr.sliceBound (.int k i) y code).run P w=.ok i.toNat w:=
 run_sliceBound w k i y code h0 h1
end
section
variable {P:Program}{ρ:Ren}{H H':ah}{w:World}{v:AV}
def Q5(ρ:Ren)(G:Nat->Nat)(w:World)(x:Option AV)(cx:Option Value):Prop:=match x,cx with | some a,some c=> RV ρ G w a c | none,none=> True | _,_=> False
theorem mM {s:Bool}{len c l h m:Nat}{clo chi cmx:Option Value}
  (hm:(cmx=none/\m=c)∨∃k i,cmx=some (.int k i)/\0<=i/\m=i.toNat/\m<=c)
  (hh:(chi=none/\cmx=none/\h=len)∨∃k i,chi=some (.int k i)/\0<=i/\h=i.toNat/\h<=m)
  (hl:(clo=none/\l=0)∨∃k i,clo=some (.int k i)/\0<=i/\l=i.toNat/\l<=h):(Instr.sliceBounds s len c clo chi cmx).run P w=.ok (l,h,m) w:=by
 rcases hm with⟨rfl,rfl⟩ | ⟨km,im,rfl,hm0,rfl,hm1⟩
 ·rcases hh with⟨rfl,_,rfl⟩ | ⟨kh,ih,rfl,hh0,rfl,hh1⟩
  ·rcases hl with⟨rfl,rfl⟩ | ⟨kl,il,rfl,hl0,rfl,hl1⟩
   ·simp [Instr.sliceBounds]
   ·have a1:il<=(h:Int):=by omega
    simp [Instr.sliceBounds,mJ hl0 a1]
  ·have a2:ih<=(m:Int):=by omega
   rcases hl with⟨rfl,rfl⟩ | ⟨kl,il,rfl,hl0,rfl,hl1⟩
   ·simp [Instr.sliceBounds,mJ hh0 a2]
   ·have a1:il<=(ih.toNat:Int):=by omega
    simp only [Instr.sliceBounds,Sem.run_bind,Sem.run_pure,Result.andThen_ok,mJ hh0 a2];simp [mJ hl0 a1]
 ·rcases hh with⟨_,h2,_⟩ | ⟨kh,ih,rfl,hh0,rfl,hh1⟩
  ·cases h2
  ·rcases hl with⟨rfl,rfl⟩ | ⟨kl,il,rfl,hl0,rfl,hl1⟩
   ·have a3:im<=(c:Int):=by omega
    have a2:ih<=(im.toNat:Int):=by omega
    simp only [Instr.sliceBounds,Sem.run_bind,Sem.run_pure,Result.andThen_ok,mJ hm0 a3,mJ hh0 a2]
   ·have a3:im<=(c:Int):=by omega
    have a2:ih<=(im.toNat:Int):=by omega
    have a1:il<=(ih.toNat:Int):=by omega
    simp only [Instr.sliceBounds,Sem.run_bind,Sem.run_pure,Result.andThen_ok,mJ hm0 a3,mJ hh0 a2,mJ hl0 a1]
theorem mO {t e:TypeId}{len c l h m n:Nat}{a:Option Addr}{clo chi cmx:Option Value}(hu:P.underlying t=some (.slice e))(hs:szT P e=some n)
  (hb:(Instr.sliceBounds true len c clo chi cmx).run P w=.ok (l,h,m) w):
  (Instr.sliceAt t (.slice a len c) clo chi cmx).run P w=.ok (.slice (if m=l then a else a.map (·.add (l*n))) (h - l) (m - l)) w:=by
 simp only [Instr.sliceAt,Sem.run_bind,run_underlying hu,Result.andThen_ok,Instr.slice,hb,eP hs,Sem.run_pure]
theorem abX {t:TypeId}{x:AV}{lo hi mx:Option AV}{cx:Value}{clo chi cmx:Option Value}(hx:RV ρ H.gen w x cx)(hlo:Q5 ρ H.gen w lo clo)(hhi:Q5 ρ H.gen w hi chi)(hmx:Q5 ρ H.gen w mx cmx)
  (h:Ob P t x lo hi mx=some v):OkP P ρ H.gen w (Instr.sliceAt t cx clo chi cmx) v:=by
 unfold Ob at h;cases hu:P.underlying t with
 | none=> simp [hu] at h
 | some d=>
  cases d with
  | slice e=>
   simp only [hu] at h;split at h
   ·rename_i n hs;split at h <;> first | (cases h;done) | skip
    rename_i h1 h2 h3;split at h <;> first | (cases h;done) | skip
    rename_i hcond;simp only [zaa] at h;subst h;simp only [RV] at hx;subst hx;have b1:=oz (x:=lo) hlo h1;have b2:=oz (x:=hi) hhi h2;have b3:=oz (x:=mx) hmx h3;refine⟨.slice none 0 0,?_,by simp only [RV]⟩;rw [mO hu hs (mM (l:=0) (h:=0) (m:=0) (by
       rcases b3 with⟨_,q,_⟩ | ⟨k,i,_,q,q0,q1⟩
       ·exact .inl ⟨q,rfl⟩
       ·exact .inr ⟨k,i,q,q0,q1,by omega⟩) (by
       rcases b2 with⟨p,q,_⟩ | ⟨k,i,_,q,q0,q1⟩
       ·refine .inl ⟨q,?_,rfl⟩;have:=hcond p;rcases b3 with⟨_,q',_⟩ | ⟨k,i,p',_⟩
        ·exact q'
        ·rw [this] at p';cases p'
       ·exact .inr ⟨k,i,q,q0,q1,by omega⟩) (by
       rcases b1 with⟨_,q,_⟩ | ⟨k,i,_,q,q0,q1⟩
       ·exact .inl ⟨q,rfl⟩
       ·exact .inr ⟨k,i,q,q0,q1,by omega⟩))]
    simp
   ·rename_i r g off esz len cap ex m hs;split at h <;> first | (cases h;done) | skip
    rename_i l hh k h1 h2 h3;split at h <;> first | (cases h;done) | skip
    rename_i hcond;obtain⟨rfl,c1,c2,c3,c4⟩:=hcond;simp only [zaa] at h;subst h;simp only [RV] at hx;obtain⟨b,o,c,rfl,q1,q2,q3,q4,q5⟩:=hx;have b1:=oz (x:=lo) hlo h1;have b2:=oz (x:=hi) hhi h2;have b3:=oz (x:=mx) hmx h3
    -- the capacity then
    obtain⟨m,hm,hkm,hmc,hex⟩:∃m,((cmx=none/\m=c)∨∃k i,cmx=some (.int k i)/\0<=i/\m=i.toNat/\m<=c)/\k<=m/\m<=c/\((ex || !isNone mx)=true->m=k):=by
     rcases b3 with⟨p,q,r⟩ | ⟨k',i,p,q,q0,r⟩
     ·refine⟨c,.inl ⟨q,rfl⟩,by omega,zac _,λhx=> ?_⟩;subst p;simp [isNone] at hx;rw [q3 hx,r]
     ·exact⟨k,.inr ⟨k',i,q,q0,r,by omega⟩,zac _,by omega,λ_=> rfl⟩
    have hb:=mM (P:=P) (w:=w) (s:=true) (len:=len) (c:=c) (l:=l) (h:=hh) (m:=m) hm (by
       rcases b2 with⟨p,q,r⟩ | ⟨k',i,_,q,q0,r⟩
       ·refine .inl ⟨q,?_,r⟩;have:=c4 p;rcases b3 with⟨_,q',_⟩ | ⟨_,_,p',_⟩
        ·exact q'
        ·rw [this] at p';cases p'
       ·exact .inr ⟨k',i,q,q0,r,by omega⟩) (by
       rcases b1 with⟨_,q,r⟩ | ⟨k',i,_,q,q0,r⟩
       ·exact .inl ⟨q,r⟩
       ·exact .inr ⟨k',i,q,q0,r,by omega⟩)
    refine⟨_,mO hu hs hb,?_⟩;simp only [RV];by_cases hml:m=l
    ·refine⟨b,o,m - l,by simp [hml],by omega,by omega,λhx=> by rw [hex hx],q4,λhg=> ?_⟩;obtain⟨sh,ty,n,p1,p2,p3,p4⟩:=q5 hg;refine⟨sh,ty,n,p1,λhc=> by omega,p3,?_⟩;have:(m - l)*esz<=c*esz:=zaB _ (by omega);omega
    ·refine⟨b,o+l*esz,m - l,by simp [hml,jH],by omega,by omega,λhx=> by rw [hex hx],q4,λhg=> ?_⟩;obtain⟨sh,ty,n,p1,p2,p3,p4⟩:=q5 hg;refine⟨sh,ty,n,p1,λ_=> by rw [p2 (by omega)];omega,p3,?_⟩;have:l*esz+(m - l)*esz<=c*esz:=by rw [<-zbu];exact zaB _ (by omega)
     omega
   ·rename_i n esz cells m hs;split at h <;> first | (cases h;done) | skip
    rename_i l hh h1 h2;split at h <;> first | (cases h;done) | skip
    rename_i hcond;obtain⟨rfl,c1,c2⟩:=hcond;simp only [zaa] at h;subst h;simp only [RV] at hx;obtain⟨b,o,c,rfl,q1,q2,q3,q4,q5⟩:=hx;have b1:=oz (x:=lo) hlo h1;have b2:=oz (x:=hi) hhi h2;have hmn:cmx=none:=by
     cases cmx with
     | none=> rfl
     | some c=> exact hmx.elim
    have hb:=mM (P:=P) (w:=w) (s:=true) (len:=n) (c:=c) (l:=l) (h:=hh) (m:=c) (.inl ⟨hmn,rfl⟩) (by
       rcases b2 with⟨p,q,r⟩ | ⟨k',i,_,q,q0,r⟩
       ·exact .inl ⟨q,hmn,r⟩
       ·exact .inr ⟨k',i,q,q0,r,by omega⟩) (by
       rcases b1 with⟨_,q,r⟩ | ⟨k',i,_,q,q0,r⟩
       ·exact .inl ⟨q,r⟩
       ·exact .inr ⟨k',i,q,q0,r,by omega⟩)
    refine⟨_,mO hu hs hb,?_⟩;simp only [RV];have hlen:(List.take ((hh - l)*esz) (List.drop (l*esz) cells)).length=(hh - l)*esz:=by
     simp only [zax,zaL,q2];have:(hh - l)*esz+l*esz<=n*esz:=by rw [<-zbu];exact zaB _ (by omega)
     omega
    by_cases hml:c=l
    ·have:hh - l=0:=by omega
     refine⟨b,o,c - l,by simp [hml],by omega,hlen,q3,q4,?_⟩;rw [this];simp [RVc]
    ·exact⟨b,o+l*esz,c - l,by simp [hml,jH],by omega,hlen,q3,q4,uj _ (qQ _ q5)⟩
   ·cases h
  | string=>
   simp only [hu] at h;split at h
   ·rename_i s l h1;split at h <;> first | (cases h;done) | skip
    rename_i hh h2;split at h <;> first | (cases h;done) | skip
    rename_i hcond;simp only [zaa] at h;subst h;simp only [RV] at hx;subst hx;have b1:=oz (x:=lo) hlo h1;have b2:=oz (x:=hi) hhi h2;have hmn:cmx=none:=by
     cases cmx with
     | none=> rfl
     | some c=> exact hmx.elim
    subst hmn;have hb:=mM (P:=P) (w:=w) (s:=false) (len:=s.size) (c:=s.size) (l:=l) (h:=hh) (m:=s.size) (.inl ⟨rfl,rfl⟩) (by
       rcases b2 with⟨p,q,r⟩ | ⟨k',i,_,q,q0,r⟩
       ·exact .inl ⟨q,rfl,r⟩
       ·exact .inr ⟨k',i,q,q0,r,by omega⟩) (by
       rcases b1 with⟨_,q,r⟩ | ⟨k',i,_,q,q0,r⟩
       ·exact .inl ⟨q,r⟩
       ·exact .inr ⟨k',i,q,q0,r,by omega⟩)
    refine⟨.string (s.extract l hh),?_,by simp only [RV]⟩;simp only [Instr.sliceAt,Sem.run_bind,run_underlying hu,Result.andThen_ok,Instr.slice,zaG,zah,if_false,hb,Sem.run_pure]
   ·cases h
  | _=> simp [hu] at h
end
theorem xg(off:Nat):∀(l:List Value) (k:Nat) (cs:Array Value),(l.zipIdx k).foldl (λcs (p:Value × Nat)=> cs.setIfInBounds (off+p.2) p.1) cs=kT cs (off+k) l
 | [],_,_=> rfl
 | v::l,k,cs=> by
  simp only [List.zipIdx_cons,zbJ,kT];exact xg off l (k+1) _
section
variable {P:Program}{ρ:Ren}{G:Nat->Nat}{H H':ah}{w:World}{v:AV}
theorem X5 {cells xs:List AV}{cs vs:List Value}{off:Nat}(hc:RVs ρ G w cells cs)(hx:RVs ρ G w xs vs)(hle:off+xs.length<=cells.length):RVs ρ G w (aN cells off xs) (kT cs.toArray off vs).toList:=by
 have h1:=dL hc;have h2:=dL hx;refine sN (by rw [iT _ _ _ hle,bI,eH];simp [h1]) λi x hi=> ?_;rw [vW _ _ _ hle] at hi;have hset:=lN vs cs.toArray off i (by simp;omega);rw [h2] at hset;by_cases hlt:off<=i/\i < off+xs.length
 ·rw [if_pos hlt] at hi hset;obtain⟨u,hu,h3⟩:=jQ hx hi;exact⟨u,by rw [zcJ,hset,hu],h3⟩
 ·rw [if_neg hlt] at hi hset;obtain⟨u,hu,h3⟩:=jQ hc hi;exact⟨u,by rw [zcJ,hset];simpa using hu,h3⟩
theorem Fz {place:Nat->Option (Nat × Nat)}:∀(parts:List (Nat × AV)) (pF:List (Nat × Value)) (cells:List AV) (cs:Array Value) (cells':List AV),
  parts.map (·.1)=pF.map (·.1)->RVs ρ G w (parts.map (·.2)) (pF.map (·.2))->RVs ρ G w cells cs.toList->gI place cells parts=some cells'->
  ∃cs',Instr.fill place cs pF=some cs'/\RVs ρ G w cells' cs'.toList
 | [],[],cells,cs,cells',_,_,hc,h=> by
  simp only [gI,zaa] at h;subst h;exact⟨cs,rfl,hc⟩
 | [],_::_,_,_,_,hi,_,_,_=> by simp at hi
 | _::_,[],_,_,_,hi,_,_,_=> by simp at hi
 | (i,x)::parts,(j,y)::pF,cells,cs,cells',hi,hp,hc,h=> by
  simp only [zaw,zbK] at hi;obtain⟨rfl,hi⟩:=hi;simp only [zaw,RVs] at hp;obtain⟨_,_,e,h1,h2⟩:=hp;cases e;simp only [gI] at h;cases hpl:place i with
  | none=> simp [hpl] at h
  | some os=>
   obtain⟨off,size⟩:=os;simp only [hpl] at h;split at h
   ·rename_i hcond;obtain⟨hs,hle⟩:=hcond;have hcells:=KG h1;have hlen:=dL hcells;rw [bI] at hlen;have aop:=dL hc;rw [bI] at aop;have hset:=X5 hc hcells hle;obtain⟨cs',h3,h4⟩:=Fz parts pF _ _ cells' hi h2 hset h;refine⟨cs',?_,h4⟩;simp only [Instr.fill,hpl];rw [if_neg (by simp;omega)];rw [<-h3]
    congr 1
    rw [<-zcA,zds];exact xg off y.cells.toList 0 _
   ·cases h
theorem VY {fs:Array Field}(h:fs.all (λf=> (szT P f.type).isSome)=true):
  (fs.mapM λf=> do pure (f.offset,<-sizeOf f.type):Sem (Array (Nat × Nat))).run P w=.ok (fs.map λf=> (f.offset,(szT P f.type).getD 0)) w:=by
 rw [Array.mapM_eq_mapM_toList];have key:∀l:List Field,(∀f∈l,(szT P f.type).isSome=true)->(l.mapM λf=> do pure (f.offset,<-sizeOf f.type):Sem (List (Nat × Nat))).run P w=.ok (l.map λf=> (f.offset,(szT P f.type).getD 0)) w:=by
  intro l
  induction l with
  | nil=> intro _;simp
  | cons f l ih=>
   intro hl;have h0:=hl f (by simp);cases hs:szT P f.type with
   | none=> simp [hs] at h0
   | some n=>
    rw [zbw];simp only [Sem.run_bind,eP hs,Sem.run_pure,Result.andThen_ok,ih (λg hg=> hl g (by simp [hg])),zaw,hs,zar]
 rw [Sem.run_map,key fs.toList (λf hf=> by
  have:=zcB.1 h f (by simpa using hf);exact this)]
 simp only [Result.andThen_ok]
 congr 1
 exact(zce.1 (by simp))
theorem abY {t:TypeId}{parts:List (Nat × AV)}{pF:Array (Nat × Value)}(hi:parts.map (·.1)=pF.toList.map (·.1))(hp:RVs ρ G w (parts.map (·.2)) (pF.toList.map (·.2)))
  (h:iq P t parts=some v):OkP P ρ G w (Instr.build t pF) v:=by
 unfold iq xR at h;cases hz:y8 P t with
 | none=> simp [hz] at h
 | some z=>
  cases hu:P.underlying t with
  | none=> simp [hz,hu] at h
  | some d=>
   cases d with
   | struct fs=>
    simp only [hz,hu,zak] at h;split at h
    ·rename_i hall;cases hf:gI (N7 P fs) (z.cells.toList.map .s) parts with
     | none=> simp [hf] at h
     | some cells=>
      simp only [hf,zak,zaa] at h;subst h;obtain⟨cs,h1,h2⟩:=Fz (ρ:=ρ) (G:=G) (w:=w) parts pF.toList _ z.cells cells hi hp (gU _) hf;refine⟨.agg cs,?_,by simp only [RV];exact⟨cs,rfl,h2⟩⟩;have ajc:(λi=> (fs.map λf=> (f.offset,(szT P f.type).getD 0))[i]?)=N7 P fs:=by
       funext i
       simp only [N7,Array.getElem?_map];cases hfi:fs[i]? with
       | none=> simp
       | some f=>
        have h0:=zcB.1 hall f (Array.mem_of_getElem? hfi);cases hs:szT P f.type with
        | none=> simp [hs] at h0
        | some n=> simp [hs]
      simp only [Instr.build,Sem.run_bind,gu hz,run_underlying hu,Result.andThen_ok,VY hall];rw [ajc,h1];simp
    ·cases h
   | array n e=>
    simp only [hz,hu,zak] at h;cases hs:szT P e with
    | none=> simp [hs] at h
    | some m=>
     simp only [hs] at h;cases hf:gI (λi=> some (i*m,m)) (z.cells.toList.map .s) parts with
     | none=> simp [hf] at h
     | some cells=>
      simp only [hf,zak,zaa] at h;subst h;obtain⟨cs,h1,h2⟩:=Fz (ρ:=ρ) (G:=G) (w:=w) parts pF.toList _ z.cells cells hi hp (gU _) hf;refine⟨.agg cs,?_,by simp only [RV];exact⟨cs,rfl,h2⟩⟩;simp only [Instr.build,Sem.run_bind,gu hz,run_underlying hu,Result.andThen_ok,eP hs,h1,Sem.run_pure]
   | _=> simp [hz,hu] at h
theorem I7(z:List AV)(hz:0 < z.length):∀(n i:Nat),i < n*z.length->(dY z n)[i]?=z[i % z.length]?
 | 0,i,h=> by simp at h
 | n+1,i,h=> by
  simp only [dY];rw [zcP];by_cases hi:i < z.length
  ·rw [if_pos hi,zcx hi]
  ·have hmod:(i - z.length) % z.length=i % z.length:=by rw [Nat.mod_eq_sub_mod (a:=i) (by omega)]
   rw [if_neg hi,I7 z hz n (i - z.length) (by rw [zbu,zbo] at h;omega),hmod]
theorem iU(z:List AV):∀n,(dY z n).length=n*z.length
 | 0=> by simp [dY]
 | n+1=> by simp [dY,iU z n,zbu];omega
theorem vX(z:Value)(n:Nat):RVs ρ G w (dY (z.cells.toList.map .s) n) ((Array.range (n*z.cells.size)).map (z.cells[· % z.cells.size]!)).toList:=by
 have hl:(z.cells.toList.map AV.s).length=z.cells.size:=by simp
 refine sN (by rw [iU,hl];simp) λi x hx=> ?_;have hi:i < n*z.cells.size:=by
  rcases zaW i (n*z.cells.size) with h | h
  ·exact h
  ·rw [zaK (by rw [iU,hl];exact h)] at hx;cases hx
 have hpos:0 < z.cells.size:=by
  rcases Nat.eq_zero_or_pos z.cells.size with h | h
  ·rw [h,Nat.mul_zero] at hi;omega
  ·exact h
 rw [I7 _ (by rw [hl];exact hpos) n i (by rw [hl];exact hi),hl] at hx;have hm:i % z.cells.size < z.cells.size:=Nat.mod_lt _ hpos;refine⟨z.cells[i % z.cells.size],?_,?_⟩
 ·simp [hi,hm]
 ·have:x=.s z.cells[i % z.cells.size]:=by
   simp [hm] at hx;exact hx.symm
  subst this;simp only [RV]
theorem oC {t e:TypeId}(h:y7 P t=some e):P.underlying t=some (.slice e):=by
 unfold y7 at h;split at h
 ·rename_i hu;cases h;exact hu
 ·cases h
theorem zi {t:TypeId}{z:List AV}(h:xR P t=some z):∃v,y8 P t=some v/\z=v.cells.toList.map .s:=by
 unfold xR at h;cases hz:y8 P t with
 | none=> simp [hz] at h
 | some v=> simp [hz] at h;exact⟨v,rfl,h.symm⟩
theorem uw(R:Rel ρ H w){e:TypeId}{cells:List AV}{cs:Array Value}{m len cap c:Nat}{ex:Bool}(hc:RVs ρ H.gen w cells (cs.toList.take cells.length))(hle:cells.length<=cs.size)(h1:len<=cap)(h2:cap<=c)(h3:ex=true->c=cap)(h4:c*m<=cs.size){ty:TypeId}(hX:Xct ty e 0 cs.size cells.length):
  ∃ρ',Rel ρ' (H.new (.blk 0 ty cells)) (w.alloc (.cells cs e))/\RV ρ' (H.new (.blk 0 ty cells)).gen (w.alloc (.cells cs e)) (.sl H.next 0 0 m len cap ex) (.slice (some ⟨w.heap.size,0,none⟩) len c)/\Ext ρ H w ρ' (H.new (.blk 0 ty cells)) (w.alloc (.cells cs e)):=by
 have hn:=X3 (e:=e) (ty:=ty) (cells:=cells) (cs:=cs) R hle (λi x hx=> by
  obtain⟨u,hu,h5⟩:=jQ hc hx;rw [zaA] at hu;split at hu
  ·exact⟨u,by simpa using hu,h5⟩
  ·cases hu) hX
 refine⟨_,hn.1,?_,hn.2⟩;simp only [RV];refine⟨w.heap.size,0,c,rfl,h1,h2,h3,by omega,λ_=> ⟨0,e,cs.size,by simp [updρ],λ_=> rfl,?_,by omega⟩⟩;rw [fB,jM];rfl
theorem X6 {xs:List AV}{l:List Value}(h:RVs ρ G w xs l):RVs ρ G w xs (l.take xs.length):=by
 rw [zaz (by rw [dL h];exact zac _)];exact h
theorem KJ(R:Rel ρ H w){t:TypeId}{len:Nat}{parts:List (Nat × AV)}{pF:Array (Nat × Value)}(hi:parts.map (·.1)=pF.toList.map (·.1))(hp:RVs ρ H.gen w (parts.map (·.2)) (pF.toList.map (·.2)))
  (h:dP P t len parts H=some (v,H')):Ok P ρ H w (Instr.buildSlice t len pF) v H':=by
 unfold dP at h;cases he:y7 P t with
 | none=> simp [he] at h
 | some e=>
  simp only [he] at h;cases hs:szT P e with
  | none=> simp [hs] at h
  | some m=>
   cases hz:xR P e with
   | none=> simp [hs,hz] at h
   | some z=>
    simp only [hs,hz] at h;obtain⟨zv,hzv,rfl⟩:=zi hz;split at h <;> first | (cases h;done) | skip
    rename_i hcond;obtain⟨hzl,hbig⟩:=hcond;simp at hzl;split at h <;> first | (cases h;done) | skip
    rename_i cells hf;split at h <;> first | (cases h;done) | skip
    simp only [zaa,zad] at h;obtain⟨rfl,rfl⟩:=h
    -- the zero cells
    obtain⟨zc,hzr,hz0⟩:∃zc:Array Value,RVs ρ H.gen w (dY (zv.cells.toList.map .s) len) ((Array.range (len*m)).map (zc[· % zc.size]!)).toList/\((len*m=0/\zc=#[])∨(¬len*m=0/\zc=zv.cells)):=by
     by_cases h0:len*m=0
     ·refine⟨#[],?_,.inl ⟨h0,rfl⟩⟩;rw [h0];have:dY (zv.cells.toList.map .s) len=[]:=zas (by rw [iU];simp [hzl,h0]);rw [this];simp [RVs]
     ·refine⟨zv.cells,?_,.inr ⟨h0,rfl⟩⟩;have:=vX (ρ:=ρ) (G:=H.gen) (w:=w) zv len;rw [hzl] at this ⊢;exact this
    obtain⟨cs,h1,h2⟩:=Fz parts pF.toList _ _ cells hi hp hzr hf;have hlen:=dL h2;have hfl:cs.size=len*m:=by
     have hsz:∀(place:Nat->Option (Nat × Nat)) (l:List (Nat × Value)) (a b:Array Value),Instr.fill place a l=some b->b.size=a.size:=by
      intro place l
      induction l with
      | nil=> intro a b h;simp [Instr.fill] at h;rw [h]
      | cons p l ih=>
       intro a b h;obtain⟨i,x⟩:=p;simp only [Instr.fill] at h;split at h
       ·cases h
       ·split at h
        ·cases h
        ·rw [ih _ _ h,<-zcA,zds,xg,eH]
     rw [hsz _ _ _ _ h1];simp
    obtain⟨ρ',q1,q2,q3⟩:=uw (ty:=e) (hX:=Xct.low (um hzv) (by have:=hlen;rw [bI] at this;omega)) (e:=e) (cells:=cells) (cs:=cs) (m:=m) (len:=len) (cap:=len) (c:=len) (ex:=true) R (X6 h2) (by rw [<-hlen,bI];exact zac _) (zac _) (zac _) (λ_=> rfl) (by rw [hfl];exact zac _);refine⟨_,ρ',_,?_,q1,q2,q3⟩;have hnb:¬len*m > 2 ^ 24:=by omega
    simp only [Instr.buildSlice,Sem.run_bind,run_underlying (oC he),Result.andThen_ok,eP hs,hnb,if_false];rcases hz0 with⟨h0,rfl⟩ | ⟨h0,rfl⟩
    ·rw [if_pos h0];simp only [Result.andThen_ok,h1,Sem.run_bind,newRow,run_newObj,Sem.run_pure];rfl
    ·rw [if_neg h0];simp only [Result.andThen_ok,h1,Sem.run_bind,newRow,run_newObj,Sem.run_pure,gu hzv];rfl
theorem Oq(R:Rel ρ H w){t:TypeId}{x y:AV}{cx cy:Value}(hx:RV ρ H.gen w x cx)(hy:RV ρ H.gen w y cy)(h:pX P t x y H=some (v,H')):Ok P ρ H w (Instr.makeSlice t cx cy) v H':=by
 unfold pX at h;split at h <;> first | (cases h;done) | skip
 rename_i e k1 l k2 c he;simp only [RV] at hx hy;subst hx hy;cases hs:szT P e with
 | none=> simp [hs] at h
 | some m=>
  cases hb:yg P e with
  | none=> simp [hs,hb] at h
  | some by_=>
   cases hz:xR P e with
   | none=> simp [hs,hb,hz] at h
   | some z=>
    simp only [hs,hb,hz] at h;obtain⟨zv,hzv,rfl⟩:=zi hz;split at h <;> first | (cases h;done) | skip
    rename_i hcond;obtain⟨hzl,hcell,h0,h1,h2,h3⟩:=hcond;simp at hzl;simp only [zaa,zad] at h;obtain⟨rfl,rfl⟩:=h;cases agS:P.info? e with
    | none=> simp [szT,agS] at hs
    | some inf=>
     simp [szT,agS] at hs;simp [yg,agS] at hb;have hzi:inf.zero=some zv:=by simpa [agS] using abS hzv
     have hrun:=run_make (P:=P) (w:=w) t e inf zv (oC he) agS hzi k1 k2 l c h0 h1 (by rw [hb];omega) (by omega);have ad9:=vX (ρ:=ρ) (G:=H.gen) (w:=w) zv c.toNat;have heq:((Array.range (c.toNat*zv.cells.size)).map (zv.cells[· % zv.cells.size]!))=madeCells zv.cells (c.toNat*inf.size):=by
      rw [madeCells,hs,hzl]
     have hml:(madeCells zv.cells (c.toNat*inf.size)).size=c.toNat*m:=by rw [size_madeCells,hs]
     have hzz:(dY (zv.cells.toList.map .s) c.toNat).length=c.toNat*m:=by rw [iU];simp [hzl]
     obtain⟨ρ',q1,q2,q3⟩:=uw (ty:=e) (hX:=Xct.low (um hzv) (by rw [hml,hzz])) (e:=e) (cells:=dY (zv.cells.toList.map .s) c.toNat) (cs:=madeCells zv.cells (c.toNat*inf.size)) (m:=m) (len:=l.toNat) (cap:=c.toNat) (c:=c.toNat) (ex:=true) R
      (X6 (by rw [heq] at ad9;exact ad9)) (by rw [hml,hzz];exact zac _) (by omega) (zac _) (λ_=> rfl) (by rw [hml];exact zac _)
     exact⟨_,ρ',_,hrun,q1,q2,q3⟩
end
section
variable {P:Program}{ρ:Ren}{G:Nat->Nat}{H H':ah}{w:World}{v:AV}
theorem Q7 {t:TypeId}{k:IntKind}{e:TypeId}(h:aiY P t=some (k,e)):∃kt,P.underlying t=some (.map kt e)/\P.underlying kt=some (.int k):=by
 unfold aiY at h;split at h
 ·rename_i kt e' hu;split at h
  ·rename_i ik hk;simp only [zaa,zad] at h;obtain⟨rfl,rfl⟩:=h;exact⟨kt,hu,hk⟩
  ·cases h
 ·cases h
theorem nO {b:Nat}{ces:Array MapEntry}{cl:Nat}(h:w.heap[b]?=some (.map ces cl)):(getObj b).run P w=.ok (.map ces cl) w:=by
 simp [getObj,Sem.run,h]
theorem xk {b:Nat}{ces:Array MapEntry}{cl:Nat}{o:Obj}(h:w.heap[b]?=some (.map ces cl)):(setObj b o).run P w=.ok () (jI w b o):=by
 simp [setObj,Sem.run,h,jI]
theorem vY {kt:TypeId}{k:IntKind}{n:Int}(hk:P.underlying kt=some (.int k))(e:Bool)(d:Nat):(Instr.checkKey e (d+1) kt (.int k n)).run P w=.ok () w:=by
 simp [Instr.checkKey,run_underlying hk]
theorem qU {k:IntKind}{n:Int}:∀(es:List (Int × AV)) (l:List MapEntry) (i:Nat),RVm ρ G w k es l->qh es n=none->Instr.findNow (.int k) (.int k n) l i=some none
 | [],l,i,h,_=> by simp only [RVm] at h;subst h;rfl
 | (m,x)::es,l,i,h,hf=> by
  obtain⟨e,l',rfl,hk,_,h2⟩:=(by simpa only [RVm] using h)
  simp only [qh] at hf;split at hf
  ·cases hf
  ·rename_i hne;simp only [Instr.findNow,hk,Instr.sameNow];have:(n==m)=false:=by simp;omega
   simp [this,qU es l' (i+1) h2 hf]
theorem qV {k:IntKind}{n:Int}{x:AV}:∀(es:List (Int × AV)) (l:List MapEntry) (i:Nat),RVm ρ G w k es l->qh es n=some x->
  ∃j e,Instr.findNow (.int k) (.int k n) l i=some (some (i+j,e.val))/\l[j]?=some e/\e.key=.int k n/\RV ρ G w x e.val/\
   (∀y cy,RV ρ G w y cy->RVm ρ G w k (Ku es n y) (l.modify j λe=> { e with key:=.int k n,val:=cy }))/\RVm ρ G w k (y9 es n) (l.eraseIdx j)
 | [],l,i,h,hf=> by simp [qh] at hf
 | (m,z)::es,l,i,h,hf=> by
  obtain⟨e,l',rfl,hk,h1,h2⟩:=(by simpa only [RVm] using h)
  simp only [qh] at hf;split at hf
  ·rename_i heq;cases hf;subst heq;refine⟨0,e,?_,rfl,hk,h1,λy cy hy=> ?_,?_⟩
   ·simp [Instr.findNow,hk,Instr.sameNow]
   ·simp only [Ku,if_true,List.modify_zero_cons,RVm];exact⟨_,_,rfl,rfl,hy,h2⟩
   ·simpa only [y9,if_true,List.eraseIdx_zero,List.tail_cons] using h2
  ·rename_i hne;obtain⟨j,e',p1,p2,p3,p4,p5,p6⟩:=qV es l' (i+1) h2 hf;refine⟨j+1,e',?_,by simpa using p2,p3,p4,λy cy hy=> ?_,?_⟩
   ·have:(n==m)=false:=by simp;omega
    simp only [Instr.findNow,hk,Instr.sameNow,if_true,this];rw [p1,show i+1+j=i+(j+1) from by omega]
   ·simp only [Ku,if_neg hne,List.modify_succ_cons,RVm];exact⟨_,_,rfl,hk,h1,p5 y cy hy⟩
   ·simp only [y9,if_neg hne,zc4,RVm];exact⟨_,_,rfl,hk,h1,p6⟩
theorem Ot {k:IntKind}{n:Int}{y:AV}{cy:Value}{born:Nat}(hy:RV ρ G w y cy):∀(es:List (Int × AV)) (l:List MapEntry),RVm ρ G w k es l->qh es n=none->RVm ρ G w k (Ku es n y) (l++[{ key:=.int k n,val:=cy,born }])
 | [],l,h,_=> by
  simp only [RVm] at h;subst h;simp only [Ku,zaJ,RVm];exact⟨_,_,rfl,rfl,hy,rfl⟩
 | (m,z)::es,l,h,hf=> by
  obtain⟨e,l',rfl,hk,h1,h2⟩:=(by simpa only [RVm] using h)
  simp only [qh] at hf;split at hf
  ·cases hf
  ·rename_i hne;simp only [Ku,if_neg hne,zbe,RVm];exact⟨_,_,rfl,hk,h1,Ot hy es l' h2 hf⟩
theorem I8 {n:Int}:∀(es:List (Int × AV)),qh es n=none->y9 es n=es
 | [],_=> rfl
 | (m,z)::es,hf=> by
  simp only [qh] at hf;split at hf
  ·cases hf
  ·rename_i hne;simp only [y9,if_neg hne,I8 es hf]
theorem nP {kt:TypeId}{k:IntKind}{n:Int}{l:List MapEntry}{r:Option (Nat × Value)}(hk:P.underlying kt=some (.int k))(h:Instr.findNow (.int k) (.int k n) l 0=some r):
  (Instr.findKey kt (.int k n) l).run P w=.ok r w:=by
 simp [Instr.findKey,run_underlying hk,h]
theorem Born.push {es:List MapEntry}{cl:Nat}(h:Born es cl){key val:Value}:Born (es++[{ key,val,born:=cl }]) (cl+1):=by
 obtain⟨h1,h2⟩:=h;refine⟨λx hx=> ?_,?_⟩
 ·rcases zaO.1 hx with hx | hx
  ·exact Nat.lt_succ_of_lt (h1 x hx)
  ·rw [zaM] at hx;subst hx;exact zdd _
 ·rw [zbj];refine zbQ.2 ⟨h2,by simp,λa ha c hc=> ?_⟩;simp only [zaw,zbC,zaM] at hc;subst hc;obtain⟨x,hx,rfl⟩:=zaH.1 ha;exact zbU (h1 x hx)
theorem vZ {g:MapEntry->MapEntry}(hg:∀e,(g e).born=e.born):∀(es:List MapEntry) (j:Nat),(es.modify j g).map (·.born)=es.map (·.born)
 | [],j=> by simp
 | e::es,0=> by simp [hg]
 | e::es,j+1=> by simp [vZ hg es j]
theorem Born.modify {es:List MapEntry}{cl:Nat}(h:Born es cl){j:Nat}{g:MapEntry->MapEntry}(hg:∀e,(g e).born=e.born):Born (es.modify j g) cl:=by
 have hm:=vZ hg es j;refine⟨λx hx=> ?_,by rw [hm];exact h.2⟩;have:x.born∈es.map (·.born):=by rw [<-hm];exact zaH.2 ⟨x,hx,rfl⟩
 obtain⟨y,hy,e⟩:=zaH.1 this;have:=h.1 y hy;rw [<-e];exact this
theorem Born.erase {es:List MapEntry}{cl:Nat}(h:Born es cl){j:Nat}:Born (es.eraseIdx j) cl:=
 ⟨λx hx=> h.1 x ((zcK _ _).mem hx),h.2.sublist ((zcK _ _).map _)⟩
theorem KL(R:Rel ρ H w){r:Nat}{k:IntKind}{es:List (Int × AV)}{cx:Value}(hx:RV ρ H.gen w (.mp r) cx)(ho:H.get r=.map k es):
  ∃b ces cl,cx=.map (some b)/\ρ r=some (b,0)/\w.heap[b]?=some (.map ces cl)/\RVm ρ H.gen w k es ces.toList/\Born ces.toList cl:=by
 simp only [RV] at hx;obtain⟨b,rfl,hr⟩:=hx;have hr:=hr (by simp [ah.gen,ho,fU.gen]);have vG:=R.obj r b 0 hr;simp only [yF,ho] at vG;obtain⟨ces,cl,h1,_,h2,h3⟩:=vG;exact⟨b,ces,cl,rfl,hr,h1,h2,h3⟩
theorem X7(R:Rel ρ H w){t:TypeId}{x i:AV}{ok:Bool}{cx ci:Value}(hx:RV ρ H.gen w x cx)(hi:RV ρ H.gen w i ci)(h:QU P t x i ok H=some (v,H')):H'=H/\OkP P ρ H.gen w (Instr.lookup t cx ci ok) v:=by
 obtain⟨h',hh⟩:=uq h
 clear h
 subst hh;have h:=h'
 clear h'
 refine⟨rfl,?_⟩;unfold XW at h;split at h <;> first | (cases h;done) | skip
 rename_i k e hm;obtain⟨kt,hu,hk⟩:=Q7 hm;split at h <;> first | (cases h;done) | skip
 rename_i z hz;split at h <;> first | (cases h;done) | skip
 rename_i r;split at h <;> first | (cases h;done) | skip
 rename_i k' n;split at h <;> first | (cases h;done) | skip
 rename_i k'' es ho;simp only [bQ,zak,zaa] at ho;split at h <;> first | (cases h;done) | skip
 rename_i hkk;obtain⟨rfl,rfl⟩:=hkk;obtain⟨b,ces,cl,rfl,hr,hb,hes,hbn⟩:=KL R hx ho;simp only [RV] at hi;subst hi;have hck:∀e',(Instr.checkKey e' 10000 kt (.int k'' n)).run P w=.ok () w:=λe'=> vY hk e' 9999;cases hf:qh es n with
 | none=>
  simp only [hf,zaa] at h;subst h;have hfind:=nP (P:=P) (w:=w) hk (qU es ces.toList 0 hes hf);refine⟨if ok then .tuple #[z,.bool false] else z,?_,?_⟩
  ·simp only [Instr.lookup,Sem.run_bind,run_underlying hu,Result.andThen_ok,nO hb,Sem.run_pure,hck,hfind,gu hz]
  ·cases ok
   ·simp only [RV,zah,if_false]
   ·simp only [RV,if_true];exact⟨_,rfl,jh (by simp only [RV]) (jh (by simp only [RV]) jm)⟩
 | some y=>
  simp only [hf,zaa] at h;subst h;obtain⟨j,en,p1,p2,p3,p4,_⟩:=qV es ces.toList 0 hes hf;have hfind:=nP (P:=P) (w:=w) hk p1;refine⟨if ok then .tuple #[en.val,.bool true] else en.val,?_,?_⟩
  ·simp only [Instr.lookup,Sem.run_bind,run_underlying hu,Result.andThen_ok,nO hb,Sem.run_pure,hck,hfind]
  ·cases ok
   ·simpa only [zah,if_false] using p4
   ·simp only [RV,if_true];exact⟨_,rfl,jh p4 (jh (by simp only [RV]) jm)⟩
theorem Ou(R:Rel ρ H w){t:TypeId}{x i y:AV}{cx ci cy:Value}(hx:RV ρ H.gen w x cx)(hi:RV ρ H.gen w i ci)(hy:RV ρ H.gen w y cy)(h:sK P t x i y H=some (v,H')):
  v=aY/\∃ρ' w',(Instr.mapUpdate t cx ci cy).run P w=.ok () w'/\Rel ρ' H' w'/\Ext ρ H w ρ' H' w':=by
 unfold sK at h;split at h <;> first | (cases h;done) | skip
 rename_i k e r k' n hm;obtain⟨kt,hu,hk⟩:=Q7 hm;split at h <;> first | (cases h;done) | skip
 rename_i k'' es ho;split at h <;> first | (cases h;done) | skip
 rename_i hkk;obtain⟨rfl,rfl,_⟩:=hkk;simp only [zaa,zad] at h;obtain⟨rfl,rfl⟩:=h;obtain⟨b,ces,cl,rfl,hr,hb,hes,hbn⟩:=KL R hx ho;simp only [RV] at hi;subst hi;have hck:(Instr.checkKey false 10000 kt (.int k'' n)).run P w=.ok () w:=vY hk false 9999;cases hf:qh es n with
 | none=>
  have hfind:=nP (P:=P) (w:=w) hk (qU es ces.toList 0 hes hf);have hput:=KD (es':=Ku es n y) (abM:=ces.push { key:=.int k'' n,val:=cy,born:=cl }) (cl':=cl+1) R hr ho hb (by rw [Array.toList_push];exact Ot hy es _ hes hf) (by rw [Array.toList_push];exact hbn.push);refine⟨rfl,ρ,_,?_,hput.1,hput.2⟩;simp only [Instr.mapUpdate,Sem.run_bind,run_underlying hu,Result.andThen_ok,nO hb,hck,hfind,xk hb]
 | some z=>
  obtain⟨j,en,p1,p2,p3,p4,p5,_⟩:=qV es ces.toList 0 hes hf;rw [za3] at p1;have hfind:=nP (P:=P) (w:=w) hk p1;have hput:=KD (es':=Ku es n y) (abM:=ces.modify j λe=> { e with key:=.int k'' n,val:=cy }) (cl':=cl) R hr ho hb (by rw [Array.toList_modify];exact p5 y cy hy) (by rw [Array.toList_modify];exact hbn.modify λ_=> rfl);refine⟨rfl,ρ,_,?_,hput.1,hput.2⟩;have hg:ces[j]?=some en:=by simpa using p2
  have aoq:Instr.keyThatStays en.key (.int k'' n)=pure (.int k'' n):=by
   rw [p3];simp [Instr.keyThatStays,Instr.sameBits]
  simp only [Instr.mapUpdate,Sem.run_bind,run_underlying hu,Result.andThen_ok,nO hb,hck,hfind,hg,zak,zar,aoq,Sem.run_pure,xk hb]
theorem X8(R:Rel ρ H w){t ty:TypeId}{ts:Array TypeId}{x i:AV}{cx ci:Value}(ht:ts[0]?=some t)(hx:RV ρ H.gen w x cx)(hi:RV ρ H.gen w i ci)(h:Kw P t x i H=some (v,H')):
  Ok P ρ H w (Builtin.delete_ ts ty #[cx,ci]) v H':=by
 unfold Kw at h;split at h <;> first | (cases h;done) | skip
 rename_i k e r k' n hm;obtain⟨kt,hu,hk⟩:=Q7 hm;split at h <;> first | (cases h;done) | skip
 rename_i k'' es ho;split at h <;> first | (cases h;done) | skip
 rename_i hkk;obtain⟨rfl,rfl,_⟩:=hkk;simp only [zaa,zad] at h;obtain⟨rfl,rfl⟩:=h;obtain⟨b,ces,cl,rfl,hr,hb,hes,hbn⟩:=KL R hx ho;simp only [RV] at hi;subst hi;have hck:∀e',(Instr.checkKey e' 10000 kt (.int k'' n)).run P w=.ok () w:=λe'=> vY hk e' 9999;have a0:(#[Value.map (some b),Value.int k'' n]:Array Value)[0]?=some (.map (some b)):=rfl;have a1:(#[Value.map (some b),Value.int k'' n]:Array Value)[1]?=some (.int k'' n):=rfl;cases hf:qh es n with
 | none=>
  have hfind:=nP (P:=P) (w:=w) hk (qU es ces.toList 0 hes hf);have hput:=KD (es':=y9 es n) (abM:=ces) (cl':=cl) R hr ho hb (by rw [I8 es hf];exact hes) hbn;refine⟨.tuple #[],ρ,_,?_,hput.1,by simp only [RV];exact⟨_,rfl,jm⟩,hput.2⟩;simp only [Builtin.delete_,ht,a0,a1,Sem.run_bind,run_underlying hu,Result.andThen_ok,nO hb,hck,hfind,xk hb,Sem.run_pure]
 | some z=>
  obtain⟨j,en,p1,p2,p3,p4,_,p6⟩:=qV es ces.toList 0 hes hf;rw [za3] at p1;have hfind:=nP (P:=P) (w:=w) hk p1;have hput:=KD (es':=y9 es n) (abM:=ces.eraseIdxIfInBounds j) (cl':=cl) R hr ho hb (by
   have:(ces.eraseIdxIfInBounds j).toList=ces.toList.eraseIdx j:=by simp
   rw [this];exact p6) (by
   have:(ces.eraseIdxIfInBounds j).toList=ces.toList.eraseIdx j:=by simp
   rw [this];exact hbn.erase)
  refine⟨.tuple #[],ρ,_,?_,hput.1,by simp only [RV];exact⟨_,rfl,jm⟩,hput.2⟩;simp only [Builtin.delete_,ht,a0,a1,Sem.run_bind,run_underlying hu,Result.andThen_ok,nO hb,hck,hfind,xk hb,Sem.run_pure]
theorem VZ(R:Rel ρ H w){t:TypeId}(h:wY P t H=some (v,H')):Ok P ρ H w (Instr.makeMap t none) v H':=by
 unfold wY at h;split at h <;> first | (cases h;done) | skip
 rename_i k e hm;simp only [zaa,zad] at h;obtain⟨rfl,rfl⟩:=h;have E:=KC R (o:=.map k []) (co:=.map #[] 0);refine⟨.map (some w.heap.size),_,_,by simp [Instr.makeMap],X0 R ⟨#[],0,jM w _,rfl,by simp [RVm],by simp [Born]⟩,?_,E⟩;simp only [RV];exact⟨_,rfl,λ_=> by simp [updρ]⟩
theorem ajd(R:Rel ρ H w){t ty:TypeId}{x:AV}{cx:Value}(hx:RV ρ H.gen w x cx)(h:ai8 P t x H=some (v,H')):H'=H/\OkP P ρ H.gen w (Builtin.len_ #[t] ty #[cx]) v:=by
 have a0:(#[t]:Array TypeId)[0]?=some t:=rfl;have a1:(#[cx]:Array Value)[0]?=some cx:=rfl;obtain⟨h',hh⟩:=uq h
 clear h
 subst hh;have h:=h'
 clear h'
 refine⟨rfl,?_⟩;unfold an1 at h;cases hu:P.underlying t with
 | none=> simp [hu] at h
 | some d=>
  cases d with
  | slice e=>
   simp only [hu] at h;split at h <;> first | (cases h;done) | skip
   all_goals
    simp only [zaa] at h;subst h;simp only [RV] at hx
   ·obtain⟨_,_,_,rfl,_⟩:=hx;exact⟨_,by simp [Builtin.len_,run_underlying hu];rfl,by simp only [RV,goInt]⟩
   ·obtain⟨_,_,_,rfl,_⟩:=hx;exact⟨_,by simp [Builtin.len_,run_underlying hu];rfl,by simp only [RV,goInt]⟩
   ·subst hx;exact⟨_,by simp [Builtin.len_,run_underlying hu];rfl,by simp only [RV,goInt]⟩
  | string=>
   simp only [hu] at h;split at h <;> first | (cases h;done) | skip
   simp only [zaa] at h;subst h;simp only [RV] at hx;subst hx;exact⟨_,by simp [Builtin.len_,run_underlying hu];rfl,by simp only [RV,goInt]⟩
  | map kt e=>
   simp only [hu] at h;split at h <;> first | (cases h;done) | skip
   ·split at h <;> first | (cases h;done) | skip
    rename_i k es ho;simp only [bQ,zak,zaa] at ho;simp only [zaa] at h;subst h;obtain⟨b,ces,cl,rfl,hr,hb,hes,hbn⟩:=KL R hx ho;have hl:ces.size=es.length:=by
     have:∀(es:List (Int × AV)) (l:List MapEntry),RVm ρ H'.gen w k es l->l.length=es.length:=by
      intro es
      induction es with
      | nil=> intro l h;simp only [RVm] at h;subst h;rfl
      | cons p es ih=>
       intro l h;obtain⟨m,z⟩:=p;obtain⟨e,l',rfl,_,_,h2⟩:=(by simpa only [RVm] using h)
       simp [ih l' h2]
     rw [<-this es _ hes,bI]
    refine⟨.int .i64 es.length,?_,by simp only [RV]⟩;simp only [Builtin.len_,a0,a1,Sem.run_bind,run_underlying hu,Result.andThen_ok,nO hb,Sem.run_pure,goInt,hl]
   ·simp only [zaa] at h;subst h;simp only [RV] at hx;subst hx;exact⟨.int .i64 0,by simp [Builtin.len_,run_underlying hu,goInt],by simp only [RV]⟩
  | _=> simp [hu] at h
theorem aje {t ty:TypeId}{x:AV}{cx:Value}(hx:RV ρ G w x cx)(h:ad7 P t x=some v):OkP P ρ G w (Builtin.cap_ #[t] ty #[cx]) v:=by
 unfold ad7 at h;cases hu:P.underlying t with
 | none=> simp [hu] at h
 | some d=>
  cases d with
  | slice e=>
   simp only [hu] at h;split at h <;> first | (cases h;done) | skip
   all_goals
    simp only [zaa] at h;subst h;simp only [RV] at hx
   ·obtain⟨_,_,c,rfl,_,_,h3,_⟩:=hx;rw [h3 trivial];exact⟨_,by simp [Builtin.cap_,run_underlying hu];rfl,by simp only [RV,goInt]⟩
   ·subst hx;exact⟨_,by simp [Builtin.cap_,run_underlying hu];rfl,by simp only [RV,goInt]⟩
  | _=> simp [hu] at h
theorem Ov {mx:Bool}{ts:Array TypeId}{ty:TypeId}{xs:List AV}{cs:Array Value}(hx:RVs ρ G w xs cs.toList)(h:lK P mx ts ty xs=some v):
  OkP P ρ G w (if mx then Builtin.max_ ts ty cs else Builtin.min_ ts ty cs) v:=by
 unfold lK at h;cases hv:vals? xs with
 | none=> simp [hv] at h
 | some vs=>
  simp only [hv] at h;have he:=KI xs _ vs hx hv;have:cs=vs.toArray:=by rw [<-he]
  rw [this];cases hp:iP P (if mx=true then Builtin.max_ ts ty vs.toArray else Builtin.min_ ts ty vs.toArray) with
  | none=> simp [hp] at h
  | some u=> simp [hp] at h;subst h;exact⟨u,lQ hp w,by simp only [RV]⟩
end
theorem Ext.drew(ρ:Ren)(H:ah)(w:World):Ext ρ H w ρ H w.drew where
 next:=zac _
 mono:=λ_=> zac _
 same:=λ_ _ h _=> h
 kept:=λ_ _ h=> h
 range:=λ_ _ sh h=> .inr ⟨sh,h⟩
 size:=zac _
 frame:=λ_ _ _=> rfl
 shape:=λ_ _=> rfl
 os:=rfl
 tape:=rfl
 output:=rfl
theorem Rel.drew {ρ:Ren}{H:ah}{w:World}(R:Rel ρ H w):Rel ρ H w.drew where
 out:=R.out
 obj:=λr b sh h=> yF.mono (Ext.drew ρ H w).toMono rfl (R.obj r b sh h)
 inj:=R.inj
 gl:=R.gl.ext (Ext.drew ρ H w)
theorem KN {ρ:Ren}{H:ah}{w:World}{r:Nat}{y:Nat × Nat}(hx:ρ r=some y){co:Obj}{o:fU}(hg:H.gen r < o.gen):Ext ρ H w (updρ ρ r (w.heap.size,0)) (H.put r o) (w.alloc co) where
 next:=zac _
 mono:=λx=> by rw [uo];split <;> simp_all;omega
 same:=λx y hx h=> by
  rw [uo] at h;unfold updρ
  split
  ·rename_i e;subst e;simp at h;omega
  ·exact hx
 kept:=λx _ h=> by
  unfold updρ
  split
  ·rename_i e;subst e;rw [hx] at h;cases h
  ·exact h
 range:=λx b' s h=> by
  unfold updρ at h;split at h
  ·cases h;exact .inl (zac _)
  ·exact .inr ⟨_,h⟩
 size:=by simp
 frame:=λb hb _=> by simp only [World.alloc,zbi,if_neg (zbU hb)]
 shape:=λb hb=> by
  rw [fB,fB];simp only [World.alloc,zbi,if_neg (zbU hb)]
 os:=rfl
 tape:=rfl
 output:=rfl
theorem abZ {ρ:Ren}{H:ah}{w:World}(R:Rel ρ H w){r:Nat}(hr:r < H.next){y:Nat × Nat}(hy:ρ r=some y){co:Obj}{o:fU}(hg:H.gen r < o.gen)
  (ho:yF (updρ ρ r (w.heap.size,0)) (H.put r o).gen (w.alloc co) o w.heap.size 0):Rel (updρ ρ r (w.heap.size,0)) (H.put r o) (w.alloc co) where
 out:=λx hx=> by
  have hx':H.next<=x:=hx
  have hne:x≠r:=by omega
  rw [uo,if_neg hne];unfold updρ;rw [if_neg hne];exact R.out x hx'
 obj:=λx b' s h=> by
  unfold updρ at h;by_cases e:x=r
  ·subst e;simp at h;obtain⟨rfl,rfl⟩:=h
   simpa [ah.put] using ho
  ·rw [if_neg e] at h;have:(H.put r o).get x=H.get x:=by simp [ah.put,e]
   rw [this];have hb:=R.block h;exact yF.mono (KN (ρ:=ρ) (w:=w) (co:=co) hy hg).toMono (by simp only [World.alloc,zbi,if_neg (zbU hb)]) (R.obj x b' s h)
 inj:=λx y b' s s' h h'=> by
  unfold updρ at h h';split at h <;> split at h'
  ·simp_all
  ·cases h;have:=R.block h';omega
  ·cases h';have:=R.block h;omega
  ·exact R.inj _ _ _ _ _ h h'
 gl:=R.gl.ext (KN (ρ:=ρ) (w:=w) (co:=co) hy hg)
theorem ab1 {ρ:Ren}{H:ah}{w:World}(R:Rel ρ H w){r g':Nat}(hr:r < H.next){y:Nat × Nat}(hy:ρ r=some y)(hg:H.gen r < g'){ty e:TypeId}{cells:List AV}{cs:Array Value}(hl:cells.length<=cs.size)
  (hc:∀(i:Nat) (x:AV),cells[i]?=some x->∃v,cs[i]?=some v/\RV ρ H.gen w x v) (hX:Xct ty e 0 cs.size cells.length):
  Rel (updρ ρ r (w.heap.size,0)) (H.put r (.blk g' ty cells)) (w.alloc (.cells cs e))/\Ext ρ H w (updρ ρ r (w.heap.size,0)) (H.put r (.blk g' ty cells)) (w.alloc (.cells cs e)):=by
 have E:=KN (ρ:=ρ) (H:=H) (w:=w) (r:=r) (o:=.blk g' ty cells) (co:=.cells cs e) hy hg;refine⟨abZ R hr hy hg ⟨cs,e,jM w _,by omega,?_,hX⟩,E⟩;refine qR (jM w _) λi x hx=> ?_;obtain⟨v,hv,h1⟩:=hc i x hx;exact⟨v,by simpa using hv,R.keep E h1⟩
section
variable {P:Program}{ρ:Ren}{H H':ah}{w:World}{v:AV}
theorem jB(R:Rel ρ H w){y:AV}{cy:Value}{n m:Nat}{new:List AV}(hy:RV ρ H.gen w y cy)(hl:jV y=some n)(hc:dw H y=some new)(hn:new.length=n*m):
  (Builtin.lenOf cy).run P w=.ok n w/\∃arr:Array Value,(Builtin.firstCells m n cy).run P w=.ok arr w/\RVs ρ H.gen w new arr.toList:=by
 unfold jV at hl;split at hl <;> first | (cases hl;done) | skip
 ·simp only [zaa] at hl;subst hl;rename_i r g off esz len cap ex;simp only [RV] at hy;obtain⟨b,o,c,rfl,q1,q2,q3,q4,q5⟩:=hy;simp only [dw] at hc;split at hc <;> first | (cases hc;done) | skip
  rename_i g' ty cells ho;split at hc <;> first | (cases hc;done) | skip
  rename_i hcond;obtain⟨rfl,hle⟩:=hcond;simp only [zaa] at hc;subst hc;obtain⟨sh,e,k,hr,hoo,hsh,hcap⟩:=q5 (by simp [ah.gen,ho,fU.gen]);have vG:=R.obj r b sh hr;simp only [yF,ho] at vG;obtain⟨cs,e',hb,hz,hcc,_⟩:=vG;refine⟨by simp [Builtin.lenOf],?_⟩;by_cases h0:len=0
  ·subst h0;refine⟨#[],?_,by simp [RVs]⟩;simp [Builtin.firstCells,loadCells,loadCellsFrom]
  ·have ho':=hoo (by omega);have hcells:RVc ρ H.gen w ((cells.drop off).take (len*esz)) b (sh+off):=uj _ (qQ _ hcc);obtain⟨l,hl',h1⟩:=mG (P:=P) hcells;rw [hn] at hl';exact⟨l.toArray,by simp only [Builtin.firstCells,ho'];exact hl',by simpa using h1⟩
 ·simp only [zaa] at hl;subst hl;simp only [RV] at hy;obtain⟨b,o,c,rfl,q1,q2,q3,q4,q5⟩:=hy;simp only [dw,zaa] at hc;subst hc;refine⟨by simp [Builtin.lenOf],?_⟩;obtain⟨l,hl',h1⟩:=mG (P:=P) q5;rw [hn] at hl';exact⟨l.toArray,by simp only [Builtin.firstCells];exact hl',by simpa using h1⟩
 ·simp only [zaa] at hl;subst hl;simp only [RV] at hy;subst hy;simp only [dw,zaa] at hc;subst hc;exact⟨by simp [Builtin.lenOf],#[],by simp [Builtin.firstCells],by simp [RVs]⟩
 ·simp only [zaa] at hl;subst hl;simp only [RV] at hy;subst hy;simp only [dw,zaa] at hc;subst hc;rename_i s;refine⟨by simp [Builtin.lenOf],(s.data.map λb=> .int .u8 b.toNat),?_,?_⟩
  ·have:s.extract 0 s.size=s:=by
    apply ByteArray.ext
    simp
   simp [Builtin.firstCells,this]
  ·have:(s.data.map λb=> Value.int .u8 b.toNat).toList=s.data.toList.map λb=> .int .u8 b.toNat:=by simp
   rw [this];have h2:(s.data.toList.map λb=> AV.s (.int .u8 b.toNat))=(s.data.toList.map λb=> Value.int .u8 b.toNat).map .s:=by simp
   rw [h2];exact gU _
def rQ(elem:TypeId)(size:Nat)(zeros:Bool)(n:Nat)(appended:Sem (Array Value))(base:Option Addr)(sLen sCap:Nat)(s x:Value):Sem Value:=do
 let need:=sLen+n
 if need<=sCap then
  let new<-appended
  if let some a:=base then storeCells (a.add (sLen*size)) new.toList
  pure (.slice base need sCap)
 else
  if(need:Int) > IntKind.i64.max∧(zeros∨(←typeInfo elem).bytes=0) then runtimePanic (.error "growslice: len out of range")
  if Builtin.nextslicecap need sCap*(←typeInfo elem).bytes > 2 ^ 48 then(if zeros then runtimePanic (.error "growslice: len out of range") else do
   if !(<-Builtin.mayShare size sLen n base x) then mark .noRoom
   unsupported (.resourceLimit "append: a slice or a string whose bytes no memory bears"))
  let newCap<-choose (.appendCap need sCap elem)
  askRoom (newCap*(<-typeInfo elem).bytes)
  let old<-Builtin.firstCells size sLen s;let new<-appended;let rest:=Builtin.zeroCells (<-zeroValue elem).cells (newCap - need)
  pure (.slice (some (<-newRow elem (old++new++rest))) need newCap)
theorem aea {α:Type}(a b:α):(if false=true then a else b)=b:=rfl
theorem ajf {α:Type}(a b:α):(if true=true then a else b)=a:=rfl
theorem FB {t u ty e:TypeId}{d:TypeDesc}{m n sLen sCap:Nat}{base:Option Addr}{cy:Value}(hu:P.underlying t=some (.slice e))(hs:szT P e=some m)(hd:P.underlying u=some d)(hnd:∀k,d≠.int k)
  (hl:(Builtin.lenOf cy).run P w=.ok n w):
  (Builtin.append_ #[t,u] ty #[.slice base sLen sCap,cy]).run P w=(rQ e m false n (Builtin.firstCells m n cy) base sLen sCap (.slice base sLen sCap) cy).run P w:=by
 have a0:(#[t,u]:Array TypeId)[0]?=some t:=rfl;have a1:(#[t,u]:Array TypeId)[1]?=some u:=rfl;have a2:(#[Value.slice base sLen sCap,cy]:Array Value)[0]?=some (.slice base sLen sCap):=rfl;have a3:(#[Value.slice base sLen sCap,cy]:Array Value)[1]?=some cy:=rfl;cases d
 case int k=> exact absurd rfl (hnd k)
 all_goals
  simp only [Builtin.append_,a0,a1,a2,a3,Sem.run_bind,run_underlying hu,Result.andThen_ok,eP hs,run_underlying hd,Sem.run_pure,aea,hl];rfl
theorem DV {t u ty e:TypeId}{k:IntKind}{m by_ sLen sCap:Nat}{base:Option Addr}{k':IntKind}{n:Int}(hu:P.underlying t=some (.slice e))(hs:szT P e=some m)(hb:yg P e=some by_)(hd:P.underlying u=some (.int k))
  (h0:0<=n) (h1:n<=most) (h2:n*by_<=most):
  (Builtin.append_ #[t,u] ty #[.slice base sLen sCap,.int k' n]).run P w=
   (rQ e m true n.toNat (if n.toNat*m=0 then pure #[] else do pure (Builtin.zeroCells (<-zeroValue e).cells n.toNat)) base sLen sCap (.slice base sLen sCap) (.int k' n)).run P w:=by
 have a0:(#[t,u]:Array TypeId)[0]?=some t:=rfl;have a1:(#[t,u]:Array TypeId)[1]?=some u:=rfl;have a2:(#[Value.slice base sLen sCap,.int k' n]:Array Value)[0]?=some (.slice base sLen sCap):=rfl;have a3:(#[Value.slice base sLen sCap,.int k' n]:Array Value)[1]?=some (.int k' n):=rfl;have hw:IntKind.i64.wrap n=n:=by rw [IntKind.wrap_i64];unfold most at h1;omega
 have agS:∃i,P.info? e=some i/\i.bytes=by_:=by
  unfold yg at hb;cases hi:P.info? e with
  | none=> simp [hi] at hb
  | some i=> simp [hi] at hb;exact⟨i,rfl,hb⟩
 obtain⟨i,hi,rfl⟩:=agS;have hn:¬n < 0:=by omega
 have hnb:¬n*(i.bytes:Int) > 2 ^ 48:=by unfold most at h2;omega
 simp only [-eq_self,Builtin.append_,a0,a1,a2,a3,Sem.run_bind,run_underlying hu,Result.andThen_ok,eP hs,run_underlying hd,Sem.run_pure,ajf,asInt,asIntOf,hw,hn,if_false,D8 hi,hnb];rfl
end
section
variable {P:Program}{ρ:Ren}{H H':ah}{w:World}{v:AV}
theorem X9 {e:TypeId}{b:Nat}(h:yg P e=some b):∃i,P.info? e=some i/\i.bytes=b:=by
 unfold yg at h;cases hi:P.info? e with
 | none=> simp [hi] at h
 | some i=> simp [hi] at h;exact⟨i,rfl,h⟩
theorem Ua {e:TypeId}{m n by_ sLen sCap:Nat}{zeros:Bool}{appended:Sem (Array Value)}{base:Option Addr}{s x zv:Value}{old arr:Array Value}(hb:yg P e=some by_)(hz:y8 P e=some zv)
  (aor:¬sLen+n<=sCap) (hmax:sLen+n<=most) (hbig:(sLen+n)*by_<=most) (hold:(Builtin.firstCells m sLen s).run P w.drew=.ok old w.drew) (happ:appended.run P w.drew=.ok arr w.drew):
  ∃c,sLen+n<=c/\(rQ e m zeros n appended base sLen sCap s x).run P w=
   .ok (.slice (some ⟨w.heap.size,0,none⟩) (sLen+n) c) (w.drew.alloc (.cells (old++arr++Builtin.zeroCells zv.cells (c - (sLen+n))) e)):=by
 obtain⟨i,hi,rfl⟩:=X9 hb;unfold most at hmax hbig;have h1:¬(((sLen+n:Nat):Int) > IntKind.i64.max/\((zeros:Prop)∨i.bytes=0)):=by
  rintro⟨h,_⟩;rw [IntKind.max_i64] at h;omega
 have h2:¬Builtin.nextslicecap (sLen+n) sCap*i.bytes > 2 ^ 48:=by
  have:=growslice_fits (need:=sLen+n) (old:=sCap) (bytes:=i.bytes) (by omega) hbig;omega
 have hf:(Question.appendCap (sLen+n) sCap e).forced=false:=rfl;refine⟨(Question.appendCap (sLen+n) sCap e).cut (w.tape w.drawn (Question.appendCap (sLen+n) sCap e)),by simp [Question.cut],?_⟩;simp only [rQ,if_neg aor,Sem.run_bind,D8 hi,Result.andThen_ok,if_neg h1,if_neg h2,Sem.run_pure,run_choose,hf,aea,run_askRoom,World.drew_eq,hold,happ,gu hz,newRow,run_newObj,World.alloc_eq];rfl
theorem Ea(R:Rel ρ H w){r g off esz len cap:Nat}{ex:Bool}{ty:TypeId}{cells:List AV}{cx:Value}(hx:RV ρ H.gen w (.sl r g off esz len cap ex) cx)(ho:H.get r=.blk g ty cells):
  ∃b o c sh cs e,cx=.slice (some ⟨b,o,none⟩) len c/\len<=cap/\cap<=c/\(ex=true->c=cap)/\ρ r=some (b,sh)/\(0 < c->o=sh+off)/\w.heap[b]?=some (.cells cs e (0,0))/\o+c*esz<=cs.size/\
   sh+cells.length<=cs.size/\RVc ρ H.gen w cells b sh:=by
 simp only [RV] at hx;obtain⟨b,o,c,rfl,q1,q2,q3,q4,q5⟩:=hx;obtain⟨sh,ty',k,hr,hoo,hsh,hcap⟩:=q5 (by simp [ah.gen,ho,fU.gen]);have vG:=R.obj r b sh hr;simp only [yF,ho] at vG;obtain⟨cs,e,hb,hz,hcc,_⟩:=vG;have:cs.size=k:=by
  rw [fB,hb] at hsh;simp [Df] at hsh;exact hsh.2
 exact⟨b,o,c,sh,cs,e,rfl,q1,q2,q3,hr,hoo,hb,by omega,hz,hcc⟩
theorem yh(R:Rel ρ H w){e:TypeId}{m n by_:Nat}{zeros:Bool}{appended:Sem (Array Value)}{x:AV}{cx cy zv:Value}{new:List AV}(hs:szT P e=some m)(hb:yg P e=some by_)(hz:y8 P e=some zv)(hzl:zv.cells.size=m)
  (hx:RV ρ H.gen w x cx) (happ:∀w',w'=w∨w'=w.drew->∃arr:Array Value,appended.run P w'=.ok arr w'/\RVs ρ H.gen w' new arr.toList)
  (h:dW e m by_ x n new H=some (v,H')):
  ∃base sLen sCap,cx=.slice base sLen sCap/\Ok P ρ H w (rQ e m zeros n appended base sLen sCap cx cy) v H':=by
 unfold dW at h;split at h <;> first | (cases h;done) | skip
 rename_i hnew;obtain⟨hlen,hcell⟩:=hnew;split at h
 ·-- nil
  simp only [RV] at hx;subst hx;refine⟨none,0,0,rfl,?_⟩;by_cases h0:n=0
  ·subst h0;simp only [if_true,zaa,zad] at h;obtain⟨rfl,rfl⟩:=h;obtain⟨arr,ha,_⟩:=happ w (.inl rfl);refine OkP.ok ⟨.slice none 0 0,?_,by simp only [RV]⟩ R;simp [rQ,ha]
  ·rw [if_neg h0] at h;split at h <;> first | (cases h;done) | skip
   rename_i hcond;simp only [zaa,zad] at h;obtain⟨rfl,rfl⟩:=h;obtain⟨arr,ha,hr⟩:=happ w.drew (.inr rfl);obtain⟨c,hc,hrun⟩:=Ua (P:=P) (w:=w) (e:=e) (m:=m) (n:=n) (by_:=by_) (sLen:=0) (sCap:=0) (zeros:=zeros) (appended:=appended) (base:=none) (s:=.slice none 0 0) (x:=cy) (zv:=zv) (old:=#[]) (arr:=arr) hb hz (by omega) (by omega) (by simpa using hcond.2) (by simp [Builtin.firstCells]) ha;have hal:=dL hr;rw [bI,hlen] at hal;obtain⟨ρ',q1,q2,q3⟩:=uw (ty:=e+gV) (hX:=Xct.grown) (e:=e) (cells:=new) (cs:=#[]++arr++Builtin.zeroCells zv.cells (c - (0+n))) (m:=m) (len:=n) (cap:=n) (c:=c) (ex:=false) R.drew
    (by
     have:(#[]++arr++Builtin.zeroCells zv.cells (c - (0+n))).toList.take new.length=arr.toList:=by
      rw [hlen,<-hal];simp
     rw [this];exact hr) (by rw [hlen];simp [hal]) (zac _) (by omega) (by simp) (by
     have h3:(Builtin.zeroCells zv.cells (c - (0+n))).size=(c - n)*m:=by simp [Builtin.zeroCells,hzl]
     rw [zc6,h3];simp only [zc6,zdD,zan,hal];rw [za3,<-zbu];have:n+(c - n)=c:=by omega
     rw [this];exact zac _)
   refine⟨_,ρ',_,hrun,q1,?_,(Ext.drew ρ H w).trans q3⟩
   simpa using q2
 ·rename_i r g off esz len cap ex;split at h <;> first | (cases h;done) | skip
  rename_i g' ty cells ho;split at h <;> first | (cases h;done) | skip
  rename_i hcond;obtain⟨rfl,rfl,hle⟩:=hcond;have hpl:=Ea R hx ho;obtain⟨b,o,c,sh,cs,e',hcx,q1,q2,q3,hr,hoo,hbk,hcs,hz',hcc⟩:=hpl;subst hcx;refine⟨some ⟨b,o,none⟩,len,c,rfl,?_⟩;have hgen:H.gen r=g':=by simp [ah.gen,ho,fU.gen]
  have hfirst:∀w',(w'=w∨w'=w.drew)->∃arr:Array Value,(Builtin.firstCells esz len (.slice (some ⟨b,o,none⟩) len c)).run P w'=.ok arr w'/\RVs ρ H.gen w' ((cells.drop off).take (len*esz)) arr.toList:=by
   intro w' hw';have R':Rel ρ H w':=by
    rcases hw' with rfl | rfl
    ·exact R
    ·exact R.drew
   have hx':RV ρ H.gen w' (.sl r g' off esz len cap ex) (.slice (some ⟨b,o,none⟩) len c):=by
    rcases hw' with rfl | rfl
    ·exact hx
    ·exact R.keep (Ext.drew ρ H w) hx
   exact(jB (P:=P) (m:=esz) R' hx' rfl (by simp [dw,ho,hle]) (by simp;omega)).2
  by_cases h0:n=0
  ·subst h0;simp only [if_true,zaa,zad] at h;obtain⟨rfl,rfl⟩:=h;obtain⟨arr,ha,hra⟩:=happ w (.inl rfl);have harr:arr.toList=[]:=by
    have:=dL hra;rw [hlen] at this
    simpa using this
   refine OkP.ok ⟨.slice (some ⟨b,o,none⟩) len c,?_,hx⟩ R;simp [rQ,ha,harr,storeCells,show len<=c by omega]
  ·rw [if_neg h0] at h;by_cases hin:len+n<=cap
   ·rw [if_pos hin] at h;split at h <;> first | (cases h;done) | skip
    rename_i hc2;simp only [zaa,zad] at h;obtain⟨rfl,rfl⟩:=h;obtain⟨arr,ha,hra⟩:=happ w (.inl rfl);have hal:=dL hra;rw [hlen] at hal;have hoff:o=sh+off:=hoo (by omega);have hmul:(len+n)*esz=len*esz+n*esz:=zbu _ _ _;have hst:=jO (P:=P) (o:=o+len*esz) arr.toList w cs 0 hbk (by
     rw [hal];have:(len+n)*esz<=c*esz:=zaB _ (by omega);omega) (ql hcell hra)
    have kX:Xct ty e' sh cs.size cells.length:=by
     have vG:=R.obj r b sh hr;simp only [yF,ho] at vG;obtain⟨cs2,e2,k1,_,_,k4⟩:=vG;rw [hbk] at k1;cases k1;exact k4
    have hput:=Fq (hX:=by rw [eH,iT _ _ _ (by rw [hlen];omega)];exact kX) (ty':=ty) (cells':=aN cells (off+len*esz) new) (cs':=kT cs (o+len*esz) arr.toList) (g':=g') (sh':=sh) R hr hbk (eH _ _ _) (by omega) (λ_=> rfl)
     (by rw [iT _ _ _ (by rw [hlen];omega)];exact hz') (by
      intro i u hu;rw [vW _ _ _ (by rw [hlen];omega)] at hu;rw [lN _ _ _ _ (by rw [hal];omega),hal];by_cases hi:off+len*esz<=i/\i < off+len*esz+new.length
      ·rw [if_pos hi] at hu;rw [hlen] at hi;rw [if_pos (by omega),show sh+i - (o+len*esz)=i - (off+len*esz) from by omega];exact jQ hra hu
      ·rw [if_neg hi] at hu;rw [hlen] at hi;rw [if_neg (by omega)];exact vV hbk hcc hu)
    refine⟨.slice (some ⟨b,o,none⟩) (len+n) c,_,_,?_,hput.1,?_,hput.2⟩
    ·simp only [rQ,if_pos (show len+n<=c by omega),Sem.run_bind,ha,Result.andThen_ok,jH];simp only [zbp] at hst;simp [hst]
    ·simp only [RV];refine⟨b,o,c,rfl,hin,q2,q3,?_,λ_=> ⟨sh,e',cs.size,by simp [updρ],λ_=> hoff,?_,hcs⟩⟩
     ·rw [uo];simp [fU.gen]
     ·rw [fB,lM (nN hbk)];simp [Df,eH]
   ·rw [if_neg hin] at h;split at h <;> first | (cases h;done) | skip
    rename_i hc2;obtain⟨aos,hby⟩:=hc2;have hmul:(len+n)*esz=len*esz+n*esz:=zbu _ _ _;have hpre:((cells.drop off).take (len*esz)).length=len*esz:=by simp;omega
    -- the way that makes a new row
    have grow:¬len+n<=c->∃c' old arr,len+n<=c'/\(rQ e esz zeros n appended (some ⟨b,o,none⟩) len c (.slice (some ⟨b,o,none⟩) len c) cy).run P w=
      .ok (.slice (some ⟨w.heap.size,0,none⟩) (len+n) c') (w.drew.alloc (.cells (old++arr++Builtin.zeroCells zv.cells (c' - (len+n))) e))/\RVs ρ H.gen w.drew ((cells.drop off).take (len*esz)) old.toList/\RVs ρ H.gen w.drew new arr.toList:=by
     intro hno;obtain⟨old,hold,hro⟩:=hfirst w.drew (.inr rfl);obtain⟨arr,ha,hra⟩:=happ w.drew (.inr rfl);obtain⟨c',hc',hrun⟩:=Ua (P:=P) (w:=w) (e:=e) (m:=esz) (n:=n) (by_:=by_) (sLen:=len) (sCap:=c) (zeros:=zeros) (appended:=appended) (base:=some ⟨b,o,none⟩) (s:=.slice (some ⟨b,o,none⟩) len c) (x:=cy) (zv:=zv) (old:=old) (arr:=arr) hb hz hno aos hby hold ha;exact⟨c',old,arr,hc',hrun,hro,hra⟩
    have whole:∀(c':Nat) (old arr:Array Value),len+n<=c'->RVs ρ H.gen w.drew ((cells.drop off).take (len*esz)) old.toList->RVs ρ H.gen w.drew new arr.toList->
      RVs ρ H.gen w.drew ((cells.drop off).take (len*esz)++new) ((old++arr++Builtin.zeroCells zv.cells (c' - (len+n))).toList.take ((cells.drop off).take (len*esz)++new).length)/\
      ((cells.drop off).take (len*esz)++new).length<=(old++arr++Builtin.zeroCells zv.cells (c' - (len+n))).size/\c'*esz<=(old++arr++Builtin.zeroCells zv.cells (c' - (len+n))).size:=by
     intro c' old arr hc' hro hra;have l1:=dL hro;have l2:=dL hra;rw [hpre] at l1;rw [hlen] at l2;have h3:(Builtin.zeroCells zv.cells (c' - (len+n))).size=(c' - (len+n))*esz:=by simp [Builtin.zeroCells,hzl]
     have hsz:(old++arr++Builtin.zeroCells zv.cells (c' - (len+n))).size=c'*esz:=by
      rw [zc6,zc6,h3,<-bI old,<-bI arr,l1,l2,<-zbu,<-zbu]
      congr 1;omega
     refine⟨?_,?_,by rw [hsz];exact zac _⟩
     ·have:(old++arr++Builtin.zeroCells zv.cells (c' - (len+n))).toList.take ((cells.drop off).take (len*esz)++new).length=old.toList++arr.toList:=by
       have hll:((cells.drop off).take (len*esz)++new).length=(old.toList++arr.toList).length:=by
        rw [zao,zao,l1,l2,hpre,hlen]
       rw [hll,zcc,zcc,List.take_left]
      rw [this];exact pY hro hra
     ·rw [hsz,zao,hpre,hlen,<-hmul];exact zaB _ hc'
    by_cases hex:ex=true
    ·rw [if_pos hex] at h;simp only [zaa,zad] at h;obtain⟨rfl,rfl⟩:=h;obtain⟨c',old,arr,hc',hrun,hro,hra⟩:=grow (by rw [q3 hex];exact hin);obtain⟨w1,w2,w3⟩:=whole c' old arr hc' hro hra;obtain⟨ρ',p1,p2,p3⟩:=uw (ty:=e+gV) (hX:=Xct.grown) (e:=e) (m:=esz) (len:=len+n) (cap:=len+n) (c:=c') (ex:=false) R.drew w1 w2 (zac _) hc' (by simp) w3;refine⟨_,ρ',_,hrun,p1,?_,(Ext.drew ρ H w).trans p3⟩
     simpa using p2
    ·rw [if_neg hex] at h;split at h <;> first | (cases h;done) | skip
     simp only [zaa,zad] at h;obtain⟨rfl,rfl⟩:=h;by_cases hc:len+n<=c
     ·-- in place
      obtain⟨arr,ha,hra⟩:=happ w (.inl rfl);have hal:=dL hra;rw [hlen] at hal;have hoff:o=sh+off:=hoo (by omega);have hmc:(len+n)*esz<=c*esz:=zaB _ hc;have hst:=jO (P:=P) (o:=o+len*esz) arr.toList w cs 0 hbk (by rw [hal];omega) (ql hcell hra);have kX:Xct ty e' sh cs.size cells.length:=by
       have vG:=R.obj r b sh hr;simp only [yF,ho] at vG;obtain⟨cs2,e2,k1,_,_,k4⟩:=vG;rw [hbk] at k1;cases k1;exact k4
      have hput:=Fq (hX:=by rw [hoff];exact agN (um hz) kX) (ty':=grT e ty off) (cells':=(cells.drop off).take (len*esz)++new) (cs':=kT cs (o+len*esz) arr.toList) (g':=g'+1) (sh':=o) R hr hbk (eH _ _ _) (by omega) (λhh=> by omega)
       (by rw [zao,hpre,hlen];omega) (by
        intro i u hu;rw [zcP,hpre] at hu;rw [lN _ _ _ _ (by rw [hal];omega),hal];by_cases hi:i < len*esz
        ·rw [if_pos hi,zaA,if_pos hi,zaC] at hu;rw [if_neg (by omega),hoff,zb9];exact vV hbk hcc hu
        ·rw [if_neg hi] at hu;have arv:i - len*esz < n*esz:=by
          rw [<-hlen];exact(zai.1 hu).1
         rw [if_pos (by omega),show o+i - (o+len*esz)=i - len*esz from by omega];exact jQ hra hu)
      refine⟨.slice (some ⟨b,o,none⟩) (len+n) c,_,_,?_,hput.1,?_,hput.2⟩
      ·simp only [rQ,if_pos hc,Sem.run_bind,ha,Result.andThen_ok,jH];simp only [zbp] at hst;simp [hst]
      ·simp only [RV];refine⟨b,o,c,rfl,zac _,hc,by simp,?_,λ_=> ⟨o,e',cs.size,by simp [updρ],λ_=> rfl,?_,hcs⟩⟩
       ·rw [uo];simp [fU.gen]
       ·rw [fB,lM (nN hbk)];simp [Df,eH]
     ·-- a new row
      obtain⟨c',old,arr,hc',hrun,hro,hra⟩:=grow hc;obtain⟨w1,w2,w3⟩:=whole c' old arr hc' hro hra;have hmv:=ab1 (hX:=agM) (r:=r) (g':=g'+1) (ty:=grT e ty off) (e:=e) (cells:=(cells.drop off).take (len*esz)++new) R.drew (R.lt hr) hr (by omega) w2 (by
       intro i u hu;obtain⟨cv,hcv,h1⟩:=jQ w1 hu;rw [zaA] at hcv;split at hcv
       ·exact⟨cv,by rw [<-zcJ];exact hcv,h1⟩
       ·cases hcv)
      refine⟨_,_,_,hrun,hmv.1,?_,(Ext.drew ρ H w).trans hmv.2⟩;simp only [RV];refine⟨w.heap.size,0,c',rfl,zac _,hc',by simp,?_,λ_=> ⟨0,e,_,by simp [updρ],λ_=> rfl,?_,by rw [za3];exact w3⟩⟩
      ·rw [uo];simp [fU.gen]
      ·rw [fB];have:(w.drew.alloc (.cells (old++arr++Builtin.zeroCells zv.cells (c' - (len+n))) e)).heap[w.heap.size]?=some (.cells (old++arr++Builtin.zeroCells zv.cells (c' - (len+n))) e):=jM w.drew _;rw [this];rfl
 ·cases h
end
section
variable {P:Program}{ρ:Ren}{H H':ah}{w:World}{v:AV}
theorem Ya(R:Rel ρ H w){t u ty:TypeId}{x y:AV}{cx cy:Value}(hx:RV ρ H.gen w x cx)(hy:RV ρ H.gen w y cy)(h:Kv P t u x y H=some (v,H')):Ok P ρ H w (Builtin.append_ #[t,u] ty #[cx,cy]) v H':=by
 unfold Kv at h;split at h <;> first | (cases h;done) | skip
 rename_i e d he hd;split at h <;> first | (cases h;done) | skip
 rename_i m by_ z hs hb hz;split at h <;> first | (cases h;done) | skip
 rename_i hzl;obtain⟨zv,hzv,rfl⟩:=zi hz;simp at hzl;split at h
 ·rename_i k;split at h <;> first | (cases h;done) | skip
  rename_i k' n;split at h <;> first | (cases h;done) | skip
  rename_i hcond;obtain⟨h0,h1,h2⟩:=hcond;simp only [RV] at hy;subst hy;have happ:∀w',w'=w∨w'=w.drew->∃arr:Array Value,(if n.toNat*m=0 then pure #[] else do pure (Builtin.zeroCells (<-zeroValue e).cells n.toNat):Sem (Array Value)).run P w'=.ok arr w'/\RVs ρ H.gen w' (dY (zv.cells.toList.map .s) n.toNat) arr.toList:=by
   intro w' _;by_cases h3:n.toNat*m=0
   ·rw [if_pos h3];have:dY (zv.cells.toList.map .s) n.toNat=[]:=zas (by rw [iU];simp [hzl,h3]);exact⟨#[],rfl,by rw [this];exact jm⟩
   ·rw [if_neg h3];exact⟨Builtin.zeroCells zv.cells n.toNat,by simp [gu hzv],vX zv n.toNat⟩
  obtain⟨base,sLen,sCap,rfl,hok⟩:=yh (P:=P) (zeros:=true) (cy:=.int k' n) R hs hb hzv hzl hx happ h;obtain⟨cv,ρ',w',p1,p2,p3,p4⟩:=hok;exact⟨cv,ρ',w',by rw [DV (oC he) hs hb hd h0 h1 h2];exact p1,p2,p3,p4⟩
 ·rename_i hnd;split at h <;> first | (cases h;done) | skip
  rename_i n new hn hnew;have hnl:new.length=n*m:=by
   unfold dW at h;split at h
   ·rename_i hc;exact hc.1
   ·cases h
  have hl:=(jB (P:=P) R hy hn hnew hnl).1;have happ:∀w',w'=w∨w'=w.drew->∃arr:Array Value,(Builtin.firstCells m n cy).run P w'=.ok arr w'/\RVs ρ H.gen w' new arr.toList:=by
   rintro w' (rfl | rfl)
   ·exact(jB (P:=P) R hy hn hnew hnl).2
   ·exact(jB (P:=P) R.drew (R.keep (Ext.drew ρ H w) hy) hn hnew hnl).2
  obtain⟨base,sLen,sCap,rfl,hok⟩:=yh (P:=P) (zeros:=false) (cy:=cy) R hs hb hzv hzl hx happ h;obtain⟨cv,ρ',w',p1,p2,p3,p4⟩:=hok;exact⟨cv,ρ',w',by rw [FB (oC he) hs hd (λk hk=> hnd k hk) hl];exact p1,p2,p3,p4⟩
theorem agT(R:Rel ρ H w){ts:Array TypeId}{t ty:TypeId}{x y:AV}{cx cy:Value}(ht:ts[0]?=some t)(hx:RV ρ H.gen w x cx)(hy:RV ρ H.gen w y cy)(h:abO P t x y H=some (v,H')):Ok P ρ H w (Builtin.copy_ ts ty #[cx,cy]) v H':=by
 have a0:(#[cx,cy]:Array Value)[0]?=some cx:=rfl;have a1:(#[cx,cy]:Array Value)[1]?=some cy:=rfl;unfold abO at h;split at h <;> first | (cases h;done) | skip
 rename_i e he;split at h <;> first | (cases h;done) | skip
 rename_i m d n new hs hd hn hnew;simp only at h;split at h <;> first | (cases h;done) | skip
 rename_i hcond;obtain⟨hnl,hcell⟩:=hcond;obtain⟨hl,_⟩:=jB (P:=P) R hy hn hnew hnl
 -- the ab2 length
 have hdst:∀{base:Option Addr} {dl dc:Nat},cx=.slice base dl dc->dl=d:=by
  intro base dl dc hcx;subst hcx;unfold jV at hd;split at hd <;> first | (cases hd;done) | skip
  ·simp only [RV] at hx;obtain⟨_,_,_,h1,_⟩:=hx;cases h1;cases hd;rfl
  ·simp only [RV] at hx;obtain⟨_,_,_,h1,_⟩:=hx;cases h1;cases hd;rfl
  ·simp only [RV] at hx;cases hx;cases hd;rfl
  ·simp only [RV] at hx;cases hx
 have first:∃arr:Array Value,(Builtin.firstCells m (min n d) cy).run P w=.ok arr w/\RVs ρ H.gen w (new.take (min n d*m)) arr.toList:=by
  -- the first cells of the source
  unfold jV at hn;split at hn <;> first | (cases hn;done) | skip
  ·rename_i r g off esz len cap ex;simp only [zaa] at hn;subst hn;simp only [dw] at hnew;split at hnew <;> first | (cases hnew;done) | skip
   rename_i g' ty' cells ho;split at hnew <;> first | (cases hnew;done) | skip
   rename_i hc2;obtain⟨rfl,hle⟩:=hc2;simp only [zaa] at hnew;subst hnew;obtain⟨b,o,c,sh,cs,e',rfl,q1,q2,q3,hr,hoo,hbk,hcs,hz',hcc⟩:=Ea R hy ho;have hlen:((cells.drop off).take (len*esz)).length=len*esz:=by simp;omega
   by_cases h0:min len d*m=0
   ·refine⟨#[],?_,by rw [h0];simp [RVs]⟩;simp [Builtin.firstCells,h0,loadCells,loadCellsFrom]
   ·have hpos:0 < min len d:=Nat.pos_of_ne_zero λhh=> h0 (by rw [hh,zbq]);have ho':=hoo (by omega);have hcells:RVc ρ H.gen w (((cells.drop off).take (len*esz)).take (min len d*m)) b (sh+off):=uj _ (uj _ (qQ _ hcc));obtain⟨l,hl',h1⟩:=mG (P:=P) hcells;have hll:(((cells.drop off).take (len*esz)).take (min len d*m)).length=min len d*m:=by
     rw [zax,hnl];have:min len d*m<=len*m:=zaB _ (Nat.min_le_left _ _);omega
    rw [hll] at hl';exact⟨l.toArray,by simp only [Builtin.firstCells,ho'];exact hl',by simpa using h1⟩
  ·rename_i n' esz cells;simp only [zaa] at hn;subst hn;simp only [dw,zaa] at hnew;subst hnew;simp only [RV] at hy;obtain⟨b,o,c,rfl,q1,q2,q3,q4,q5⟩:=hy;obtain⟨l,hl',h1⟩:=mG (P:=P) (uj (min n' d*m) q5);have hll:(cells.take (min n' d*m)).length=min n' d*m:=by
    rw [zax,hnl];have:min n' d*m<=n'*m:=zaB _ (Nat.min_le_left _ _);omega
   rw [hll] at hl';exact⟨l.toArray,by simp only [Builtin.firstCells];exact hl',by simpa using h1⟩
  ·simp only [RV] at hy;subst hy;simp only [dw,zaa] at hnew;subst hnew;exact⟨#[],by simp [Builtin.firstCells],by simp [RVs]⟩
  ·rename_i s;simp only [zaa] at hn;subst hn;simp only [RV] at hy;subst hy;simp only [dw,zaa] at hnew;subst hnew;refine⟨((s.extract 0 (min s.size d)).data.map λb=> .int .u8 b.toNat),by simp [Builtin.firstCells],?_⟩;have hm:m=1∨s.size=0:=by
    have h3:s.data.toList.length=s.size:=rfl;rw [zaD,h3] at hnl;rcases Nat.eq_zero_or_pos s.size with h | h
    ·exact .inr h
    ·left;rcases m with _ | _ | m
     ·rw [Nat.mul_zero] at hnl;omega
     ·rfl
     ·have:s.size*2<=s.size*(m+1+1):=Nat.mul_le_mul_left _ (by omega);omega
   have h2:((s.data.toList.map λb=> AV.s (.int .u8 b.toNat)).take (min s.size d*m))=(((s.extract 0 (min s.size d)).data.map λb=> Value.int .u8 b.toNat).toList).map .s:=by
    rcases hm with rfl | h0
    ·simp [ByteArray.data_extract,zcV];rfl
    ·have h3:s.data.toList=[]:=zas h0;have h4:s.data=#[]:=by simpa using h3
     simp [ByteArray.data_extract,h4]
   rw [h2];exact gU _
 obtain⟨arr,ha,hra⟩:=first
 by_cases hk:min n d=0
 ·rw [if_pos hk] at h;split at h <;> first | (cases h;done) | skip
  rename_i hns;simp only [zaa,zad] at h;obtain⟨rfl,rfl⟩:=h;have harr:arr.toList=[]:=by
   have:=dL hra;rw [hk,zbq] at this
   simpa using this
  obtain⟨base,dl,dc,rfl⟩:∃base dl dc,cx=.slice base dl dc:=by
   unfold jV at hd;split at hd <;> first | (cases hd;done) | skip
   ·simp only [RV] at hx;obtain⟨_,_,_,rfl,_⟩:=hx;exact⟨_,_,_,rfl⟩
   ·simp only [RV] at hx;obtain⟨_,_,_,rfl,_⟩:=hx;exact⟨_,_,_,rfl⟩
   ·simp only [RV] at hx;subst hx;exact⟨_,_,_,rfl⟩
   ·exact(hns _ rfl).elim
  obtain rfl:=hdst rfl;refine OkP.ok ⟨.int .i64 0,?_,by simp only [RV]⟩ R;have hmin:Nat.min n dl=min n dl:=rfl;simp only [Builtin.copy_,ht,a0,a1,Sem.run_bind,run_underlying (oC he),Result.andThen_ok,hl,eP hs,hmin,ha];cases base with
  | none=> simp [goInt,hk]
  | some a=> simp [goInt,hk,harr,storeCells]
 ·rw [if_neg hk] at h;split at h <;> first | (cases h;done) | skip
  rename_i r g off esz len cap ex;split at h <;> first | (cases h;done) | skip
  rename_i g' ty' cells ho;split at h <;> first | (cases h;done) | skip
  rename_i hc2;obtain⟨rfl,rfl,hbase,hle⟩:=hc2;simp only [zaa,zad] at h;obtain⟨rfl,rfl⟩:=h;obtain⟨b,o,c,sh,cs,e',rfl,q1,q2,q3,hr,hoo,hbk,hcs,hz',hcc⟩:=Ea R hx ho;obtain rfl:=hdst rfl;have hgen:H.gen r=g':=by simp [ah.gen,ho,fU.gen]
  have hoff:o=sh+off:=hoo (by omega);have hal:=dL hra;have htl:(new.take (min n len*esz)).length=min n len*esz:=by
   rw [zax,hnl];have:min n len*esz<=n*esz:=zaB _ (Nat.min_le_left _ _);omega
  rw [htl] at hal;have hml:min n len*esz<=len*esz:=zaB _ (Nat.min_le_right _ _);have hlc:len*esz<=c*esz:=zaB _ (by omega);have hcell':(new.take (min n len*esz)).all AV.aX=true:=by
   rw [za2] at hcell ⊢;intro a ha';exact hcell a (zcQ ha')
  have hst:=jO (P:=P) (o:=o) arr.toList w cs 0 hbk (by rw [hal];omega) (ql hcell' hra);have kX:Xct ty' e' sh cs.size cells.length:=by
   have vG:=R.obj r b sh hr;simp only [yF,ho] at vG;obtain⟨cs2,e2,k1,_,_,k4⟩:=vG;rw [hbk] at k1;cases k1;exact k4
  have hput:=Fq (hX:=by rw [eH,iT _ _ _ (by rw [htl];omega)];exact kX) (ty':=ty') (cells':=aN cells off (new.take (min n len*esz))) (cs':=kT cs o arr.toList) (g':=g') (sh':=sh) R hr hbk (eH _ _ _) (by omega) (λ_=> rfl)
   (by rw [iT _ _ _ (by rw [htl];omega)];exact hz') (by
    intro i u hu;rw [vW _ _ _ (by rw [htl];omega),htl] at hu;rw [lN _ _ _ _ (by rw [hal];omega),hal];by_cases hi:off<=i/\i < off+min n len*esz
    ·rw [if_pos hi] at hu;rw [if_pos (by omega),show sh+i - o=i - off from by omega];exact jQ hra hu
    ·rw [if_neg hi] at hu;rw [if_neg (by omega)];exact vV hbk hcc hu)
  refine⟨.int .i64 ((min n len:Nat):Int),_,_,?_,hput.1,by simp only [RV],hput.2⟩;have hmin:Nat.min n len=min n len:=rfl;simp only [zbp] at hst;simp only [Builtin.copy_,ht,a0,a1,Sem.run_bind,run_underlying (oC he),Result.andThen_ok,hl,eP hs,hmin,ha,hst,Sem.run_pure,goInt]
theorem ab3(R:Rel ρ H w){t ty:TypeId}{x:AV}{cx:Value}(hx:RV ρ H.gen w x cx)(h:TV P t x H=some (v,H')):Ok P ρ H w (Builtin.clear_ #[t] ty #[cx]) v H':=by
 have a0:(#[t]:Array TypeId)[0]?=some t:=rfl;have a1:(#[cx]:Array Value)[0]?=some cx:=rfl;unfold TV at h;split at h <;> first | (cases h;done) | skip
 rename_i e he;split at h <;> first | (cases h;done) | skip
 ·rename_i m z r g off esz len cap ex hs hz;obtain⟨zv,hzv,rfl⟩:=zi hz;by_cases h0:len=0
  ·subst h0;simp only [if_true,zaa,zad] at h;obtain⟨rfl,rfl⟩:=h;simp only [RV] at hx;obtain⟨b,o,c,rfl,_⟩:=hx;refine OkP.ok ⟨.tuple #[],?_,by simp only [RV];exact⟨_,rfl,jm⟩⟩ R;simp [Builtin.clear_,run_underlying (oC he)]
  ·rw [if_neg h0] at h;split at h <;> first | (cases h;done) | skip
   rename_i g' ty' cells ho;split at h <;> first | (cases h;done) | skip
   rename_i hc2;obtain⟨rfl,rfl,hbase,hzl,hcell,hle⟩:=hc2;simp only [zaa,zad] at h;obtain⟨rfl,rfl⟩:=h;simp at hzl;obtain⟨b,o,c,sh,cs,e',rfl,q1,q2,q3,hr,hoo,hbk,hcs,hz',hcc⟩:=Ea R hx ho;have hgen:H.gen r=g':=by simp [ah.gen,ho,fU.gen]
   have hoff:o=sh+off:=hoo (by omega);have hlc:len*esz<=c*esz:=zaB _ (by omega);have hzr:=vX (ρ:=ρ) (G:=H.gen) (w:=w) zv len;have heq:((Array.range (len*zv.cells.size)).map (zv.cells[· % zv.cells.size]!))=Builtin.zeroCells zv.cells len:=rfl;rw [heq] at hzr;have Yb:(dY (zv.cells.toList.map .s) len).length=len*esz:=by rw [iU];simp [hzl]
   have hal:=dL hzr;rw [Yb] at hal;have hcz:(dY (zv.cells.toList.map .s) len).all AV.aX=true:=by
    have key:∀n,(dY (zv.cells.toList.map .s) n).all AV.aX=true:=by
     intro n
     induction n with
     | zero=> rfl
     | succ n ih=> simp only [dY,zbL,ih,hcell,zcp]
    exact key len
   have hst:=jO (P:=P) (o:=o) (Builtin.zeroCells zv.cells len).toList w cs 0 hbk (by rw [hal];omega) (ql hcz hzr);have kX:Xct ty' e' sh cs.size cells.length:=by
    have vG:=R.obj r b sh hr;simp only [yF,ho] at vG;obtain⟨cs2,e2,k1,_,_,k4⟩:=vG;rw [hbk] at k1;cases k1;exact k4
   have hput:=Fq (hX:=by rw [eH,iT _ _ _ (by rw [Yb];omega)];exact kX) (ty':=ty') (cells':=aN cells off (dY (zv.cells.toList.map .s) len)) (cs':=kT cs o (Builtin.zeroCells zv.cells len).toList) (g':=g') (sh':=sh) R hr hbk (eH _ _ _) (by omega) (λ_=> rfl)
    (by rw [iT _ _ _ (by rw [Yb];omega)];exact hz') (by
     intro i u hu;rw [vW _ _ _ (by rw [Yb];omega),Yb] at hu;rw [lN _ _ _ _ (by rw [hal];omega),hal];by_cases hi:off<=i/\i < off+len*esz
     ·rw [if_pos hi] at hu;rw [if_pos (by omega),show sh+i - o=i - off from by omega];exact jQ hzr hu
     ·rw [if_neg hi] at hu;rw [if_neg (by omega)];exact vV hbk hcc hu)
   refine⟨.tuple #[],_,_,?_,hput.1,by simp only [RV];exact⟨_,rfl,jm⟩,hput.2⟩;simp only [zbp] at hst;obtain⟨len,rfl⟩:∃k,len=k+1:=⟨len - 1,by omega⟩
   simp only [Builtin.clear_,a0,a1,Sem.run_bind,run_underlying (oC he),Result.andThen_ok,gu hzv,hst,Sem.run_pure]
 ·simp only [zaa,zad] at h;obtain⟨rfl,rfl⟩:=h;simp only [RV] at hx;subst hx;refine OkP.ok ⟨.tuple #[],?_,by simp only [RV];exact⟨_,rfl,jm⟩⟩ R;simp [Builtin.clear_,run_underlying (oC he)]
end
section
variable {P:Program}{ρ:Ren}{H H':ah}{w:World}{v:AV}
theorem yH {G:Nat->Nat}:∀(xs:List AV) (l:List Value) (ns:List Int),RVs ρ G w xs l->oh xs=some ns->l=ns.map (Value.int .u8)
 | [],l,ns,h,hn=> by
  simp only [RVs] at h;subst h;simp only [oh,zaa] at hn;subst hn;rfl
 | x::xs,l,ns,h,hn=> by
  obtain⟨y,ys,rfl,h1,h2⟩:=(by simpa only [RVs] using h)
  simp only [oh] at hn;split at hn <;> first | (cases hn;done) | skip
  split at hn <;> first | (cases hn;done) | skip
  rename_i l' hl';simp only [zaa] at hn;subst hn;simp only [RV] at h1;subst h1;rw [yH xs ys l' h2 hl'];rfl
theorem ajg(R:Rel ρ H w){x:AV}{cx:Value}{s:ByteArray}(hx:RV ρ H.gen w x cx)(h:aiZ x ((bQ x).map H.get)=some s):(Conv.bytesToString cx).run P w=.ok (.string s) w/\∃a l c,cx=.slice a l c:=by
 unfold aiZ at h;split at h <;> first | (cases h;done) | skip
 ·rename_i r g off esz len cap ex;split at h <;> first | (cases h;done) | skip
  rename_i h1;subst h1;split at h <;> first | (cases h;done) | skip
  rename_i g' ty cells ho;simp only [bQ,zak,zaa] at ho;split at h <;> first | (cases h;done) | skip
  rename_i hcond;obtain⟨rfl,hle⟩:=hcond;cases hb:oh ((cells.drop off).take (len*1)) with
  | none=> rw [hb] at h;cases h
  | some ns=>
   simp only [hb,zak,zaa] at h;subst h;have hc:dw H (.sl r g' off 1 len cap ex)=some ((cells.drop off).take (len*1)):=by simp only [dw,ho];rw [if_pos ⟨trivial,hle⟩]
   have hlen:((cells.drop off).take (len*1)).length=len*1:=by simp;omega
   obtain⟨_,arr,ha,hra⟩:=jB (P:=P) (m:=1) R hx rfl hc hlen;have harr:=yH _ _ ns hra hb;simp only [RV] at hx;obtain⟨b,o,c,rfl,_⟩:=hx;have hl:(loadCells ⟨b,o,none⟩ len).run P w=.ok (ns.map (Value.int .u8)).toArray w:=by
    simp only [Builtin.firstCells,zbI] at ha;rw [ha,<-harr]
   exact⟨run_bytesToString w ⟨b,o,none⟩ len c ns hl,_,_,_,rfl⟩
 ·rename_i n esz cells;split at h <;> first | (cases h;done) | skip
  rename_i h1;subst h1;cases hb:oh cells with
  | none=> simp [hb] at h
  | some ns=>
   simp only [hb,zak,zaa] at h;subst h;have hx':=hx;simp only [RV] at hx;obtain⟨b,o,c,rfl,q1,q2,_⟩:=hx;obtain⟨_,arr,ha,hra⟩:=jB (P:=P) (m:=1) R hx' rfl rfl q2;have harr:=yH _ _ ns hra hb;have hl:(loadCells ⟨b,o,none⟩ n).run P w=.ok (ns.map (Value.int .u8)).toArray w:=by
    simp only [Builtin.firstCells,zbI] at ha;rw [ha,<-harr]
   exact⟨run_bytesToString w ⟨b,o,none⟩ n c ns hl,_,_,_,rfl⟩
 ·simp only [zaa] at h;subst h;simp only [RV] at hx;subst hx;exact⟨by simp [Conv.bytesToString],_,_,_,rfl⟩
theorem V3 {src dst:TypeId}(h:Fb P src dst=true):∃e,P.underlying src=some (.slice e)/\P.underlying dst=some .string/\P.underlying e=some (.int .u8):=by
 unfold Fb at h;split at h <;> first | (cases h;done) | skip
 rename_i e hs hd;split at h <;> first | (cases h;done) | skip
 rename_i he;exact⟨e,hs,hd,he⟩
theorem V4(R:Rel ρ H w){src dst:TypeId}{x:AV}{cx:Value}(hx:RV ρ H.gen w x cx)(h:jW P src dst x H=some (v,H')):H'=H/\OkP P ρ H.gen w (convert src dst cx) v:=by
 obtain⟨h',hh⟩:=uq h
 clear h
 subst hh;have h:=h'
 clear h'
 refine⟨rfl,?_⟩;unfold zf at h;split at h
 ·rename_i hb;obtain⟨e,hs,hd,he⟩:=V3 hb;cases hst:aiZ x ((bQ x).map H'.get) with
  | none=> simp [hst] at h
  | some s=>
   simp only [hst,zak,zaa] at h;subst h;obtain⟨hrun,a,l,c,rfl⟩:=ajg (P:=P) R hx hst;exact⟨.string s,by rw [run_convert_bytes_string w src dst e _ _ _ hs he hd];exact hrun,by simp only [RV]⟩
 ·split at h <;> first | (cases h;done) | skip
  rename_i u hu;rw [I5 x cx u hx hu];cases hp:iP P (convert src dst u) with
  | none=> simp [hp] at h
  | some r=>
   simp only [hp,zak,zaa] at h;subst h;exact⟨r,lQ hp w,by simp only [RV]⟩
theorem Ox {G:Nat->Nat}{x:AV}{cx:Value}(hx:RV ρ G w x cx)(h:aA x=some v):v=x/\(match cx with
  | .pointer none | .nilIface | .nilFunc=> (runtimePanic .nilDeref:Sem Next)
  | .func (.method name) first captured=>
   match(first[0]?:Option Value) with
   | some .nilIface=> runtimePanic .nilDeref
   | some (.iface t w)=> do
    if(<-nilAhead ((<-program).types.size+Made.depth) t w name) !=some false then
     unsupported (.noEntry "op/nilCheck.the method's receiver behind this interface value is a nil pointer, or cannot be seen to be none, and the arguments act or may panic (ledger 612)")
    pure (.value (.func (.method name) first captured))
   | _=> pure (.value (.func (.method name) first captured))
  | x=> pure (.value x)).run P w=.ok (.value cx) w:=by
 unfold aA at h;split at h <;> first | (cases h;done) | skip
 all_goals
  simp only [zaa] at h;subst h;refine⟨rfl,?_⟩;simp only [RV] at hx
 ·obtain⟨a,rfl,_⟩:=hx;rfl
 ·obtain⟨b,o,rfl,_⟩:=hx;rfl
 ·obtain⟨a,c,rfl,_⟩:=hx;rfl
 ·subst hx;rfl
end
def qM(P:Program)(C:aC):Prop:=
 ∀f args H v H',C f args H=some (v,H')->∀(ρ:Ren) (w:World) (kU:Array Value),Rel ρ H w->RVs ρ H.gen w args kU.toList->
  Calls P f kU w λe w'=>∃cv ρ',e=.returned cv/\Rel ρ' H' w'/\RV ρ' H'.gen w' v cv/\Ext ρ H w ρ' H' w'
section
variable {P:Program}{ρ:Ren}{H H':ah}{w:World}{v:AV}
theorem ab4 {o:Oper}{a:Act}{K:Act->World->Prop}{Q:Exit->Act->World->Prop}{s:Sem Value}{cv:Value}{w':World}(he:execOp a.eval o=(do pure (.value (<-s))))(hr:s.run P w=.ok cv w')(hk:K (a.put o.dst cv) w'):
  o.wp P a w K Q:=by
 unfold Oper.wp;rw [he,Sem.run_bind,hr];exact hk
theorem agU {o:Oper}{a:Act}{K:Act->World->Prop}{Q:Exit->Act->World->Prop}{s:Sem Unit}{w':World}(he:execOp a.eval o=(do s;pure .skip))(hr:s.run P w=.ok () w')(hk:K (a.put o.dst undef) w'):
  o.wp P a w K Q:=by
 unfold Oper.wp;rw [he,Sem.run_bind,hr];exact hk
theorem agV {o:Oper}{a:Act}{K:Act->World->Prop}{Q:Exit->Act->World->Prop}{s:Sem Next}{cv:Value}{w':World}(he:execOp a.eval o=s)(hr:s.run P w=.ok (.value cv) w')(hk:K (a.put o.dst cv) w'):
  o.wp P a w K Q:=by
 unfold Oper.wp;rw [he,hr];exact hk
theorem Eb {G:Nat->Nat}:RV ρ G w aY undef:=by
 unfold aY undef;simp only [RV];exact⟨_,rfl,jm⟩
theorem Bh {G:Nat->Nat}{t:fO}{a:Act}:∀(xs:List Operand),(∀x∈xs,RV ρ G w (dO t x) (a.eval x))->RVs ρ G w (xs.map (dO t)) (xs.map a.eval)
 | [],_=> jm
 | x::xs,h=> jh (h x (by simp)) (Bh xs λy hy=> h y (by simp [hy]))
theorem FC {G:Nat->Nat}{t:fO}{a:Act}{x:Option Operand}(h:∀y∈x.toArray,RV ρ G w (dO t y) (a.eval y)):Q5 ρ G w (x.map (dO t)) (x.map a.eval):=by
 cases x with
 | none=> trivial
 | some y=> exact h y (by simp)
theorem Oy {f:FuncId}{args:Array Value}(h:mg P f=true):(callFunc f args).run P w=.ok (.enter f args) w:=by
 unfold mg at h;cases hf:P.funcs[f]? with
 | none=> simp [hf] at h
 | some fn=>
  simp only [hf,zaf,za8] at h;have hb:fn.body.isNone=false:=by
   cases hbd:fn.body with
   | none=> simp [hbd] at h
   | some b=> rfl
  simp only [callFunc,Sem.run_bind,run_program,Result.andThen_ok,hf,h.1,zah,if_false,hb,Sem.run_pure]
theorem agW {C:aC}(hC:qM P C){o:Oper}{c:Call}{f:Operand}(hop:o.op=.call c)(Q8:c.callee=.value f){a:Act}{K:Act->World->Prop}{Q:Exit->Act->World->Prop}{x:AV}{args:List AV}(R:Rel ρ H w)
  (hf:RV ρ H.gen w x (a.eval f)) (hargs:RVs ρ H.gen w args (c.args.map a.eval).toList) (h:rP P C x args H=some (v,H'))
  (hK:∀cv ρ' w',Rel ρ' H' w'->RV ρ' H'.gen w' v cv->Ext ρ H w ρ' H' w'->K (a.put o.dst cv) w'):o.wp P a w K Q:=by
 have key:∀(fid:FuncId) (first captured:Array Value) (xs:List AV),a.eval f=.func (.func fid) first captured->mg P fid=true->C fid xs H=some (v,H')->RVs ρ H.gen w xs (first++c.args.map a.eval++captured).toList->o.wp P a w K Q:=by
  intro fid first captured xs hev hen hc hxs
  have hrun:(execOp a.eval o).run P w=.ok (.enter fid (first++c.args.map a.eval++captured)) w:=by
   unfold execOp;rw [hop];simp only [resolve,Q8,hev,Deferred.ofValue,Sem.run_bind,Sem.run_pure,Result.andThen_ok,invoke];exact Oy hen
  unfold Oper.wp;rw [hrun];refine(hC fid xs H v H' hc ρ w _ R hxs).mono λe w' he=> ?_;obtain⟨cv,ρ',rfl,h1,h2,h3⟩:=he;exact hK cv ρ' w' h1 h2 h3
 unfold rP at h;split at h <;> first | (cases h;done) | skip
 ·rename_i fid first captured
  split at h <;> first | (cases h;done) | skip
  rename_i hen;simp only [RV] at hf;obtain⟨fa,ca,hev,h1,h2⟩:=hf;refine key fid fa ca _ hev hen h ?_;rw [zcc,zcc];exact pY (pY h1 hargs) h2
 ·rename_i fid first captured
  split at h <;> first | (cases h;done) | skip
  rename_i hen;simp only [RV] at hf;refine key fid first captured _ hf hen h ?_
  rw [zcc,zcc];exact pY (pY (gU _) hargs) (gU _)
theorem uy {α:Type}{x:Option α}{u:α}(h:fQ x H=some (u,H')):x=some u/\H'=H:=by
 unfold fQ at h;cases x with
 | none=> cases h
 | some y=> simp only [zak,zaa,zad] at h;exact⟨by rw [h.1],h.2.symm⟩
theorem V5(R:Rel ρ H w){b:Builtin}{ts:Array TypeId}{ty:TypeId}{consts:Array Bool}{args:List AV}{kU:Array Value}(hargs:RVs ρ H.gen w args kU.toList)(h:iI P b ts ty args H=some (v,H')):
  ∃s:Sem Value,builtin b ts ty consts kU=(do pure (.value (<-s)))/\Ok P ρ H w s v H':=by
 have two:∀{x y:AV},args=[x,y]->∃cx cy,kU=#[cx,cy]/\RV ρ H.gen w x cx/\RV ρ H.gen w y cy:=by
  intro x y hxy;subst hxy;obtain⟨cx,l,e,h1,h2⟩:=(by simpa only [RVs] using hargs)
  obtain⟨cy,l',e',h3,h4⟩:=(by simpa only [RVs] using h2)
  subst e' h4;exact⟨cx,cy,zce.1 (by simpa using e),h1,h3⟩
 have one:∀{x:AV},args=[x]->∃cx,kU=#[cx]/\RV ρ H.gen w x cx:=by
  intro x hxy;subst hxy;obtain⟨cx,l,e,h1,h2⟩:=(by simpa only [RVs] using hargs)
  subst h2;exact⟨cx,zce.1 (by simpa using e),h1⟩
 have tys:∀{l:List TypeId},ts.toList=l->ts=l.toArray:=λh=> by rw [<-h]
 unfold iI at h;split at h
 ·rename_i t u x y hts;obtain⟨cx,cy,rfl,h1,h2⟩:=two rfl;rw [tys hts];exact⟨_,rfl,Ya R h1 h2 h⟩
 ·rename_i t x hts;obtain⟨cx,rfl,h1⟩:=one rfl;rw [tys hts];obtain⟨rfl,h2⟩:=ajd (ty:=ty) R h1 h;exact⟨_,rfl,h2.ok R⟩
 ·rename_i t x hts;obtain⟨cx,rfl,h1⟩:=one rfl;rw [tys hts];unfold fQ at h;cases hc:ad7 P t x with
  | none=> simp [hc] at h
  | some u=>
   simp only [hc,zak,zaa,zad] at h;obtain⟨rfl,rfl⟩:=h;exact⟨_,rfl,(aje (ty:=ty) h1 hc).ok R⟩
 ·rename_i t ts' x y hts;obtain⟨cx,cy,rfl,h1,h2⟩:=two rfl;exact⟨_,rfl,agT R (by rw [tys hts];rfl) h1 h2 h⟩
 ·rename_i t x hts;obtain⟨cx,rfl,h1⟩:=one rfl;rw [tys hts];exact⟨_,rfl,ab3 R h1 h⟩
 ·rename_i t ts' x y hts;obtain⟨cx,cy,rfl,h1,h2⟩:=two rfl;exact⟨_,rfl,X8 R (by rw [tys hts];rfl) h1 h2 h⟩
 ·obtain⟨hc,rfl⟩:=uy h;have:=Ov hargs hc;simp only [if_true] at this;exact⟨_,rfl,this.ok R⟩
 ·obtain⟨hc,rfl⟩:=uy h;have:=Ov hargs hc;simp only [zah,if_false] at this;exact⟨_,rfl,this.ok R⟩
 ·cases h
theorem KP {G:Nat->Nat}{t:fO}{a:Act}(ps:Array (Nat × Operand))(h:∀x∈(ps.toList.map (·.2)).toArray,RV ρ G w (dO t x) (a.eval x)):
  (ps.toList.map λp=> (p.1,dO t p.2)).map (·.1)=((ps.map λ(i,x)=> (i,a.eval x)).toList).map (·.1)/\RVs ρ G w ((ps.toList.map λp=> (p.1,dO t p.2)).map (·.2)) (((ps.map λ(i,x)=> (i,a.eval x)).toList).map (·.2)):=by
 refine⟨by simp [Function.comp_def],?_⟩;have h1:(ps.toList.map λp=> (p.1,dO t p.2)).map (·.2)=(ps.toList.map (·.2)).map (dO t):=by simp [Function.comp_def]
 have h2:((ps.map λ(i,x)=> (i,a.eval x)).toList).map (·.2)=(ps.toList.map (·.2)).map a.eval:=by simp [Function.comp_def]
 rw [h1,h2];exact Bh _ λx hx=> h x (by simpa using hx)
theorem KQ {C:aC}(hC:qM P C){t:fO}{o:Oper}(h:opA P C t o H=some (v,H'))(R:Rel ρ H w){a:Act}(hop:∀x∈o.op.operands,RV ρ H.gen w (dO t x) (a.eval x)){K:Act->World->Prop}{Q:Exit->Act->World->Prop}
  (hK:∀cv ρ' w',Rel ρ' H' w'->RV ρ' H'.gen w' v cv->Ext ρ H w ρ' H' w'->K (a.put o.dst cv) w'):o.wp P a w K Q:=by
 obtain⟨dst,op,type,pos,after,guard⟩:=o;simp only at hop hK;have Q9:∀{s:Sem Value},execOp a.eval ⟨dst,op,type,pos,after,guard⟩=(do pure (.value (<-s)))->Ok P ρ H w s v H'->(⟨dst,op,type,pos,after,guard⟩:Oper).wp P a w K Q:=by
  intro s he hok;obtain⟨cv,ρ',w',h1,h2,h3,h4⟩:=hok;exact ab4 he h1 (hK cv ρ' w' h2 h3 h4)
 have ajh:∀{s:Sem Value},execOp a.eval ⟨dst,op,type,pos,after,guard⟩=(do pure (.value (<-s)))->H'=H->OkP P ρ H.gen w s v->(⟨dst,op,type,pos,after,guard⟩:Oper).wp P a w K Q:=by
  intro s he hh hok;subst hh;exact Q9 he (hok.ok R)
 have ap6:∀{s:Sem Unit},execOp a.eval ⟨dst,op,type,pos,after,guard⟩=(do s;pure .skip)->(v=aY/\∃ρ' w',s.run P w=.ok () w'/\Rel ρ' H' w'/\Ext ρ H w ρ' H' w')->(⟨dst,op,type,pos,after,guard⟩:Oper).wp P a w K Q:=by
  intro s he hok;obtain⟨rfl,ρ',w',h1,h2,h3⟩:=hok;exact agU he h1 (hK undef ρ' w' h2 Eb h3)
 have XO:∀{s:Sem Value} {x:Option AV},execOp a.eval ⟨dst,op,type,pos,after,guard⟩=(do pure (.value (<-s)))->fQ x H=some (v,H')->(x=some v->OkP P ρ H.gen w s v)->(⟨dst,op,type,pos,after,guard⟩:Oper).wp P a w K Q:=by
  intro s x he hl hok;obtain⟨h1,h2⟩:=uy hl;exact ajh he h2 (hok h1)
 have i1:∀{x:Operand},op.operands=#[x]->RV ρ H.gen w (dO t x) (a.eval x):=λhe=> hop _ (by rw [he];simp);have i2:∀{x y:Operand},op.operands=#[x,y]->RV ρ H.gen w (dO t x) (a.eval x)/\RV ρ H.gen w (dO t y) (a.eval y):=λhe=> ⟨hop _ (by rw [he];simp),hop _ (by rw [he];simp)⟩
 have i3:∀{x y z:Operand},op.operands=#[x,y,z]->RV ρ H.gen w (dO t x) (a.eval x)/\RV ρ H.gen w (dO t y) (a.eval y)/\RV ρ H.gen w (dO t z) (a.eval z):=λhe=> ⟨hop _ (by rw [he];simp),hop _ (by rw [he];simp),hop _ (by rw [he];simp)⟩
 cases op with
 | move x=>
  refine XO (s:=pure (a.eval x)) rfl h λhx=> ?_;cases hx;exact⟨_,rfl,i1 rfl⟩
 | assign x=>
  refine XO (s:=pure (a.eval x)) rfl h λhx=> ?_;cases hx;exact⟨_,rfl,i1 rfl⟩
 | pick c x y=>
  obtain⟨h1,h2,h3⟩:=i3 rfl;refine XO (s:=do pure (if<-asBool (a.eval c) then a.eval x else a.eval y)) ?_ h λhx=> agQ h1 h2 h3 hx;simp [execOp]
 | alloc e=> exact Q9 rfl (abU R h)
 | box e x=> exact Q9 rfl (aja R (i1 rfl) h)
 | build ty ps=>
  obtain⟨h1,h2⟩:=KP (ρ:=ρ) (w:=w) (G:=H.gen) (t:=t) (a:=a) ps hop;exact XO rfl h λhx=> abY h1 h2 hx
 | buildSlice ty n ps=>
  obtain⟨h1,h2⟩:=KP (ρ:=ρ) (w:=w) (G:=H.gen) (t:=t) (a:=a) ps hop;exact Q9 rfl (KJ R h1 h2 h)
 | load ty x=>
  obtain⟨h1,h2⟩:=X4 R (i1 rfl) h;exact ajh rfl h1 h2
 | store ty x y=>
  obtain⟨h1,h2⟩:=i2 rfl;exact ap6 rfl (abT R h1 h2 h)
 | nilCheck x=>
  obtain⟨h1,h2⟩:=uy h;subst h2;obtain⟨rfl,h3⟩:=Ox (P:=P) (i1 rfl) h1;exact agV rfl h3 (hK _ ρ w R (i1 rfl) (Ext.refl _ _ _))
 | binOp b ty x y ty'=>
  obtain⟨h1,h2⟩:=i2 rfl;exact XO rfl h λhx=> agR h1 h2 (λhn=> by rw [Oo hn];rfl) hx
 | unOp b ty x=> exact XO rfl h λhx=> aoo (i1 rfl) hx
 | convert src dst x=>
  obtain⟨h1,h2⟩:=V4 R (i1 rfl) h;exact ajh rfl h1 h2
 | makeFunc f fs cs=>
  refine XO (s:=Instr.makeFunc f (fs.map a.eval) (cs.map a.eval)) rfl h λhx=> ?_;cases hx;refine⟨_,rfl,?_⟩;simp only [RV];refine⟨_,_,rfl,?_,?_⟩
  ·rw [zde];exact Bh _ λx hx=> hop x (by simp [Op.operands];exact .inl (by simpa using hx))
  ·rw [zde];exact Bh _ λx hx=> hop x (by simp [Op.operands];exact .inr (by simpa using hx))
 | makeMap ty r=>
  cases r with
  | none=> exact Q9 rfl (VZ R h)
  | some r=> cases h
 | makeSlice ty l c=>
  obtain⟨h1,h2⟩:=i2 rfl;exact Q9 rfl (Oq R h1 h2 h)
 | slice ty x lo hi mx=>
  have hx0:RV ρ H.gen w (dO t x) (a.eval x):=hop x (by simp [Op.operands]);have hlo:Q5 ρ H.gen w (lo.map (dO t)) (lo.map a.eval):=FC λy hy=> hop y (by simp [Op.operands] at hy ⊢;simp [hy]);have hhi:Q5 ρ H.gen w (hi.map (dO t)) (hi.map a.eval):=FC λy hy=> hop y (by simp [Op.operands] at hy ⊢;simp [hy]);have hmx:Q5 ρ H.gen w (mx.map (dO t)) (mx.map a.eval):=FC λy hy=> hop y (by simp [Op.operands] at hy ⊢;simp [hy]);exact XO rfl h λhh=> abX hx0 hlo hhi hmx hh
 | fieldAddr ty x i=> exact XO rfl h λhx=> Ol (i1 rfl) hx
 | field ty x i=> exact XO rfl h λhx=> abV (i1 rfl) hx
 | indexAddr ty x i=>
  obtain⟨h1,h2⟩:=i2 rfl;obtain⟨h3,h4⟩:=Om R h1 h2 h;exact ajh rfl h3 h4
 | index ty x i=>
  obtain⟨h1,h2⟩:=i2 rfl;exact XO rfl h λhx=> abW h1 h2 hx
 | lookup ty x i ok=>
  obtain⟨h1,h2⟩:=i2 rfl;obtain⟨h3,h4⟩:=X7 R h1 h2 h;exact ajh rfl h3 h4
 | mapUpdate ty m k x=>
  obtain⟨h1,h2,h3⟩:=i3 rfl;exact ap6 rfl (Ou R h1 h2 h3 h)
 | extract x i=> exact XO rfl h λhx=> VX (i1 rfl) hx
 | call c=>
  simp only [opA,vU] at h;split at h
  ·rename_i f Q8;have hargs:RVs ρ H.gen w (c.args.toList.map (dO t)) (c.args.map a.eval).toList:=by
    rw [zde];exact Bh _ λx hx=> hop x (by simp [Op.operands,Call.operands,Q8];exact .inr (by simpa using hx))
   exact agW hC rfl Q8 R (hop f (by simp [Op.operands,Call.operands,Q8])) hargs h hK
  ·rename_i b Q8;have hargs:RVs ρ H.gen w (c.args.toList.map (dO t)) (c.args.map a.eval).toList:=by
    rw [zde];exact Bh _ λx hx=> hop x (by simp [Op.operands,Call.operands,Q8];simpa using hx)
   obtain⟨s,h1,h2⟩:=V5 (P:=P) (consts:=c.args.map fun | .const _=> true | _=> false) R hargs h;refine Q9 (s:=s) ?_ h2;rw [<-h1];simp only [execOp,resolve,Q8];rfl
  ·cases h
 | _=> cases h
end
def Yc(o o':fU):Prop:=∀g ty c,o=.blk g ty c->∃g' ty' c',o'=.blk g' ty' c'/\(ty'=ty∨gV<=ty')
theorem Yc.refl(o:fU):Yc o o:=λg ty c h=> ⟨g,ty,c,h,.inl rfl⟩
theorem Yc.trans {a b c:fU}(h:Yc a b)(h':Yc b c):Yc a c:=λg ty cs e=> by
 obtain⟨g1,t1,c1,e1,k1⟩:=h g ty cs e;obtain⟨g2,t2,c2,e2,k2⟩:=h' g1 t1 c1 e1;refine⟨g2,t2,c2,e2,?_⟩;rcases k2 with rfl | k2
 ·exact k1
 ·exact .inr k2
theorem zk {o:fU}{g g' ty:Nat}{c c':List AV}(h:o=.blk g ty c):Yc o (.blk g' ty c'):=λ_ _ _ e=> by
 rw [h] at e;cases e;exact⟨_,_,_,rfl,.inl rfl⟩
theorem Ub {o:fU}{g' ty':Nat}{c':List AV}(h:gV<=ty'):Yc o (.blk g' ty' c'):=λ_ _ _ _=> ⟨_,_,_,rfl,.inr h⟩
theorem Uc {o o':fU}{k:IntKind}{es:List (Int × AV)}(h:o=.map k es):Yc o o':=λ_ _ _ e=> by rw [h] at e;cases e
theorem Ud {e ty off:Nat}:gV<=grT e ty off:=by
 unfold grT;split <;> omega
structure Keeps(H H':ah):Prop where
 base:H'.base=H.base
 next:H.next<=H'.next
 get:∀r,r < H.base->r < H.next->H'.get r=H.get r
 types:∀r,r < H.next->Yc (H.get r) (H'.get r)
theorem Keeps.refl(H:ah):Keeps H H:=⟨rfl,zac _,λ_ _ _=> rfl,λ_ _=> .refl _⟩
theorem Keeps.trans {H H' H'':ah}(a:Keeps H H')(b:Keeps H' H''):Keeps H H'':=
 ⟨b.base.trans a.base,zau a.next b.next,λr h1 h2=> (b.get r (by rw [a.base];exact h1) (zav h2 a.next)).trans (a.get r h1 h2),λr h=> (a.types r h).trans (b.types r (zav h a.next))⟩
theorem Keeps.new(H:ah)(o:fU):Keeps H (H.new o):=⟨rfl,by simp [ah.new],λr _ h=> by simp [ah.new];intro e;omega,λr h=> by
 have:(H.new o).get r=H.get r:=by simp [ah.new];intro e;omega
 rw [this];exact .refl _⟩
theorem Keeps.put {H:ah}{r:Nat}(o:fU)(h:H.base<=r)(ho:Yc (H.get r) o):Keeps H (H.put r o):=⟨rfl,zac _,λx h1 _=> by simp [ah.put];intro e;omega,λx _=> by
 by_cases e:x=r
 ·subst e;simp only [ah.put,if_true];exact ho
 ·simp only [ah.put,e,if_false];exact .refl _⟩
def kG(C:aC):Prop:=∀f args H v H',C f args H=some (v,H')->Keeps H H'
def Rf(H H':ah):Prop:=H'.base=H.base/\H.next<=H'.next/\∀r,r < H.next->H'.get r=H.get r
section
variable {P:Program}{C:aC}{t:fO}{o:Oper}{H H':ah}{v:AV}
theorem sQ {e:TypeId}{m b n:Nat}{x:AV}{new:List AV}(h:dW e m b x n new H=some (v,H')):Keeps H H':=by
 unfold dW at h;split at h <;> first | (cases h;done) | skip
 split at h <;> first | (cases h;done) | skip
 ·split at h
  ·simp only [zaa,zad] at h;rw [<-h.2];exact .refl _
  ·split at h <;> first | (cases h;done) | skip
   simp only [zaa,zad] at h;rw [<-h.2];exact .new _ _
 ·split at h <;> first | (cases h;done) | skip
  split at h <;> first | (cases h;done) | skip
  split at h
  ·simp only [zaa,zad] at h;rw [<-h.2];exact .refl _
  ·split at h
   ·split at h <;> first | (cases h;done) | skip
    rename_i hc;simp only [zaa,zad] at h;rw [<-h.2];exact .put _ hc.1 (by first | exact Ub Ud | exact zk (by assumption))
   ·split at h <;> first | (cases h;done) | skip
    split at h
    ·simp only [zaa,zad] at h;rw [<-h.2];exact .new _ _
    ·split at h <;> first | (cases h;done) | skip
     rename_i hc;simp only [zaa,zad] at h;rw [<-h.2];exact .put _ hc (by first | exact Ub Ud | exact zk (by assumption))
theorem V6(hf:qP o.op=true):∃F:Option fU->Option AV,(Ky o.op=false->∀a b,F a=F b)/\∀H:ah,opA P C t o H=(F ((kZ t o.op).map H.get)).map λv=> (v,H):=by
 obtain⟨dst,op,type,pos,after,guard⟩:=o;have lift:∀{x:Option AV},opA P C t ⟨dst,op,type,pos,after,guard⟩=fQ x->∃F:Option fU->Option AV,(Ky op=false->∀a b,F a=F b)/\∀H:ah,opA P C t ⟨dst,op,type,pos,after,guard⟩ H=(F ((kZ t op).map H.get)).map λv=> (v,H):=
  λ{x} he=> ⟨λ_=> x,λ_ _ _=> rfl,λH=> by rw [he];rfl⟩
 cases op with
 | move x=> exact lift rfl
 | assign x=> exact lift rfl
 | pick c a b=> exact lift rfl
 | build ty ps=> exact lift rfl
 | nilCheck x=> exact lift rfl
 | binOp b ty x y ty'=> exact lift rfl
 | unOp b ty x=> exact lift rfl
 | makeFunc f a c=> exact lift rfl
 | slice ty x lo hi mx=> exact lift rfl
 | fieldAddr ty x i=> exact lift rfl
 | field ty x i=> exact lift rfl
 | index ty x i=> exact lift rfl
 | extract x i=> exact lift rfl
 | load ty x=> exact⟨_,(λh=> by cases h),λH=> rfl⟩
 | lookup ty x i ok=> exact⟨_,(λh=> by cases h),λH=> rfl⟩
 | indexAddr ty x i=> exact⟨_,(λh=> by cases h),λH=> rfl⟩
 | convert src dst x=> exact⟨_,(λh=> by cases h),λH=> rfl⟩
 | call c=>
  have aji:∀H,opA P C t ⟨dst,.call c,type,pos,after,guard⟩ H=vU P C t c type H:=λ_=> rfl;simp only [qP] at hf;cases Q8:c.callee with
  | value f=> simp [Q8] at hf
  | invoke r m=> simp [Q8] at hf
  | builtin b=>
   have hb:∀H,vU P C t c type H=iI P b c.argTypes type (c.args.toList.map (dO t)) H:=λH=> by simp only [vU,Q8]
   have none':(∀H,iI P b c.argTypes type (c.args.toList.map (dO t)) H=none)->∃F:Option fU->Option AV,(Ky (.call c)=false->∀a b,F a=F b)/\∀H:ah,opA P C t ⟨dst,.call c,type,pos,after,guard⟩ H=(F ((kZ t (.call c)).map H.get)).map λv=> (v,H):=
    λhn=> ⟨λ_=> none,λ_ _ _=> rfl,λH=> by rw [aji,hb,hn];rfl⟩
   have lift':∀x,(∀H,iI P b c.argTypes type (c.args.toList.map (dO t)) H=fQ x H)->∃F:Option fU->Option AV,(Ky (.call c)=false->∀a b,F a=F b)/\∀H:ah,opA P C t ⟨dst,.call c,type,pos,after,guard⟩ H=(F ((kZ t (.call c)).map H.get)).map λv=> (v,H):=
    λx hn=> ⟨λ_=> x,λ_ _ _=> rfl,λH=> by rw [aji,hb,hn];rfl⟩
   cases b with
   | len=>
    cases hts:c.argTypes.toList with
    | nil=> exact none' λH=> by simp only [iI,hts]
    | cons u us=>
     cases us with
     | cons u2 us=> exact none' λH=> by simp only [iI,hts]
     | nil=>
      cases hcl:c.args.toList with
      | nil=> exact none' λH=> by simp only [iI,hts,hcl,zbC]
      | cons y ys=>
       cases ys with
       | cons z zs=> exact none' λH=> by simp only [iI,hts,hcl,zaw]
       | nil=>
        refine⟨an1 P u (dO t y),(λh=> by simp [Ky,Q8] at h),λH=> ?_⟩;rw [aji,hb];simp only [iI,hts,hcl,zaw,zbC,ai8,kF,kZ]
   | cap=>
    cases hts:c.argTypes.toList with
    | nil=> exact none' λH=> by simp only [iI,hts]
    | cons u us=>
     cases us with
     | cons u2 us=> exact none' λH=> by simp only [iI,hts]
     | nil=>
      cases hcl:c.args.toList with
      | nil=> exact none' λH=> by simp only [iI,hts,hcl,zbC]
      | cons y ys=>
       cases ys with
       | cons z zs=> exact none' λH=> by simp only [iI,hts,hcl,zaw]
       | nil=> exact lift' (ad7 P u (dO t y)) λH=> by simp only [iI,hts,hcl,zaw,zbC]
   | max=> exact lift' (lK P true c.argTypes type (c.args.toList.map (dO t))) λH=> rfl
   | min=> exact lift' (lK P false c.argTypes type (c.args.toList.map (dO t))) λH=> rfl
   | _=> simp [Q8] at hf
 | _=> cases hf
theorem KR(hf:qP o.op=true)(h:opA P C t o H=some (v,H')):H'=H/\∀H2:ah,(Ky o.op=true->∀r,kZ t o.op=some r->H2.get r=H.get r)->opA P C t o H2=some (v,H2):=by
 obtain⟨F,h1,h2⟩:=V6 (P:=P) (C:=C) (t:=t) hf;rw [h2] at h;cases hF:F ((kZ t o.op).map H.get) with
 | none=> rw [hF] at h;cases h
 | some u=>
  rw [hF] at h;simp only [zak,zaa,zad] at h;refine⟨h.2.symm,λH2 hw=> ?_⟩;rw [h2];have:F ((kZ t o.op).map H2.get)=F ((kZ t o.op).map H.get):=by
   cases hl:Ky o.op with
   | false=> exact h1 hl _ _
   | true=>
    cases hwa:kZ t o.op with
    | none=> rfl
    | some r=> simp only [zak,hw hl r hwa]
  rw [this,hF,h.1];rfl
theorem Rh(hC:kG C){f:AV}{args:List AV}(h:rP P C f args H=some (v,H')):Keeps H H':=by
 unfold rP at h;split at h <;> first | (cases h;done) | skip
 ·split at h <;> first | (cases h;done) | skip
  exact hC _ _ _ _ _ h
 ·split at h <;> first | (cases h;done) | skip
  exact hC _ _ _ _ _ h
theorem Ec(hC:kG C)(h:opA P C t o H=some (v,H')):Keeps H H':=by
 by_cases hf:qP o.op=true
 ·rw [(KR hf h).1];exact .refl _
 obtain⟨dst,op,type,pos,after,guard⟩:=o;cases op with
 | alloc e=>
  simp only [opA,IZ] at h;split at h <;> first | (cases h;done) | skip
  split at h <;> first | (cases h;done) | skip
  simp only [zaa,zad] at h;rw [<-h.2];exact .new _ _
 | box e x=>
  simp only [opA,jc] at h;split at h <;> first | (cases h;done) | skip
  simp only [zaa,zad] at h;rw [<-h.2];exact .new _ _
 | buildSlice ty n ps=>
  simp only [opA,dP] at h;split at h <;> first | (cases h;done) | skip
  split at h <;> first | (cases h;done) | skip
  split at h <;> first | (cases h;done) | skip
  split at h <;> first | (cases h;done) | skip
  split at h <;> first | (cases h;done) | skip
  simp only [zaa,zad] at h;rw [<-h.2];exact .new _ _
 | store ty x y=>
  simp only [opA,Oc] at h;split at h <;> first | (cases h;done) | skip
  split at h <;> first | (cases h;done) | skip
  split at h <;> first | (cases h;done) | skip
  rename_i hc;simp only [zaa,zad] at h;rw [<-h.2];exact .put _ hc.2.1 (zk (by assumption))
 | makeMap ty r=>
  cases r with
  | none=>
   simp only [opA,wY] at h;split at h <;> first | (cases h;done) | skip
   simp only [zaa,zad] at h;rw [<-h.2];exact .new _ _
  | some r=> cases h
 | makeSlice ty l c=>
  simp only [opA,pX] at h;split at h <;> first | (cases h;done) | skip
  split at h <;> first | (cases h;done) | skip
  split at h <;> first | (cases h;done) | skip
  simp only [zaa,zad] at h;rw [<-h.2];exact .new _ _
 | mapUpdate ty m k x=>
  simp only [opA,sK] at h;split at h <;> first | (cases h;done) | skip
  split at h <;> first | (cases h;done) | skip
  split at h <;> first | (cases h;done) | skip
  rename_i hc;simp only [zaa,zad] at h;rw [<-h.2];exact .put _ hc.2.2 (Uc (by assumption))
 | call c=>
  have aji:opA P C t ⟨dst,.call c,type,pos,after,guard⟩=vU P C t c type:=rfl;rw [aji] at h;unfold vU at h;split at h <;> first | (cases h;done) | skip
  ·exact Rh hC h
  ·unfold iI at h;split at h <;> first | (cases h;done) | skip
   ·unfold Kv at h;split at h <;> first | (cases h;done) | skip
    split at h <;> first | (cases h;done) | skip
    split at h <;> first | (cases h;done) | skip
    split at h
    ·split at h <;> first | (cases h;done) | skip
     split at h <;> first | (cases h;done) | skip
     exact sQ h
    ·split at h <;> first | (cases h;done) | skip
     exact sQ h
   ·rw [(uq h).2];exact .refl _
   ·rw [(uy h).2];exact .refl _
   ·unfold abO at h;split at h <;> first | (cases h;done) | skip
    split at h <;> first | (cases h;done) | skip
    simp only at h;split at h <;> first | (cases h;done) | skip
    split at h
    ·split at h <;> first | (cases h;done) | skip
     simp only [zaa,zad] at h;rw [<-h.2];exact .refl _
    ·split at h <;> first | (cases h;done) | skip
     split at h <;> first | (cases h;done) | skip
     split at h <;> first | (cases h;done) | skip
     rename_i hc;simp only [zaa,zad] at h;rw [<-h.2];exact .put _ hc.2.2.1 (zk (by assumption))
   ·unfold TV at h;split at h <;> first | (cases h;done) | skip
    split at h <;> first | (cases h;done) | skip
    ·split at h
     ·simp only [zaa,zad] at h;rw [<-h.2];exact .refl _
     ·split at h <;> first | (cases h;done) | skip
      split at h <;> first | (cases h;done) | skip
      rename_i hc;simp only [zaa,zad] at h;rw [<-h.2];exact .put _ hc.2.2.1 (zk (by assumption))
    ·simp only [zaa,zad] at h;rw [<-h.2];exact .refl _
   ·unfold Kw at h;split at h <;> first | (cases h;done) | skip
    split at h <;> first | (cases h;done) | skip
    split at h <;> first | (cases h;done) | skip
    rename_i hc;simp only [zaa,zad] at h;rw [<-h.2];exact .put _ hc.2.2 (Uc (by assumption))
   ·rw [(uy h).2];exact .refl _
   ·rw [(uy h).2];exact .refl _
 | _=> first | (cases h;done) | exact absurd rfl hf
theorem Rf.new(H:ah)(o:fU):Rf H (H.new o):=⟨rfl,by simp [ah.new],λr h=> by simp [ah.new];intro e;omega⟩
theorem Ri(hq:uh o.op=true)(hc:lW o.op=false)(h:opA P C t o H=some (v,H')):Rf H H':=by
 obtain⟨dst,op,type,pos,after,guard⟩:=o;cases op with
 | box e x=>
  simp only [opA,jc] at h;split at h <;> first | (cases h;done) | skip
  simp only [zaa,zad] at h;rw [<-h.2];exact .new _ _
 | buildSlice ty n ps=>
  simp only [opA,dP] at h;split at h <;> first | (cases h;done) | skip
  split at h <;> first | (cases h;done) | skip
  split at h <;> first | (cases h;done) | skip
  split at h <;> first | (cases h;done) | skip
  split at h <;> first | (cases h;done) | skip
  simp only [zaa,zad] at h;rw [<-h.2];exact .new _ _
 | makeMap ty r=>
  cases r with
  | none=>
   simp only [opA,wY] at h;split at h <;> first | (cases h;done) | skip
   simp only [zaa,zad] at h;rw [<-h.2];exact .new _ _
  | some r=> cases h
 | makeSlice ty l c=>
  simp only [opA,pX] at h;split at h <;> first | (cases h;done) | skip
  split at h <;> first | (cases h;done) | skip
  split at h <;> first | (cases h;done) | skip
  simp only [zaa,zad] at h;rw [<-h.2];exact .new _ _
 | call c=>
  simp only [uh] at hq;simp only [lW] at hc;cases Q8:c.callee <;> simp_all
 | _=> cases hq
theorem FD(hC:kG C)(h:opG P C t o H=some (v,H')):Rf H H'/\∃H1,opA P C t o H.guard=some (v,H1)/\H'={ H1 with base:=H.base }:=by
 unfold opG at h;split at h <;> first | (cases h;done) | skip
 rename_i u H1 h1;simp only [zaa,zad] at h;obtain⟨rfl,rfl⟩:=h;have hk:=Ec hC h1;exact⟨⟨rfl,hk.next,λr hr=> hk.get r hr hr⟩,H1,h1,rfl⟩
theorem ab5(hc:D7 o.op=true)(h:opA P C t o H=some (v,H')):
  ∃(ty:TypeId) (z:List AV) (mk:Nat->AV),v=mk H.next/\H'=H.new (.blk 0 ty z)/\
   ∀(ρ:Ren) (G:Nat->Nat) (w:World) (a:Act),∃(cs:Array Value) (cv:Value),(execOp a.eval o).run P w=.ok (.value cv) (w.alloc (.cells cs ty))/\(RVs ρ G w z cs.toList/\ty < gV)/\
    ∀(ρ':Ren) (G':Nat->Nat) (r:Nat),G' r=0->ρ' r=some (w.heap.size,0)->RV ρ' G' (w.alloc (.cells cs ty)) (mk r) cv:=by
 obtain⟨dst,op,type,pos,after,guard⟩:=o;cases op with
 | alloc e=>
  simp only [opA,IZ,xR] at h;cases hz:y8 P e with
  | none=> simp [hz] at h
  | some z=>
   simp only [hz,zak] at h;split at h <;> first | (cases h;done) | skip
   simp only [zaa,zad] at h;refine⟨e,_,λr=> .ref r 0 0,h.1.symm,h.2.symm,fun ρ G w a=> ⟨z.cells,.pointer (some ⟨w.heap.size,0,none⟩),?_,⟨gU _,um hz⟩,fun ρ' G' r hg hr=> ?_⟩⟩
   ·simp [execOp,Instr.alloc,gu hz,newVar,newRow]
   ·simp only [RV];exact⟨_,rfl,by omega,λ_=> ⟨_,0,hr,by simp⟩⟩
 | buildSlice ty n ps=>
  simp only [D7] at hc;simp only [opA] at h;have hparts:∀(a:Act) (p:Nat × Operand),p∈ps.toList->∃u,p.2=.const u:=by
   intro a p hp;have:=zcB.1 hc p (by simpa using hp);cases hp2:p.2 with
   | const u=> exact⟨u,rfl⟩
   | _=> rw [hp2] at this;cases this
  have hev:∀(ρ:Ren) (G:Nat->Nat) (w:World) (a:Act),∀x∈(ps.toList.map (·.2)).toArray,RV ρ G w (dO t x) (a.eval x):=by
   intro ρ G w a x hx;simp only [List.mem_toArray,zaH] at hx;obtain⟨p,hp,rfl⟩:=hx;obtain⟨u,hu⟩:=hparts a p hp;rw [hu];simp only [dO,Act.eval,RV]
  unfold dP at h;cases he:y7 P ty with
  | none=> simp [he] at h
  | some e=>
   simp only [he] at h;cases hs:szT P e with
   | none=> simp [hs] at h
   | some m=>
    cases hz:xR P e with
    | none=> simp [hs,hz] at h
    | some z=>
     simp only [hs,hz] at h;obtain⟨zv,hzv,rfl⟩:=zi hz;split at h <;> first | (cases h;done) | skip
     rename_i hcond;obtain⟨hzl,hbig⟩:=hcond;simp at hzl;split at h <;> first | (cases h;done) | skip
     rename_i cells hf;split at h <;> first | (cases h;done) | skip
     simp only [zaa,zad] at h;refine⟨e,cells,λr=> .sl r 0 0 m n n true,h.1.symm,h.2.symm,fun ρ G w a=> ?_⟩;obtain⟨hi,hp⟩:=KP (ρ:=ρ) (w:=w) (G:=G) (t:=t) (a:=a) ps (hev ρ G w a);obtain⟨zc,hzr,hz0⟩:∃zc:Array Value,RVs ρ G w (dY (zv.cells.toList.map .s) n) ((Array.range (n*m)).map (zc[· % zc.size]!)).toList/\((n*m=0/\zc=#[])∨(¬n*m=0/\zc=zv.cells)):=by
      by_cases h0:n*m=0
      ·refine⟨#[],?_,.inl ⟨h0,rfl⟩⟩;rw [h0];have:dY (zv.cells.toList.map .s) n=[]:=zas (by rw [iU];simp [hzl,h0]);rw [this];simp [RVs]
      ·refine⟨zv.cells,?_,.inr ⟨h0,rfl⟩⟩;have:=vX (ρ:=ρ) (G:=G) (w:=w) zv n;rw [hzl] at this ⊢;exact this
     obtain⟨cs,h1,h2⟩:=Fz _ _ _ _ cells hi hp hzr hf;have hfl:cs.size=n*m:=by
      have hsz:∀(place:Nat->Option (Nat × Nat)) (l:List (Nat × Value)) (a b:Array Value),Instr.fill place a l=some b->b.size=a.size:=by
       intro place l
       induction l with
       | nil=> intro a b h;simp [Instr.fill] at h;rw [h]
       | cons p l ih=>
        intro a b h;obtain⟨i,x⟩:=p;simp only [Instr.fill] at h;split at h
        ·cases h
        ·split at h
         ·cases h
         ·rw [ih _ _ h,<-zcA,zds,xg,eH]
      rw [hsz _ _ _ _ h1];simp
     refine⟨cs,.slice (some ⟨w.heap.size,0,none⟩) n n,?_,⟨h2,um hzv⟩,fun ρ' G' r hg hr=> ?_⟩
     ·have hnb:¬n*m > 2 ^ 24:=by omega
      simp only [execOp,Instr.buildSlice,Sem.run_bind,run_underlying (oC he),Result.andThen_ok,eP hs,hnb,if_false];rcases hz0 with⟨h0,rfl⟩ | ⟨h0,rfl⟩
      ·rw [if_pos h0];simp only [Result.andThen_ok,h1,Sem.run_bind,newRow,run_newObj,Sem.run_pure];rfl
      ·rw [if_neg h0];simp only [Result.andThen_ok,h1,Sem.run_bind,newRow,run_newObj,Sem.run_pure,gu hzv];rfl
     ·simp only [RV];refine⟨w.heap.size,0,n,rfl,zac _,zac _,λ_=> rfl,by omega,λ_=> ⟨0,e,cs.size,hr,λ_=> rfl,?_,by rw [hfl];omega⟩⟩;rw [fB,jM];rfl
 | _=> cases hc
end
theorem uz {ops:List Oper}{L:Nat->Prop}(hdown:∀j o,ops[j]?=some o->L j->∀e∈o.after,Region.binds .any e=true->L e.on):
  ∀i j,mD ops i j=true->L j->L i:=by
 have key:∀(l pre:List Oper) (acc:Array Nat),pre.length=acc.size->(∀i j,(acc.getD j 0).testBit i=true->(pre++l=ops)->L j->L i)->pre++l=ops->
   ∀i j,((l.foldl (init:=acc) λacc o=> acc.push (o.after.foldl (λs e=> if Region.binds .any e then s ||| 2 ^ e.on ||| acc.getD e.on 0 else s) 0)).getD j 0).testBit i=true->L j->L i:=by
  intro l
  induction l with
  | nil=>
   intro pre acc _ h he i j hb hl;exact h i j hb he hl
  | cons o l ih=>
   intro pre acc hsz h he i j hb hl;simp only [zbJ] at hb;refine ih (pre++[o]) _ (by simp [hsz]) ?_ (by simpa using he) i j hb hl;intro i j hb he' hl;by_cases hj:j < acc.size
   ·refine h i j ?_ he hl
    simpa [Array.getD,hj,Nat.lt_succ_of_lt hj,Array.getElem_push_lt hj] using hb
   ·by_cases hj':j=acc.size
    ·subst hj';have hoj:ops[acc.size]?=some o:=by rw [<-he,<-hsz];simp
     have hs:((acc.push (o.after.foldl (λs e=> if Region.binds .any e then s ||| 2 ^ e.on ||| acc.getD e.on 0 else s) 0)).getD acc.size 0)=o.after.foldl (λs e=> if Region.binds .any e then s ||| 2 ^ e.on ||| acc.getD e.on 0 else s) 0:=by simp
     rw [hs] at hb;have inner:∀(es:List Edge) (s:Nat),(∀e∈es,e∈o.after)->(s.testBit i=true->L i)->(es.foldl (λs e=> if Region.binds .any e then s ||| 2 ^ e.on ||| acc.getD e.on 0 else s) s).testBit i=true->L i:=by
      intro es
      induction es with
      | nil=> intro s _ hs hb;exact hs hb
      | cons e es ih2=>
       intro s hin hs hb;simp only [zbJ] at hb;refine ih2 _ (λe' h'=> hin e' (by simp [h'])) ?_ hb;intro hb2;split at hb2
       ·rename_i hbi;simp only [zcv,zbk,zcY] at hb2;have hle:=hdown _ o hoj hl e (hin e (by simp)) hbi;rcases hb2 with(hb2 | hb2) | hb2
        ·exact hs hb2
        ·simp at hb2;rw [<-hb2];exact hle
        ·exact h i e.on hb2 he hle
       ·exact hs hb2
     refine inner o.after.toList 0 (λe he=> by simpa using he) (λhz=> by simp at hz) ?_;rw [zcA];exact hb
    ·have:(acc.push (o.after.foldl (λs e=> if Region.binds .any e then s ||| 2 ^ e.on ||| acc.getD e.on 0 else s) 0)).getD j 0=0:=by
      simp [Array.getD,show¬j < acc.size+1 by omega]
     rw [this] at hb;simp at hb
 intro i j hb hl;refine key ops [] #[] rfl (λi j hb=> by simp at hb) rfl i j ?_ hl;unfold mD Region.before at hb;rw [<-zcA] at hb;exact hb
theorem jP {n:Nat}{f:Nat->Bool}(h:DU n f=true){i:Nat}(hi:i < n):f i=true:=by
 unfold DU at h;exact za2.1 h i (zaX.2 hi)
structure FH(ops:List Oper):Prop where
 edges:∀j o,ops[j]?=some o->∀e∈o.after,Region.binds .any e=true->e.on < ops.length/\Fe ops e.on j=true
 an2:∀(i j:Nat) (oi oj:Oper) (d:Tmp),ops[i]?=some oi->ops[j]?=some oj->oi.dst=some d->oj.dst=some d->i=j
 uses:∀(i j:Nat) (oi oj:Oper) (d:Tmp),i≠j->ops[i]?=some oi->ops[j]?=some oj->oi.dst=some d->d∈oj.looksAt ops.toArray->(mD ops i j=true/\Fe ops i j=true)∨(mD ops j i=true/\Fe ops j i=true)
 chain:∀i j,i < j->j < ops.length->chn ops i=true->chn ops j=true->mD ops i j=true
 const:∀j o,ops[j]?=some o->cst ops j=true->o.guard=none/\o.dst.isSome=true
 loose:∀j e,j < ops.length->e < ops.length->cst ops j=true->chn ops e=true->mD ops j e=false->(uh (qj ops e)=true∨agP (qj ops e)=true)/\mD ops e j=false
theorem dN {α:Type}{l:List α}{i:Nat}{x:α}(h:l[i]?=some x):i < l.length:=(zai.1 h).1
theorem uD {ops:List Oper}{j:Nat}{o:Oper}(h:ops[j]?=some o):qj ops j=o.op:=by simp [qj,h]
theorem FI {ops:List Oper}{j:Nat}{o:Oper}(h:ops[j]?=some o):I4 ops j=o.dst:=by simp [I4,h]
theorem Dh {ops:List Oper}(h:TW ops=true):FH ops:=by
 unfold TW at h;simp only [zaf] at h;obtain⟨⟨⟨⟨⟨h1,h2⟩,h3⟩,h4⟩,h5⟩,h6⟩:=h;refine⟨λj o ho e he hb=> ?_,λi j oi oj d hi hj di dj=> ?_,λi j oi oj d hne hi hj di hd=> ?_,λi j hij hj ci cj=> ?_,λj o ho hc=> ?_,λj e hj he hc hch hb=> ?_⟩
 ·have:=jP h1 (dN ho);simp only [ho,zak,zar] at this;have:=zcB.1 this e he
  simpa [hb] using this
 ·have aux:∀(i j:Nat) (oi oj:Oper),ops[i]?=some oi->ops[j]?=some oj->oi.dst=some d->oj.dst=some d->¬i < j:=by
   intro i j oi oj hi hj di dj hlt;have:=jP (jP h2 (dN hi)) (dN hj);rw [FI hi,FI hj,di,dj] at this;simp [hlt] at this
  have a1:=aux i j oi oj hi hj di dj;have a2:=aux j i oj oi hj hi dj di;omega
 ·have:=jP (jP h3 (dN hi)) (dN hj);rw [FI hi,di,hj] at this;simp only [zbk,beq_iff_eq,za8,zaf] at this;rcases this with h | (h | h) | h
  ·exact absurd h hne
  ·have hc:(oj.looksAt ops.toArray).contains d=true:=List.contains_iff_mem.2 hd;rw [hc] at h;cases h
  ·exact .inl h
  ·exact .inr h
 ·have:=jP (jP h4 (Nat.lt_trans hij hj)) hj
  simpa [ci,cj,hij] using this
 ·have:=jP h5 (dN ho);simp only [hc,zae,zca,ho,zak,zar,zaf] at this;exact⟨Option.isNone_iff_eq_none.1 this.1,this.2⟩
 ·have:=jP (jP h6 hj) he;simp only [hc,hch,hb,zal,zcp,zae,zca,zaf,za8,zbk] at this;exact this
theorem yj {P:Program}{C:aC}{ops:List Oper}:∀(l m:List Nat) (t:fO) (H:ah),
  fH P C ops (l++m) t H=(fH P C ops l t H).bind λs=> fH P C ops m s.1 s.2
 | [],m,t,H=> rfl
 | i::l,m,t,H=> by
  simp only [zbe,fH];cases ops[i]? with
  | none=> rfl
  | some o=>
   simp only;cases lZ P C ops (loose ops i && lW o.op) o t H with
   | none=> rfl
   | some r=> exact yj l m _ _
theorem Bj(f:Nat->Bool)(p:Nat):(List.range (p+1)).filter f=(List.range p).filter f++(if f p then [p] else []):=by
 rw [zck,zcg]
 congr 1
 simp only [zbN,List.filter_nil]
theorem wo {P:Program}{C:aC}{ops:List Oper}{p:Nat}{t:fO}{H:ah}:Fg P C ops (p+1) t H=
  (Fg P C ops p t H).bind λs=> if cst ops p then some s else fH P C ops [p] s.1 s.2:=by
 unfold Fg;rw [Bj,yj]
 congr 1
 funext s
 cases cst ops p <;> rfl
theorem Yd {P:Program}{C:aC}{ops:List Oper}{t:fO}{H:ah}{n:Nat}{s:fO × ah}(h:Fg P C ops n t H=some s):∀k p,p+k=n->∃s',Fg P C ops p t H=some s':=by
 intro k
 induction k generalizing n s with
 | zero=> intro p hp;simp at hp;subst hp;exact⟨s,h⟩
 | succ k ih=>
  intro p hp;cases n with
  | zero=> omega
  | succ n=>
   rw [wo] at h;cases hn:Fg P C ops n t H with
   | none=> rw [hn] at h;cases h
   | some s'=> exact ih hn p (by omega)
structure Bl(P:Program)(C:aC)(ops:List Oper)(t0:fO)(H0:ah)(T:Nat->fO)(Hp:Nat->ah)(val:Nat->AV):Prop where
 zero:T 0=t0/\Hp 0=H0
 at_:∀p,p<=ops.length->Fg P C ops p t0 H0=some (T p,Hp p)
 skip:∀p,p < ops.length->cst ops p=true->T (p+1)=T p/\Hp (p+1)=Hp p
 step:∀p o,ops[p]?=some o->cst ops p=false->lZ P C ops (loose ops p && lW o.op) o (T p) (Hp p)=some (val p,Hp (p+1))/\T (p+1)=vT (T p) o.dst (val p)
theorem I9 {P:Program}{C:aC}{ops:List Oper}{t0:fO}{H0:ah}{s:fO × ah}(h:fH P C ops (mF ops) t0 H0=some s)(vc:Nat->AV):
  ∃T Hp val,Bl P C ops t0 H0 T Hp val/\(T ops.length,Hp ops.length)=s/\∀p,cst ops p=true->val p=vc p:=by
 have hn:Fg P C ops ops.length t0 H0=some s:=h;let S:Nat->fO × ah:=λp=> (Fg P C ops p t0 H0).getD (t0,H0)
 have hS:∀p,p<=ops.length->Fg P C ops p t0 H0=some (S p):=λp hp=> by
  obtain⟨s',hs'⟩:=Yd hn (ops.length - p) p (by omega);simp only [S,hs',zar]
 have hstep:∀p o,ops[p]?=some o->cst ops p=false->∃v,lZ P C ops (loose ops p && lW o.op) o (S p).1 (S p).2=some (v,(S (p+1)).2)/\(S (p+1)).1=vT (S p).1 o.dst v:=by
  intro p o ho hc;have hp:=dN ho;have h1:=hS (p+1) hp;rw [wo,hS p (by omega)] at h1;simp only [za4,hc,zah,if_false,fH,ho] at h1;cases hst:lZ P C ops (loose ops p && lW o.op) o (S p).1 (S p).2 with
  | none=> rw [hst] at h1;cases h1
  | some r=>
   rw [hst] at h1;simp only [zaa] at h1;exact⟨r.1,by rw [<-h1],by rw [<-h1]⟩
 refine⟨λp=> (S p).1,λp=> (S p).2,λp=> if cst ops p then vc p else match ops[p]? with
  | some o=> (match lZ P C ops (loose ops p && lW o.op) o (S p).1 (S p).2 with | some r=> r.1 | none=> aY)
  | none=> aY,⟨⟨rfl,rfl⟩,hS,λp hp hc=> ?_,λp o ho hc=> ?_⟩,?_,λp hc=> by simp [hc]⟩
 ·have h1:=hS (p+1) hp;rw [wo,hS p (by omega)] at h1;simp only [za4,hc,if_true,zaa] at h1;rw [<-h1];exact⟨rfl,rfl⟩
 ·obtain⟨v,h1,h2⟩:=hstep p o ho hc;simp only [hc,zah,if_false,ho,h1,h2,and_self]
 ·have:=hS ops.length (zac _);rw [hn] at this;cases this;rfl
structure Oz(P:Program)(o:Oper)(v:AV)(r:Nat)(ob:fU):Prop where
 ex:∃(ty:TypeId) (z:List AV) (mk:Nat->AV),v=mk r/\ob=.blk 0 ty z/\
   ∀(ρ:Ren) (G:Nat->Nat) (w:World) (a:Act),∃(cs:Array Value) (cv:Value),(execOp a.eval o).run P w=.ok (.value cv) (w.alloc (.cells cs ty))/\(RVs ρ G w z cs.toList/\ty < gV)/\
    ∀(ρ':Ren) (G':Nat->Nat) (r:Nat),G' r=0->ρ' r=some (w.heap.size,0)->RV ρ' G' (w.alloc (.cells cs ty)) (mk r) cv
theorem lS(t:fO)(d:Option Tmp)(v:AV):(vT t d v).length=t.length:=by cases d <;> simp [vT]
theorem KT(t:fO)(d:Option Tmp)(v:AV)(i:Nat):(vT t d v)[i]?=if d=some i/\i < t.length then some v else t[i]?:=by
 cases d with
 | none=> simp [vT]
 | some d=>
  simp only [vT,zcI,zaa];by_cases h:d=i
  ·subst h;by_cases hl:d < t.length
   ·simp [hl]
   ·simp [hl]
  ·simp [h]
theorem uF {P:Program}{C:aC}{ops:List Oper}:∀(is:List Nat) (t:fO) (H:ah) (t0:fO) (H0:ah),is.Nodup->(∀j∈is,cst ops j=true)->
  (∀i∈is,∀j∈is,∀(oi oj:Oper) (d:Tmp),ops[i]?=some oi->ops[j]?=some oj->oi.dst=some d->oj.dst=some d->i=j)->iJ P C ops is t H=some (t0,H0)->
  Rf H H0/\(∀r,H.next<=r->H.gen r=0->H0.gen r=0)/\t0.length=t.length/\∃(nm:Nat->Nat) (vl:Nat->AV),(∀j∈is,∃o,ops[j]?=some o/\H.next<=nm j/\nm j < H0.next/\Oz P o (vl j) (nm j) (H0.get (nm j))/\∀d,o.dst=some d->d < t.length->t0[d]?=some (vl j))/\
   (∀i∈is,∀j∈is,nm i=nm j->i=j)/\∀d,(∀j∈is,∀o,ops[j]?=some o->o.dst≠some d)->t0[d]?=t[d]?
 | [],t,H,t0,H0,_,_,_,h=> by
  simp only [iJ,zaa,zad] at h;obtain⟨rfl,rfl⟩:=h;exact⟨⟨rfl,zac _,λ_ _=> rfl⟩,λ_ _ h=> h,rfl,λ_=> 0,λ_=> aY,by simp,by simp,λ_ _=> rfl⟩
 | i::is,t,H,t0,H0,hnd,ap7,hdst,h=> by
  simp only [iJ] at h;cases ho:ops[i]? with
  | none=> rw [ho] at h;cases h
  | some o=>
   rw [ho] at h;simp only at h;cases hop:opA P C t o H with
   | none=> rw [hop] at h;cases h
   | some r=>
    obtain⟨v,H1⟩:=r;rw [hop] at h;simp only at h;have hco:D7 o.op=true:=by have:=ap7 i (by simp);simpa [cst,uD ho] using this
    obtain⟨ty,z,mk,rfl,rfl,hrun⟩:=ab5 hco hop;obtain⟨hf,hg,hlen,nm,vl,h1,h2,h3⟩:=uF is _ _ t0 H0 (zaY.1 hnd).2 (λj hj=> ap7 j (by simp [hj])) (λa ha b hb=> hdst a (by simp [ha]) b (by simp [hb])) h;have hni:i∉is:=(zaY.1 hnd).1;have hget:H0.get H.next=.blk 0 ty z:=by
     rw [hf.2.2 H.next (by simp [ah.new])];simp [ah.new]
    refine⟨⟨hf.1,zau (by simp [ah.new]) hf.2.1,λr hr=> ?_⟩,λr hr hgr=> ?_,by rw [hlen,lS],λj=> if j=i then H.next else nm j,λj=> if j=i then mk H.next else vl j,λj hj=> ?_,λa ha b hb hab=> ?_,λd hd=> ?_⟩
    ·rw [hf.2.2 r (by simp [ah.new];omega)];simp [ah.new,show r≠H.next by omega]
    ·rcases zaW H.next r with hlt | hge
     ·refine hg r (by simp [ah.new];omega) ?_;rw [QX,if_neg (by omega)];exact hgr
     ·have:r=H.next:=by omega
      subst this;simp [ah.gen,hget,fU.gen]
    ·by_cases hji:j=i
     ·subst hji;simp only [if_true];refine⟨o,ho,zac _,zav (by simp [ah.new]) hf.2.1,⟨ty,z,mk,rfl,hget,hrun⟩,λd hd hlt=> ?_⟩;rw [h3 d (λk hk ok hok hkd=> hni (by
       have:=hdst j (by simp) k (by simp [hk]) o ok d ho hok hd hkd;rw [this];exact hk)),KT,if_pos ⟨hd,hlt⟩]
     ·simp only [if_neg hji];obtain⟨oj,hoj,q1,q2,q3,q4⟩:=h1 j (by
       rcases zaj.1 hj with e | e
       ·exact absurd e hji
       ·exact e)
      refine⟨oj,hoj,zau (by simp [ah.new]) q1,q2,q3,λd hd hlt=> q4 d hd (by rw [lS];exact hlt)⟩
    ·by_cases ha':a=i <;> by_cases hb':b=i
     ·rw [ha',hb']
     ·simp only [ha',if_true,if_neg hb'] at hab;obtain⟨_,_,q1,_⟩:=h1 b (by exact(zaj.1 hb).resolve_left hb');simp [ah.new] at q1;omega
     ·simp only [hb',if_true,if_neg ha'] at hab;obtain⟨_,_,q1,_⟩:=h1 a (by exact(zaj.1 ha).resolve_left ha');simp [ah.new] at q1;omega
     ·simp only [if_neg ha',if_neg hb'] at hab;exact h2 a (by exact(zaj.1 ha).resolve_left ha') b (by exact(zaj.1 hb).resolve_left hb') hab
    ·rw [h3 d (λj hj=> hd j (by simp [hj])),KT,if_neg (λhc=> hd i (by simp) o ho hc.1)]
structure TOn(ρ:Ren)(G:Nat->Nat)(w:World)(D:Tmp->Prop)(t:fO)(a:Act):Prop where
 size:a.tmps.size=t.length
 get:∀d,D d->d < t.length->RV ρ G w (t.getD d aY) (a.tmps.getD d undef)
section
variable {P:Program}{C:aC}{ops:List Oper}{H H':ah}{t:fO}{a:Act}{w:World}{ρ:Ren}{G:Nat->Nat}{o:Oper}{v:AV}
theorem TOn.any {D:Tmp->Prop}(h:TOn ρ G w D t a)(d:Tmp)(hd:D d):RV ρ G w (t.getD d aY) (a.tmps.getD d undef):=by
 by_cases hl:d < t.length
 ·exact h.get d hd hl
 ·have h1:t.getD d aY=aY:=by simp [List.getD,zaK (zdI.1 hl)]
  have h2:a.tmps.getD d undef=undef:=by
   have:¬d < a.tmps.size:=by rw [h.size];exact hl
   simp [Array.getD,this]
  rw [h1,h2];exact Eb
theorem TOn.eval(h:TOn ρ G w (· ∈o.looksAt ops.toArray) t a):∀x∈o.op.operands,RV ρ G w (dO t x) (a.eval x):=by
 intro x hx;cases x with
 | tmp d=>
  exact h.any d (zcR _ (List.mem_filterMap.2 ⟨.tmp d,by simpa using hx,rfl⟩))
 | const v=> simp [dO,Act.eval,RV]
 | global g=> simp [dO,Act.eval,RV]
 | func f=> simp [dO,Act.eval,RV,RVs]
theorem TOn.wanted {b:Bool}(h:TOn ρ G w (· ∈o.looksAt ops.toArray) t a)(hw:ug ops t o=some b):Region.wanted o (yielded ops.toArray a.tmps)=b:=by
 unfold ug at hw;unfold Region.wanted;cases hg:o.guard with
 | none=> rw [hg] at hw;simpa using hw
 | some gw=>
  obtain⟨j,want⟩:=gw;rw [hg] at hw;simp only at hw;cases hj:ops[j]? with
  | none=> rw [hj] at hw;cases hw
  | some p=>
   rw [hj] at hw;simp only at hw;cases hd:p.dst with
   | none=> rw [hd] at hw;cases hw
   | some d=>
    rw [hd] at hw;simp only at hw;have hmem:d∈o.looksAt ops.toArray:=by
     unfold Oper.looksAt;refine zdl _ ?_;simp [hg,hj,hd]
    cases htd:t[d]? with
    | none=> rw [htd] at hw;cases hw
    | some x=>
     have hlt:d < t.length:=(zai.1 htd).1;have hrv:=h.get d hmem hlt;have hx:t.getD d aY=x:=by simp [List.getD,htd]
     have hlt':d < a.tmps.size:=by rw [h.size];exact hlt
     have hav:a.tmps[d]?=some (a.tmps.getD d undef):=by simp [Array.getD,hlt']
     rw [hx] at hrv;rw [htd] at hw;have hy:yielded ops.toArray a.tmps j=(match a.tmps.getD d undef with | .bool b=> some b | _=> none):=by
      unfold yielded;have:(ops.toArray[j]?).bind (·.dst)=some d:=by simp [hj,hd]
      rw [this,za4,hav];cases a.tmps.getD d undef <;> rfl
     simp only;split at hw <;> first | (cases hw;done) | skip
     ·rename_i hbx;cases hbx;simp only [RV] at hrv;rw [hy,hrv];simp only [zaa] at hw;rw [<-hw];rename_i b0;cases b0 <;> cases want <;> rfl
     ·rename_i hbx;cases hbx;simp only [RV,RVs] at hrv;obtain⟨cs,hcs,_⟩:=hrv;rw [hy,hcs]
      simpa using hw
theorem TOn.put {D:Tmp->Prop}(h:TOn ρ G w D t a)(d:Option Tmp){cv:Value}(hv:RV ρ G w v cv):TOn ρ G w D (vT t d v) (a.put d cv):=by
 refine⟨?_,λx hx hl=> ?_⟩
 ·rw [lS,<-h.size];cases d <;> simp [Act.put]
 ·rw [lS] at hl;have hl':x < a.tmps.size:=by rw [h.size];exact hl
  cases d with
  | none=> exact h.get x hx hl
  | some d=>
   by_cases e:d=x
   ·subst e;have h1:(vT t (some d) v).getD d aY=v:=by simp [vT,List.getD,hl]
    have h2:(a.put (some d) cv).tmps.getD d undef=cv:=by simp [Act.put,Array.getD,hl']
    rw [h1,h2];exact hv
   ·have h1:(vT t (some d) v).getD x aY=t.getD x aY:=by simp [vT,List.getD,e]
    have h2:(a.put (some d) cv).tmps.getD x undef=a.tmps.getD x undef:=by
     simp [Act.put,zbv e]
    rw [h1,h2];exact h.get x hx hl
theorem TOn.keep {ρ':Ren}{w':World}{D:Tmp->Prop}(h:TOn ρ H.gen w D t a)(E:Ext ρ H w ρ' H' w'):TOn ρ' H'.gen w' D t a:=
 ⟨h.size,λd hd hl=> RV.mono E.toMono _ _ (h.get d hd hl)⟩
theorem TOn.sub {D D':Tmp->Prop}(h:TOn ρ G w D t a)(hs:∀d,D' d->D d):TOn ρ G w D' t a:=⟨h.size,λd hd=> h.get d (hs d hd)⟩
theorem KU(hC:qM P C){lo:Bool}(h:lZ P C ops lo o t H=some (v,H'))(R:Rel ρ H w)(T:TOn ρ H.gen w (· ∈o.looksAt ops.toArray) t a){i:Nat}(ho:ops[i]?=some o)
  {K:Act->World->Prop} {Q:Exit->Act->World->Prop} (hK:∀cv ρ' w',Rel ρ' H' w'->RV ρ' H'.gen w' v cv->Ext ρ H w ρ' H' w'->K (a.put o.dst cv) w'):wpOp P ops.toArray Q i K a w:=by
 unfold wpOp;have hoa:ops.toArray[i]?=some o:=by simpa using ho
 simp only [hoa];unfold lZ at h;split at h <;> first | (cases h;done) | skip
 ·rename_i hw;rw [T.wanted hw,if_pos rfl];left;split at h
  ·unfold opG at h;split at h <;> first | (cases h;done) | skip
   rename_i u H1 h1;simp only [zaa,zad] at h;obtain⟨rfl,rfl⟩:=h;exact KQ hC h1 (H:=H.guard) ⟨R.out,R.obj,R.inj,R.gl⟩ T.eval λcv ρ' w' r e x=>
    hK cv ρ' w' ⟨r.out,r.obj,r.inj,r.gl⟩ e ⟨x.next,x.mono,x.same,x.kept,x.range,x.size,x.frame,x.shape,x.os,x.tape,x.output⟩
  ·exact KQ hC h R T.eval hK
 ·rename_i hw;rw [T.wanted hw];simp only [zaa,zad] at h;obtain⟨rfl,rfl⟩:=h;simp only [zah,if_false];exact hK undef ρ w R Eb (Ext.refl _ _ _)
theorem OB {X:Prop}(h:o.wp P a w (λ_ _=> X) (λ_ _ _=> False)):X:=by
 unfold Oper.wp at h;generalize (execOp a.eval o).run P w=r at h;cases r with
 | ok n w'=>
  cases n <;> simp only [Oper.upon] at h <;> first | exact h | skip
  ·obtain⟨e,w',fr,hR,_⟩:=h [];cases e <;> simp only [LetsOut,exists_false] at hR;exact hR
  ·obtain⟨_,_,hR,_⟩:=h (Frame.ofRow P "" #[] .normal) []
   exact hR
 | halt x w'=> cases x <;> exact False.elim h
theorem Rj {X:Prop}{i:Nat}{arr:Array Oper}(h:wpOp P arr (λ_ _ _=> False) i (λ_ _=> X) a w):X:=by
 unfold wpOp at h;split at h
 ·exact h
 ·split at h
  ·rcases h with h | ⟨_,a,w,h⟩
   ·exact OB h
   ·exact h.elim
  ·exact h
theorem yI(hC:qM P C):∀(is:List Nat) (t:fO) (H:ah) (t0:fO) (H0:ah) (ρ:Ren) (w:World) (a:Act),iJ P C ops is t H=some (t0,H0)->Rel ρ H w->TOn ρ H.gen w (λ_=> True) t a->
  ∃ρ' w' a',Rel ρ' H0 w'/\TOn ρ' H0.gen w' (λ_=> True) t0 a'
 | [],t,H,t0,H0,ρ,w,a,h,R,T=> by
  simp only [iJ,zaa,zad] at h;obtain⟨rfl,rfl⟩:=h;exact⟨ρ,w,a,R,T⟩
 | i::is,t,H,t0,H0,ρ,w,a,h,R,T=> by
  simp only [iJ] at h;cases ho:ops[i]? with
  | none=> rw [ho] at h;cases h
  | some o=>
   rw [ho] at h;simp only at h;cases hop:opA P C t o H with
   | none=> rw [hop] at h;cases h
   | some r=>
    rw [hop] at h;simp only at h;obtain⟨ρ',w',cv,r1,r2⟩:∃ρ' w' cv,Rel ρ' r.2 w'/\TOn ρ' r.2.gen w' (λ_=> True) (vT t o.dst r.1) (a.put o.dst cv):=
     OB (KQ hC hop R ((T.sub (D':=(· ∈o.looksAt ops.toArray)) λ_ _=> trivial).eval) (Q:=λ_ _ _=> False)
      λcv ρ' w' r1 r2 r3=> ⟨ρ',w',cv,r1,(T.keep r3).put _ r2⟩)
    exact yI hC is _ _ t0 H0 ρ' w' _ h r1 r2
theorem Ja(hC:qM P C){t0:fO}{H0:ah}{T:Nat->fO}{Hp:Nat->ah}{val:Nat->AV}(S:Bl P C ops t0 H0 T Hp val)(R:Rel ρ H0 w)(TR:TOn ρ H0.gen w (λ_=> True) t0 a):
  ∀p,p<=ops.length->∃ρ' w' a',Rel ρ' (Hp p) w'/\TOn ρ' (Hp p).gen w' (λ_=> True) (T p) a':=by
 intro p
 induction p with
 | zero=> intro _;rw [S.zero.1,S.zero.2];exact⟨ρ,w,a,R,TR⟩
 | succ p ih=>
  intro hp;obtain⟨ρ1,w1,a1,R1,T1⟩:=ih (by omega);cases hc:cst ops p with
  | true=> obtain⟨h1,h2⟩:=S.skip p (by omega) hc;rw [h1,h2];exact⟨ρ1,w1,a1,R1,T1⟩
  | false=>
   have ho:ops[p]?=some (ops[p]'(by omega)):=zab _;obtain⟨h1,h2⟩:=S.step p _ ho hc;rw [h2];exact Rj (KU hC h1 R1 (T1.sub λ_ _=> trivial) ho (Q:=λ_ _ _=> False) λcv ρ' w' r1 r2 r3=> ⟨ρ',w',_,r1,(T1.keep r3).put _ r2⟩)
theorem OC {x:AV}{n r:Nat}(h:NV n x)(hw:bQ x=some r):r < n:=by
 cases x <;> simp only [bQ] at hw <;> first | (cases hw;done) | (cases hw;simpa only [NV] using h)
theorem Ue {n r:Nat}(h:∀x∈o.op.operands,NV n (dO t x))(hw:kZ t o.op=some r):r < n:=by
 obtain⟨dst,op,type,pos,after,guard⟩:=o;cases op <;> simp only [kZ] at hw <;> first | (cases hw;done) | skip
 case call c=>
  split at hw
  ·rename_i x hx;refine OC (h x ?_) hw;have:x∈c.args:=by
    have:x∈c.args.toList:=by rw [hx];simp
    simpa using this
   simp [Op.operands,Call.operands,this]
  ·cases hw
 all_goals exact OC (h _ (by simp [Op.operands])) hw
theorem ab6 {n:Nat}(h:∀d,NV n (t.getD d aY))(x:Operand):NV n (dO t x):=by
 cases x with
 | tmp d=> exact h d
 | _=> simp [dO,NV,NVs]
end
end
end Go.Proofs.YtgplhpgkompkmaaGreat
