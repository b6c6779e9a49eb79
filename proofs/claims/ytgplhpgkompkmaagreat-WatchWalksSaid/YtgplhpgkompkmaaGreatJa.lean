/-
  Own work: an interpreter over named blocks, its soundness, and what the functions of this seat compute (part 1 of 12).
  Conditions: those of the statement alone.
-/
import Derived.Calls
import Derived.Orders
import Derived.Laws.World
import Derived.Laws.Entries
import Derived.Laws.Slices
import Derived.Laws.Append
import Derived.Laws.MakeOwn
import Derived.Laws.BytesString
set_option linter.all false
set_option linter.unusedSectionVars false
set_option linter.unusedVariables false
set_option linter.unusedSimpArgs false
namespace Go.Proofs.YtgplhpgkompkmaaGreat
def V{p:Prop}(h:p:=by omega):p:=h
def Zs{p:Prop}(h:p:=by omega):p:=h
def O{p:Prop}(h:p:=by simp):p:=h
def ZZ{p:Prop}(h:p:=by simp):p:=h
noncomputable section
def zaa:=@Option.some.injEq.{0}
def zab:=@List.getElem?_eq_getElem.{0}
def zac:=@Nat.le_refl
def zad:=@Prod.mk.injEq.{0,0}
def zae:=@Bool.not_true
def zaf:=@List.getElem?_eq_some_iff.{0}
def zah:=@Bool.and_eq_true
def zai:=@Bool.not_false
def zaj:=@Option.map_some.{0,0}
def zak:=@List.length_cons.{0}
def zal:=@Bool.false_eq_true
def zam:=@Int.toNat_natCast
def zan:=@List.length_nil.{0}
def zao:=@List.mem_cons.{0}
def zaq:=@List.eq_nil_of_length_eq_zero.{0}
def zar:=@List.length_append.{0}
def zas:=@List.mem_of_getElem?.{0}
def zat:=@Option.getD_some.{0}
def zau:=@List.length_take.{0}
def zav:=@Nat.le_trans
def zaw:=@List.getElem?_map.{0,0}
def zax:=@Nat.lt_of_lt_of_le
def zay:=@List.take_of_length_le.{0}
def zaz:=@List.length_map.{0,0}
def zaA:=@List.getD_eq_getElem?_getD.{0}
def zaB:=@List.not_mem_nil.{0}
def zaC:=@List.getElem?_take.{0}
def zaD:=@List.map_cons.{0,0}
def zaE:=@List.flatMap_cons.{0,0}
def zaF:=@Nat.mul_le_mul_right
def zaG:=@List.getElem?_append_left.{0}
def zaH:=@List.getElem?_drop.{0}
def zaI:=@List.getElem?_eq_none.{0}
def zaJ:=@Bool.true_and
def zaK:=@Option.isSome_none.{0}
def zaL:=@Bool.false_and
def zaM:=@List.mem_map.{0,0}
def zaN:=@List.nil_append.{0}
def zaO:=@Option.isSome_some.{0}
def zaP:=@List.drop_of_length_le.{0}
def zaQ:=@List.mem_append.{0}
def zaR:=@List.length_drop.{0}
def zaS:=@List.drop_zero.{0}
def zaT:=@List.drop_eq_getElem_cons.{0}
def zaU:=@Nat.lt_or_ge
def zaV:=@List.mem_singleton.{0}
def zaW:=@Option.some.inj.{0}
def zaX:=@Nat.zero_le
def zaY:=@List.getElem?_cons_zero.{0}
def zaZ:=@Option.getD_none.{0}
def za0:=@List.mem_range
def za1:=@List.nodup_cons.{0}
def za2:=@List.getElem?_append_right.{0}
def za3:=@List.cons_append.{0}
def za4:=@Option.bind_some.{0,0}
def za5:=@List.mem_flatMap.{0,0}
def za6:=@List.all_eq_true.{0}
def za7:=@Nat.zero_add
def za8:=@Nat.le_succ
def za9:=@List.getElem?_mapIdx.{0,0}
def zba:=@List.append_assoc.{0}
def zbb:=@List.mem_cons_of_mem.{0}
def zbc:=@List.ext_getElem?.{0}
def zbd:=@List.append_nil.{0}
def zbe:=@List.getElem?_cons_succ.{0}
def zbf:=@List.all_append.{0}
def zbg:=@Array.getElem?_eq_some_iff.{0}
def zbh:=@Array.getElem?_push.{0}
def zbi:=@List.getElem?_range
def zbj:=@Bool.not_eq_true'
def zbk:=@Nat.one_mul
def zbl:=@List.getElem?_set_self.{0}
def zbm:=@Nat.min_eq_left
def zbn:=@List.map_append.{0,0}
def zbo:=@List.map_congr_left.{0,0}
def zbp:=@List.nodup_append.{0}
def zbq:=@Nat.zero_mul
def zbr:=@List.getElem?_set_ne.{0}
def zbs:=@List.mem_of_find?_eq_some.{0}
def zbt:=@Int.le_refl
def zbu:=@Bool.or_eq_true
def zbv:=@List.mem_filter.{0}
def zbw:=@BitVec.xor_assoc
def zbx:=@List.flatMap_append.{0,0}
def zby:=@Nat.mul_one
def zbz:=@Nat.le_succ_of_le
def zbA:=@Array.getElem?_setIfInBounds_ne.{0}
def zbB:=@List.getElem?_replicate.{0}
def zbC:=@List.mapM_cons.{0,0,0}
def zbD:=@Nat.succ_mul
def zbE:=@List.findIdx?_eq_some_iff_findIdx_eq.{0}
def zbF:=@Nat.add_mul
def zbG:=@Array.getElem?_eq_getElem.{0}
def zbH:=@Int.toNat_of_nonneg
def zbI:=@Bool.false_or
def zbJ:=@Nat.eq_of_beq_eq_true
def zbK:=@Bool.true_eq_false
def zbL:=@Nat.add_zero
def zbM:=@Nat.eq_of_mul_eq_mul_right
def zbN:=@List.drop_drop.{0}
def zbO:=@Option.map_eq_some_iff.{0,0}
def zbP:=@List.take_add_one.{0}
def zbQ:=@List.cons.injEq.{0}
def zbR:=@List.mem_or_eq_of_mem_set.{0}
def zbS:=@Int.emod_nonneg
def zbT:=@List.map_nil.{0,0}
def zbU:=@Int.emod_lt_of_pos
def zbV:=@Int.mul_le_mul
def zbW:=@List.foldl_cons.{0,0}
def zbX:=@List.range_succ
def zbY:=@Option.bind_eq_bind.{0}
def zbZ:=@Nat.ne_of_lt
def zb0:=@List.all_cons.{0}
def zb1:=@Int.fdiv_eq_ediv_of_nonneg
def zb2:=@List.filter_cons.{0}
def zb3:=@Bool.and_false
def zb4:=@List.take_take.{0}
def zb5:=@List.take_append_drop.{0}
def zb6:=@List.pairwise_cons.{0}
def zb7:=@List.set_cons_zero.{0}
def zb8:=@List.set_cons_succ.{0}
def zb9:=@List.length_filter_le.{0}
def zca:=@Int.mul_nonneg
def zcb:=@Bool.true_or
def zcc:=@Nat.add_right_cancel_iff
def zcd:=@List.length_set.{0}
def zce:=@BitVec.getLsbD_shiftLeft
def zcf:=@Array.replicate_succ.{0}
def zcg:=@Array.replicate_zero.{0}
def zch:=@List.forall_mem_cons.{0}
def zci:=@List.size_toArray.{0}
def zcj:=@List.pairwise_map.{0,0}
def zck:=@Nat.add_assoc
def zcl:=@List.take_append_of_le_length.{0}
def zcm:=@BitVec.eq_of_getLsbD_eq
def zcn:=@Array.toList_append.{0}
def zco:=@List.append_toArray.{0}
def zcp:=@Array.toList_inj.{0}
def zcq:=@Nat.mod_eq_of_lt
def zcr:=@List.filter_append.{0}
def zcs:=@Array.getD_eq_getD_getElem?.{0}
def zct:=@BitVec.toNat_ofNat
def zcu:=@List.findIdx?_cons.{0}
def zcv:=@Option.pure_def.{0}
def zcw:=@List.length_replicate.{0}
def zcx:=@List.singleton_append.{0}
def zcy:=@List.map_take.{0,0}
def zcz:=@Bool.and_self
def zcA:=@Int.tmod_eq_emod_of_nonneg
def zcB:=@List.length_range
def zcC:=@List.push_toArray.{0}
def zcD:=@List.getElem?_append.{0}
def zcE:=@List.mem_of_mem_take.{0}
def zcF:=@List.range_eq_range'
def zcG:=@Nat.shiftRight_eq_div_pow
def zcH:=@Nat.testBit_or
def zcI:=@List.drop_take.{0}
def zcJ:=@List.all_nil.{0}
def zcK:=@List.eq_of_mem_replicate.{0}
def zcL:=@Option.isSome_iff_exists.{0}
def zcM:=@List.mem_of_mem_eraseIdx.{0}
def zcN:=@Bool.and_true
def zcO:=@Array.foldl_toList.{0,0}
def zcP:=@Array.all_eq_true'.{0}
def zcQ:=@List.find?_some.{0}
def zcR:=@BitVec.xor_self
def zcS:=@List.length_mapIdx.{0,0}
def zcT:=@Int.natCast_mul
def zcU:=@Array.getElem?_eq_none.{0}
def zcV:=@List.getElem?_set.{0}
def zcW:=@Bool.not_eq_false
def zcX:=@Array.getElem?_toList.{0}
def zcY:=@List.eraseIdx_sublist.{0}
def zcZ:=@List.map_map.{0,0,0}
def zc0:=@Bool.and_eq_false_iff
def zc1:=@List.mem_iff_getElem?.{0}
def zc2:=@List.nodup_nil.{0}
def zc3:=@List.getElem_mem.{0}
def zc4:=@Nat.lt_succ_self
def zc5:=@List.mem_append_left.{0}
def zc6:=@List.any_eq_true.{0}
def zc7:=@List.range'_succ
def zc8:=@List.mem_iff_getElem.{0}
def zc9:=@BitVec.getLsbD_ushiftRight
def zda:=@List.sum_cons.{0}
def zdb:=@Nat.testBit_two_pow
def zdc:=@Option.map_none.{0,0}
def zdd:=@Nat.mul_eq_zero
def zde:=@Int.ediv_nonneg
def zdf:=@Option.isNone_none.{0}
def zdg:=@List.find?_eq_none.{0}
def zdh:=@List.mem_cons_self.{0}
def zdi:=@List.length_erase_of_mem.{0}
def zdj:=@List.eraseIdx_cons_succ.{0}
def zdk:=@Array.size_append.{0}
def zdl:=@List.filter_congr.{0}
def zdm:=@List.foldl_append.{0,0}
def zdn:=@List.set_eq_take_append_cons_drop.{0}
def zdo:=@List.map_drop.{0,0}
def zdp:=@Array.toList_map.{0,0}
def zdq:=@List.perm_middle.{0}
def zdr:=@Nat.testBit_eq_decide_div_mod_eq
def zds:=@Nat.shiftLeft_eq
def zdu:=@List.flatMap_nil.{0,0}
def zdv:=@List.mem_append_right.{0}
def zdw:=@List.getElem?_zipWith.{0,0,0}
def zdx:=@BitVec.xor_zero
def zdy:=@BitVec.ofInt_natCast
def zdz:=@List.findIdx?_isSome.{0}
def zdA:=@Nat.not_lt_zero
def zdB:=@List.getElem_of_mem.{0}
def zdC:=@Array.toList_zipIdx.{0}
def zdD:=@List.length_pos_iff.{0}
def zdE:=@Option.some_ne_none.{0}
def zdF:=@List.take_zero.{0}
def zdG:=@Nat.mul_le_mul
def zdH:=@Bool.false_ne_true
def zdI:=@List.filter_filter.{0}
def zdJ:=@BitVec.ofNat_toNat
def zdK:=@Bool.or_false
def zdL:=@Bool.eq_false_iff
def zdM:=@List.all_eq_false.{0}
def zdN:=@List.flatten_cons.{0}
def zdO:=@Nat.not_lt
structure Fix where
 blocks:List Nat
 ok:World->Prop
 frame:∀w w':World,(∀b∈blocks,w'.heap[b]?=w.heap[b]?)->ok w->ok w'
def fx:Fix:=⟨[],λ_=>True,λ_ _ _ h=>h⟩
inductive AV where
 |s (v:Value)
 |ref (r g off:Nat)
 |sl (r g off esz len cap:Nat) (ex:Bool)
 |ip (cells:List AV)
 |vs (n esz:Nat) (cells:List AV)
 |mp (r:Nat)
 |fn (f:Fn) (first captured:List AV)
 |agg (cells:List AV)
 |tup (cells:List AV)
 deriving Inhabited
inductive gB where
 |blk (g:Nat) (ty:TypeId) (cells:List AV)
 |map (k:IntKind) (es:List (Int × AV))
 deriving Inhabited
def gB.gen:gB->Nat
 |.blk g _ _=>g
 |.map _ _=>0
structure ah where
 next:Nat
 base:Nat
 get:Nat->gB
def ah.gen(H:ah)(r:Nat):Nat:=(H.get r).gen
def ah.put(H:ah)(r:Nat)(o:gB):ah:={ H with get:=λx=>if x=r then o else H.get x }
def ah.new(H:ah)(o:gB):ah:={ next:=H.next+1,base:=H.base,get:=λx=>if x=H.next then o else H.get x }
def ah.guard(H:ah):ah:={ H with base:=H.next }
def ah.empty:ah:={ next:=0,base:=0,get:=λ_=>.blk 0 0 [] }
abbrev Ren:=Nat->Option (Nat × Nat)
def Imm(ρ:Ren)(b:Nat):Prop:=∀r d,ρ r≠some (b,d)
mutual
def RV(ρ:Ren)(G:Nat->Nat)(w:World):AV->Value->Prop
 |.s v,cv=>cv=v
 |.ref r g off,cv=>∃a,cv=.pointer (some a)/\g<=G r/\(G r=g->∃b j,ρ r=some (b,j)/\a=⟨b,j+off,none⟩)
 |.sl r g off h len i ex,cv=>∃b o c,cv=.slice (some ⟨b,o,none⟩) len c/\len<=i/\i<=c/\(ex=true->c=i)/\g<=G r/\
   (G r=g->∃j e n,ρ r=some (b,j)/\(0<c->o=j+off)/\w.shape? b=some (e,n)/\o+c*h<=n)
 |.ip cells,cv=>∃b o,cv=.pointer (some ⟨b,o,none⟩)/\b<w.heap.size/\Imm ρ b/\RVc ρ G w cells b o
 |.vs n h cells,cv=>∃b o c,cv=.slice (some ⟨b,o,none⟩) n c/\n<=c/\cells.length=n*h/\b<w.heap.size/\Imm ρ b/\RVc ρ G w cells b o
 |.mp r,cv=>∃b,cv=.map (some b)/\(G r=0->ρ r=some (b,0))
 |.fn f first d,cv=>∃a c,cv=.func f a c/\RVs ρ G w first a.toList/\RVs ρ G w d c.toList
 |.agg cells,cv=>∃cs,cv=.agg cs/\RVs ρ G w cells cs.toList
 |.tup cells,cv=>∃cs,cv=.tuple cs/\RVs ρ G w cells cs.toList
def RVs(ρ:Ren)(G:Nat->Nat)(w:World):List AV->List Value->Prop
 |[],l=>l=[]
 |x::xs,l=>∃y b,l=y::b/\RV ρ G w x y/\RVs ρ G w xs b
def RVc(ρ:Ren)(G:Nat->Nat)(w:World):List AV->Nat->Nat->Prop
 |[],_,_=>True
 |x::xs,b,o=>(∃v,w.cell? ⟨b,o,none⟩=some v/\RV ρ G w x v)/\RVc ρ G w xs b (o+1)
end
def RVm(ρ:Ren)(G:Nat->Nat)(w:World)(k:IntKind):List (Int × AV)->List MapEntry->Prop
 |[],l=>l=[]
 |(n,x)::xs,l=>∃e b,l=e::b/\e.key=.int k n/\RV ρ G w x e.val/\RVm ρ G w k xs b
def Born(es:List MapEntry)(dM:Nat):Prop:=(∀x∈es,x.born<dM)/\(es.map (·.born)).Nodup
def gV:Nat:=1000000000
def Xct(ty e sh n l:Nat):Prop:=(ty<gV->e=ty/\sh=0/\n=l)/\(gV<=ty->ty<gV+gV->ty=e+gV/\sh=0)
def Xct.low {e n l:Nat}(h:e<gV)(b:n=l):Xct e e 0 n l:=⟨λ_=>⟨rfl,rfl,b⟩,λd=>absurd d (Nat.not_le.2 h)⟩
def Xct.grown {e n l:Nat}:Xct (e+gV) e 0 n l:=⟨λh=>absurd h (zdO.2 (Nat.le_add_left _ _)),λ_ _=>⟨rfl,rfl⟩⟩
def Xct.void {e sh n l:Nat}:Xct (gV+gV) e sh n l:=⟨λh=>absurd h (zdO.2 (Nat.le_add_left _ _)),λ_ h=>absurd h (Nat.lt_irrefl _)⟩
def grT(e ty off:Nat):Nat:=if(ty=e∨ty=e+gV)/\off=0 then e+gV else gV+gV
def ajG {e ty off n l:Nat}:Xct (grT e ty off) e 0 n l:=by
 unfold grT;split
 ·exact Xct.grown
 ·exact Xct.void
def ajH {e e' ty sh off n l n' b:Nat}(d:e<gV)(h:Xct ty e' sh n l):Xct (grT e ty off) e' (sh+off) n' b:=by
 unfold grT;split
 ·rename_i g;obtain⟨i,rfl⟩:=g;rcases i with rfl|rfl
  ·obtain⟨rfl,rfl,_⟩:=h.1 d;exact Xct.grown
  ·obtain⟨j,rfl⟩:=h.2 (Nat.le_add_left _ _) V;have:e'=e:=V
   subst this;exact Xct.grown
 ·exact Xct.void
def yR(ρ:Ren)(G:Nat->Nat)(w:World)(o:gB)(b sh:Nat):Prop:=
 match o with
 |.blk _ g cells=>∃cs e,w.heap[b]?=some (.cells cs e (0,0))/\sh+cells.length<=cs.size/\RVc ρ G w cells b sh/\Xct g e sh cs.size cells.length
 |.map k h=>∃d dM,w.heap[b]?=some (.map d dM)/\sh=0/\RVm ρ G w k h d.toList/\Born d.toList dM
def ad3(ρ:Ren)(w:World):Prop:=(∀b∈fx.blocks,b<w.heap.size/\Imm ρ b)/\fx.ok w
structure Rel(ρ:Ren)(H:ah)(w:World):Prop where
 out:∀r,H.next<=r->ρ r=none/\H.gen r=0
 obj:∀r b sh,ρ r=some (b,sh)->yR ρ H.gen w (H.get r) b sh
 inj:∀r r' b sh sh',ρ r=some (b,sh)->ρ r'=some (b,sh')->r=r'
 gl:ad3 ρ w
structure Ext(ρ:Ren)(H:ah)(w:World)(ρ':Ren)(H':ah)(w':World):Prop where
 next:H.next<=H'.next
 mono:∀r,H.gen r<=H'.gen r
 same:∀r x,ρ r=some x->H'.gen r=H.gen r->ρ' r=some x
 kept:∀r,r<H.next->ρ r=none->ρ' r=none
 range:∀r b sh,ρ' r=some (b,sh)->w.heap.size<=b∨∃sh',ρ r=some (b,sh')
 size:w.heap.size<=w'.heap.size
 frame:∀b,b<w.heap.size->Imm ρ b->w'.heap[b]?=w.heap[b]?
 shape:∀b,b<w.heap.size->w'.shape? b=w.shape? b
 os:w'.os=w.os
 tape:w'.tape=w.tape
 output:w'.output=w.output
def ad3.of {ρ ρ':Ren}{w w':World}(h:ad3 ρ w)(d:w.heap.size<=w'.heap.size)(g:∀r b sh,ρ' r=some (b,sh)->w.heap.size<=b∨∃r' sh',ρ r'=some (b,sh'))(i:∀b,b<w.heap.size->Imm ρ b->w'.heap[b]?=w.heap[b]?):ad3 ρ' w':=by
 refine⟨λb hb=>?_,fx.frame w w' (λb hb=>i b (h.1 b hb).1 (h.1 b hb).2) h.2⟩;obtain⟨j,k⟩:=h.1 b hb;refine⟨zax j d,λr sh e=>?_⟩;rcases g r b sh e with h|⟨r',sh',h⟩
 ·omega
 ·exact k r' sh' h
def ad3.ext {ρ ρ':Ren}{H H':ah}{w w':World}(h:ad3 ρ w)(E:Ext ρ H w ρ' H' w'):ad3 ρ' w':=
 h.of E.size (λr b g e=>(E.range r b g e).imp id λ⟨d,h⟩=>⟨r,d,h⟩) E.frame
mutual
def AV.val?:AV->Option Value
 |.s v=>some v
 |.agg l=>(vals? l).map λvs=>.agg vs.toArray
 |.tup l=>(vals? l).map λvs=>.tuple vs.toArray
 |.ref ..=>none
 |.sl ..=>none
 |.ip ..=>none
 |.vs ..=>none
 |.mp ..=>none
 |.fn ..=>none
def vals?:List AV->Option (List Value)
 |[]=>some []
 |x::xs=>match x.val?,vals? xs with
  |some v,some vs=>some (v::vs)
  |_,_=>none
end
def AV.cells:AV->List AV
 |.agg l=>l
 |.s v=>v.cells.toList.map .s
 |x=>[x]
def AV.aS:AV->Bool
 |.agg _=>false
 |.tup _=>false
 |.s (.agg _)=>false
 |.s (.tuple _)=>false
 |_=>true
def aY:AV:=.tup []
def aN(cells:List AV)(off:Nat)(xs:List AV):List AV:=cells.take off++(xs++cells.drop (off+xs.length))
def je {α:Type}(P:Program):Sem α->Option α
 |.pure a=>some a
 |.program k=>je P (k P)
 |_=>none
def szT(P:Program)(t:TypeId):Option Nat:=(P.info? t).map (·.size)
def yS(P:Program)(t:TypeId):Option Nat:=(P.info? t).map (·.bytes)
def amf(P:Program)(t:TypeId):Option Bool:=
 match P.underlying t with
 |some (.struct _)=>some true
 |some (.array _ _)=>some true
 |some _=>some false
 |none=>none
def JE(P:Program)(t:TypeId):Option TypeId:=
 match P.underlying t with
 |some (.slice e)=>some e
 |_=>none
def zU(P:Program)(t:TypeId):Option Value:=if t<gV then(P.info? t).bind (·.zero)else none
def yH(P:Program)(t:TypeId):Option (List AV):=(zU P t).map λv=>v.cells.toList.map .s
def VD(P:Program)(t:TypeId)(i:Nat):Option Field:=
 match P.underlying t with
 |some (.struct b)=>b[i]?
 |_=>none
def JF(P:Program)(t:TypeId)(cells:List AV)(off:Nat):Option AV:=
 match amf P t,szT P t with
 |some true,some n=>if off+n<=cells.length then some (.agg ((cells.drop off).take n))else none
 |some false,some _=>cells[off]?
 |_,_=>none
def fK(b:Nat->Option (Nat × Nat))(cells:List AV):List (Nat × AV)->Option (List AV)
 |[]=>some cells
 |(i,v)::rest=>
  match b i with
  |none=>none
  |some (off,size)=>
   if v.cells.length=size/\off+v.cells.length<=cells.length then fK b (aN cells off v.cells) rest else none
def PK(P:Program)(b:Array Field)(i:Nat):Option (Nat × Nat):=
 match b[i]? with
 |some f=>(szT P f.type).map λn=>(f.offset,n)
 |none=>none
def fV(P:Program)(t:TypeId)(b:List (Nat × AV)):Option AV:=
 match yH P t,P.underlying t with
 |some z,some (.struct d)=>if d.all (λf=>(szT P f.type).isSome)then(fK (PK P d) z b).map .agg else none
 |some z,some (.array _ e)=>match szT P e with
  |some n=>(fK (λi=>some (i*n,n)) z b).map .agg
  |none=>none
 |_,_=>none
def PL(P:Program)(t:TypeId)(x y:AV):Option Bool:=
 match P.underlying t with
 |some (.slice _)=>match x,y with
  |.sl ..,.s (.slice none _ _)=>some false
  |.vs ..,.s (.slice none _ _)=>some false
  |.s (.slice none _ _),.sl ..=>some false
  |.s (.slice none _ _),.vs ..=>some false
  |_,_=>none
 |some (.pointer _)=>match x,y with
  |.ref ..,.s (.pointer none)=>some false
  |.ip ..,.s (.pointer none)=>some false
  |.s (.pointer none),.ref ..=>some false
  |.s (.pointer none),.ip ..=>some false
  |_,_=>none
 |some (.map _ _)=>match x,y with
  |.mp ..,.s (.map none)=>some false
  |.s (.map none),.mp ..=>some false
  |_,_=>none
 |some (.func _ _ _)=>match x,y with
  |.fn ..,.s .nilFunc=>some false
  |.s .nilFunc,.fn ..=>some false
  |_,_=>none
 |_=>none
def pY(P:Program)(op:BinOp)(t:TypeId)(x y:AV):Option AV:=
 match x.val?,y.val? with
 |some a,some b=>(je P (do eqGuard op t (.tmp 0) (.tmp 0) a b;binOp op t a b)).map .s
 |_,_=>match op with
  |.eql=>(PL P t x y).map λb=>.s (.bool b)
  |.neq=>(PL P t x y).map λb=>.s (.bool !b)
  |_=>none
def auS(P:Program)(op:BinOp)(t:TypeId)(x:AV):Option AV:=
 match x.val? with
 |some a=>(je P (do eqGuard op t (.tmp 0) (.const .nilIface) a .nilIface;binOp op t a .nilIface)).map .s
 |none=>none
def VE:Operand->Bool
 |.const .nilIface=>true
 |_=>false
def amg(P:Program)(op:BinOp)(t:TypeId)(b:Operand)(x y:AV):Option AV:=
 match VE b with
 |true=>auS P op t x
 |false=>pY P op t x y
def unA(P:Program)(op:UnOp)(x:AV):Option AV:=
 match x.val? with
 |some a=>(je P (Op.unary op a)).map .s
 |none=>none
def tC(P:Program)(t:TypeId)(x:AV)(i:Nat):Option AV:=
 match VD P t i with
 |some f=>match szT P f.type with
  |some (_+1)=>match x with
   |.ref r g off=>some (.ref r g (off+f.offset))
   |.ip cells=>some (.ip (cells.drop f.offset))
   |_=>none
  |_=>none
 |none=>none
def PN(P:Program)(t:TypeId)(x:AV)(i:Nat):Option AV:=
 match VD P t i,x with
 |some f,.agg cells=>JF P f.type cells f.offset
 |some f,.s (.agg cs)=>JF P f.type (cs.toList.map .s) f.offset
 |_,_=>none
def PO(P:Program)(t:TypeId)(x i:AV):Option AV:=
 match P.underlying t,x,i with
 |some .string,.s (.string s),.s (.int _ n)=>match(if 0<=n then s[n.toNat]? else none)with
  |some b=>some (.s (.int .u8 b.toNat))
  |none=>none
 |some (.array len e),.agg cells,.s (.int _ n)=>match szT P e with
  |some m=>if 0<=n/\n<len then JF P e cells (n.toNat*m)else none
  |none=>none
 |some (.array len e),.s (.agg cs),.s (.int _ n)=>match szT P e with
  |some m=>if 0<=n/\n<len then JF P e (cs.toList.map .s) (n.toNat*m)else none
  |none=>none
 |_,_,_=>none
def aF(x:AV)(i:Nat):Option AV:=
 match x with
 |.tup l=>l[i]?
 |.s (.tuple vs)=>(vs[i]?).map .s
 |_=>none
def jc:Option AV->Nat->Option Nat
 |none,d=>some d
 |some (.s (.int _ n)),_=>if 0<=n then some n.toNat else none
 |_,_=>none
def isNone {α:Type}:Option α->Bool
 |none=>true
 |some _=>false
def PS(P:Program)(t:TypeId)(x:AV)(lo hi d:Option AV):Option AV:=
 match P.underlying t with
 |some (.slice e)=>match x,szT P e with
  |.s (.slice none 0 0),some _=>match jc lo 0,jc hi 0,jc d 0 with
   |some 0,some 0,some 0=>if hi=none->d=none then some (.s (.slice none 0 0))else none
   |_,_,_=>none
  |.sl r g off b len i ex,some m=>match jc lo 0,jc hi len,jc d i with
   |some l,some h,some k=>
    if b=m/\l<=h/\h<=k/\k<=i/\(hi=none->d=none)then some (.sl r g (off+l*b) b (h-l) (k-l) (ex || !isNone d))else none
   |_,_,_=>none
  |.vs n b cells,some m=>match jc lo 0,jc hi n,d with
   |some l,some h,none=>if b=m/\l<=h/\h<=n then some (.vs (h-l) b ((cells.drop (l*b)).take ((h-l)*b)))else none
   |_,_,_=>none
  |_,_=>none
 |some .string=>match x,jc lo 0,d with
  |.s (.string s),some l,none=>match jc hi s.size with
   |some h=>if l<=h/\h<=s.size then some (.s (.string (s.extract l h)))else none
   |none=>none
  |_,_,_=>none
 |_=>none
abbrev AM(α:Type):=ah->Option (α × ah)
def fQ {α:Type}(x:Option α):AM α:=λH=>x.map λv=>(v,H)
def bQ:AV->Option Nat
 |.ref r _ _=>some r
 |.sl r _ _ _ _ _ _=>some r
 |.mp r=>some r
 |_=>none
def kV(f:Option gB->Option AV)(x:AV):AM AV:=λH=>(f ((bQ x).map H.get)).map λv=>(v,H)
def ajI(P:Program)(t:TypeId)(x:AV)(b:Option gB):Option AV:=
 match x with
 |.ref _ g off=>match b with
  |some (.blk g' _ cells)=>if g'=g then JF P t cells off else none
  |_=>none
 |.ip cells=>JF P t cells 0
 |_=>none
def Tj(P:Program)(t:TypeId)(x:AV):AM AV:=kV (ajI P t x) x
def PU(P:Program)(t:TypeId)(x v:AV):AM AV:=λH=>
 match x with
 |.ref r g off=>match H.get r with
  |.blk g' b cells=>
   if g'=g/\H.base<=r/\szT P t=some v.cells.length/\v.cells.all AV.aS=true/\off+v.cells.length<=cells.length then
    some (aY,H.put r (.blk g b (aN cells off v.cells)))
   else none
  |.map ..=>none
 |_=>none
def JW(P:Program)(t:TypeId):AM AV:=λH=>
 match yH P t with
 |some z=>if z.all AV.aS=true then some (.ref H.next 0 0,H.new (.blk 0 t z))else none
 |none=>none
def fM(t:TypeId)(v:AV):AM AV:=λH=>
 if v.cells.all AV.aS=true/\t<gV then some (.ref H.next 0 0,H.new (.blk 0 t v.cells))else none
def dK(z:List AV):Nat->List AV
 |0=>[]
 |n+1=>z++dK z n
def dH(P:Program)(t:TypeId)(len:Nat)(b:List (Nat × AV)):AM AV:=λH=>
 match JE P t with
 |some e=>match szT P e,yH P e with
  |some m,some z=>
   if z.length=m/\len*m<=16777216 then
    match fK (λi=>some (i*m,m)) (dK z len) b with
    |some cells=>if cells.all AV.aS=true then some (.sl H.next 0 0 m len len true,H.new (.blk 0 e cells))else none
    |none=>none
   else none
  |_,_=>none
 |none=>none
def qc(P:Program)(t:TypeId)(len cap:AV):AM AV:=λH=>
 match JE P t,len,cap with
 |some e,.s (.int _ l),.s (.int _ c)=>match szT P e,yS P e,yH P e with
  |some m,some by_,some z=>
   if z.length=m/\z.all AV.aS=true/\0<=l/\l<=c/\c<=140737488355328/\by_*c<=140737488355328 then
    some (.sl H.next 0 0 m l.toNat c.toNat true,H.new (.blk 0 e (dK z c.toNat)))
   else none
  |_,_,_=>none
 |_,_,_=>none
def arL:Option gB->Nat
 |some o=>o.gen
 |none=>0
def JX(P:Program)(t:TypeId)(x i:AV)(d:Option gB):Option AV:=
 match P.underlying t with
 |some (.slice e)=>match x with
  |.sl r g off b len _ _=>match i with
   |.s (.int _ n)=>if szT P e=some b/\arL d=g/\0<=n/\n<len then some (.ref r g (off+n.toNat*b))else none
   |_=>none
  |.vs len b cells=>match i with
   |.s (.int _ n)=>if szT P e=some b/\0<=n/\n<len then some (.ip (cells.drop (n.toNat*b)))else none
   |_=>none
  |_=>none
 |some (.array len e)=>match szT P e with
  |some m=>match x with
   |.ref r g off=>match i with
    |.s (.int _ n)=>if 0<=n/\n<len then some (.ref r g (off+n.toNat*m))else none
    |_=>none
   |.ip cells=>match i with
    |.s (.int _ n)=>if 0<=n/\n<len then some (.ip (cells.drop (n.toNat*m)))else none
    |_=>none
   |_=>none
  |none=>none
 |_=>none
def BX(P:Program)(t:TypeId)(x i:AV):AM AV:=kV (JX P t x i) x
def al4(P:Program)(t:TypeId):Option (IntKind × TypeId):=
 match P.underlying t with
 |some (.map k e)=>match P.underlying k with
  |some (.int b)=>some (b,e)
  |_=>none
 |_=>none
def xR(P:Program)(t:TypeId):AM AV:=λH=>
 match al4 P t with
 |some (k,_)=>some (.mp H.next,H.new (.map k []))
 |none=>none
def ql:List (Int × AV)->Int->Option AV
 |[],_=>none
 |(k,v)::b,n=>if k=n then some v else ql b n
def MF:List (Int × AV)->Int->AV->List (Int × AV)
 |[],n,x=>[(n,x)]
 |(k,v)::b,n,x=>if k=n then(n,x)::b else(k,v)::MF b n x
def zV:List (Int × AV)->Int->List (Int × AV)
 |[],_=>[]
 |(k,v)::b,n=>if k=n then b else(k,v)::zV b n
def ZI(P:Program)(t:TypeId)(x i:AV)(ok:Bool)(d:Option gB):Option AV:=
 match al4 P t with
 |some (k,e)=>match zU P e with
  |some z=>match x with
   |.mp _=>match i with
    |.s (.int k' n)=>match d with
     |some (.map b g)=>
      if k'=k/\b=k then
       match ql g n with
       |some v=>some (if ok then .tup [v,.s (.bool true)]else v)
       |none=>some (if ok then .tup [.s z,.s (.bool false)]else .s z)
      else none
     |_=>none
    |_=>none
   |_=>none
  |none=>none
 |none=>none
def Tn(P:Program)(t:TypeId)(x i:AV)(ok:Bool):AM AV:=kV (ZI P t x i ok) x
def tJ(P:Program)(t:TypeId)(x i v:AV):AM AV:=λH=>
 match al4 P t,x,i with
 |some (k,_),.mp r,.s (.int k' n)=>match H.get r with
  |.map b d=>if k'=k/\b=k/\H.base<=r then some (aY,H.put r (.map k (MF d n v)))else none
  |_=>none
 |_,_,_=>none
def cZ(H:ah):AV->Option (List AV)
 |.sl r g off d len _ _=>match H.get r with
  |.blk g' _ cells=>if g'=g/\off+len*d<=cells.length then some ((cells.drop off).take (len*d))else none
  |.map ..=>none
 |.vs _ _ cells=>some cells
 |.s (.slice none _ _)=>some []
 |.s (.string s)=>some (s.data.toList.map λb=>.s (.int .u8 b.toNat))
 |_=>none
def kK:AV->Option Nat
 |.sl _ _ _ _ len _ _=>some len
 |.vs n _ _=>some n
 |.s (.slice none n _)=>some n
 |.s (.string s)=>some s.size
 |_=>none
def most:Nat:=140737488355328
def dW(e:TypeId)(m by_:Nat)(x:AV)(n:Nat)(new:List AV):AM AV:=λH=>
 if new.length=n*m/\new.all AV.aS=true then
  match x with
  |.s (.slice none 0 0)=>
   if n=0 then some (x,H)
   else if n<=most/\n*by_<=most then some (.sl H.next 0 0 m n n false,H.new (.blk 0 (e+gV) new))
   else none
  |.sl r g off d len b ex=>match H.get r with
   |.blk g' h cells=>
    if d=m/\g'=g/\off+len*m<=cells.length then
     if n=0 then some (x,H)
     else if len+n<=b then
      (if H.base<=r/\off+(len+n)*m<=cells.length then some (.sl r g off m (len+n) b ex,H.put r (.blk g h (aN cells (off+len*m) new)))else none)
     else if len+n<=most/\(len+n)*by_<=most then
      if ex then some (.sl H.next 0 0 m (len+n) (len+n) false,H.new (.blk 0 (e+gV) ((cells.drop off).take (len*m)++new)))
      else if H.base<=r then some (.sl r (g+1) 0 m (len+n) (len+n) false,H.put r (.blk (g+1) (grT e h off) ((cells.drop off).take (len*m)++new)))
      else none
     else none
    else none
   |.map ..=>none
  |_=>none
 else none
def MG(P:Program)(t u:TypeId)(x y:AV):AM AV:=λH=>
 match JE P t,P.underlying u with
 |some e,some d=>match szT P e,yS P e,yH P e with
  |some m,some by_,some z=>
   if z.length=m then
    match d with
    |.int _=>match y with
     |.s (.int _ n)=>if 0<=n/\n<=most/\n*by_<=most then dW e m by_ x n.toNat (dK z n.toNat) H else none
     |_=>none
    |_=>match kK y,cZ H y with
     |some n,some new=>dW e m by_ x n new H
     |_,_=>none
   else none
  |_,_,_=>none
 |_,_=>none
def ad8(P:Program)(t:TypeId)(x y:AV):AM AV:=λH=>
 match JE P t with
 |some e=>match szT P e,kK x,kK y,cZ H y with
  |some m,some d,some n,some new=>
   let k:=min n d
   if new.length=n*m/\new.all AV.aS=true then
    if k=0 then(match x with|.s (.string _)=>none|_=>some (.s (.int .i64 0),H))else
    match x with
    |.sl r g off b len _ _=>match H.get r with
     |.blk g' h cells=>
      if b=m/\g'=g/\H.base<=r/\off+len*m<=cells.length then
       some (.s (.int .i64 k),H.put r (.blk g h (aN cells off (new.take (k*m)))))
      else none
     |.map ..=>none
    |_=>none
   else none
  |_,_,_,_=>none
 |none=>none
def VF(P:Program)(t:TypeId)(x:AV):AM AV:=λH=>
 match JE P t with
 |some e=>match szT P e,yH P e,x with
  |some m,some z,.sl r g off b len _ _=>
   if len=0 then some (.tup [],H)else
   match H.get r with
   |.blk g' d cells=>
    if b=m/\g'=g/\H.base<=r/\z.length=m/\z.all AV.aS=true/\off+len*m<=cells.length then
     some (.tup [],H.put r (.blk g d (aN cells off (dK z len))))
    else none
   |.map ..=>none
  |some _,some _,.s (.slice none _ _)=>some (.tup [],H)
  |_,_,_=>none
 |none=>none
def MJ(P:Program)(t:TypeId)(x i:AV):AM AV:=λH=>
 match al4 P t,x,i with
 |some (k,_),.mp r,.s (.int k' n)=>match H.get r with
  |.map b d=>if k'=k/\b=k/\H.base<=r then some (.tup [],H.put r (.map k (zV d n)))else none
  |_=>none
 |_,_,_=>none
def asa(P:Program)(t:TypeId)(x:AV)(b:Option gB):Option AV:=
 match P.underlying t with
 |some (.slice _)=>match x with
  |.sl _ _ _ _ len _ _=>some (.s (.int .i64 len))
  |.vs n _ _=>some (.s (.int .i64 n))
  |.s (.slice _ n _)=>some (.s (.int .i64 n))
  |_=>none
 |some .string=>match x with
  |.s (.string s)=>some (.s (.int .i64 s.size))
  |_=>none
 |some (.map _ _)=>match x with
  |.mp _=>match b with
   |some (.map _ d)=>some (.s (.int .i64 d.length))
   |_=>none
  |.s (.map none)=>some (.s (.int .i64 0))
  |_=>none
 |_=>none
def asb(P:Program)(t:TypeId)(x:AV):AM AV:=kV (asa P t x) x
def agF(P:Program)(t:TypeId)(x:AV):Option AV:=
 match P.underlying t with
 |some (.slice _)=>match x with
  |.sl _ _ _ _ _ b true=>some (.s (.int .i64 b))
  |.s (.slice none _ c)=>some (.s (.int .i64 c))
  |_=>none
 |_=>none
def oK:List AV->Option (List Int)
 |[]=>some []
 |x::xs=>match x with
  |.s (.int .u8 n)=>match oK xs with
   |some l=>some (n::l)
   |none=>none
  |_=>none
def PV(b:List Int):ByteArray:=b.foldl (λs n=>s.push (UInt8.ofNat n.toNat)) ByteArray.empty
def al5(x:AV)(d:Option gB):Option ByteArray:=
 match x with
 |.sl _ g off b len _ _=>if b=1 then match d with
   |some (.blk g' _ cells)=>if g'=g/\off+len*b<=cells.length then(oK ((cells.drop off).take (len*b))).map PV else none
   |_=>none
  else none
 |.vs _ b cells=>if b=1 then(oK cells).map PV else none
 |.s (.slice none _ _)=>some ByteArray.empty
 |_=>none
def Gs(P:Program)(src dst:TypeId):Bool:=
 match P.underlying src,P.underlying dst with
 |some (.slice e),some .string=>match P.underlying e with
  |some (.int .u8)=>true
  |_=>false
 |_,_=>false
def zW(P:Program)(src dst:TypeId)(x:AV)(b:Option gB):Option AV:=
 if Gs P src dst=true then(al5 x b).map λs=>.s (.string s)
 else match x.val? with
  |some v=>(je P (convert src dst v)).map .s
  |none=>none
def kL(P:Program)(src dst:TypeId)(x:AV):AM AV:=kV (zW P src dst x) x
def bV(H:ah)(n:Nat):Nat->AV->Option AV
 |0,_=>none
 |d+1,x=>match x with
  |.s v=>some (.s v)
  |.ref r g off=>if r<n then some (.ref r g off)else none
  |.mp r=>if r<n then some (.mp r)else none
  |.sl r g off b len e ex=>
   if r<n then some (.sl r g off b len e ex)
   else match cZ H (.sl r g off b len e ex)with
    |some cells=>(cells.mapM (bV H n d)).map λl=>.vs len b l
    |none=>none
  |.ip cells=>(cells.mapM (bV H n d)).map .ip
  |.vs k b cells=>(cells.mapM (bV H n d)).map (.vs k b)
  |.fn f a c=>match a.mapM (bV H n d),c.mapM (bV H n d)with
   |some a,some c=>some (.fn f a c)
   |_,_=>none
  |.agg cells=>(cells.mapM (bV H n d)).map .agg
  |.tup cells=>(cells.mapM (bV H n d)).map .tup
abbrev aA:=FuncId->List AV->AM AV
abbrev gG:=List AV
def dS(t:gG):Operand->AV
 |.tmp i=>t.getD i aY
 |.const v=>.s v
 |.global g=>.s (.pointer (some ⟨g,0,none⟩))
 |.func f=>.fn (.func f) [] []
def wF(t:gG)(dst:Option Tmp)(v:AV):gG:=
 match dst with
 |some d=>t.set d v
 |none=>t
def qm(P:Program)(f:FuncId):Bool:=
 match P.funcs[f]? with
 |some fn=>!(fn.name=="runtime.NumGoroutine") && fn.body.isSome
 |none=>false
def qo(P:Program)(C:aA)(f:AV)(args:List AV):AM AV:=
 match f with
 |.fn (.func f) first b=>if qm P f=true then C f (first++args++b)else λ_=>none
 |.s (.func (.func f) first b)=>if qm P f=true then C f (first.toList.map .s++args++b.toList.map .s)else λ_=>none
 |_=>λ_=>none
def bJ(c a b:AV):Option AV:=
 match c with
 |.s (.bool true)=>some a
 |.s (.bool false)=>some b
 |_=>none
def ay(x:AV):Option AV:=
 match x with
 |.ref ..=>some x
 |.ip ..=>some x
 |.fn (.func _) _ _=>some x
 |.s (.pointer (some _))=>some x
 |_=>none
def kF(P:Program)(d:Bool)(b:Array TypeId)(type:TypeId)(args:List AV):Option AV:=
 match vals? args with
 |some vs=>(je P (if d then Builtin.max_ b type vs.toArray else Builtin.min_ b type vs.toArray)).map .s
 |none=>none
def iV(P:Program)(b:Builtin)(d:Array TypeId)(type:TypeId)(args:List AV):AM AV:=λH=>
 match b,d.toList,args with
 |.append,[t,u],[x,y]=>MG P t u x y H
 |.len,[t],[x]=>asb P t x H
 |.cap,[t],[x]=>fQ (agF P t x) H
 |.copy,t::_,[x,y]=>ad8 P t x y H
 |.clear,[t],[x]=>VF P t x H
 |.delete,t::_,[x,y]=>MJ P t x y H
 |.max,_,args=>fQ (kF P true d type args) H
 |.min,_,args=>fQ (kF P false d type args) H
 |_,_,_=>none
def wH(P:Program)(C:aA)(t:gG)(c:Call)(type:TypeId):AM AV:=λH=>
 match c.callee with
 |.value f=>qo P C (dS t f) (c.args.toList.map (dS t)) H
 |.builtin b=>iV P b c.argTypes type (c.args.toList.map (dS t)) H
 |.invoke _ _=>none
def opA(P:Program)(C:aA)(t:gG)(o:Oper):AM AV:=
 match o.op with
 |.move x=>fQ (some (dS t x))
 |.assign x=>fQ (some (dS t x))
 |.pick c a b=>fQ (bJ (dS t c) (dS t a) (dS t b))
 |.alloc e=>JW P e
 |.box e x=>fM e (dS t x)
 |.build d ps=>fQ (fV P d (ps.toList.map λp=>(p.1,dS t p.2)))
 |.buildSlice d n ps=>dH P d n (ps.toList.map λp=>(p.1,dS t p.2))
 |.load d x=>Tj P d (dS t x)
 |.store d x v=>PU P d (dS t x) (dS t v)
 |.nilCheck x=>fQ (ay (dS t x))
 |.binOp op d x y _=>fQ (amg P op d y (dS t x) (dS t y))
 |.unOp op _ x=>fQ (unA P op (dS t x))
 |.convert src dst x=>kL P src dst (dS t x)
 |.makeFunc f a c=>fQ (some (.fn f (a.toList.map (dS t)) (c.toList.map (dS t))))
 |.makeMap d none=>xR P d
 |.makeSlice d l c=>qc P d (dS t l) (dS t c)
 |.slice d x lo hi g=>fQ (PS P d (dS t x) (lo.map (dS t)) (hi.map (dS t)) (g.map (dS t)))
 |.fieldAddr d x i=>fQ (tC P d (dS t x) i)
 |.field d x i=>fQ (PN P d (dS t x) i)
 |.indexAddr d x i=>BX P d (dS t x) (dS t i)
 |.index d x i=>fQ (PO P d (dS t x) (dS t i))
 |.lookup d x i ok=>Tn P d (dS t x) (dS t i) ok
 |.mapUpdate d m k v=>tJ P d (dS t m) (dS t k) (dS t v)
 |.extract x i=>fQ (aF (dS t x) i)
 |.call c=>wH P C t c o.type
 |_=>λ_=>none
def uM(ops:List Oper)(t:gG)(o:Oper):Option Bool:=
 match o.guard with
 |none=>some true
 |some (j,e)=>match ops[j]? with
  |some p=>match p.dst with
   |some d=>match t[d]? with
    |some (.s (.bool b))=>some (b==e)
    |some (.tup [])=>some false
    |_=>none
   |none=>none
  |none=>none
def PW(P:Program)(C:aA)(ops:List Oper):List Oper->gG->AM gG
 |[],t,H=>some (t,H)
 |o::rest,t,H=>match uM ops t o with
  |some true=>match opA P C t o H with
   |some (v,H')=>PW P C ops rest (wF t o.dst v) H'
   |none=>none
  |some false=>PW P C ops rest (wF t o.dst aY) H
  |none=>none
def amh:List Nat:=[
 191,
 48,
 198,
 15,
 49,
 199,
 22,
 0]
def ad9:Operand->Bool
 |.const _=>true
 |_=>false
def EH:Op->Bool
 |.alloc _=>true
 |.buildSlice _ _ ps=>ps.all λp=>ad9 p.2
 |_=>false
def qW:Op->Bool
 |.move _=>true
 |.assign _=>true
 |.pick _ _ _=>true
 |.build _ _=>true
 |.nilCheck _=>true
 |.binOp _ _ _ _ _=>true
 |.unOp _ _ _=>true
 |.makeFunc _ _ _=>true
 |.slice _ _ _ _ _=>true
 |.fieldAddr _ _ _=>true
 |.field _ _ _=>true
 |.index _ _ _=>true
 |.extract _ _=>true
 |.load _ _=>true
 |.lookup _ _ _ _=>true
 |.indexAddr _ _ _=>true
 |.convert _ _ _=>true
 |.call c=>match c.callee with
  |.builtin .len=>true
  |.builtin .cap=>true
  |.builtin .max=>true
  |.builtin .min=>true
  |_=>false
 |_=>false
def asc:Operand->Bool
 |.func f=>amh.contains f
 |_=>false
def uN:Op->Bool
 |.box _ _=>true
 |.buildSlice _ _ _=>true
 |.makeMap _ _=>true
 |.makeSlice _ _ _=>true
 |.call c=>match c.callee with
  |.value x=>!asc x
  |_=>false
 |_=>false
def mM:Op->Bool
 |.call c=>match c.callee with
  |.value x=>!asc x
  |_=>false
 |_=>false
def ajJ:Op->Bool
 |.call c=>match c.callee with
  |.value x=>asc x
  |_=>false
 |_=>false
def MK:Op->Bool
 |.load _ _=>true
 |.lookup _ _ _ _=>true
 |.indexAddr _ _ _=>true
 |.convert _ _ _=>true
 |.call c=>match c.callee with
  |.builtin .len=>true
  |_=>false
 |_=>false
def lK(t:gG):Op->Option Nat
 |.load _ x=>bQ (dS t x)
 |.lookup _ x _ _=>bQ (dS t x)
 |.indexAddr _ x _=>bQ (dS t x)
 |.convert _ _ x=>bQ (dS t x)
 |.call c=>match c.args.toList with
  |[x]=>bQ (dS t x)
  |_=>none
 |_=>none
def mW(ops:List Oper)(i j:Nat):Bool:=((Region.before ops.toArray).getD j 0).testBit i
def qp(ops:List Oper)(i:Nat):Op:=(ops[i]?.map (·.op)).getD (.alloc 0)
def JY(ops:List Oper)(i:Nat):Option Tmp:=ops[i]?.bind (·.dst)
def cst(ops:List Oper)(i:Nat):Bool:=EH (qp ops i)
def flo(ops:List Oper)(i:Nat):Bool:=qW (qp ops i)
def chn(ops:List Oper)(i:Nat):Bool:=!cst ops i && !flo ops i
def Gt(ops:List Oper)(i j:Nat):Bool:=if cst ops i==cst ops j then decide (i<j)else cst ops i
def Ey(n:Nat)(f:Nat->Bool):Bool:=(List.range n).all f
def Ya(ops:List Oper)(j e:Nat):Bool:=chn ops e && flo ops j && MK (qp ops j) && !mW ops j e && !mW ops e j
def loose(ops:List Oper)(e:Nat):Bool:=(List.range ops.length).any λj=>Ya ops j e || (cst ops j && chn ops e && !mW ops j e)
def lW(ops:List Oper):List (Nat × Nat):=
 (List.range ops.length).flatMap λj=>((List.range ops.length).filter λe=>(Ya ops j e && !uN (qp ops e)) || (cst ops j && chn ops e && !mW ops j e && ajJ (qp ops e))).map λe=>(j,e)
def VG(ops:List Oper):Bool:=
 let n:=ops.length
 (Ey n λj=>(ops[j]?.map λo=>o.after.all λe=>!Region.binds .any e || (decide (e.on<n) && Gt ops e.on j)).getD false) &&
 (Ey n λi=>Ey n λj=>!(decide (i<j)) || (JY ops i).isNone || !(JY ops i==JY ops j)) &&
 (Ey n λi=>Ey n λj=>i==j || (match JY ops i,ops[j]? with
  |some d,some o=>!(o.looksAt ops.toArray).contains d || (mW ops i j && Gt ops i j) || (mW ops j i && Gt ops j i)
  |_,_=>true)) &&
 (Ey n λi=>Ey n λj=>!(chn ops i && chn ops j && decide (i<j)) || mW ops i j) &&
 (Ey n λj=>!cst ops j || ((ops[j]?.map λo=>o.guard.isNone && o.dst.isSome).getD false)) &&
 (Ey n λj=>Ey n λe=>!(cst ops j && chn ops e && !mW ops j e) || ((uN (qp ops e) || ajJ (qp ops e)) && !mW ops e j))
def opG(P:Program)(C:aA)(t:gG)(o:Oper):AM AV:=λH=>
 match opA P C t o H.guard with
 |some (v,H')=>some (v,{ H' with base:=H.base })
 |none=>none
def mV(P:Program)(C:aA)(ops:List Oper)(lo:Bool)(o:Oper)(t:gG):AM AV:=λH=>
 match uM ops t o with
 |some true=>if lo then opG P C t o H else opA P C t o H
 |some false=>some (aY,H)
 |none=>none
def iW(P:Program)(C:aA)(ops:List Oper):List Nat->gG->ah->Option (gG × ah)
 |[],t,H=>some (t,H)
 |i::is,t,H=>match ops[i]? with
  |some o=>match opA P C t o H with
   |some (v,H')=>iW P C ops is (wF t o.dst v) H'
   |none=>none
  |none=>none
def fZ(P:Program)(C:aA)(ops:List Oper):List Nat->gG->ah->Option (gG × ah)
 |[],t,H=>some (t,H)
 |i::is,t,H=>match ops[i]? with
  |some o=>match mV P C ops (loose ops i && mM o.op) o t H with
   |some (v,H')=>fZ P C ops is (wF t o.dst v) H'
   |none=>none
  |none=>none
def oL(ops:List Oper):List Nat:=(List.range ops.length).filter (cst ops)
def mX(ops:List Oper):List Nat:=(List.range ops.length).filter λi=>!cst ops i
def Gu(P:Program)(C:aA)(ops:List Oper)(p:Nat)(t:gG)(H:ah):Option (gG × ah):=
 fZ P C ops ((List.range p).filter λi=>!cst ops i) t H
def agree(P:Program)(C:aA)(ops:List Oper)(s:Nat)(t:gG)(H:ah)(p:Nat × Nat):Prop:=
 if cst ops p.1=true then
  ∀g e d b,Gu P C ops p.2 t H=some (g,e)->Gu P C ops (p.2+1) t H=some (d,b)->∀r,s<=r->r<H.next->b.get r=e.get r
 else
 ∀h i g e d b,Gu P C ops p.1 t H=some (h,i)->Gu P C ops p.2 t H=some (g,e)->Gu P C ops (p.2+1) t H=some (d,b)->
  ∀r,lK h (qp ops p.1)=some r->b.get r=e.get r
open Classical in
def y7(P:Program)(C:aA)(ops:List Oper)(t:gG)(H:ah):Option (gG × ah):=
 if VG ops=true then
  match iW P C ops (oL ops) t H with
  |some (t0,H0)=>match lW ops with
   |[]=>fZ P C ops (mX ops) t0 H0
   |ps=>if∀p∈ps,agree P C ops H.next t0 H0 p then fZ P C ops (mX ops) t0 H0 else none
  |none=>none
 else none
mutual
def NV(n:Nat):AV->Prop
 |.s _=>True
 |.ref r _ _=>r<n
 |.sl r _ _ _ _ _ _=>r<n
 |.ip cells=>NVs n cells
 |.vs _ _ cells=>NVs n cells
 |.mp r=>r<n
 |.fn _ a c=>NVs n a/\NVs n c
 |.agg cells=>NVs n cells
 |.tup cells=>NVs n cells
def NVs(n:Nat):List AV->Prop
 |[]=>True
 |x::xs=>NV n x/\NVs n xs
end
mutual
def RV.nv {ρ:Ren}{G:Nat->Nat}{w:World}{n:Nat}(out:∀r,n<=r->ρ r=none/\G r=0):∀(x:AV) (v:Value),RV ρ G w x v->NV n x
 |.s _,_,_=>by simp[NV]
 |.ref r g off,v,h=>by
  obtain⟨a,_,d,j⟩:=(by simpa only[RV]using h)
  simp only[NV];rcases zaU r n with i|i
  ·exact i
  ·obtain⟨k,p⟩:=out r i;obtain⟨b,u,hb,_⟩:=j V;rw[k]at hb;cases hb
 |.sl r g off q len y ex,v,h=>by
  obtain⟨b,o,c,_,_,_,_,d,j⟩:=(by simpa only[RV]using h)
  simp only[NV];rcases zaU r n with i|i
  ·exact i
  ·obtain⟨k,p⟩:=out r i;obtain⟨u,e,m,hb,_⟩:=j V;rw[k]at hb;cases hb
 |.ip cells,v,h=>by
  obtain⟨b,o,_,_,_,d⟩:=(by simpa only[RV]using h)
  simp only[NV];exact RVc.nv out cells b o d
 |.vs m q cells,v,h=>by
  obtain⟨b,o,c,_,_,_,_,_,d⟩:=(by simpa only[RV]using h)
  simp only[NV];exact RVc.nv out cells b o d
 |.mp r,v,h=>by
  obtain⟨b,_,d⟩:=(by simpa only[RV]using h)
  simp only[NV];rcases zaU r n with i|i
  ·exact i
  ·obtain⟨k,p⟩:=out r i;have:=d p;rw[k]at this;cases this
 |.fn f a c,v,h=>by
  obtain⟨a',c',_,d,j⟩:=(by simpa only[RV]using h)
  simp only[NV];exact⟨RVs.nv out a _ d,RVs.nv out c _ j⟩
 |.agg cells,v,h=>by
  obtain⟨cs,_,d⟩:=(by simpa only[RV]using h)
  simp only[NV];exact RVs.nv out cells _ d
 |.tup cells,v,h=>by
  obtain⟨cs,_,d⟩:=(by simpa only[RV]using h)
  simp only[NV];exact RVs.nv out cells _ d
def RVs.nv {ρ:Ren}{G:Nat->Nat}{w:World}{n:Nat}(out:∀r,n<=r->ρ r=none/\G r=0):∀(xs:List AV) (l:List Value),RVs ρ G w xs l->NVs n xs
 |[],_,_=>by simp[NVs]
 |x::xs,l,h=>by
  obtain⟨y,b,_,d,e⟩:=(by simpa only[RVs]using h)
  simp only[NVs];exact⟨RV.nv out x y d,RVs.nv out xs b e⟩
def RVc.nv {ρ:Ren}{G:Nat->Nat}{w:World}{n:Nat}(out:∀r,n<=r->ρ r=none/\G r=0):∀(xs:List AV) (b o:Nat),RVc ρ G w xs b o->NVs n xs
 |[],_,_,_=>by simp[NVs]
 |x::xs,b,o,h=>by
  obtain⟨⟨y,_,d⟩,e⟩:=(by simpa only[RVc]using h)
  simp only[NVs];exact⟨RV.nv out x y d,RVc.nv out xs b (o+1) e⟩
end
structure agG(ρ:Ren)(G:Nat->Nat)(w:World)(ρ':Ren)(G':Nat->Nat)(w':World):Prop where
 mono:∀r,G r<=G' r
 same:∀r x,ρ r=some x->G' r=G r->ρ' r=some x
 imm:∀b,b<w.heap.size->Imm ρ b->b<w'.heap.size/\Imm ρ' b/\∀o,w'.cell? ⟨b,o,none⟩=w.cell? ⟨b,o,none⟩
 shape:∀b e m,w.shape? b=some (e,m)->w'.shape? b=some (e,m)
mutual
def RV.mono {ρ ρ':Ren}{G G':Nat->Nat}{w w':World}(M:agG ρ G w ρ' G' w'):∀(x:AV) (v:Value),RV ρ G w x v->RV ρ' G' w' x v
 |.s _,_,h=>by simpa only[RV]using h
 |.ref r g off,v,h=>by
  obtain⟨a,e,d,n⟩:=(by simpa only[RV]using h)
  simp only[RV];have m:=M.mono r;refine⟨a,e,V,λz=>?_⟩;have p:G r=g:=V
  obtain⟨b,q,A,ha⟩:=n p;exact⟨b,q,M.same r _ A V,ha⟩
 |.sl r g off u len C ex,v,h=>by
  obtain⟨b,o,c,e,k1,y,D,d,n⟩:=(by simpa only[RV]using h)
  simp only[RV];have m:=M.mono r;refine⟨b,o,c,e,k1,y,D,V,λz=>?_⟩;have p:G r=g:=V
  obtain⟨q,E,k,F,H,K,L⟩:=n p;exact⟨q,E,k,M.same r _ F V,H,M.shape _ _ _ K,L⟩
 |.ip cells,v,h=>by
  obtain⟨b,o,e,hb,hi,d⟩:=(by simpa only[RV]using h)
  simp only[RV];obtain⟨i,j,hc⟩:=M.imm b hb hi;exact⟨b,o,e,i,j,RVc.mono M cells b o (λo v hv=>by rw[hc];exact hv) d⟩
 |.vs m u cells,v,h=>by
  obtain⟨b,o,c,e,k1,y,hb,hi,d⟩:=(by simpa only[RV]using h)
  simp only[RV];obtain⟨i,j,hc⟩:=M.imm b hb hi;exact⟨b,o,c,e,k1,y,i,j,RVc.mono M cells b o (λo v hv=>by rw[hc];exact hv) d⟩
 |.mp r,v,h=>by
  obtain⟨b,e,d⟩:=(by simpa only[RV]using h)
  simp only[RV];have m:=M.mono r;refine⟨b,e,λz=>?_⟩;have p:G r=0:=V
  exact M.same r _ (d p) V
 |.fn f a c,v,h=>by
  obtain⟨a',c',e,d,n⟩:=(by simpa only[RV]using h)
  simp only[RV];exact⟨a',c',e,RVs.mono M a _ d,RVs.mono M c _ n⟩
 |.agg cells,v,h=>by
  obtain⟨cs,e,d⟩:=(by simpa only[RV]using h)
  simp only[RV];exact⟨cs,e,RVs.mono M cells _ d⟩
 |.tup cells,v,h=>by
  obtain⟨cs,e,d⟩:=(by simpa only[RV]using h)
  simp only[RV];exact⟨cs,e,RVs.mono M cells _ d⟩
def RVs.mono {ρ ρ':Ren}{G G':Nat->Nat}{w w':World}(M:agG ρ G w ρ' G' w'):∀(xs:List AV) (l:List Value),RVs ρ G w xs l->RVs ρ' G' w' xs l
 |[],_,h=>by simpa only[RVs]using h
 |x::xs,l,h=>by
  obtain⟨y,b,e,d,g⟩:=(by simpa only[RVs]using h)
  simp only[RVs];exact⟨y,b,e,RV.mono M x y d,RVs.mono M xs b g⟩
def RVc.mono {ρ ρ':Ren}{G G':Nat->Nat}{w w':World}(M:agG ρ G w ρ' G' w'):∀(xs:List AV) (b o:Nat),(∀o v,w.cell? ⟨b,o,none⟩=some v->w'.cell? ⟨b,o,none⟩=some v)->RVc ρ G w xs b o->RVc ρ' G' w' xs b o
 |[],_,_,_,_=>by simp only[RVc]
 |x::xs,b,o,hc,h=>by
  obtain⟨⟨y,e,d⟩,g⟩:=(by simpa only[RVc]using h)
  simp only[RVc];exact⟨⟨y,hc _ _ e,RV.mono M x y d⟩,RVc.mono M xs b (o+1) hc g⟩
end
structure Back(n:Nat)(ρ:Ren)(G:Nat->Nat)(ρ':Ren)(G':Nat->Nat):Prop where
 gen:∀r,r<n->G' r=G r
 same:∀r,r<n->ρ' r=none∨ρ' r=ρ r
 sub:∀r x,ρ' r=some x->ρ r=some x
def Back.imm {n:Nat}{ρ ρ':Ren}{G G':Nat->Nat}(B:Back n ρ G ρ' G'){b:Nat}(h:Imm ρ b):Imm ρ' b:=λr d e=>h r d (B.sub r _ e)
mutual
def RV.back {n:Nat}{ρ ρ':Ren}{G G':Nat->Nat}{w w0:World}(B:Back n ρ G ρ' G')(out:∀r,n<=r->ρ' r=none/\G' r=0):∀(x:AV) (v y:Value),RV ρ' G' w0 x y->RV ρ G w x v->RV ρ' G' w x v
 |.s _,_,_,_,h=>by simpa only[RV]using h
 |.ref r g off,v,y,d,h=>by
  have j:=RV.nv out _ _ d;simp only[NV]at j;obtain⟨a0,_,p,A⟩:=(by simpa only[RV]using d)
  obtain⟨a,e,i,C⟩:=(by simpa only[RV]using h)
  simp only[RV];refine⟨a,e,by rw[B.gen r j];exact i,λz=>?_⟩;obtain⟨D,L,u,_⟩:=A z;obtain⟨b,E,M,ha⟩:=C (by rw[<-B.gen r j];exact z);refine⟨b,E,?_,ha⟩;rcases B.same r j with q|q
  ·rw[q]at u;cases u
  ·rw[q];exact M
 |.sl r g off F len Q ex,v,y,d,h=>by
  have j:=RV.nv out _ _ d;simp only[NV]at j;obtain⟨_,_,_,_,_,_,_,_,A⟩:=(by simpa only[RV]using d)
  obtain⟨b,o,c,e,k1,H,R,i,C⟩:=(by simpa only[RV]using h)
  simp only[RV];refine⟨b,o,c,e,k1,H,R,by rw[B.gen r j];exact i,λz=>?_⟩;obtain⟨_,_,_,u,_⟩:=A z;obtain⟨E,T,k,W,X,q3,q4⟩:=C (by rw[<-B.gen r j];exact z);refine⟨E,T,k,?_,X,q3,q4⟩;rcases B.same r j with q|q
  ·rw[q]at u;cases u
  ·rw[q];exact W
 |.ip cells,v,y,d,h=>by
  obtain⟨D,K,_,_,_,p⟩:=(by simpa only[RV]using d)
  obtain⟨b,o,e,hb,hi,i⟩:=(by simpa only[RV]using h)
  simp only[RV];exact⟨b,o,e,hb,B.imm hi,RVc.back B out cells b o D K p i⟩
 |.vs m F cells,v,y,d,h=>by
  obtain⟨D,K,_,_,_,_,_,_,p⟩:=(by simpa only[RV]using d)
  obtain⟨b,o,c,e,k1,H,hb,hi,i⟩:=(by simpa only[RV]using h)
  simp only[RV];exact⟨b,o,c,e,k1,H,hb,B.imm hi,RVc.back B out cells b o D K p i⟩
 |.mp r,v,y,d,h=>by
  have j:=RV.nv out _ _ d;simp only[NV]at j;obtain⟨_,_,p⟩:=(by simpa only[RV]using d)
  obtain⟨b,e,i⟩:=(by simpa only[RV]using h)
  simp only[RV];refine⟨b,e,λz=>?_⟩;have:=p z;rcases B.same r j with q|q
  ·rw[q]at this;cases this
  ·rw[q];exact i (by rw[<-B.gen r j];exact z)
 |.fn f a c,v,y,d,h=>by
  obtain⟨_,_,_,p,A⟩:=(by simpa only[RV]using d)
  obtain⟨a',c',e,i,C⟩:=(by simpa only[RV]using h)
  simp only[RV];exact⟨a',c',e,RVs.back B out a _ _ p i,RVs.back B out c _ _ A C⟩
 |.agg cells,v,y,d,h=>by
  obtain⟨_,_,p⟩:=(by simpa only[RV]using d)
  obtain⟨cs,e,i⟩:=(by simpa only[RV]using h)
  simp only[RV];exact⟨cs,e,RVs.back B out cells _ _ p i⟩
 |.tup cells,v,y,d,h=>by
  obtain⟨_,_,p⟩:=(by simpa only[RV]using d)
  obtain⟨cs,e,i⟩:=(by simpa only[RV]using h)
  simp only[RV];exact⟨cs,e,RVs.back B out cells _ _ p i⟩
def RVs.back {n:Nat}{ρ ρ':Ren}{G G':Nat->Nat}{w w0:World}(B:Back n ρ G ρ' G')(out:∀r,n<=r->ρ' r=none/\G' r=0):∀(xs:List AV) (l l0:List Value),RVs ρ' G' w0 xs l0->RVs ρ G w xs l->RVs ρ' G' w xs l
 |[],_,_,_,h=>by simpa only[RVs]using h
 |x::xs,l,l0,d,h=>by
  obtain⟨_,_,_,g,i⟩:=(by simpa only[RVs]using d)
  obtain⟨y,b,e,j,k⟩:=(by simpa only[RVs]using h)
  simp only[RVs];exact⟨y,b,e,RV.back B out x y _ g j,RVs.back B out xs b _ i k⟩
def RVc.back {n:Nat}{ρ ρ':Ren}{G G':Nat->Nat}{w w0:World}(B:Back n ρ G ρ' G')(out:∀r,n<=r->ρ' r=none/\G' r=0):∀(xs:List AV) (b o d g:Nat),RVc ρ' G' w0 xs d g->RVc ρ G w xs b o->RVc ρ' G' w xs b o
 |[],_,_,_,_,_,_=>by simp only[RVc]
 |x::xs,b,o,d,g,i,h=>by
  obtain⟨⟨_,_,j⟩,k⟩:=(by simpa only[RVc]using i)
  obtain⟨⟨y,e,m⟩,p⟩:=(by simpa only[RVc]using h)
  simp only[RVc];exact⟨⟨y,e,RV.back B out x y _ j m⟩,RVc.back B out xs b (o+1) d (g+1) k p⟩
end
def RVm.mono {ρ ρ':Ren}{G G':Nat->Nat}{w w':World}(M:agG ρ G w ρ' G' w'){k:IntKind}:∀(xs:List (Int × AV)) (l:List MapEntry),RVm ρ G w k xs l->RVm ρ' G' w' k xs l
 |[],_,h=>by simpa only[RVm]using h
 |(m,x)::xs,l,h=>by
  obtain⟨e,b,d,g,i,j⟩:=(by simpa only[RVm]using h)
  simp only[RVm];exact⟨e,b,d,g,RV.mono M x _ i,RVm.mono M xs b j⟩
def RVm.back {n:Nat}{ρ ρ':Ren}{G G':Nat->Nat}{w w0:World}(B:Back n ρ G ρ' G')(out:∀r,n<=r->ρ' r=none/\G' r=0){k:IntKind}:∀(xs:List (Int × AV)) (l l0:List MapEntry),RVm ρ' G' w0 k xs l0->RVm ρ G w k xs l->RVm ρ' G' w k xs l
 |[],_,_,_,h=>by simpa only[RVm]using h
 |(m,x)::xs,l,l0,d,h=>by
  obtain⟨_,_,_,_,g,i⟩:=(by simpa only[RVm]using d)
  obtain⟨e,b,j,o,p,q⟩:=(by simpa only[RVm]using h)
  simp only[RVm];exact⟨e,b,j,o,RV.back B out x _ _ g p,RVm.back B out xs b _ i q⟩
def cell?_of_block {w w':World}{b o:Nat}(h:w'.heap[b]?=w.heap[b]?):w'.cell? ⟨b,o,none⟩=w.cell? ⟨b,o,none⟩:=by
 simp only[World.cell?,h]
def Gv {w:World}{b:Nat}{e:TypeId}{m:Nat}(h:w.shape? b=some (e,m)):b<w.heap.size:=by
 rcases zaU b w.heap.size with hb|hb
 ·exact hb
 ·simp[World.shape?,zcU hb]at h
def Ext.toMono {ρ ρ':Ren}{H H':ah}{w w':World}(E:Ext ρ H w ρ' H' w'):agG ρ H.gen w ρ' H'.gen w' where
 mono:=E.mono
 same:=E.same
 imm:=λb hb hi=>⟨zax hb E.size,λr g i=>by
   rcases E.range r b g i with h|⟨d,h⟩
   ·omega
   ·exact hi r d h,λo=>cell?_of_block (E.frame b hb hi)⟩
 shape:=λb e m h=>by rw[E.shape b (Gv h)];exact h
def Ext.refl(ρ:Ren)(H:ah)(w:World):Ext ρ H w ρ H w where
 next:=zac _
 mono:=λ_=>zac _
 same:=λ_ _ h _=>h
 kept:=λ_ _ h=>h
 range:=λ_ _ b h=>.inr ⟨b,h⟩
 size:=zac _
 frame:=λ_ _ _=>rfl
 shape:=λ_ _=>rfl
 os:=rfl
 tape:=rfl
 output:=rfl
def Ext.trans {ρ ρ' d:Ren}{H H' H'':ah}{w w' e:World}(E:Ext ρ H w ρ' H' w')(F:Ext ρ' H' w' d H'' e):Ext ρ H w d H'' e where
 next:=zav E.next F.next
 mono:=λr=>zav (E.mono r) (F.mono r)
 same:=λr x g h=>by
  have k:=E.mono r;have m:=F.mono r;exact F.same r x (E.same r x g V) V
 kept:=λr g h=>F.kept r (zax g E.next) (E.kept r g h)
 range:=λr b j h=>by
  rcases F.range r b j h with h|⟨i,h⟩
  ·exact .inl (zav E.size h)
  ·exact E.range r b i h
 size:=zav E.size F.size
 frame:=λb hb hi=>by
  rw[F.frame b (zax hb E.size) (E.toMono.imm b hb hi).2.1,E.frame b hb hi]
 shape:=λb hb=>by rw[F.shape b (zax hb E.size),E.shape b hb]
 os:=F.os.trans E.os
 tape:=F.tape.trans E.tape
 output:=F.output.trans E.output
def Rel.keep {ρ ρ':Ren}{H H':ah}{w w':World}(_R:Rel ρ H w)(E:Ext ρ H w ρ' H' w'){x:AV}{v:Value}(h:RV ρ H.gen w x v):RV ρ' H'.gen w' x v:=
 RV.mono E.toMono x v h
def jE {ρ:Ren}{G:Nat->Nat}{w:World}:RVs ρ G w [] []:=by simp only[RVs]
def jB {ρ:Ren}{G:Nat->Nat}{w:World}{x:AV}{y:Value}{xs:List AV}{ys:List Value}(h:RV ρ G w x y)(t:RVs ρ G w xs ys):RVs ρ G w (x::xs) (y::ys):=by
 simp only[RVs];exact⟨y,ys,rfl,h,t⟩
def dN {ρ:Ren}{G:Nat->Nat}{w:World}:∀{xs:List AV} {l:List Value},RVs ρ G w xs l->l.length=xs.length
 |[],l,h=>by simp only[RVs]at h;subst h;rfl
 |x::xs,l,h=>by
  simp only[RVs]at h;obtain⟨y,d,rfl,_,b⟩:=h;simp[dN b]
def jL {ρ:Ren}{G:Nat->Nat}{w:World}:∀{xs:List AV} {l:List Value},RVs ρ G w xs l->∀{i:Nat} {x:AV},xs[i]?=some x->∃v,l[i]?=some v/\RV ρ G w x v
 |[],l,h,i,x,b=>by simp at b
 |y::xs,l,h,i,x,b=>by
  simp only[RVs]at h;obtain⟨z,g,rfl,d,e⟩:=h;cases i with
  |zero=>simp at b;subst b;exact⟨z,rfl,d⟩
  |succ i=>simp at b;simpa using jL e b
def tK {ρ:Ren}{G:Nat->Nat}{w:World}:∀{xs:List AV} {l:List Value},l.length=xs.length->(∀(i:Nat) (x:AV),xs[i]?=some x->∃v,l[i]?=some v/\RV ρ G w x v)->RVs ρ G w xs l
 |[],l,h,_=>by cases l with|nil=>exact jE|cons a l=>simp at h
 |x::xs,l,h,b=>by
  cases l with
  |nil=>simp at h
  |cons y g=>
   obtain⟨v,hv,d⟩:=b 0 x rfl;simp at hv;subst hv;exact jB d (tK (by simpa using h) λi x e=>by simpa using b (i+1) x (by simpa using e))
def qg {ρ:Ren}{G:Nat->Nat}{w:World}:∀{xs ys:List AV} {l m:List Value},RVs ρ G w xs l->RVs ρ G w ys m->RVs ρ G w (xs++ys) (l++m)
 |[],ys,l,m,h,b=>by simp only[RVs]at h;subst h;simpa using b
 |x::xs,ys,l,m,h,b=>by
  simp only[RVs]at h;obtain⟨z,g,rfl,d,e⟩:=h;exact jB d (qg e b)
def aea {ρ:Ren}{G:Nat->Nat}{w:World}(n:Nat):∀{xs:List AV} {l:List Value},RVs ρ G w xs l->RVs ρ G w (xs.take n) (l.take n):=by
 intro xs l h;refine tK (by simp[dN h]) λi x b=>?_;rw[zaC]at b;split at b
 ·obtain⟨v,hv,d⟩:=jL h b;exact⟨v,by rw[zaC,if_pos ‹_›];exact hv,d⟩
 ·cases b
def aeb {ρ:Ren}{G:Nat->Nat}{w:World}(n:Nat):∀{xs:List AV} {l:List Value},RVs ρ G w xs l->RVs ρ G w (xs.drop n) (l.drop n):=by
 intro xs l h;refine tK (by simp[dN h]) λi x b=>?_;rw[zaH]at b;obtain⟨v,hv,d⟩:=jL h b;exact⟨v,by rw[zaH];exact hv,d⟩
def iw {ρ:Ren}{G:Nat->Nat}{w:World}:∀(l:List Value),RVs ρ G w (l.map .s) l
 |[]=>jE
 |v::l=>jB (by simp only[RV]) (iw l)
def y8 {ρ:Ren}{G:Nat->Nat}{w:World}:∀{xs:List AV} {b o:Nat},RVc ρ G w xs b o->∀{i:Nat} {x:AV},xs[i]?=some x->∃v,w.cell? ⟨b,o+i,none⟩=some v/\RV ρ G w x v
 |[],b,o,h,i,x,d=>by simp at d
 |y::xs,b,o,h,i,x,d=>by
  simp only[RVc]at h;obtain⟨⟨v,hv,e⟩,g⟩:=h;cases i with
  |zero=>simp at d;subst d;exact⟨v,hv,e⟩
  |succ i=>simp at d;have:=y8 g d;rwa [show o+1+i=o+(i+1)from by omega]at this
def qh {ρ:Ren}{G:Nat->Nat}{w:World}:∀{xs:List AV} {b o:Nat},(∀(i:Nat) (x:AV),xs[i]?=some x->∃v,w.cell? ⟨b,o+i,none⟩=some v/\RV ρ G w x v)->RVc ρ G w xs b o
 |[],_,_,_=>by simp only[RVc]
 |x::xs,b,o,h=>by
  simp only[RVc];exact⟨h 0 x rfl,qh λi y d=>by have:=h (i+1) y (by simpa using d);rwa [show o+(i+1)=o+1+i from by omega]at this⟩
def qX {ρ:Ren}{G:Nat->Nat}{w:World}{xs:List AV}{b o:Nat}(n:Nat)(h:RVc ρ G w xs b o):RVc ρ G w (xs.drop n) b (o+n):=
 qh λi x d=>by
  rw[zaH]at d;have:=y8 h d
  rwa [show o+(n+i)=o+n+i from by omega]at this
def uO {ρ:Ren}{G:Nat->Nat}{w:World}{xs:List AV}{b o:Nat}(n:Nat)(h:RVc ρ G w xs b o):RVc ρ G w (xs.take n) b o:=
 qh λi x d=>by
  rw[zaC]at d;split at d
  ·exact y8 h d
  ·cases d
def Yb {ρ:Ren}{G:Nat->Nat}{w:World}{xs ys:List AV}{b o:Nat}(h:RVc ρ G w xs b o)(e:RVc ρ G w ys b (o+xs.length)):RVc ρ G w (xs++ys) b o:=
 qh λi x d=>by
  rw[zcD]at d;split at d
  ·exact y8 h d
  ·rename_i hi;have:=y8 e d
   rwa [show o+xs.length+(i-xs.length)=o+i from by omega]at this
def qY {ρ:Ren}{G:Nat->Nat}{w:World}{b o:Nat}{cs:Array Value}{e:TypeId}{d:Nat × Nat}(hb:w.heap[b]?=some (.cells cs e d)){xs:List AV}
  (h:∀(i:Nat) (x:AV),xs[i]?=some x->∃v,cs[o+i]?=some v/\RV ρ G w x v):RVc ρ G w xs b o:=
 qh λi x g=>by
  obtain⟨v,hv,j⟩:=h i x g;exact⟨v,by simp[World.cell?,hb,hv],j⟩
def wI {ρ:Ren}{G:Nat->Nat}{w:World}{b o:Nat}{cs:Array Value}{e:TypeId}{d:Nat × Nat}(hb:w.heap[b]?=some (.cells cs e d)){xs:List AV}
  (h:RVc ρ G w xs b o):∀{i:Nat} {x:AV},xs[i]?=some x->∃v,cs[o+i]?=some v/\RV ρ G w x v:=by
 intro i x g;obtain⟨v,hv,j⟩:=y8 h g;exact⟨v,by simpa [World.cell?,hb]using hv,j⟩
def jU(b o n:Nat):Addr.add ⟨b,o,none⟩ n=⟨b,o+n,none⟩:=Addr.add_lit b o n
def Tq {P:Program}{w:World}{a:Addr}{v:Value}(h:w.cell? a=some v):(load a).run P w=.ok v w:=by simp[h]
def tN {P:Program}{ρ:Ren}{G:Nat->Nat}{w:World}{b o:Nat}:∀(xs:List AV) (i:Nat) (d:Array Value),RVc ρ G w xs b (o+i)->
  ∃l:List Value,(loadCellsFrom ⟨b,o,none⟩ i xs.length d).run P w=.ok (d++l.toArray) w/\RVs ρ G w xs l
 |[],i,d,_=>⟨[],by simp[loadCellsFrom],jE⟩
 |x::xs,i,d,h=>by
  simp only[RVc]at h;obtain⟨⟨v,hv,e⟩,g⟩:=h;obtain⟨l,j,k⟩:=tN (P:=P) xs (i+1) (d.push v) (by rw[<-zck];exact g);refine⟨v::l,?_,jB e k⟩;simp only[zak,loadCellsFrom,Sem.run_bind,jU,Tq hv,Result.andThen_ok];rw[j];simp
def mY {P:Program}{ρ:Ren}{G:Nat->Nat}{w:World}{b o:Nat}{xs:List AV}(h:RVc ρ G w xs b o):
  ∃l:List Value,(loadCells ⟨b,o,none⟩ xs.length).run P w=.ok l.toArray w/\RVs ρ G w xs l:=by
 obtain⟨l,d,e⟩:=tN (P:=P) xs 0 #[] (by simpa using h);exact⟨l,by simpa [loadCells]using d,e⟩
def EI {P:Program}{t:TypeId}{i:TypeInfo}(h:P.info? t=some i)(w:World):(typeInfo t).run P w=.ok i w:=by
 simp[typeInfo,h]
def fB {P:Program}{t:TypeId}{n:Nat}(h:szT P t=some n)(w:World):(sizeOf t).run P w=.ok n w:=by
 unfold szT at h;cases hi:P.info? t with
 |none=>simp[hi]at h
 |some i=>simp[hi]at h;subst h;simp[sizeOf,EI hi]
def PX {P:Program}{t:TypeId}{z:Value}(h:(if t<gV then(P.info? t).bind (·.zero)else none)=some z):t<gV:=by
 split at h
 ·assumption
 ·cases h
def uP {P:Program}{t:TypeId}{z:Value}(h:zU P t=some z):t<gV:=PX h
def aec {P:Program}{t:TypeId}{z:Value}(h:zU P t=some z):(P.info? t).bind (·.zero)=some z:=by
 have:=uP h;unfold zU at h
 rwa [if_pos this]at h
def gU {P:Program}{t:TypeId}{z:Value}(h:zU P t=some z)(w:World):(zeroValue t).run P w=.ok z w:=by
 unfold zU at h;rw[if_pos (PX h)]at h;cases hi:P.info? t with
 |none=>simp[hi]at h
 |some i=>simp[hi]at h;simp[zeroValue,EI hi,h]
def zX {P:Program}{t:TypeId}{b:Bool}(h:amf P t=some b)(w:World):(isAgg t).run P w=.ok b w:=by
 unfold amf at h;cases e:P.underlying t with
 |none=>simp[e]at h
 |some d=>cases d <;> simp[e]at h <;> subst h <;> simp[isAgg,run_underlying e]
def Gw {P:Program}{ρ:Ren}{G:Nat->Nat}{w:World}{b o:Nat}{cells:List AV}(h:RVc ρ G w cells b o){t:TypeId}{off:Nat}{v:AV}(d:JF P t cells off=some v):
  ∃cv,(loadVar t ⟨b,o+off,none⟩).run P w=.ok cv w/\RV ρ G w v cv:=by
 unfold JF at d;cases ha:amf P t with
 |none=>simp[ha]at d
 |some k=>
  cases g:szT P t with
  |none=>simp[ha,g]at d
  |some n=>
   cases k with
   |true=>
    simp[ha,g]at d;obtain⟨m,rfl⟩:=d;obtain⟨l,j,i⟩:=mY (P:=P) (uO n (qX off h));refine⟨.agg l.toArray,?_,?_⟩
    ·have e:(List.take n (List.drop off cells)).length=n:=by simp;omega
     rw[e]at j;simp[loadVar,zX ha,fB g,j]
    ·simp only[RV];exact⟨_,rfl,i⟩
   |false=>
    simp[ha,g]at d;obtain⟨cv,hc,i⟩:=y8 h d;exact⟨cv,by simp[loadVar,zX ha,hc],i⟩
def jV(w:World)(b:Nat)(o:Obj):World:={ w with heap:=w.heap.setIfInBounds b o }
def updρ(ρ:Ren)(r:Nat)(x:Nat × Nat):Ren:=λy=>if y=r then some x else ρ y
def lY {w:World}{b:Nat}{o:Obj}(h:b<w.heap.size):(jV w b o).heap[b]?=some o:=by
 simp[jV,h]
def Gx {w:World}{b d:Nat}{o:Obj}(h:d≠b):(jV w b o).heap[d]?=w.heap[d]?:=by
 simp[jV,zbA (Ne.symm h)]
def ML(w:World)(b:Nat)(o d:Obj):jV (jV w b o) b d=jV w b d:=by
 simp[jV]
def Tt {w:World}{b:Nat}{o:Obj}(h:w.heap[b]?=some o):jV w b o=w:=by
 have hb:b<w.heap.size:=by
  rcases zaU b w.heap.size with hb|hb
  ·exact hb
  ·simp[zcU hb]at h
 have:w.heap.setIfInBounds b o=w.heap:=by
  apply Array.ext_getElem?
  intro i;by_cases hi:b=i
  ·subst hi;rw[zbG hb]at h;simp only[Array.getElem?_setIfInBounds_self_of_lt hb,zbG hb,h]
  ·simp[zbA hi]
 simp[jV,this]
def nV {w:World}{b:Nat}{o:Obj}(h:w.heap[b]?=some o):b<w.heap.size:=by
 rcases zaU b w.heap.size with hb|hb
 ·exact hb
 ·simp[zcU hb]at h
def Rel.lt {ρ:Ren}{H:ah}{w:World}(R:Rel ρ H w){r b sh:Nat}(h:ρ r=some (b,sh)):r<H.next:=by
 rcases zaU r H.next with d|d
 ·exact d
 ·rw[(R.out r d).1]at h;cases h
def Rel.block {ρ:Ren}{H:ah}{w:World}(R:Rel ρ H w){r b sh:Nat}(h:ρ r=some (b,sh)):b<w.heap.size:=by
 have:=R.obj r b sh h;unfold yR at this;split at this
 ·obtain⟨cs,e,hb,_⟩:=this;exact nV hb
 ·obtain⟨cs,e,hb,_⟩:=this;exact nV hb
def DK:Obj->Option (TypeId × Nat)
 |.cells c e _=>some (e,c.size)
 |_=>none
def fE(w:World)(b:Nat):w.shape? b=(w.heap[b]?).bind DK:=by
 unfold World.shape? DK;cases w.heap[b]? with
 |none=>rfl
 |some o=>cases o <;> rfl
def uQ(H:ah)(r x:Nat)(o:gB):(H.put r o).gen x=if x=r then o.gen else H.gen x:=by
 simp only[ah.gen,ah.put];split <;> rfl
def Tv(H:ah)(x:Nat)(o:gB):(H.new o).gen x=if x=H.next then o.gen else H.gen x:=by
 simp only[ah.gen,ah.new];split <;> rfl
def ZJ {ρ:Ren}{H:ah}{w:World}{r b sh sh':Nat}{co co':Obj}{o:gB}(g:ρ r=some (b,sh))(hb:w.heap[b]?=some co)
  (m:DK co'=DK co) (n:H.gen r<=o.gen) (i:o.gen=H.gen r->sh'=sh):Ext ρ H w (updρ ρ r (b,sh')) (H.put r o) (jV w b co') where
 next:=zac _
 mono:=λx=>by rw[uQ];split <;> simp_all
 same:=λx y k h=>by
  rw[uQ]at h;unfold updρ
  split
  ·rename_i e;subst e;simp at h;rw[i h,<-g,k]
  ·exact k
 kept:=λx _ h=>by
  unfold updρ
  split
  ·rename_i e;subst e;rw[g]at h;cases h
  ·exact h
 range:=λx j s h=>by
  unfold updρ at h;split at h
  ·cases h;rename_i e;subst e;exact .inr ⟨_,g⟩
  ·exact .inr ⟨_,h⟩
 size:=by simp[jV]
 frame:=λj d hi=>Gx λe=>hi r sh (e ▸ g)
 shape:=λj d=>by
  rw[fE,fE];by_cases e:j=b
  ·subst e;rw[lY d,hb];exact m
  ·rw[Gx e]
 os:=rfl
 tape:=rfl
 output:=rfl
def yR.mono {ρ ρ':Ren}{G G':Nat->Nat}{w w':World}(M:agG ρ G w ρ' G' w'){o:gB}{b sh:Nat}(hb:w'.heap[b]?=w.heap[b]?)(h:yR ρ G w o b sh):yR ρ' G' w' o b sh:=by
 unfold yR at*;split at h
 ·obtain⟨cs,e,g,i,d⟩:=h;exact⟨cs,e,by rw[hb];exact g,i,RVc.mono M _ _ _ (λo v hv=>by rw[cell?_of_block hb];exact hv) d.1,d.2⟩
 ·obtain⟨cs,e,g,i,d⟩:=h;exact⟨cs,e,by rw[hb];exact g,i,RVm.mono M _ _ d.1,d.2⟩
def ZK {ρ:Ren}{H:ah}{w:World}(R:Rel ρ H w){r b sh sh':Nat}{co':Obj}{o:gB}(i:ρ r=some (b,sh))
  (E:Ext ρ H w (updρ ρ r (b,sh')) (H.put r o) (jV w b co'))
  (m:yR (updρ ρ r (b,sh')) (H.put r o).gen (jV w b co') o b sh'):Rel (updρ ρ r (b,sh')) (H.put r o) (jV w b co') where
 out:=λx k=>by
  have d:x≠r:=λe=>by have:=R.lt i;subst e;exact absurd k (by simpa [ah.put]using this)
  rw[uQ,if_neg d];unfold updρ;rw[if_neg d];exact R.out x k
 obj:=λx j s h=>by
  unfold updρ at h;by_cases e:x=r
  ·subst e;simp at h;obtain⟨rfl,rfl⟩:=h
   simpa [ah.put]using m
  ·rw[if_neg e]at h;have d:j≠b:=λn=>e (R.inj x r j s sh h (n ▸ i));have:(H.put r o).get x=H.get x:=by simp[ah.put,e]
   rw[this];exact yR.mono E.toMono (Gx d) (R.obj x j s h)
 inj:=λx y j s p h g=>by
  unfold updρ at h g;split at h <;> split at g
  ·simp_all
  ·cases h;rename_i e _;subst e;exact(R.inj _ _ _ _ _ g i).symm
  ·cases g;rename_i _ e;subst e;exact R.inj _ _ _ _ _ h i
  ·exact R.inj _ _ _ _ _ h g
 gl:=R.gl.ext E
def MN {ρ:Ren}{H:ah}{w:World}(R:Rel ρ H w){co:Obj}{o:gB}:Ext ρ H w (updρ ρ H.next (w.heap.size,0)) (H.new o) (w.alloc co) where
 next:=by simp[ah.new]
 mono:=λx=>by
  rw[Tv];split
  ·rename_i e;subst e;rw[(R.out _ (zac _)).2];exact zaX _
  ·exact zac _
 same:=λx y hx _=>by
  have hne:x≠H.next:=λe=>by subst e;rw[(R.out _ (zac _)).1]at hx;cases hx
  unfold updρ;rw[if_neg hne];exact hx
 kept:=λx hx h=>by
  unfold updρ
  rw[if_neg (by omega)];exact h
 range:=λx b' s h=>by
  unfold updρ at h;split at h
  ·cases h;exact .inl (zac _)
  ·exact .inr ⟨_,h⟩
 size:=by simp
 frame:=λb hb _=>by simp only[World.alloc,zbh,if_neg (zbZ hb)]
 shape:=λb hb=>by
  rw[fE,fE];simp only[World.alloc,zbh,if_neg (zbZ hb)]
 os:=rfl
 tape:=rfl
 output:=rfl
def ZL {ρ:Ren}{H:ah}{w:World}(R:Rel ρ H w){co:Obj}{o:gB}
  (ho:yR (updρ ρ H.next (w.heap.size,0)) (H.new o).gen (w.alloc co) o w.heap.size 0):Rel (updρ ρ H.next (w.heap.size,0)) (H.new o) (w.alloc co) where
 out:=λx hx=>by
  have hx1:H.next+1<=x:=hx
  have hne:x≠H.next:=V
  have hx':H.next<=x:=V
  rw[Tv,if_neg hne];unfold updρ;rw[if_neg hne];exact R.out x hx'
 obj:=λx b' s h=>by
  unfold updρ at h;by_cases e:x=H.next
  ·subst e;simp at h;obtain⟨rfl,rfl⟩:=h
   simpa [ah.new]using ho
  ·rw[if_neg e]at h;have:(H.new o).get x=H.get x:=by simp[ah.new,e]
   rw[this];have hb:=R.block h;exact yR.mono (MN R (o:=o) (co:=co)).toMono (by simp only[World.alloc,zbh,if_neg (zbZ hb)]) (R.obj x b' s h)
 inj:=λx y b' s s' h h'=>by
  unfold updρ at h h';split at h <;> split at h'
  ·simp_all
  ·cases h;have:=R.block h';omega
  ·cases h';have:=R.block h;omega
  ·exact R.inj _ _ _ _ _ h h'
 gl:=R.gl.ext (MN R (o:=o) (co:=co))
def kC(w:World)(o:Obj):(w.alloc o).heap[w.heap.size]?=some o:=by
 show(w.heap.push o)[w.heap.size]?=some o;simp
def ZM {ρ:Ren}{H:ah}{w:World}(R:Rel ρ H w){e ty:TypeId}{cells:List AV}{cs:Array Value}(hl:cells.length<=cs.size)
  (hc:∀(i:Nat) (x:AV),cells[i]?=some x->∃v,cs[i]?=some v/\RV ρ H.gen w x v) (hX:Xct ty e 0 cs.size cells.length):
  Rel (updρ ρ H.next (w.heap.size,0)) (H.new (.blk 0 ty cells)) (w.alloc (.cells cs e))/\Ext ρ H w (updρ ρ H.next (w.heap.size,0)) (H.new (.blk 0 ty cells)) (w.alloc (.cells cs e)):=by
 have E:=MN R (o:=.blk 0 ty cells) (co:=.cells cs e);refine⟨ZL R ⟨cs,e,kC w _,V,?_,hX⟩,E⟩;refine qY (kC w _) λi x hx=>?_;obtain⟨v,hv,h1⟩:=hc i x hx;exact⟨v,by simpa using hv,R.keep E h1⟩
def Gy {ρ:Ren}{H:ah}{w:World}(R:Rel ρ H w){r b sh sh' g':Nat}{ty':TypeId}{cells':List AV}{cs cs':Array Value}{e:TypeId}(d:ρ r=some (b,sh))
  (hb:w.heap[b]?=some (.cells cs e (0,0))) (h:cs'.size=cs.size) (j:H.gen r<=g') (g:g'=H.gen r->sh'=sh) (n:sh'+cells'.length<=cs.size)
  (hc:∀(i:Nat) (x:AV),cells'[i]?=some x->∃v,cs'[sh'+i]?=some v/\RV ρ H.gen w x v) (hX:Xct ty' e sh' cs'.size cells'.length):
  Rel (updρ ρ r (b,sh')) (H.put r (.blk g' ty' cells')) (jV w b (.cells cs' e (0,0)))/\Ext ρ H w (updρ ρ r (b,sh')) (H.put r (.blk g' ty' cells')) (jV w b (.cells cs' e (0,0))):=by
 have E:=ZJ (ρ:=ρ) (H:=H) (w:=w) (r:=r) (b:=b) (sh:=sh) (sh':=sh') (co:=.cells cs e (0,0)) (co':=.cells cs' e (0,0)) (o:=.blk g' ty' cells') d hb (by simp[DK,h]) j g;refine⟨ZK R d E ⟨cs',e,lY (R.block d),V,?_,hX⟩,E⟩;refine qY (lY (R.block d)) λi x k=>?_;obtain⟨v,hv,m⟩:=hc i x k;exact⟨v,hv,R.keep E m⟩
def MP {ρ:Ren}{H:ah}{w:World}(R:Rel ρ H w){r b:Nat}{k:IntKind}{es es':List (Int × AV)}{d ad4:Array MapEntry}{cl cl':Nat}(h:ρ r=some (b,0))(g:H.get r=.map k es)
  (hb:w.heap[b]?=some (.map d cl)) (hc:RVm ρ H.gen w k es' ad4.toList) (i:Born ad4.toList cl'):
  Rel ρ (H.put r (.map k es')) (jV w b (.map ad4 cl'))/\Ext ρ H w ρ (H.put r (.map k es')) (jV w b (.map ad4 cl')):=by
 have m:updρ ρ r (b,0)=ρ:=by
  funext x;unfold updρ;split
  ·rename_i e;subst e;exact h.symm
  ·rfl
 have j:H.gen r=0:=by simp[ah.gen,g,gB.gen]
 have E:=ZJ (ρ:=ρ) (H:=H) (w:=w) (r:=r) (b:=b) (sh:=0) (sh':=0) (co:=.map d cl) (co':=.map ad4 cl') (o:=.map k es') h hb rfl (by simp[j]) (λ_=>rfl);have:=ZK R h E ⟨ad4,cl',lY (R.block h),rfl,RVm.mono E.toMono _ _ hc,i⟩;rw[m]at this E;exact⟨this,E⟩
def lF(cs:Array Value)(o:Nat):List Value->Array Value
 |[]=>cs
 |v::vs=>lF (cs.setIfInBounds o v) (o+1) vs
def fA:∀(vs:List Value) (cs:Array Value) (o:Nat),(lF cs o vs).size=cs.size
 |[],_,_=>rfl
 |v::vs,cs,o=>by simp[lF,fA vs]
def lZ:∀(vs:List Value) (cs:Array Value) (o i:Nat),o+vs.length<=cs.size->(lF cs o vs)[i]?=if o<=i/\i<o+vs.length then vs[i-o]? else cs[i]?
 |[],cs,o,i,h=>by
  simp only[lF,zan,zbL];rw[if_neg V]
 |v::vs,cs,o,i,h=>by
  simp only[zak]at h;simp only[lF,zak];rw[lZ vs _ (o+1) i (by simp;omega)];by_cases b:o=i
  ·subst b;rw[if_neg V,if_pos V];simp[show o<cs.size from by omega]
  ·by_cases d:o+1<=i/\i<o+1+vs.length
   ·rw[if_pos d,if_pos V,show i-o=(i-(o+1))+1 from by omega];rfl
   ·rw[if_neg d,if_neg V,zbA b]
def Gz {P:Program}{w:World}{b o:Nat}{cs:Array Value}{e:TypeId}{v:Value}(hb:w.heap[b]?=some (.cells cs e (0,0)))(g:o<cs.size)(hv:v.oneCell'=true):
  (store ⟨b,o,none⟩ v).run P w=.ok () (jV w b (.cells (cs.setIfInBounds o v) e (0,0))):=by
 have hc:w.cell? ⟨b,o,none⟩=some cs[o]:=by simp[World.cell?,hb,g]
 have h:w.frozen? ⟨b,o,none⟩=false:=by simp[World.frozen?,hb]
 rw[run_store P w _ v _ hv,hc];simp only[h,if_false,zal];have d:=nV hb;have:w.setCell ⟨b,o,none⟩ v=jV w b (.cells (cs.setIfInBounds o v) e (0,0)):=by
  simp only[World.setCell,jV]
  congr 1
  apply Array.ext_getElem?
  intro i;rw[Array.getElem?_modify];by_cases hi:b=i
  ·subst hi;rw[hb];simp[d]
  ·simp[hi,zbA hi]
 rw[this]
def kD {P:Program}{b o:Nat}{e:TypeId}:∀(vs:List Value) (w:World) (cs:Array Value) (i:Nat),w.heap[b]?=some (.cells cs e (0,0))->o+i+vs.length<=cs.size->(∀v∈vs,v.oneCell'=true)->
  (storeCells ⟨b,o,none⟩ vs i).run P w=.ok () (jV w b (.cells (lF cs (o+i) vs) e (0,0)))
 |[],w,cs,i,hb,_,_=>by simp[storeCells,lF,Tt hb]
 |v::vs,w,cs,i,hb,d,hv=>by
  simp only[zak]at d;simp only[storeCells,Sem.run_bind,jU,Gz hb (show o+i<cs.size by omega) (hv v O),Result.andThen_ok];rw[kD vs _ (cs.setIfInBounds (o+i) v) (i+1) (lY (nV hb)) (by simp;omega) (λu g=>hv u (by simp[g])),ML];rfl
def Yc {ρ:Ren}{G:Nat->Nat}{w:World}{x:AV}{v:Value}(e:x.aS=true)(h:RV ρ G w x v):v.oneCell'=true:=by
 cases x with
 |s u=>
  simp only[RV]at h;subst h;cases v <;> simp_all[AV.aS,Value.oneCell']
 |ref r g off=>simp only[RV]at h;obtain⟨a,rfl,_⟩:=h;rfl
 |sl r g off d len i ex=>simp only[RV]at h;obtain⟨b,o,c,rfl,_⟩:=h;rfl
 |ip cells=>simp only[RV]at h;obtain⟨b,o,rfl,_⟩:=h;rfl
 |vs n d cells=>simp only[RV]at h;obtain⟨b,o,c,rfl,_⟩:=h;rfl
 |mp r=>simp only[RV]at h;obtain⟨b,rfl,_⟩:=h;rfl
 |fn f a c=>simp only[RV]at h;obtain⟨a,c,rfl,_⟩:=h;rfl
 |agg l=>simp[AV.aS]at e
 |tup l=>simp[AV.aS]at e
def qw {ρ:Ren}{G:Nat->Nat}{w:World}{xs:List AV}{l:List Value}(e:xs.all AV.aS=true)(h:RVs ρ G w xs l):∀v∈l,v.oneCell'=true:=by
 intro v hv;obtain⟨i,hi,rfl⟩:=zdB hv;have j:=dN h;have b:xs[i]?=some (xs[i]' V):=zab _;obtain⟨u,d,g⟩:=jL h b;rw[zab hi]at d;cases d;exact Yc (za6.1 e _ (zc3 _)) g
def MQ {ρ:Ren}{G:Nat->Nat}{w:World}{x:AV}{v:Value}(h:RV ρ G w x v):RVs ρ G w x.cells v.cells.toList:=by
 cases x with
 |s u=>simp only[RV]at h;subst h;exact iw _
 |agg l=>simp only[RV]at h;obtain⟨cs,rfl,i⟩:=h;exact i
 |ref r g off=>
  have d:=h;simp only[RV]at h;obtain⟨a,rfl,_⟩:=h;exact jB d jE
 |sl r g off e len j ex=>have d:=h;simp only[RV]at h;obtain⟨b,o,c,rfl,_⟩:=h;exact jB d jE
 |ip cells=>have d:=h;simp only[RV]at h;obtain⟨b,o,rfl,_⟩:=h;exact jB d jE
 |vs n e cells=>have d:=h;simp only[RV]at h;obtain⟨b,o,c,rfl,_⟩:=h;exact jB d jE
 |mp r=>have d:=h;simp only[RV]at h;obtain⟨b,rfl,_⟩:=h;exact jB d jE
 |fn f a c=>have d:=h;simp only[RV]at h;obtain⟨a,c,rfl,_⟩:=h;exact jB d jE
 |tup l=>have d:=h;simp only[RV]at h;obtain⟨cs,rfl,_⟩:=h;exact jB d jE
def wJ(cells:List AV)(off:Nat)(xs:List AV)(h:off+xs.length<=cells.length)(i:Nat):(aN cells off xs)[i]?=if off<=i/\i<off+xs.length then xs[i-off]? else cells[i]?:=by
 unfold aN;rw[zcD];simp only[zau];rw[zbm V];by_cases b:i<off
 ·rw[if_pos b,if_neg V,zaC,if_pos b]
 ·rw[if_neg b,zcD];by_cases d:i-off<xs.length
  ·rw[if_pos d,if_pos V]
  ·rw[if_neg d,if_neg V,zaH]
   congr 1;omega
def ji(cells:List AV)(off:Nat)(xs:List AV)(h:off+xs.length<=cells.length):(aN cells off xs).length=cells.length:=by
 simp[aN];omega
def Ok(P:Program)(ρ:Ren)(H:ah)(w:World)(s:Sem Value)(v:AV)(H':ah):Prop:=
 ∃cv ρ' w',s.run P w=.ok cv w'/\Rel ρ' H' w'/\RV ρ' H'.gen w' v cv/\Ext ρ H w ρ' H' w'
def OkP(P:Program)(ρ:Ren)(G:Nat->Nat)(w:World)(s:Sem Value)(v:AV):Prop:=∃cv,s.run P w=.ok cv w/\RV ρ G w v cv
def OkP.ok {P:Program}{ρ:Ren}{H:ah}{w:World}{s:Sem Value}{v:AV}(h:OkP P ρ H.gen w s v)(R:Rel ρ H w):Ok P ρ H w s v H:=
 let⟨cv,h1,h2⟩:=h;⟨cv,ρ,w,h1,R,h2,Ext.refl _ _ _⟩
def mg {α:Type}{P:Program}{s:Sem α}{a:α}(h:je P s=some a)(w:World):s.run P w=.ok a w:=by
 induction s with
 |pure b=>simp[je]at h;subst h;rfl
 |program k d=>exact d P h
 |_=>simp[je]at h
mutual
def JZ {ρ:Ren}{G:Nat->Nat}{w:World}:∀(x:AV) (v u:Value),RV ρ G w x v->x.val?=some u->v=u
 |.s _,v,u,h,b=>by simp only[RV]at h;simp only[AV.val?,zaa]at b;rw[h,b]
 |.agg l,v,u,h,b=>by
  obtain⟨cs,rfl,d⟩:=(by simpa only[RV]using h)
  simp only[AV.val?]at b;cases hv:vals? l with
  |none=>simp[hv]at b
  |some vs=>simp[hv]at b;subst b;rw[<-MR l _ _ d hv]
 |.tup l,v,u,h,b=>by
  obtain⟨cs,rfl,d⟩:=(by simpa only[RV]using h)
  simp only[AV.val?]at b;cases hv:vals? l with
  |none=>simp[hv]at b
  |some vs=>simp[hv]at b;subst b;rw[<-MR l _ _ d hv]
 |.ref ..,_,_,_,b=>by simp[AV.val?]at b
 |.sl ..,_,_,_,b=>by simp[AV.val?]at b
 |.ip ..,_,_,_,b=>by simp[AV.val?]at b
 |.vs ..,_,_,_,b=>by simp[AV.val?]at b
 |.mp ..,_,_,_,b=>by simp[AV.val?]at b
 |.fn ..,_,_,_,b=>by simp[AV.val?]at b
def MR {ρ:Ren}{G:Nat->Nat}{w:World}:∀(xs:List AV) (l e:List Value),RVs ρ G w xs l->vals? xs=some e->l=e
 |[],l,e,h,b=>by simp only[RVs]at h;simp only[vals?,zaa]at b;rw[h,b]
 |x::xs,l,e,h,b=>by
  obtain⟨y,i,rfl,j,k⟩:=(by simpa only[RVs]using h)
  simp only[vals?]at b;cases g:x.val? with
  |none=>simp[g]at b
  |some v=>
   cases d:vals? xs with
   |none=>simp[g,d]at b
   |some vs=>simp[g,d]at b;subst b;rw[JZ x y v j g,MR xs i vs k d]
end
section
variable {P:Program}{ρ:Ren}{H H':ah}{w:World}{v:AV}
def uS {f:Option gB->Option AV}{x:AV}(h:kV f x H=some (v,H')):f ((bQ x).map H.get)=some v/\H'=H:=by
 unfold kV at h;cases b:f ((bQ x).map H.get)with
 |none=>rw[b]at h;cases h
 |some u=>rw[b]at h;simp only[zaj,zaa,zad]at h;exact⟨by rw[h.1],h.2.symm⟩
def ZN(R:Rel ρ H w){t:TypeId}{x:AV}{p:Value}(d:RV ρ H.gen w x p)(h:Tj P t x H=some (v,H')):H'=H/\OkP P ρ H.gen w (Instr.loadAt t p) v:=by
 obtain⟨q,y⟩:=uS h
 clear h
 subst y;have h:=q
 clear q
 refine⟨rfl,?_⟩;unfold ajI at h;cases x with
 |ref r g off=>
  simp only[bQ,zaj]at h;cases i:H'.get r with
  |map k D=>simp[i]at h
  |blk g' E cells=>
   simp only[i]at h;by_cases m:g'=g
   ·rw[if_pos m]at h;simp only[RV]at d;obtain⟨a,rfl,_,z⟩:=d;obtain⟨b,A,C,rfl⟩:=z (by simp[ah.gen,i,gB.gen,m]);have u:=R.obj r b A C;simp only[yR,i]at u;obtain⟨cs,e,_,_,hc,_⟩:=u;obtain⟨cv,j,n⟩:=Gw (P:=P) hc h;exact⟨cv,by simp[Instr.loadAt,Instr.sureAddr,j],n⟩
   ·rw[if_neg m]at h;cases h
 |ip cells=>
  simp only at h;simp only[RV]at d;obtain⟨b,o,rfl,_,_,hc⟩:=d;obtain⟨cv,j,n⟩:=Gw (P:=P) hc h;exact⟨cv,by simp[Instr.loadAt,Instr.sureAddr]at j ⊢;simp[j],n⟩
 |_=>simp at h
def bM {α:Type}(a:Array α):a.toList.length=a.size:=rfl
def aed(R:Rel ρ H w){t:TypeId}{x y:AV}{E cy:Value}(F:RV ρ H.gen w x E)(M:RV ρ H.gen w y cy)(h:PU P t x y H=some (v,H')):
  v=aY/\∃ρ' w',(Instr.storeAt t E cy).run P w=.ok () w'/\Rel ρ' H' w'/\Ext ρ H w ρ' H' w':=by
 unfold PU at h;cases x with
 |ref r g off=>
  simp only at h;cases z:H.get r with
  |map k es=>simp[z]at h
  |blk g' Q cells=>
   simp only[z]at h;split at h
   ·rename_i hc;obtain⟨rfl,_,T,m,n⟩:=hc;simp only[zaa,zad]at h;obtain⟨rfl,rfl⟩:=h;simp only[RV]at F;obtain⟨a,rfl,_,W⟩:=F;obtain⟨b,q,G,rfl⟩:=W (by simp[ah.gen,z,gB.gen]);have K:=R.obj r b q G;simp only[yR,z]at K;obtain⟨cs,e,hb,X,D,hX⟩:=K;have p:=MQ M;have d:=dN p;rw[bM]at d;have A:=kD (P:=P) (o:=q+off) cy.cells.toList w cs 0 hb (by rw[bM];omega) (qw m p);have L:H.gen r=g':=by simp[ah.gen,z,gB.gen]
    have j:=Gy (ty':=Q) (cells':=aN cells off y.cells) (cs':=lF cs (q+off) cy.cells.toList) (g':=g') (sh':=q) R G hb (fA _ _ _) V (λ_=>rfl)
     (by rw[ji _ _ _ n];exact X) (by
      intro i u C;rw[wJ _ _ _ n]at C;rw[lZ _ _ _ _ (by rw[bM];omega),bM];by_cases hi:off<=i/\i<off+y.cells.length
      ·rw[if_pos hi]at C;rw[if_pos V,show q+i-(q+off)=i-off from by omega];exact jL p C
      ·rw[if_neg hi]at C;rw[if_neg V];exact wI hb D C) (by rw[fA,ji _ _ _ n];exact hX)
    refine⟨rfl,_,_,?_,j.1,j.2⟩;simp only[Instr.storeAt,Instr.sureAddr,storeVar,Sem.run_bind,Sem.run_pure,Result.andThen_ok,fB T,d,ne_eq,not_true,if_false]
    simpa using A
   ·cases h
 |_=>simp at h
def PY(R:Rel ρ H w)(t:TypeId)(d:t<gV){cells:List AV}{cv:Value}(hc:RVs ρ H.gen w cells cv.cells.toList):
  Ok P ρ H w (do pure (.pointer (some (<-newVar t cv)))) (.ref H.next 0 0) (H.new (.blk 0 t cells)):=by
 have b:=ZM (e:=t) (ty:=t) (cells:=cells) (cs:=cv.cells) R (by rw[<-bM,dN hc];exact zac _) (λi x g=>by
  obtain⟨u,h,j⟩:=jL hc g;exact⟨u,by simpa using h,j⟩) (Xct.low d (by have:=dN hc;rw[bM]at this;omega))
 refine⟨.pointer (some ⟨w.heap.size,0,none⟩),_,_,?_,b.1,?_,b.2⟩
 ·simp[newVar,newRow]
 ·simp only[RV];exact⟨_,rfl,V,λ_=>⟨w.heap.size,0,by simp[updρ],O⟩⟩
def ami(R:Rel ρ H w){t:TypeId}{x:AV}{b:Value}(d:RV ρ H.gen w x b)(h:fM t x H=some (v,H')):Ok P ρ H w (Instr.box t b) v H':=by
 unfold fM at h;split at h
 ·rename_i e;simp only[zaa,zad]at h;obtain⟨rfl,rfl⟩:=h;exact PY R t e.2 (MQ d)
 ·cases h
def aee(R:Rel ρ H w){t:TypeId}(h:JW P t H=some (v,H')):Ok P ρ H w (Instr.alloc t true (.tuple #[])) v H':=by
 unfold JW yH at h;cases b:zU P t with
 |none=>simp[b]at h
 |some z=>
  simp only[b,zaj]at h;split at h
  ·simp only[zaa,zad]at h;obtain⟨rfl,rfl⟩:=h;obtain⟨cv,ρ',w',d,e,g,i⟩:=PY (P:=P) R t (uP b) (cells:=z.cells.toList.map .s) (cv:=z) (iw _);exact⟨cv,ρ',w',by simpa [Instr.alloc,gU b]using d,e,g,i⟩
  ·cases h
def JG {f:Field}{n:Nat}{a:Addr}(h:szT P f.type=some (n+1)):(fieldPlace a f).run P w=.ok (a.add f.offset) w:=by
 simp[fieldPlace,fB h]
def PZ {t:TypeId}{i:Nat}{x:AV}{y:Value}(j:RV ρ H.gen w x y)(h:tC P t x i=some v):OkP P ρ H.gen w (Instr.fieldAt t y i) v:=by
 unfold tC VD at h;cases k:P.underlying t with
 |none=>simp[k]at h
 |some d=>
  cases d with
  |struct z=>
   simp only[k]at h;cases p:z[i]? with
   |none=>simp[p]at h
   |some f=>
    simp only[p]at h;cases m:szT P f.type with
    |none=>simp[m]at h
    |some n=>
     cases n with
     |zero=>simp[m]at h
     |succ n=>
      simp only[m]at h;have e:∀a,(Instr.fieldAt t (.pointer (some a)) i).run P w=.ok (.pointer (some (a.add f.offset))) w:=λa=>by
       simp[Instr.fieldAt,run_underlying k,p,Instr.sureAddr,JG m]
      cases x with
      |ref r g off=>
       simp only[zaa]at h;subst h;simp only[RV]at j;obtain⟨a,rfl,q,u⟩:=j;refine⟨_,e a,?_⟩;simp only[RV];refine⟨_,rfl,q,λA=>?_⟩;obtain⟨b,C,D,rfl⟩:=u A;exact⟨b,C,D,by rw[jU,zck]⟩
      |ip cells=>
       simp only[zaa]at h;subst h;simp only[RV]at j;obtain⟨b,o,rfl,q,u,E⟩:=j;refine⟨_,e _,?_⟩;simp only[RV];exact⟨b,o+f.offset,by rw[jU],q,u,qX _ E⟩
      |_=>simp at h
  |_=>simp[k]at h
def P5(_R:Rel ρ H w){t:TypeId}{x i:AV}{M Q:Value}(d:RV ρ H.gen w x M)(hi:RV ρ H.gen w i Q)(h:BX P t x i H=some (v,H')):
  H'=H/\OkP P ρ H.gen w (Instr.indexAt t M Q) v:=by
 obtain⟨R,T⟩:=uS h
 clear h
 subst T;have h:=R
 clear R
 refine⟨rfl,?_⟩;unfold JX at h;split at h
 ·rename_i e y;split at h
  ·rename_i r g off j len W ex;split at h <;> first|(cases h;done)|skip
   rename_i k n;split at h <;> first|(cases h;done)|skip
   rename_i hc;obtain⟨u,D,p,q⟩:=hc;simp only[zaa]at h;subst h;simp only[RV]at hi d;subst hi;obtain⟨b,o,c,rfl,z,A,C,E,F⟩:=d;obtain⟨G,ty,m,K,X,aa,ab⟩:=F D;have L:=X V;refine⟨.pointer (some ⟨b,o+n.toNat*j,none⟩),?_,?_⟩
   ·simp[Instr.indexAt,asIntOf,run_underlying y,fB u,jU,p,q]
   ·simp only[RV];exact⟨_,rfl,E,λ_=>⟨b,G,K,by rw[L,zck]⟩⟩
  ·rename_i len j cells;split at h <;> first|(cases h;done)|skip
   rename_i k n;split at h <;> first|(cases h;done)|skip
   rename_i hc;obtain⟨u,p,q⟩:=hc;simp only[zaa]at h;subst h;simp only[RV]at hi d;subst hi;obtain⟨b,o,c,rfl,z,A,C,E,F⟩:=d;refine⟨.pointer (some ⟨b,o+n.toNat*j,none⟩),?_,?_⟩
   ·simp[Instr.indexAt,asIntOf,run_underlying y,fB u,jU,p,q]
   ·simp only[RV];exact⟨b,_,rfl,C,E,qX _ F⟩
  ·cases h
 ·rename_i len e y;split at h <;> first|(cases h;done)|skip
  rename_i m u;split at h
  ·rename_i r g off;split at h <;> first|(cases h;done)|skip
   rename_i k n;split at h <;> first|(cases h;done)|skip
   rename_i hc;obtain⟨p,q⟩:=hc;simp only[zaa]at h;subst h;simp only[RV]at hi d;subst hi;obtain⟨a,rfl,z,A⟩:=d;refine⟨.pointer (some (a.add (n.toNat*m))),?_,?_⟩
   ·simp[Instr.indexAt,asIntOf,run_underlying y,fB u,p,q,Instr.sureAddr]
   ·simp only[RV];refine⟨_,rfl,z,λD=>?_⟩;obtain⟨b,G,K,rfl⟩:=A D;exact⟨b,G,K,by rw[jU,zck]⟩
  ·rename_i cells;split at h <;> first|(cases h;done)|skip
   rename_i k n;split at h <;> first|(cases h;done)|skip
   rename_i hc;obtain⟨p,q⟩:=hc;simp only[zaa]at h;subst h;simp only[RV]at hi d;subst hi;obtain⟨b,o,rfl,z,A,C⟩:=d;refine⟨.pointer (some ⟨b,o+n.toNat*m,none⟩),?_,?_⟩
   ·simp[Instr.indexAt,asIntOf,run_underlying y,fB u,p,q,Instr.sureAddr,jU]
   ·simp only[RV];exact⟨b,_,rfl,z,A,qX _ C⟩
  ·cases h
 ·cases h
end
section
variable {P:Program}{ρ:Ren}{G:Nat->Nat}{w:World}{v:AV}
def EJ {t:TypeId}{cells:List AV}{cs:Array Value}{off:Nat}(hc:RVs ρ G w cells cs.toList)(h:JF P t cells off=some v):OkP P ρ G w (part t cs off) v:=by
 unfold JF at h;cases ha:amf P t with
 |none=>simp[ha]at h
 |some k=>
  cases b:szT P t with
  |none=>simp[ha,b]at h
  |some n=>
   cases k with
   |true=>
    simp[ha,b]at h;obtain⟨e,rfl⟩:=h;refine⟨.agg (cs.extract off (off+n)),by simp[part,zX ha,fB b],?_⟩;simp only[RV];refine⟨_,rfl,?_⟩;have:=aea n (aeb off hc);rw[Array.toList_extract]
    simpa [List.extract]using this
   |false=>
    simp[ha,b]at h;obtain⟨cv,d,g⟩:=jL hc h;refine⟨cv,?_,g⟩;have:cs[off]?=some cv:=by simpa using d
    simp[part,zX ha,this]
def aef {t:TypeId}{i:Nat}{x:AV}{o:Value}(e:RV ρ G w x o)(h:PN P t x i=some v):OkP P ρ G w (Instr.field t o i) v:=by
 unfold PN VD at h;cases b:P.underlying t with
 |none=>simp[b]at h
 |some d=>
  cases d with
  |struct p=>
   simp only[b]at h;cases j:p[i]? with
   |none=>simp[j]at h
   |some f=>
    simp only[j]at h;split at h
    ·rename_i g cells k;cases k;simp only[RV]at e;obtain⟨cs,rfl,q⟩:=e;obtain⟨cv,m,n⟩:=EJ (P:=P) q h;exact⟨cv,by simp[Instr.field,run_underlying b,j,asAgg,m],n⟩
    ·rename_i g cs k;cases k;simp only[RV]at e;subst e;obtain⟨cv,m,n⟩:=EJ (P:=P) (iw (ρ:=ρ) (G:=G) (w:=w) cs.toList) h;exact⟨cv,by simp[Instr.field,run_underlying b,j,asAgg,m],n⟩
    ·cases h
  |_=>simp[b]at h
def aeg {t:TypeId}{x i:AV}{q u:Value}(g:RV ρ G w x q)(hi:RV ρ G w i u)(h:PO P t x i=some v):OkP P ρ G w (Instr.index t q u) v:=by
 unfold PO at h;split at h
 ·rename_i s k n j;simp only[RV]at g hi;subst g hi;split at h
  ·rename_i b hb;simp only[zaa]at h;subst h;exact⟨.int .u8 b.toNat,by simp[Instr.index,asIntOf,run_underlying j,hb],by simp only[RV]⟩
  ·cases h
 ·rename_i len e cells k n j;simp only[RV]at g hi;subst hi;obtain⟨cs,rfl,y⟩:=g;cases d:szT P e with
  |none=>simp[d]at h
  |some m=>
   simp only[d]at h;split at h
   ·rename_i hc;obtain⟨cv,o,p⟩:=EJ (P:=P) y h;exact⟨cv,by simp[Instr.index,asIntOf,run_underlying j,fB d,hc,o],p⟩
   ·cases h
 ·rename_i len e cs k n j;simp only[RV]at g hi;subst g hi;cases d:szT P e with
  |none=>simp[d]at h
  |some m=>
   simp only[d]at h;split at h
   ·rename_i hc;obtain⟨cv,o,p⟩:=EJ (P:=P) (iw (ρ:=ρ) (G:=G) (w:=w) cs.toList) h;exact⟨cv,by simp[Instr.index,asIntOf,run_underlying j,fB d,hc,o],p⟩
   ·cases h
 ·cases h
def Yd {x:AV}{i:Nat}{e:Value}(b:RV ρ G w x e)(h:aF x i=some v):OkP P ρ G w (Instr.extract e i) v:=by
 unfold aF at h;split at h
 ·rename_i l;simp only[RV]at b;obtain⟨cs,rfl,g⟩:=b;obtain⟨cv,d,j⟩:=jL g h;have:cs[i]?=some cv:=by simpa using d
  exact⟨cv,by simp[Instr.extract,this],j⟩
 ·rename_i vs;simp only[RV]at b;subst b;cases hv:vs[i]? with
  |none=>simp[hv]at h
  |some u=>simp[hv]at h;subst h;exact⟨u,by simp[Instr.extract,hv],by simp only[RV]⟩
 ·cases h
def ajK {c a b:AV}{e ca d:Value}(hc:RV ρ G w c e)(ha:RV ρ G w a ca)(hb:RV ρ G w b d)(h:bJ c a b=some v):
  OkP P ρ G w (do pure (if<-asBool e then ca else d)) v:=by
 unfold bJ at h;split at h
 ·simp only[RV]at hc;subst hc;simp only[zaa]at h;subst h;exact⟨ca,by simp[asBool],ha⟩
 ·simp only[RV]at hc;subst hc;simp only[zaa]at h;subst h;exact⟨d,by simp[asBool],hb⟩
 ·cases h
def ase {op:UnOp}{x:AV}{b:Value}(e:RV ρ G w x b)(h:unA P op x=some v):OkP P ρ G w (Op.unary op b) v:=by
 unfold unA at h;cases hv:x.val? with
 |none=>simp[hv]at h
 |some a=>
  simp only[hv]at h;rw[JZ x b a e hv];cases d:je P (Op.unary op a)with
  |none=>simp[d]at h
  |some u=>simp[d]at h;subst h;exact⟨u,mg d w,by simp only[RV]⟩
def lM {t:TypeId}{e cy:Value}{b:Bool}(h:∀d,(Op.equalIn (d+1) t e cy).run P w=.ok b w):(Op.equal t e cy).run P w=.ok b w:=h 9999
def VH {t:TypeId}{x y:AV}{cx cy:Value}{b:Bool}(hx:RV ρ G w x cx)(hy:RV ρ G w y cy)(h:PL P t x y=some b):
  (Op.equal t cx cy).run P w=.ok b w/\(∀op u z,eqGuard op t u z cx cy=pure ())/\(binOp .eql t cx cy=(do pure (.bool (<-Op.equal t cx cy))))/\(binOp .neq t cx cy=(do pure (.bool (!(<-Op.equal t cx cy))))):=by
 unfold PL at h;cases hu:P.underlying t with
 | none=> simp [hu] at h
 | some d=>
  cases d with
  | slice e=>
   simp only [hu] at h;split at h <;> first
    | (cases h;done)
    | (simp only [zaa] at h;subst h
       simp only [RV] at hx hy
       first
          | (obtain⟨_,_,_,rfl,_⟩:=hx;subst hy;exact⟨lM λd=> by simp [Op.equalIn,run_underlying hu],λop _ _=> by cases op <;> rfl,rfl,rfl⟩)
          | (obtain⟨_,_,_,rfl,_⟩:=hy;subst hx;exact⟨lM λd=> by simp [Op.equalIn,run_underlying hu],λop _ _=> by cases op <;> rfl,rfl,rfl⟩))
  | pointer e=>
   simp only [hu] at h;split at h <;> first
    | (cases h;done)
    | (simp only [zaa] at h;subst h
       simp only [RV] at hx hy
       first
          | (obtain⟨_,rfl,_⟩:=hx;subst hy;exact⟨lM λd=> by simp [Op.equalIn,run_underlying hu],λop _ _=> by cases op <;> rfl,rfl,rfl⟩)
          | (obtain⟨_,rfl,_⟩:=hy;subst hx;exact⟨lM λd=> by simp [Op.equalIn,run_underlying hu],λop _ _=> by cases op <;> rfl,rfl,rfl⟩)
          | (obtain⟨_,_,rfl,_⟩:=hx;subst hy;exact⟨lM λd=> by simp [Op.equalIn,run_underlying hu],λop _ _=> by cases op <;> rfl,rfl,rfl⟩)
          | (obtain⟨_,_,rfl,_⟩:=hy;subst hx;exact⟨lM λd=> by simp [Op.equalIn,run_underlying hu],λop _ _=> by cases op <;> rfl,rfl,rfl⟩))
  | map k e=>
   simp only [hu] at h;split at h <;> first
    | (cases h;done)
    | (simp only [zaa] at h;subst h
       simp only [RV] at hx hy
       first
          | (obtain⟨_,rfl,_⟩:=hx;subst hy;exact⟨lM λd=> by simp [Op.equalIn,run_underlying hu],λop _ _=> by cases op <;> rfl,rfl,rfl⟩)
          | (obtain⟨_,rfl,_⟩:=hy;subst hx;exact⟨lM λd=> by simp [Op.equalIn,run_underlying hu],λop _ _=> by cases op <;> rfl,rfl,rfl⟩))
  | func ps rs vd=>
   simp only [hu] at h;split at h <;> first
    | (cases h;done)
    | (simp only [zaa] at h;subst h
       simp only [RV] at hx hy
       first
          | (obtain⟨_,_,rfl,_⟩:=hx;subst hy;exact⟨lM λd=> by simp [Op.equalIn,run_underlying hu],λop _ _=> by cases op <;> rfl,rfl,rfl⟩)
          | (obtain⟨_,_,rfl,_⟩:=hy;subst hx;exact⟨lM λd=> by simp [Op.equalIn,run_underlying hu],λop _ _=> by cases op <;> rfl,rfl,rfl⟩))
  | _=> simp [hu] at h
def Tz {op:BinOp}{t:TypeId}{a b:Value}{x y:Operand}(h:(eqGuard op t (.tmp 0) (.tmp 0) a b).run P w=.ok () w):(eqGuard op t x y a b).run P w=.ok () w:=by
 cases op <;> first
  |rfl
  |(cases a <;> first
    |rfl
    |(cases b <;> first
      |rfl
      |exact h
      |(cases x <;> cases y <;> first|rfl|exact h)))
def P6 {z:Operand}(h:VE z=true):z=.const .nilIface:=by
 unfold VE at h;split at h
 ·rfl
 ·cases h
def TA {op:BinOp}{t:TypeId}{a:Value}{x:Operand}:eqGuard op t x (.const .nilIface) a .nilIface=eqGuard op t (.tmp 0) (.const .nilIface) a .nilIface:=by
 cases op <;> first
  |rfl
  |(cases a <;> first
    |rfl
    |(cases x <;> rfl))
def amj {op:BinOp}{t:TypeId}{x y:AV}{o cy:Value}{u z:Operand}(q:RV ρ G w x o)(A:RV ρ G w y cy)(h:pY P op t x y=some v):
  OkP P ρ G w (do eqGuard op t u z o cy;binOp op t o cy) v:=by
 unfold pY at h;split at h
 ·rename_i a b ha hb;rw[JZ x o a q ha,JZ y cy b A hb];cases p:je P (do eqGuard op t (.tmp 0) (.tmp 0) a b;binOp op t a b)with
  |none=>simp[p]at h
  |some r=>
   simp[p]at h;subst h;have i:=mg p w;rw[Sem.run_bind]at i;cases E:(eqGuard op t (.tmp 0) (.tmp 0) a b).run P w with
   |halt e w'=>rw[E]at i;cases i
   |ok c w'=>
    have j:∀w,(eqGuard op t (.tmp 0) (.tmp 0) a b).run P w=.ok c w:=by
     have C:∀{α β:Type} (s:Sem α) (f:α->Sem β) (r:β),je P (s.bind f)=some r->∃a,je P s=some a:=by
      intro α β s f r
      induction s with
      |pure a=>intro _;exact⟨a,rfl⟩
      |program k K=>intro h;exact K P h
      |_=>intro h;simp[Sem.bind,je]at h
     obtain⟨c',m⟩:=C _ _ _ p;intro w0;have n:=mg m w0;have g:=mg m w;rw[E]at g;cases g;exact n
    have D:=Tz (x:=u) (y:=z) (by simpa using j w);refine⟨r,?_,by simp only[RV]⟩;rw[Sem.run_bind,D];rw[j w]at i;exact i
 ·split at h
  ·cases d:PL P t x y with
   |none=>simp[d]at h
   |some b=>
    simp[d]at h;subst h;obtain⟨n,g,F,H⟩:=VH q A d;exact⟨.bool b,by rw[g,F];simp[n],by simp only[RV]⟩
  ·cases d:PL P t x y with
   |none=>simp[d]at h
   |some b=>
    simp[d]at h;subst h;obtain⟨n,g,F,H⟩:=VH q A d;exact⟨.bool !b,by rw[g,H];simp[n],by simp only[RV]⟩
  ·cases h
def ajL {op:BinOp}{t:TypeId}{x y:AV}{b cy:Value}{u z:Operand}(g:RV ρ G w x b)(j:RV ρ G w y cy)(k:VE z=true->cy=.nilIface)(h:amg P op t z x y=some v):
  OkP P ρ G w (do eqGuard op t u z b cy;binOp op t b cy) v:=by
 unfold amg at h;split at h
 ·rename_i i;have e:=k i;have m:=P6 i;subst e m;unfold auS at h;split at h
  ·rename_i a ha;rw[JZ x b a g ha,TA];cases d:je P (do eqGuard op t (.tmp 0) (.const .nilIface) a .nilIface;binOp op t a .nilIface)with
   |none=>simp[d]at h
   |some r=>
    simp[d]at h;subst h;exact⟨r,mg d w,by simp only[RV]⟩
  ·cases h
 ·exact amj g j h
def oM {x:Option AV}{b:Option Value}{d n:Nat}(e:match x,b with|some a,some c=>RV ρ G w a c|none,none=>True|_,_=>False)(h:jc x d=some n):
  (x=none/\b=none/\n=d)∨∃k i,x=some (.s (.int k i))/\b=some (.int k i)/\0<=i/\n=i.toNat:=by
 unfold jc at h;split at h
 ·cases b with
  |none=>cases h;exact .inl ⟨rfl,rfl,rfl⟩
  |some c=>exact e.elim
 ·rename_i k i;split at h
  ·cases b with
   |none=>exact e.elim
   |some c=>
    simp only[RV]at e;subst e;cases h;exact .inr ⟨k,i,rfl,rfl,‹_›,rfl⟩
  ·cases h
 ·cases h
def mZ {k:IntKind}{i:Int}{y:Nat}{b:BoundsCode}(h0:0<=i)(d:i<=y):(Instr.sliceBound (.int k i) y b).run P w=.ok i.toNat w:=
 run_sliceBound w k i y b h0 d
end
section
variable {P:Program}{ρ:Ren}{H H':ah}{w:World}{v:AV}
def TB(ρ:Ren)(G:Nat->Nat)(w:World)(x:Option AV)(b:Option Value):Prop:=match x,b with|some a,some c=>RV ρ G w a c|none,none=>True|_,_=>False
def ng {s:Bool}{len c l h m:Nat}{g j e:Option Value}
  (hm:(e=none/\m=c)∨∃k i,e=some (.int k i)/\0<=i/\m=i.toNat/\m<=c)
  (D:(j=none/\e=none/\h=len)∨∃k i,j=some (.int k i)/\0<=i/\h=i.toNat/\h<=m)
  (z:(g=none/\l=0)∨∃k i,g=some (.int k i)/\0<=i/\l=i.toNat/\l<=h):(Instr.sliceBounds s len c g j e).run P w=.ok (l,h,m) w:=by
 rcases hm with⟨rfl,rfl⟩|⟨K,y,rfl,p,rfl,F⟩
 ·rcases D with⟨rfl,_,rfl⟩|⟨G,n,rfl,b,rfl,A⟩
  ·rcases z with⟨rfl,rfl⟩|⟨E,q,rfl,d,rfl,u⟩
   ·simp[Instr.sliceBounds]
   ·have v:q<=(h:Int):=V
    simp[Instr.sliceBounds,mZ d v]
  ·have o:n<=(m:Int):=V
   rcases z with⟨rfl,rfl⟩|⟨E,q,rfl,d,rfl,u⟩
   ·simp[Instr.sliceBounds,mZ b o]
   ·have v:q<=(n.toNat:Int):=V
    simp only[Instr.sliceBounds,Sem.run_bind,Sem.run_pure,Result.andThen_ok,mZ b o];simp[mZ d v]
 ·rcases D with⟨_,H,_⟩|⟨G,n,rfl,b,rfl,A⟩
  ·cases H
  ·rcases z with⟨rfl,rfl⟩|⟨E,q,rfl,d,rfl,u⟩
   ·have C:y<=(c:Int):=V
    have o:n<=(y.toNat:Int):=V
    simp only[Instr.sliceBounds,Sem.run_bind,Sem.run_pure,Result.andThen_ok,mZ p C,mZ b o]
   ·have C:y<=(c:Int):=V
    have o:n<=(y.toNat:Int):=V
    have v:q<=(n.toNat:Int):=V
    simp only[Instr.sliceBounds,Sem.run_bind,Sem.run_pure,Result.andThen_ok,mZ p C,mZ b o,mZ d v]
def ny {t e:TypeId}{len c l h m n:Nat}{a:Option Addr}{b d g:Option Value}(i:P.underlying t=some (.slice e))(j:szT P e=some n)
  (hb:(Instr.sliceBounds true len c b d g).run P w=.ok (l,h,m) w):
  (Instr.sliceAt t (.slice a len c) b d g).run P w=.ok (.slice (if m=l then a else a.map (·.add (l*n))) (h-l) (m-l)) w:=by
 simp only[Instr.sliceAt,Sem.run_bind,run_underlying i,Result.andThen_ok,Instr.slice,hb,fB j,Sem.run_pure]
def aeh {t:TypeId}{x:AV}{lo hi mx:Option AV}{cx:Value}{aa ab z:Option Value}(A:RV ρ H.gen w x cx)(E:TB ρ H.gen w lo aa)(F:TB ρ H.gen w hi ab)(G:TB ρ H.gen w mx z)
  (h:PS P t x lo hi mx=some v):OkP P ρ H.gen w (Instr.sliceAt t cx aa ab z) v:=by
 unfold PS at h;cases L:P.underlying t with
 |none=>simp[L]at h
 |some d=>
  cases d with
  |slice e=>
   simp only[L]at h;split at h
   ·rename_i n hs;split at h <;> first|(cases h;done)|skip
    rename_i Q R h3;split at h <;> first|(cases h;done)|skip
    rename_i u;simp only[zaa]at h;subst h;simp only[RV]at A;subst A;have T:=oM (x:=lo) E Q;have W:=oM (x:=hi) F R;have b3:=oM (x:=mx) G h3;refine⟨.slice none 0 0,?_,by simp only[RV]⟩;rw[ny L hs (ng (l:=0) (h:=0) (m:=0) (by
       rcases b3 with⟨_,q,_⟩|⟨k,i,_,q,y,X⟩
       ·exact .inl ⟨q,rfl⟩
       ·exact .inr ⟨k,i,q,y,X,V⟩) (by
       rcases W with⟨p,q,_⟩|⟨k,i,_,q,y,X⟩
       ·refine .inl ⟨q,?_,rfl⟩;have:=u p;rcases b3 with⟨_,q',_⟩|⟨k,i,p',_⟩
        ·exact q'
        ·rw[this]at p';cases p'
       ·exact .inr ⟨k,i,q,y,X,V⟩) (by
       rcases T with⟨_,q,_⟩|⟨k,i,_,q,y,X⟩
       ·exact .inl ⟨q,rfl⟩
       ·exact .inr ⟨k,i,q,y,X,V⟩))]
    simp
   ·rename_i r g off j len ae ex m hs;split at h <;> first|(cases h;done)|skip
    rename_i l D k Q R h3;split at h <;> first|(cases h;done)|skip
    rename_i u;obtain⟨rfl,c1,c2,c3,c4⟩:=u;simp only[zaa]at h;subst h;simp only[RV]at A;obtain⟨b,o,c,rfl,X,q2,q3,q4,q5⟩:=A;have T:=oM (x:=lo) E Q;have W:=oM (x:=hi) F R;have b3:=oM (x:=mx) G h3
    -- the capacity then
    obtain⟨m,hm,af,ag,ad⟩:∃m,((z=none/\m=c)∨∃k i,z=some (.int k i)/\0<=i/\m=i.toNat/\m<=c)/\k<=m/\m<=c/\((ex || !isNone mx)=true->m=k):=by
     rcases b3 with⟨p,q,r⟩|⟨k',i,p,q,y,r⟩
     ·refine⟨c,.inl ⟨q,rfl⟩,V,zac _,λA=>?_⟩;subst p;simp[isNone]at A;rw[q3 A,r]
     ·exact⟨k,.inr ⟨k',i,q,y,r,V⟩,zac _,V,λ_=>rfl⟩
    have hb:=ng (P:=P) (w:=w) (s:=true) (len:=len) (c:=c) (l:=l) (h:=D) (m:=m) hm (by
       rcases W with⟨p,q,r⟩|⟨k',i,_,q,y,r⟩
       ·refine .inl ⟨q,?_,r⟩;have:=c4 p;rcases b3 with⟨_,q',_⟩|⟨_,_,p',_⟩
        ·exact q'
        ·rw[this]at p';cases p'
       ·exact .inr ⟨k',i,q,y,r,V⟩) (by
       rcases T with⟨_,q,r⟩|⟨k',i,_,q,y,r⟩
       ·exact .inl ⟨q,r⟩
       ·exact .inr ⟨k',i,q,y,r,V⟩)
    refine⟨_,ny L hs hb,?_⟩;simp only[RV];by_cases C:m=l
    ·refine⟨b,o,m-l,by simp[C],V,V,λA=>by rw[ad A],q4,λhg=>?_⟩;obtain⟨sh,ty,n,p1,p2,p3,p4⟩:=q5 hg;refine⟨sh,ty,n,p1,λhc=>V,p3,?_⟩;have:(m-l)*j<=c*j:=zaF _ V;omega
    ·refine⟨b,o+l*j,m-l,by simp[C,jU],V,V,λA=>by rw[ad A],q4,λhg=>?_⟩;obtain⟨sh,ty,n,p1,p2,p3,p4⟩:=q5 hg;refine⟨sh,ty,n,p1,λ_=>by rw[p2 V];omega,p3,?_⟩;have:l*j+(m-l)*j<=c*j:=by rw[<-zbF];exact zaF _ V
     omega
   ·rename_i n j cells m hs;split at h <;> first|(cases h;done)|skip
    rename_i l D Q R;split at h <;> first|(cases h;done)|skip
    rename_i u;obtain⟨rfl,c1,c2⟩:=u;simp only[zaa]at h;subst h;simp only[RV]at A;obtain⟨b,o,c,rfl,X,q2,q3,q4,q5⟩:=A;have T:=oM (x:=lo) E Q;have W:=oM (x:=hi) F R;have K:z=none:=by
     cases z with
     |none=>rfl
     |some c=>exact G.elim
    have hb:=ng (P:=P) (w:=w) (s:=true) (len:=n) (c:=c) (l:=l) (h:=D) (m:=c) (.inl ⟨K,rfl⟩) (by
       rcases W with⟨p,q,r⟩|⟨k',i,_,q,y,r⟩
       ·exact .inl ⟨q,K,r⟩
       ·exact .inr ⟨k',i,q,y,r,V⟩) (by
       rcases T with⟨_,q,r⟩|⟨k',i,_,q,y,r⟩
       ·exact .inl ⟨q,r⟩
       ·exact .inr ⟨k',i,q,y,r,V⟩)
    refine⟨_,ny L hs hb,?_⟩;simp only[RV];have M:(List.take ((D-l)*j) (List.drop (l*j) cells)).length=(D-l)*j:=by
     simp only[zau,zaR,q2];have:(D-l)*j+l*j<=n*j:=by rw[<-zbF];exact zaF _ V
     omega
    by_cases C:c=l
    ·have:D-l=0:=V
     refine⟨b,o,c-l,by simp[C],V,M,q3,q4,?_⟩;rw[this];simp[RVc]
    ·exact⟨b,o+l*j,c-l,by simp[C,jU],V,M,q3,q4,uO _ (qX _ q5)⟩
   ·cases h
  |string=>
   simp only[L]at h;split at h
   ·rename_i s l Q;split at h <;> first|(cases h;done)|skip
    rename_i D R;split at h <;> first|(cases h;done)|skip
    rename_i u;simp only[zaa]at h;subst h;simp only[RV]at A;subst A;have T:=oM (x:=lo) E Q;have W:=oM (x:=hi) F R;have K:z=none:=by
     cases z with
     |none=>rfl
     |some c=>exact G.elim
    subst K;have hb:=ng (P:=P) (w:=w) (s:=false) (len:=s.size) (c:=s.size) (l:=l) (h:=D) (m:=s.size) (.inl ⟨rfl,rfl⟩) (by
       rcases W with⟨p,q,r⟩|⟨k',i,_,q,y,r⟩
       ·exact .inl ⟨q,rfl,r⟩
       ·exact .inr ⟨k',i,q,y,r,V⟩) (by
       rcases T with⟨_,q,r⟩|⟨k',i,_,q,y,r⟩
       ·exact .inl ⟨q,r⟩
       ·exact .inr ⟨k',i,q,y,r,V⟩)
    refine⟨.string (s.extract l D),?_,by simp only[RV]⟩;simp only[Instr.sliceAt,Sem.run_bind,run_underlying L,Result.andThen_ok,Instr.slice,zaK,zal,if_false,hb,Sem.run_pure]
   ·cases h
  |_=>simp[L]at h
end
def xU(off:Nat):∀(l:List Value) (k:Nat) (cs:Array Value),(l.zipIdx k).foldl (λcs (p:Value × Nat)=>cs.setIfInBounds (off+p.2) p.1) cs=lF cs (off+k) l
 |[],_,_=>rfl
 |v::l,k,cs=>by
  simp only[List.zipIdx_cons,zbW,lF];exact xU off l (k+1) _
section
variable {P:Program}{ρ:Ren}{G:Nat->Nat}{H H':ah}{w:World}{v:AV}
def ZO {cells xs:List AV}{cs vs:List Value}{off:Nat}(hc:RVs ρ G w cells cs)(j:RVs ρ G w xs vs)(d:off+xs.length<=cells.length):RVs ρ G w (aN cells off xs) (lF cs.toArray off vs).toList:=by
 have k:=dN hc;have m:=dN j;refine tK (by rw[ji _ _ _ d,bM,fA];simp[k]) λi x hi=>?_;rw[wJ _ _ _ d]at hi;have b:=lZ vs cs.toArray off i (by simp;omega);rw[m]at b;by_cases e:off<=i/\i<off+xs.length
 ·rw[if_pos e]at hi b;obtain⟨u,g,h⟩:=jL j hi;exact⟨u,by rw[zcX,b,g],h⟩
 ·rw[if_neg e]at hi b;obtain⟨u,g,h⟩:=jL hc hi;exact⟨u,by rw[zcX,b];simpa using g,h⟩
def GH {d:Nat->Option (Nat × Nat)}:∀(b:List (Nat × AV)) (n:List (Nat × Value)) (cells:List AV) (cs:Array Value) (cells':List AV),
  b.map (·.1)=n.map (·.1)->RVs ρ G w (b.map (·.2)) (n.map (·.2))->RVs ρ G w cells cs.toList->fK d cells b=some cells'->
  ∃cs',Instr.fill d cs n=some cs'/\RVs ρ G w cells' cs'.toList
 |[],[],cells,cs,cells',_,_,hc,h=>by
  simp only[fK,zaa]at h;subst h;exact⟨cs,rfl,hc⟩
 |[],_::_,_,_,_,hi,_,_,_=>by simp at hi
 |_::_,[],_,_,_,hi,_,_,_=>by simp at hi
 |(i,x)::b,(j,y)::n,cells,cs,cells',hi,v,hc,h=>by
  simp only[zaD,zbQ]at hi;obtain⟨rfl,hi⟩:=hi;simp only[zaD,RVs]at v;obtain⟨_,_,e,z,A⟩:=v;cases e;simp only[fK]at h;cases k:d i with
  |none=>simp[k]at h
  |some os=>
   obtain⟨off,size⟩:=os;simp only[k]at h;split at h
   ·rename_i m;obtain⟨E,q⟩:=m;have g:=MQ z;have o:=dN g;rw[bM]at o;have u:=dN hc;rw[bM]at u;have p:=ZO hc g q;obtain⟨cs',C,D⟩:=GH b n _ _ cells' hi A p h;refine⟨cs',?_,D⟩;simp only[Instr.fill,k];rw[if_neg (by simp;omega)];rw[<-C]
    congr 1
    rw[<-zcO,zdC];exact xU off y.cells.toList 0 _
   ·cases h
def Ye {b:Array Field}(h:b.all (λf=>(szT P f.type).isSome)=true):
  (b.mapM λf=>do pure (f.offset,<-sizeOf f.type):Sem (Array (Nat × Nat))).run P w=.ok (b.map λf=>(f.offset,(szT P f.type).getD 0)) w:=by
 rw[Array.mapM_eq_mapM_toList];have key:∀l:List Field,(∀f∈l,(szT P f.type).isSome=true)->(l.mapM λf=>do pure (f.offset,<-sizeOf f.type):Sem (List (Nat × Nat))).run P w=.ok (l.map λf=>(f.offset,(szT P f.type).getD 0)) w:=by
  intro l
  induction l with
  |nil=>intro _;simp
  |cons f l i=>
   intro e;have j:=e f O;cases d:szT P f.type with
   |none=>simp[d]at j
   |some n=>
    rw[zbC];simp only[Sem.run_bind,fB d,Sem.run_pure,Result.andThen_ok,i (λg k=>e g (by simp[k])),zaD,d,zat]
 rw[Sem.run_map,key b.toList (λf m=>by
  have:=zcP.1 h f (by simpa using m);exact this)]
 simp only[Result.andThen_ok]
 congr 1
 exact(zcp.1 O)
def aei {t:TypeId}{b:List (Nat × AV)}{q:Array (Nat × Value)}(hi:b.map (·.1)=q.toList.map (·.1))(E:RVs ρ G w (b.map (·.2)) (q.toList.map (·.2)))
  (h:fV P t b=some v):OkP P ρ G w (Instr.build t q) v:=by
 unfold fV yH at h;cases j:zU P t with
 |none=>simp[j]at h
 |some z=>
  cases o:P.underlying t with
  |none=>simp[j,o]at h
  |some d=>
   cases d with
   |struct u=>
    simp only[j,o,zaj]at h;split at h
    ·rename_i g;cases k:fK (PK P u) (z.cells.toList.map .s) b with
     |none=>simp[k]at h
     |some cells=>
      simp only[k,zaj,zaa]at h;subst h;obtain⟨cs,y,A⟩:=GH (ρ:=ρ) (G:=G) (w:=w) b q.toList _ z.cells cells hi E (iw _) k;refine⟨.agg cs,?_,by simp only[RV];exact⟨cs,rfl,A⟩⟩;have C:(λi=>(u.map λf=>(f.offset,(szT P f.type).getD 0))[i]?)=PK P u:=by
       funext i
       simp only[PK,Array.getElem?_map];cases D:u[i]? with
       |none=>simp
       |some f=>
        have F:=zcP.1 g f (Array.mem_of_getElem? D);cases p:szT P f.type with
        |none=>simp[p]at F
        |some n=>simp[p]
      simp only[Instr.build,Sem.run_bind,gU j,run_underlying o,Result.andThen_ok,Ye g];rw[C,y];simp
    ·cases h
   |array n e=>
    simp only[j,o,zaj]at h;cases p:szT P e with
    |none=>simp[p]at h
    |some m=>
     simp only[p]at h;cases k:fK (λi=>some (i*m,m)) (z.cells.toList.map .s) b with
     |none=>simp[k]at h
     |some cells=>
      simp only[k,zaj,zaa]at h;subst h;obtain⟨cs,y,A⟩:=GH (ρ:=ρ) (G:=G) (w:=w) b q.toList _ z.cells cells hi E (iw _) k;refine⟨.agg cs,?_,by simp only[RV];exact⟨cs,rfl,A⟩⟩;simp only[Instr.build,Sem.run_bind,gU j,run_underlying o,Result.andThen_ok,fB p,y,Sem.run_pure]
   |_=>simp[j,o]at h
def J3(z:List AV)(d:0<z.length):∀(n i:Nat),i<n*z.length->(dK z n)[i]?=z[i % z.length]?
 |0,i,h=>by simp at h
 |n+1,i,h=>by
  simp only[dK];rw[zcD];by_cases hi:i<z.length
  ·rw[if_pos hi,zcq hi]
  ·have b:(i-z.length) % z.length=i % z.length:=by rw[Nat.mod_eq_sub_mod (a:=i) V]
   rw[if_neg hi,J3 z d n (i-z.length) (by rw[zbF,zbk]at h;omega),b]
def jl(z:List AV):∀n,(dK z n).length=n*z.length
 |0=>by simp[dK]
 |n+1=>by simp[dK,jl z n,zbF];omega
def wK(z:Value)(n:Nat):RVs ρ G w (dK (z.cells.toList.map .s) n) ((Array.range (n*z.cells.size)).map (z.cells[· % z.cells.size]!)).toList:=by
 have d:(z.cells.toList.map AV.s).length=z.cells.size:=O
 refine tK (by rw[jl,d];simp) λi x e=>?_;have hi:i<n*z.cells.size:=by
  rcases zaU i (n*z.cells.size)with h|h
  ·exact h
  ·rw[zaI (by rw[jl,d];exact h)]at e;cases e
 have b:0<z.cells.size:=by
  rcases Nat.eq_zero_or_pos z.cells.size with h|h
  ·rw[h,Nat.mul_zero]at hi;omega
  ·exact h
 rw[J3 _ (by rw[d];exact b) n i (by rw[d];exact hi),d]at e;have hm:i % z.cells.size<z.cells.size:=Nat.mod_lt _ b;refine⟨z.cells[i % z.cells.size],?_,?_⟩
 ·simp[hi,hm]
 ·have:x=.s z.cells[i % z.cells.size]:=by
   simp[hm]at e;exact e.symm
  subst this;simp only[RV]
def oN {t e:TypeId}(h:JE P t=some e):P.underlying t=some (.slice e):=by
 unfold JE at h;split at h
 ·rename_i b;cases h;exact b
 ·cases h
def zY {t:TypeId}{z:List AV}(h:yH P t=some z):∃v,zU P t=some v/\z=v.cells.toList.map .s:=by
 unfold yH at h;cases b:zU P t with
 |none=>simp[b]at h
 |some v=>simp[b]at h;exact⟨v,rfl,h.symm⟩
def uT(R:Rel ρ H w){e:TypeId}{cells:List AV}{cs:Array Value}{m len cap c:Nat}{ex:Bool}(hc:RVs ρ H.gen w cells (cs.toList.take cells.length))(d:cells.length<=cs.size)(h:len<=cap)(j:cap<=c)(k:ex=true->c=cap)(p:c*m<=cs.size){ty:TypeId}(hX:Xct ty e 0 cs.size cells.length):
  ∃ρ',Rel ρ' (H.new (.blk 0 ty cells)) (w.alloc (.cells cs e))/\RV ρ' (H.new (.blk 0 ty cells)).gen (w.alloc (.cells cs e)) (.sl H.next 0 0 m len cap ex) (.slice (some ⟨w.heap.size,0,none⟩) len c)/\Ext ρ H w ρ' (H.new (.blk 0 ty cells)) (w.alloc (.cells cs e)):=by
 have g:=ZM (e:=e) (ty:=ty) (cells:=cells) (cs:=cs) R d (λi x n=>by
  obtain⟨u,b,o⟩:=jL hc n;rw[zaC]at b;split at b
  ·exact⟨u,by simpa using b,o⟩
  ·cases b) hX
 refine⟨_,g.1,?_,g.2⟩;simp only[RV];refine⟨w.heap.size,0,c,rfl,h,j,k,V,λ_=>⟨0,e,cs.size,by simp[updρ],λ_=>rfl,?_,V⟩⟩;rw[fE,kC];rfl
def ZP {xs:List AV}{l:List Value}(h:RVs ρ G w xs l):RVs ρ G w xs (l.take xs.length):=by
 rw[zay (by rw[dN h];exact zac _)];exact h
def MS(R:Rel ρ H w){t:TypeId}{len:Nat}{d:List (Nat × AV)}{y:Array (Nat × Value)}(hi:d.map (·.1)=y.toList.map (·.1))(W:RVs ρ H.gen w (d.map (·.2)) (y.toList.map (·.2)))
  (h:dH P t len d H=some (v,H')):Ok P ρ H w (Instr.buildSlice t len y) v H':=by
 unfold dH at h;cases C:JE P t with
 |none=>simp[C]at h
 |some e=>
  simp only[C]at h;cases A:szT P e with
  |none=>simp[A]at h
  |some m=>
   cases D:yH P e with
   |none=>simp[A,D]at h
   |some z=>
    simp only[A,D]at h;obtain⟨zv,q,rfl⟩:=zY D;split at h <;> first|(cases h;done)|skip
    rename_i n;obtain⟨o,Q⟩:=n;simp at o;split at h <;> first|(cases h;done)|skip
    rename_i cells X;split at h <;> first|(cases h;done)|skip
    simp only[zaa,zad]at h;obtain⟨rfl,rfl⟩:=h
    -- the zero cells
    obtain⟨u,E,F⟩:∃u:Array Value,RVs ρ H.gen w (dK (zv.cells.toList.map .s) len) ((Array.range (len*m)).map (u[· % u.size]!)).toList/\((len*m=0/\u=#[])∨(¬len*m=0/\u=zv.cells)):=by
     by_cases j:len*m=0
     ·refine⟨#[],?_,.inl ⟨j,rfl⟩⟩;rw[j];have:dK (zv.cells.toList.map .s) len=[]:=zaq (by rw[jl];simp[o,j]);rw[this];simp[RVs]
     ·refine⟨zv.cells,?_,.inr ⟨j,rfl⟩⟩;have:=wK (ρ:=ρ) (G:=H.gen) (w:=w) zv len;rw[o]at this ⊢;exact this
    obtain⟨cs,K,T⟩:=GH d y.toList _ _ cells hi W E X;have k:=dN T;have L:cs.size=len*m:=by
     have hsz:∀(g:Nat->Option (Nat × Nat)) (l:List (Nat × Value)) (a b:Array Value),Instr.fill g a l=some b->b.size=a.size:=by
      intro g l
      induction l with
      |nil=>intro a b h;simp[Instr.fill]at h;rw[h]
      |cons p l ih=>
       intro a b h;obtain⟨i,x⟩:=p;simp only[Instr.fill]at h;split at h
       ·cases h
       ·split at h
        ·cases h
        ·rw[ih _ _ h,<-zcO,zdC,xU,fA]
     rw[hsz _ _ _ _ K];simp
    obtain⟨ρ',q1,q2,q3⟩:=uT (ty:=e) (hX:=Xct.low (uP q) (by have:=k;rw[bM]at this;omega)) (e:=e) (cells:=cells) (cs:=cs) (m:=m) (len:=len) (cap:=len) (c:=len) (ex:=true) R (ZP T) (by rw[<-k,bM];exact zac _) (zac _) (zac _) (λ_=>rfl) (by rw[L];exact zac _);refine⟨_,ρ',_,?_,q1,q2,q3⟩;have M:¬len*m > 2 ^ 24:=V
    simp only[Instr.buildSlice,Sem.run_bind,run_underlying (oN C),Result.andThen_ok,fB A,M,if_false];rcases F with⟨j,rfl⟩|⟨j,rfl⟩
    ·rw[if_pos j];simp only[Result.andThen_ok,K,Sem.run_bind,newRow,run_newObj,Sem.run_pure];rfl
    ·rw[if_neg j];simp only[Result.andThen_ok,K,Sem.run_bind,newRow,run_newObj,Sem.run_pure,gU q];rfl
def P7(R:Rel ρ H w){t:TypeId}{x y:AV}{E cy:Value}(F:RV ρ H.gen w x E)(K:RV ρ H.gen w y cy)(h:qc P t x y H=some (v,H')):Ok P ρ H w (Instr.makeSlice t E cy) v H':=by
 unfold qc at h;split at h <;> first|(cases h;done)|skip
 rename_i e k1 l L c M;simp only[RV]at F K;subst F K;cases g:szT P e with
 |none=>simp[g]at h
 |some m=>
  cases hb:yS P e with
  |none=>simp[g,hb]at h
  |some by_=>
   cases u:yH P e with
   |none=>simp[g,hb,u]at h
   |some z=>
    simp only[g,hb,u]at h;obtain⟨zv,n,rfl⟩:=zY u;split at h <;> first|(cases h;done)|skip
    rename_i i;obtain⟨j,A,Q,T,h2,h3⟩:=i;simp at j;simp only[zaa,zad]at h;obtain⟨rfl,rfl⟩:=h;cases b:P.info? e with
    |none=>simp[szT,b]at g
    |some d=>
     simp[szT,b]at g;simp[yS,b]at hb;have C:d.zero=some zv:=by simpa [b]using aec n
     have o:=run_make (P:=P) (w:=w) t e d zv (oN M) b C k1 L l c Q T (by rw[hb];omega) V;have p:=wK (ρ:=ρ) (G:=H.gen) (w:=w) zv c.toNat;have D:((Array.range (c.toNat*zv.cells.size)).map (zv.cells[· % zv.cells.size]!))=madeCells zv.cells (c.toNat*d.size):=by
      rw[madeCells,g,j]
     have k:(madeCells zv.cells (c.toNat*d.size)).size=c.toNat*m:=by rw[size_madeCells,g]
     have q:(dK (zv.cells.toList.map .s) c.toNat).length=c.toNat*m:=by rw[jl];simp[j]
     obtain⟨ρ',W,X,q3⟩:=uT (ty:=e) (hX:=Xct.low (uP n) (by rw[k,q])) (e:=e) (cells:=dK (zv.cells.toList.map .s) c.toNat) (cs:=madeCells zv.cells (c.toNat*d.size)) (m:=m) (len:=l.toNat) (cap:=c.toNat) (c:=c.toNat) (ex:=true) R
      (ZP (by rw[D]at p;exact p)) (by rw[k,q];exact zac _) V (zac _) (λ_=>rfl) (by rw[k];exact zac _)
     exact⟨_,ρ',_,o,W,X,q3⟩
end
section
variable {P:Program}{ρ:Ren}{G:Nat->Nat}{H H':ah}{w:World}{v:AV}
def TD {t:TypeId}{k:IntKind}{e:TypeId}(h:al4 P t=some (k,e)):∃b,P.underlying t=some (.map b e)/\P.underlying b=some (.int k):=by
 unfold al4 at h;split at h
 ·rename_i b g d;split at h
  ·rename_i i hk;simp only[zaa,zad]at h;obtain⟨rfl,rfl⟩:=h;exact⟨b,d,hk⟩
  ·cases h
 ·cases h
def nX {b:Nat}{d:Array MapEntry}{cl:Nat}(h:w.heap[b]?=some (.map d cl)):(getObj b).run P w=.ok (.map d cl) w:=by
 simp[getObj,Sem.run,h]
def xW {b:Nat}{d:Array MapEntry}{cl:Nat}{o:Obj}(h:w.heap[b]?=some (.map d cl)):(setObj b o).run P w=.ok () (jV w b o):=by
 simp[setObj,Sem.run,h,jV]
def wL {b:TypeId}{k:IntKind}{n:Int}(hk:P.underlying b=some (.int k))(e:Bool)(d:Nat):(Instr.checkKey e (d+1) b (.int k n)).run P w=.ok () w:=by
 simp[Instr.checkKey,run_underlying hk]
def qZ {k:IntKind}{n:Int}:∀(es:List (Int × AV)) (l:List MapEntry) (i:Nat),RVm ρ G w k es l->ql es n=none->Instr.findNow (.int k) (.int k n) l i=some none
 |[],l,i,h,_=>by simp only[RVm]at h;subst h;rfl
 |(m,x)::es,l,i,h,b=>by
  obtain⟨e,d,rfl,hk,_,g⟩:=(by simpa only[RVm]using h)
  simp only[ql]at b;split at b
  ·cases b
  ·rename_i j;simp only[Instr.findNow,hk,Instr.sameNow];have:(n==m)=false:=by simp;omega
   simp[this,qZ es d (i+1) g b]
def ru {k:IntKind}{n:Int}{x:AV}:∀(es:List (Int × AV)) (l:List MapEntry) (i:Nat),RVm ρ G w k es l->ql es n=some x->
  ∃j e,Instr.findNow (.int k) (.int k n) l i=some (some (i+j,e.val))/\l[j]?=some e/\e.key=.int k n/\RV ρ G w x e.val/\
   (∀y cy,RV ρ G w y cy->RVm ρ G w k (MF es n y) (l.modify j λe=>{ e with key:=.int k n,val:=cy }))/\RVm ρ G w k (zV es n) (l.eraseIdx j)
 |[],l,i,h,b=>by simp[ql]at b
 |(m,z)::es,l,i,h,b=>by
  obtain⟨e,u,rfl,hk,g,o⟩:=(by simpa only[RVm]using h)
  simp only[ql]at b;split at b
  ·rename_i p;cases b;subst p;refine⟨0,e,?_,rfl,hk,g,λy cy q=>?_,?_⟩
   ·simp[Instr.findNow,hk,Instr.sameNow]
   ·simp only[MF,if_true,List.modify_zero_cons,RVm];exact⟨_,_,rfl,rfl,q,o⟩
   ·simpa only[zV,if_true,List.eraseIdx_zero,List.tail_cons]using o
  ·rename_i d;obtain⟨j,v,A,C,D,E,F,H⟩:=ru es u (i+1) o b;refine⟨j+1,v,?_,by simpa using C,D,E,λy cy q=>?_,?_⟩
   ·have:(n==m)=false:=by simp;omega
    simp only[Instr.findNow,hk,Instr.sameNow,if_true,this];rw[A,show i+1+j=i+(j+1)from by omega]
   ·simp only[MF,if_neg d,List.modify_succ_cons,RVm];exact⟨_,_,rfl,hk,g,F y cy q⟩
   ·simp only[zV,if_neg d,zdj,RVm];exact⟨_,_,rfl,hk,g,H⟩
def P8 {k:IntKind}{n:Int}{y:AV}{cy:Value}{born:Nat}(g:RV ρ G w y cy):∀(es:List (Int × AV)) (l:List MapEntry),RVm ρ G w k es l->ql es n=none->RVm ρ G w k (MF es n y) (l++[{ key:=.int k n,val:=cy,born }])
 |[],l,h,_=>by
  simp only[RVm]at h;subst h;simp only[MF,zaN,RVm];exact⟨_,_,rfl,rfl,g,rfl⟩
 |(m,z)::es,l,h,b=>by
  obtain⟨e,i,rfl,hk,j,o⟩:=(by simpa only[RVm]using h)
  simp only[ql]at b;split at b
  ·cases b
  ·rename_i d;simp only[MF,if_neg d,za3,RVm];exact⟨_,_,rfl,hk,j,P8 g es i o b⟩
def J4 {n:Int}:∀(es:List (Int × AV)),ql es n=none->zV es n=es
 |[],_=>rfl
 |(m,z)::es,b=>by
  simp only[ql]at b;split at b
  ·cases b
  ·rename_i d;simp only[zV,if_neg d,J4 es b]
def nZ {b:TypeId}{k:IntKind}{n:Int}{l:List MapEntry}{r:Option (Nat × Value)}(hk:P.underlying b=some (.int k))(h:Instr.findNow (.int k) (.int k n) l 0=some r):
  (Instr.findKey b (.int k n) l).run P w=.ok r w:=by
 simp[Instr.findKey,run_underlying hk,h]
def Born.push {es:List MapEntry}{cl:Nat}(h:Born es cl){key val:Value}:Born (es++[{ key,val,born:=cl }]) (cl+1):=by
 obtain⟨d,e⟩:=h;refine⟨λx b=>?_,?_⟩
 ·rcases zaQ.1 b with b|b
  ·exact Nat.lt_succ_of_lt (d x b)
  ·rw[zaV]at b;subst b;exact zc4 _
 ·rw[zbn];refine zbp.2 ⟨e,O,λa ha c hc=>?_⟩;simp only[zaD,zbT,zaV]at hc;subst hc;obtain⟨x,b,rfl⟩:=zaM.1 ha;exact zbZ (d x b)
def wM {g:MapEntry->MapEntry}(b:∀e,(g e).born=e.born):∀(es:List MapEntry) (j:Nat),(es.modify j g).map (·.born)=es.map (·.born)
 |[],j=>by simp
 |e::es,0=>by simp[b]
 |e::es,j+1=>by simp[wM b es j]
def Born.modify {es:List MapEntry}{cl:Nat}(h:Born es cl){j:Nat}{g:MapEntry->MapEntry}(b:∀e,(g e).born=e.born):Born (es.modify j g) cl:=by
 have hm:=wM b es j;refine⟨λx d=>?_,by rw[hm];exact h.2⟩;have:x.born∈es.map (·.born):=by rw[<-hm];exact zaM.2 ⟨x,d,rfl⟩
 obtain⟨y,i,e⟩:=zaM.1 this;have:=h.1 y i;rw[<-e];exact this
def Born.erase {es:List MapEntry}{cl:Nat}(h:Born es cl){j:Nat}:Born (es.eraseIdx j) cl:=
 ⟨λx b=>h.1 x ((zcY _ _).mem b),h.2.sublist ((zcY _ _).map _)⟩
def MV(R:Rel ρ H w){r:Nat}{k:IntKind}{es:List (Int × AV)}{g:Value}(h:RV ρ H.gen w (.mp r) g)(i:H.get r=.map k es):
  ∃b d cl,g=.map (some b)/\ρ r=some (b,0)/\w.heap[b]?=some (.map d cl)/\RVm ρ H.gen w k es d.toList/\Born d.toList cl:=by
 simp only[RV]at h;obtain⟨b,rfl,e⟩:=h;have e:=e (by simp[ah.gen,i,gB.gen]);have j:=R.obj r b 0 e;simp only[yR,i]at j;obtain⟨d,cl,m,_,n,o⟩:=j;exact⟨b,d,cl,rfl,e,m,n,o⟩
def ZQ(R:Rel ρ H w){t:TypeId}{x i:AV}{ok:Bool}{D E:Value}(Q:RV ρ H.gen w x D)(hi:RV ρ H.gen w i E)(h:Tn P t x i ok H=some (v,H')):H'=H/\OkP P ρ H.gen w (Instr.lookup t D E ok) v:=by
 obtain⟨F,T⟩:=uS h
 clear h
 subst T;have h:=F
 clear F
 refine⟨rfl,?_⟩;unfold ZI at h;split at h <;> first|(cases h;done)|skip
 rename_i k e hm;obtain⟨W,G,hk⟩:=TD hm;split at h <;> first|(cases h;done)|skip
 rename_i z X;split at h <;> first|(cases h;done)|skip
 rename_i r;split at h <;> first|(cases h;done)|skip
 rename_i k' n;split at h <;> first|(cases h;done)|skip
 rename_i q u K;simp only[bQ,zaj,zaa]at K;split at h <;> first|(cases h;done)|skip
 rename_i A;obtain⟨rfl,rfl⟩:=A;obtain⟨b,g,cl,rfl,hr,hb,m,aa⟩:=MV R Q K;simp only[RV]at hi;subst hi;have o:∀C,(Instr.checkKey C 10000 W (.int q n)).run P w=.ok () w:=λC=>wL hk C 9999;cases p:ql u n with
 |none=>
  simp only[p,zaa]at h;subst h;have d:=nZ (P:=P) (w:=w) hk (qZ u g.toList 0 m p);refine⟨if ok then .tuple #[z,.bool false]else z,?_,?_⟩
  ·simp only[Instr.lookup,Sem.run_bind,run_underlying G,Result.andThen_ok,nX hb,Sem.run_pure,o,d,gU X]
  ·cases ok
   ·simp only[RV,zal,if_false]
   ·simp only[RV,if_true];exact⟨_,rfl,jB (by simp only[RV]) (jB (by simp only[RV]) jE)⟩
 |some y=>
  simp only[p,zaa]at h;subst h;obtain⟨j,L,p1,p2,p3,M,_⟩:=ru u g.toList 0 m p;have d:=nZ (P:=P) (w:=w) hk p1;refine⟨if ok then .tuple #[L.val,.bool true]else L.val,?_,?_⟩
  ·simp only[Instr.lookup,Sem.run_bind,run_underlying G,Result.andThen_ok,nX hb,Sem.run_pure,o,d]
  ·cases ok
   ·simpa only[zal,if_false]using M
   ·simp only[RV,if_true];exact⟨_,rfl,jB M (jB (by simp only[RV]) jE)⟩
def P9(R:Rel ρ H w){t:TypeId}{x i y:AV}{G K cy:Value}(X:RV ρ H.gen w x G)(hi:RV ρ H.gen w i K)(L:RV ρ H.gen w y cy)(h:tJ P t x i y H=some (v,H')):
  v=aY/\∃ρ' w',(Instr.mapUpdate t G K cy).run P w=.ok () w'/\Rel ρ' H' w'/\Ext ρ H w ρ' H' w':=by
 unfold tJ at h;split at h <;> first|(cases h;done)|skip
 rename_i k e r k' n hm;obtain⟨kt,M,hk⟩:=TD hm;split at h <;> first|(cases h;done)|skip
 rename_i m q C;split at h <;> first|(cases h;done)|skip
 rename_i D;obtain⟨rfl,rfl,_⟩:=D;simp only[zaa,zad]at h;obtain⟨rfl,rfl⟩:=h;obtain⟨b,o,cl,rfl,Q,hb,p,u⟩:=MV R X C;simp only[RV]at hi;subst hi;have A:(Instr.checkKey false 10000 kt (.int m n)).run P w=.ok () w:=wL hk false 9999;cases E:ql q n with
 |none=>
  have g:=nZ (P:=P) (w:=w) hk (qZ q o.toList 0 p E);have d:=MP (es':=MF q n y) (ad4:=o.push { key:=.int m n,val:=cy,born:=cl }) (cl':=cl+1) R Q C hb (by rw[Array.toList_push];exact P8 L q _ p E) (by rw[Array.toList_push];exact u.push);refine⟨rfl,ρ,_,?_,d.1,d.2⟩;simp only[Instr.mapUpdate,Sem.run_bind,run_underlying M,Result.andThen_ok,nX hb,A,g,xW hb]
 |some z=>
  obtain⟨j,T,W,p2,p3,p4,p5,_⟩:=ru q o.toList 0 p E;rw[za7]at W;have g:=nZ (P:=P) (w:=w) hk W;have d:=MP (es':=MF q n y) (ad4:=o.modify j λe=>{ e with key:=.int m n,val:=cy }) (cl':=cl) R Q C hb (by rw[Array.toList_modify];exact p5 y cy L) (by rw[Array.toList_modify];exact u.modify λ_=>rfl);refine⟨rfl,ρ,_,?_,d.1,d.2⟩;have hg:o[j]?=some T:=by simpa using p2
  have F:Instr.keyThatStays T.key (.int m n)=pure (.int m n):=by
   rw[p3];simp[Instr.keyThatStays,Instr.sameBits]
  simp only[Instr.mapUpdate,Sem.run_bind,run_underlying M,Result.andThen_ok,nX hb,A,g,hg,zaj,zat,F,Sem.run_pure,xW hb]
def ZR(R:Rel ρ H w){t ty:TypeId}{F:Array TypeId}{x i:AV}{G K:Value}(L:F[0]?=some t)(X:RV ρ H.gen w x G)(hi:RV ρ H.gen w i K)(h:MJ P t x i H=some (v,H')):
  Ok P ρ H w (Builtin.delete_ F ty #[G,K]) v H':=by
 unfold MJ at h;split at h <;> first|(cases h;done)|skip
 rename_i k e r k' n hm;obtain⟨kt,M,hk⟩:=TD hm;split at h <;> first|(cases h;done)|skip
 rename_i o q A;split at h <;> first|(cases h;done)|skip
 rename_i C;obtain⟨rfl,rfl,_⟩:=C;simp only[zaa,zad]at h;obtain⟨rfl,rfl⟩:=h;obtain⟨b,d,cl,rfl,Q,hb,p,u⟩:=MV R X A;simp only[RV]at hi;subst hi;have y:∀D,(Instr.checkKey D 10000 kt (.int o n)).run P w=.ok () w:=λD=>wL hk D 9999;have a0:(#[Value.map (some b),Value.int o n]:Array Value)[0]?=some (.map (some b)):=rfl;have T:(#[Value.map (some b),Value.int o n]:Array Value)[1]?=some (.int o n):=rfl;cases E:ql q n with
 |none=>
  have m:=nZ (P:=P) (w:=w) hk (qZ q d.toList 0 p E);have g:=MP (es':=zV q n) (ad4:=d) (cl':=cl) R Q A hb (by rw[J4 q E];exact p) u;refine⟨.tuple #[],ρ,_,?_,g.1,by simp only[RV];exact⟨_,rfl,jE⟩,g.2⟩;simp only[Builtin.delete_,L,a0,T,Sem.run_bind,run_underlying M,Result.andThen_ok,nX hb,y,m,xW hb,Sem.run_pure]
 |some z=>
  obtain⟨j,en,W,p2,p3,p4,_,p6⟩:=ru q d.toList 0 p E;rw[za7]at W;have m:=nZ (P:=P) (w:=w) hk W;have g:=MP (es':=zV q n) (ad4:=d.eraseIdxIfInBounds j) (cl':=cl) R Q A hb (by
   have:(d.eraseIdxIfInBounds j).toList=d.toList.eraseIdx j:=O
   rw[this];exact p6) (by
   have:(d.eraseIdxIfInBounds j).toList=d.toList.eraseIdx j:=O
   rw[this];exact u.erase)
  refine⟨.tuple #[],ρ,_,?_,g.1,by simp only[RV];exact⟨_,rfl,jE⟩,g.2⟩;simp only[Builtin.delete_,L,a0,T,Sem.run_bind,run_underlying M,Result.andThen_ok,nX hb,y,m,xW hb,Sem.run_pure]
def Yf(R:Rel ρ H w){t:TypeId}(h:xR P t H=some (v,H')):Ok P ρ H w (Instr.makeMap t none) v H':=by
 unfold xR at h;split at h <;> first|(cases h;done)|skip
 rename_i k e hm;simp only[zaa,zad]at h;obtain⟨rfl,rfl⟩:=h;have E:=MN R (o:=.map k []) (co:=.map #[] 0);refine⟨.map (some w.heap.size),_,_,by simp[Instr.makeMap],ZL R ⟨#[],0,kC w _,rfl,by simp[RVm],by simp[Born]⟩,?_,E⟩;simp only[RV];exact⟨_,rfl,λ_=>by simp[updρ]⟩
def aml(R:Rel ρ H w){t ty:TypeId}{x:AV}{n:Value}(i:RV ρ H.gen w x n)(h:asb P t x H=some (v,H')):H'=H/\OkP P ρ H.gen w (Builtin.len_ #[t] ty #[n]) v:=by
 have a0:(#[t]:Array TypeId)[0]?=some t:=rfl;have A:(#[n]:Array Value)[0]?=some n:=rfl;obtain⟨u,C⟩:=uS h
 clear h
 subst C;have h:=u
 clear u
 refine⟨rfl,?_⟩;unfold asa at h;cases g:P.underlying t with
 |none=>simp[g]at h
 |some d=>
  cases d with
  |slice e=>
   simp only[g]at h;split at h <;> first|(cases h;done)|skip
   all_goals
    simp only[zaa]at h;subst h;simp only[RV]at i
   ·obtain⟨_,_,_,rfl,_⟩:=i;exact⟨_,by simp[Builtin.len_,run_underlying g];rfl,by simp only[RV,goInt]⟩
   ·obtain⟨_,_,_,rfl,_⟩:=i;exact⟨_,by simp[Builtin.len_,run_underlying g];rfl,by simp only[RV,goInt]⟩
   ·subst i;exact⟨_,by simp[Builtin.len_,run_underlying g];rfl,by simp only[RV,goInt]⟩
  |string=>
   simp only[g]at h;split at h <;> first|(cases h;done)|skip
   simp only[zaa]at h;subst h;simp only[RV]at i;subst i;exact⟨_,by simp[Builtin.len_,run_underlying g];rfl,by simp only[RV,goInt]⟩
  |map L e=>
   simp only[g]at h;split at h <;> first|(cases h;done)|skip
   ·split at h <;> first|(cases h;done)|skip
    rename_i k j y;simp only[bQ,zaj,zaa]at y;simp only[zaa]at h;subst h;obtain⟨b,o,cl,rfl,M,hb,q,D⟩:=MV R i y;have E:o.size=j.length:=by
     have:∀(j:List (Int × AV)) (l:List MapEntry),RVm ρ H'.gen w k j l->l.length=j.length:=by
      intro j
      induction j with
      |nil=>intro l h;simp only[RVm]at h;subst h;rfl
      |cons p j F=>
       intro l h;obtain⟨m,z⟩:=p;obtain⟨e,G,rfl,_,_,K⟩:=(by simpa only[RVm]using h)
       simp[F G K]
     rw[<-this j _ q,bM]
    refine⟨.int .i64 j.length,?_,by simp only[RV]⟩;simp only[Builtin.len_,a0,A,Sem.run_bind,run_underlying g,Result.andThen_ok,nX hb,Sem.run_pure,goInt,E]
   ·simp only[zaa]at h;subst h;simp only[RV]at i;subst i;exact⟨.int .i64 0,by simp[Builtin.len_,run_underlying g,goInt],by simp only[RV]⟩
  |_=>simp[g]at h
def amm {t ty:TypeId}{x:AV}{i:Value}(g:RV ρ G w x i)(h:agF P t x=some v):OkP P ρ G w (Builtin.cap_ #[t] ty #[i]) v:=by
 unfold agF at h;cases b:P.underlying t with
 |none=>simp[b]at h
 |some d=>
  cases d with
  |slice e=>
   simp only[b]at h;split at h <;> first|(cases h;done)|skip
   all_goals
    simp only[zaa]at h;subst h;simp only[RV]at g
   ·obtain⟨_,_,c,rfl,_,_,j,_⟩:=g;rw[j trivial];exact⟨_,by simp[Builtin.cap_,run_underlying b];rfl,by simp only[RV,goInt]⟩
   ·subst g;exact⟨_,by simp[Builtin.cap_,run_underlying b];rfl,by simp only[RV,goInt]⟩
  |_=>simp[b]at h
def Qa {d:Bool}{b:Array TypeId}{ty:TypeId}{xs:List AV}{cs:Array Value}(g:RVs ρ G w xs cs.toList)(h:kF P d b ty xs=some v):
  OkP P ρ G w (if d then Builtin.max_ b ty cs else Builtin.min_ b ty cs) v:=by
 unfold kF at h;cases hv:vals? xs with
 |none=>simp[hv]at h
 |some vs=>
  simp only[hv]at h;have i:=MR xs _ vs g hv;have:cs=vs.toArray:=by rw[<-i]
  rw[this];cases e:je P (if d=true then Builtin.max_ b ty vs.toArray else Builtin.min_ b ty vs.toArray)with
  |none=>simp[e]at h
  |some u=>simp[e]at h;subst h;exact⟨u,mg e w,by simp only[RV]⟩
end
def Ext.drew(ρ:Ren)(H:ah)(w:World):Ext ρ H w ρ H w.drew where
 next:=zac _
 mono:=λ_=>zac _
 same:=λ_ _ h _=>h
 kept:=λ_ _ h=>h
 range:=λ_ _ b h=>.inr ⟨b,h⟩
 size:=zac _
 frame:=λ_ _ _=>rfl
 shape:=λ_ _=>rfl
 os:=rfl
 tape:=rfl
 output:=rfl
def Rel.drew {ρ:Ren}{H:ah}{w:World}(R:Rel ρ H w):Rel ρ H w.drew where
 out:=R.out
 obj:=λr b d h=>yR.mono (Ext.drew ρ H w).toMono rfl (R.obj r b d h)
 inj:=R.inj
 gl:=R.gl.ext (Ext.drew ρ H w)
def MW {ρ:Ren}{H:ah}{w:World}{r:Nat}{y:Nat × Nat}(d:ρ r=some y){co:Obj}{o:gB}(g:H.gen r<o.gen):Ext ρ H w (updρ ρ r (w.heap.size,0)) (H.put r o) (w.alloc co) where
 next:=zac _
 mono:=λx=>by rw[uQ];split <;> simp_all;omega
 same:=λx y d h=>by
  rw[uQ]at h;unfold updρ
  split
  ·rename_i e;subst e;simp at h;omega
  ·exact d
 kept:=λx _ h=>by
  unfold updρ
  split
  ·rename_i e;subst e;rw[d]at h;cases h
  ·exact h
 range:=λx i s h=>by
  unfold updρ at h;split at h
  ·cases h;exact .inl (zac _)
  ·exact .inr ⟨_,h⟩
 size:=O
 frame:=λb hb _=>by simp only[World.alloc,zbh,if_neg (zbZ hb)]
 shape:=λb hb=>by
  rw[fE,fE];simp only[World.alloc,zbh,if_neg (zbZ hb)]
 os:=rfl
 tape:=rfl
 output:=rfl
def aej {ρ:Ren}{H:ah}{w:World}(R:Rel ρ H w){r:Nat}(hr:r<H.next){y:Nat × Nat}(hy:ρ r=some y){co:Obj}{o:gB}(hg:H.gen r<o.gen)
  (ho:yR (updρ ρ r (w.heap.size,0)) (H.put r o).gen (w.alloc co) o w.heap.size 0):Rel (updρ ρ r (w.heap.size,0)) (H.put r o) (w.alloc co) where
 out:=λx hx=>by
  have hx':H.next<=x:=hx
  have hne:x≠r:=V
  rw[uQ,if_neg hne];unfold updρ;rw[if_neg hne];exact R.out x hx'
 obj:=λx b' s h=>by
  unfold updρ at h;by_cases e:x=r
  ·subst e;simp at h;obtain⟨rfl,rfl⟩:=h
   simpa [ah.put]using ho
  ·rw[if_neg e]at h;have:(H.put r o).get x=H.get x:=by simp[ah.put,e]
   rw[this];have hb:=R.block h;exact yR.mono (MW (ρ:=ρ) (w:=w) (co:=co) hy hg).toMono (by simp only[World.alloc,zbh,if_neg (zbZ hb)]) (R.obj x b' s h)
 inj:=λx y b' s s' h h'=>by
  unfold updρ at h h';split at h <;> split at h'
  ·simp_all
  ·cases h;have:=R.block h';omega
  ·cases h';have:=R.block h;omega
  ·exact R.inj _ _ _ _ _ h h'
 gl:=R.gl.ext (MW (ρ:=ρ) (w:=w) (co:=co) hy hg)
def aek {ρ:Ren}{H:ah}{w:World}(R:Rel ρ H w){r g':Nat}(hr:r<H.next){y:Nat × Nat}(hy:ρ r=some y)(hg:H.gen r<g'){ty e:TypeId}{cells:List AV}{cs:Array Value}(hl:cells.length<=cs.size)
  (hc:∀(i:Nat) (x:AV),cells[i]?=some x->∃v,cs[i]?=some v/\RV ρ H.gen w x v) (hX:Xct ty e 0 cs.size cells.length):
  Rel (updρ ρ r (w.heap.size,0)) (H.put r (.blk g' ty cells)) (w.alloc (.cells cs e))/\Ext ρ H w (updρ ρ r (w.heap.size,0)) (H.put r (.blk g' ty cells)) (w.alloc (.cells cs e)):=by
 have E:=MW (ρ:=ρ) (H:=H) (w:=w) (r:=r) (o:=.blk g' ty cells) (co:=.cells cs e) hy hg;refine⟨aej R hr hy hg ⟨cs,e,kC w _,V,?_,hX⟩,E⟩;refine qY (kC w _) λi x hx=>?_;obtain⟨v,hv,h1⟩:=hc i x hx;exact⟨v,by simpa using hv,R.keep E h1⟩
section
variable {P:Program}{ρ:Ren}{H H':ah}{w:World}{v:AV}
def jM(R:Rel ρ H w){y:AV}{cy:Value}{n m:Nat}{new:List AV}(j:RV ρ H.gen w y cy)(d:kK y=some n)(hc:cZ H y=some new)(D:new.length=n*m):
  (Builtin.lenOf cy).run P w=.ok n w/\∃arr:Array Value,(Builtin.firstCells m n cy).run P w=.ok arr w/\RVs ρ H.gen w new arr.toList:=by
 unfold kK at d;split at d <;> first|(cases d;done)|skip
 ·simp only[zaa]at d;subst d;rename_i r g off q len L ex;simp only[RV]at j;obtain⟨b,o,c,rfl,M,Q,T,W,u⟩:=j;simp only[cZ]at hc;split at hc <;> first|(cases hc;done)|skip
  rename_i g' ty cells E;split at hc <;> first|(cases hc;done)|skip
  rename_i p;obtain⟨rfl,X⟩:=p;simp only[zaa]at hc;subst hc;obtain⟨F,e,k,hr,v,aa,G⟩:=u (by simp[ah.gen,E,gB.gen]);have K:=R.obj r b F hr;simp only[yR,E]at K;obtain⟨cs,e',hb,hz,z,_⟩:=K;refine⟨by simp[Builtin.lenOf],?_⟩;by_cases h0:len=0
  ·subst h0;refine⟨#[],?_,by simp[RVs]⟩;simp[Builtin.firstCells,loadCells,loadCellsFrom]
  ·have A:=v V;have i:RVc ρ H.gen w ((cells.drop off).take (len*q)) b (F+off):=uO _ (qX _ z);obtain⟨l,h,C⟩:=mY (P:=P) i;rw[D]at h;exact⟨l.toArray,by simp only[Builtin.firstCells,A];exact h,by simpa using C⟩
 ·simp only[zaa]at d;subst d;simp only[RV]at j;obtain⟨b,o,c,rfl,M,Q,T,W,u⟩:=j;simp only[cZ,zaa]at hc;subst hc;refine⟨by simp[Builtin.lenOf],?_⟩;obtain⟨l,h,C⟩:=mY (P:=P) u;rw[D]at h;exact⟨l.toArray,by simp only[Builtin.firstCells];exact h,by simpa using C⟩
 ·simp only[zaa]at d;subst d;simp only[RV]at j;subst j;simp only[cZ,zaa]at hc;subst hc;exact⟨by simp[Builtin.lenOf],#[],by simp[Builtin.firstCells],by simp[RVs]⟩
 ·simp only[zaa]at d;subst d;simp only[RV]at j;subst j;simp only[cZ,zaa]at hc;subst hc;rename_i s;refine⟨by simp[Builtin.lenOf],(s.data.map λb=>.int .u8 b.toNat),?_,?_⟩
  ·have:s.extract 0 s.size=s:=by
    apply ByteArray.ext
    simp
   simp[Builtin.firstCells,this]
  ·have:(s.data.map λb=>Value.int .u8 b.toNat).toList=s.data.toList.map λb=>.int .u8 b.toNat:=O
   rw[this];have h2:(s.data.toList.map λb=>AV.s (.int .u8 b.toNat))=(s.data.toList.map λb=>Value.int .u8 b.toNat).map .s:=O
   rw[h2];exact iw _
def sG(elem:TypeId)(size:Nat)(zeros:Bool)(n:Nat)(appended:Sem (Array Value))(base:Option Addr)(sLen sCap:Nat)(s x:Value):Sem Value:=do
 let need:=sLen+n
 if need<=sCap then
  let new<-appended
  if let some a:=base then storeCells (a.add (sLen*size)) new.toList
  pure (.slice base need sCap)
 else
  if(need:Int) > IntKind.i64.max∧(zeros∨(←typeInfo elem).bytes=0)then runtimePanic (.error "growslice: len out of range")
  if Builtin.nextslicecap need sCap*(←typeInfo elem).bytes > 2 ^ 48 then(if zeros then runtimePanic (.error "growslice: len out of range")else do
   if !(<-Builtin.mayShare size sLen n base x)then mark .noRoom
   unsupported (.resourceLimit "append: a slice or a string whose bytes no memory bears"))
  let newCap<-choose (.appendCap need sCap elem)
  askRoom (newCap*(<-typeInfo elem).bytes)
  let old<-Builtin.firstCells size sLen s;let new<-appended;let rest:=Builtin.zeroCells (<-zeroValue elem).cells (newCap-need)
  pure (.slice (some (<-newRow elem (old++new++rest))) need newCap)
def agI {α:Type}(a b:α):(if false=true then a else b)=b:=rfl
def amn {α:Type}(a b:α):(if true=true then a else b)=a:=rfl
def GL {t u ty e:TypeId}{d:TypeDesc}{m n sLen sCap:Nat}{base:Option Addr}{cy:Value}(hu:P.underlying t=some (.slice e))(hs:szT P e=some m)(hd:P.underlying u=some d)(hnd:∀k,d≠.int k)
  (hl:(Builtin.lenOf cy).run P w=.ok n w):
  (Builtin.append_ #[t,u] ty #[.slice base sLen sCap,cy]).run P w=(sG e m false n (Builtin.firstCells m n cy) base sLen sCap (.slice base sLen sCap) cy).run P w:=by
 have a0:(#[t,u]:Array TypeId)[0]?=some t:=rfl;have a1:(#[t,u]:Array TypeId)[1]?=some u:=rfl;have a2:(#[Value.slice base sLen sCap,cy]:Array Value)[0]?=some (.slice base sLen sCap):=rfl;have a3:(#[Value.slice base sLen sCap,cy]:Array Value)[1]?=some cy:=rfl;cases d
 case int k=>exact absurd rfl (hnd k)
 all_goals
  simp only[Builtin.append_,a0,a1,a2,a3,Sem.run_bind,run_underlying hu,Result.andThen_ok,fB hs,run_underlying hd,Sem.run_pure,agI,hl];rfl
def Ez {t u ty e:TypeId}{k:IntKind}{m by_ sLen sCap:Nat}{base:Option Addr}{k':IntKind}{n:Int}(hu:P.underlying t=some (.slice e))(hs:szT P e=some m)(hb:yS P e=some by_)(hd:P.underlying u=some (.int k))
  (h0:0<=n) (h1:n<=most) (h2:n*by_<=most):
  (Builtin.append_ #[t,u] ty #[.slice base sLen sCap,.int k' n]).run P w=
   (sG e m true n.toNat (if n.toNat*m=0 then pure #[]else do pure (Builtin.zeroCells (<-zeroValue e).cells n.toNat)) base sLen sCap (.slice base sLen sCap) (.int k' n)).run P w:=by
 have a0:(#[t,u]:Array TypeId)[0]?=some t:=rfl;have a1:(#[t,u]:Array TypeId)[1]?=some u:=rfl;have a2:(#[Value.slice base sLen sCap,.int k' n]:Array Value)[0]?=some (.slice base sLen sCap):=rfl;have a3:(#[Value.slice base sLen sCap,.int k' n]:Array Value)[1]?=some (.int k' n):=rfl;have hw:IntKind.i64.wrap n=n:=by rw[IntKind.wrap_i64];unfold most at h1;omega
 have ajM:∃i,P.info? e=some i/\i.bytes=by_:=by
  unfold yS at hb;cases hi:P.info? e with
  |none=>simp[hi]at hb
  |some i=>simp[hi]at hb;exact⟨i,rfl,hb⟩
 obtain⟨i,hi,rfl⟩:=ajM;have hn:¬n<0:=V
 have hnb:¬n*(i.bytes:Int) > 2 ^ 48:=by unfold most at h2;omega
 simp only[-eq_self,Builtin.append_,a0,a1,a2,a3,Sem.run_bind,run_underlying hu,Result.andThen_ok,fB hs,run_underlying hd,Sem.run_pure,amn,asInt,asIntOf,hw,hn,if_false,EI hi,hnb];rfl
end
section
variable {P:Program}{ρ:Ren}{H H':ah}{w:World}{v:AV}
def ZT {e:TypeId}{b:Nat}(h:yS P e=some b):∃i,P.info? e=some i/\i.bytes=b:=by
 unfold yS at h;cases hi:P.info? e with
 |none=>simp[hi]at h
 |some i=>simp[hi]at h;exact⟨i,rfl,h⟩
def VI {e:TypeId}{m n by_ sLen sCap:Nat}{zeros:Bool}{appended:Sem (Array Value)}{base:Option Addr}{s x zv:Value}{old arr:Array Value}(hb:yS P e=some by_)(o:zU P e=some zv)
  (k:¬sLen+n<=sCap) (d:sLen+n<=most) (b:(sLen+n)*by_<=most) (g:(Builtin.firstCells m sLen s).run P w.drew=.ok old w.drew) (j:appended.run P w.drew=.ok arr w.drew):
  ∃c,sLen+n<=c/\(sG e m zeros n appended base sLen sCap s x).run P w=
   .ok (.slice (some ⟨w.heap.size,0,none⟩) (sLen+n) c) (w.drew.alloc (.cells (old++arr++Builtin.zeroCells zv.cells (c-(sLen+n))) e)):=by
 obtain⟨i,hi,rfl⟩:=ZT hb;unfold most at d b;have p:¬(((sLen+n:Nat):Int) > IntKind.i64.max/\((zeros:Prop)∨i.bytes=0)):=by
  rintro⟨h,_⟩;rw[IntKind.max_i64]at h;omega
 have q:¬Builtin.nextslicecap (sLen+n) sCap*i.bytes > 2 ^ 48:=by
  have:=growslice_fits (need:=sLen+n) (old:=sCap) (bytes:=i.bytes) V b;omega
 have u:(Question.appendCap (sLen+n) sCap e).forced=false:=rfl;refine⟨(Question.appendCap (sLen+n) sCap e).cut (w.tape w.drawn (Question.appendCap (sLen+n) sCap e)),by simp[Question.cut],?_⟩;simp only[sG,if_neg k,Sem.run_bind,EI hi,Result.andThen_ok,if_neg p,if_neg q,Sem.run_pure,run_choose,u,agI,run_askRoom,World.drew_eq,g,j,gU o,newRow,run_newObj,World.alloc_eq];rfl
def EK(R:Rel ρ H w){r g off h len cap:Nat}{ex:Bool}{ty:TypeId}{cells:List AV}{m:Value}(n:RV ρ H.gen w (.sl r g off h len cap ex) m)(p:H.get r=.blk g ty cells):
  ∃b o c sh cs e,m=.slice (some ⟨b,o,none⟩) len c/\len<=cap/\cap<=c/\(ex=true->c=cap)/\ρ r=some (b,sh)/\(0<c->o=sh+off)/\w.heap[b]?=some (.cells cs e (0,0))/\o+c*h<=cs.size/\
   sh+cells.length<=cs.size/\RVc ρ H.gen w cells b sh:=by
 simp only[RV]at n;obtain⟨b,o,c,rfl,y,z,A,F,C⟩:=n;obtain⟨sh,D,k,q,i,d,u⟩:=C (by simp[ah.gen,p,gB.gen]);have v:=R.obj r b sh q;simp only[yR,p]at v;obtain⟨cs,e,hb,E,j,_⟩:=v;have:cs.size=k:=by
  rw[fE,hb]at d;simp[DK]at d;exact d.2
 exact⟨b,o,c,sh,cs,e,rfl,y,z,A,q,i,hb,V,E,j⟩
def yT(R:Rel ρ H w){e:TypeId}{m n by_:Nat}{zeros:Bool}{appended:Sem (Array Value)}{x:AV}{cx cy zv:Value}{new:List AV}(hs:szT P e=some m)(hb:yS P e=some by_)(hz:zU P e=some zv)(af:zv.cells.size=m)
  (hx:RV ρ H.gen w x cx) (z:∀w',w'=w∨w'=w.drew->∃arr:Array Value,appended.run P w'=.ok arr w'/\RVs ρ H.gen w' new arr.toList)
  (h:dW e m by_ x n new H=some (v,H')):
  ∃base sLen sCap,cx=.slice base sLen sCap/\Ok P ρ H w (sG e m zeros n appended base sLen sCap cx cy) v H':=by
 unfold dW at h;split at h <;> first|(cases h;done)|skip
 rename_i ag;obtain⟨j,L⟩:=ag;split at h
 ·-- nil
  simp only[RV]at hx;subst hx;refine⟨none,0,0,rfl,?_⟩;by_cases h0:n=0
  ·subst h0;simp only[if_true,zaa,zad]at h;obtain⟨rfl,rfl⟩:=h;obtain⟨arr,ha,_⟩:=z w (.inl rfl);refine OkP.ok ⟨.slice none 0 0,?_,by simp only[RV]⟩ R;simp[sG,ha]
  ·rw[if_neg h0]at h;split at h <;> first|(cases h;done)|skip
   rename_i F;simp only[zaa,zad]at h;obtain⟨rfl,rfl⟩:=h;obtain⟨arr,ha,Q⟩:=z w.drew (.inr rfl);obtain⟨c,hc,q⟩:=VI (P:=P) (w:=w) (e:=e) (m:=m) (n:=n) (by_:=by_) (sLen:=0) (sCap:=0) (zeros:=zeros) (appended:=appended) (base:=none) (s:=.slice none 0 0) (x:=cy) (zv:=zv) (old:=#[]) (arr:=arr) hb hz (by omega) (by omega) (by simpa using F.2) (by simp[Builtin.firstCells]) ha;have p:=dN Q;rw[bM,j]at p;obtain⟨ρ',q1,q2,q3⟩:=uT (ty:=e+gV) (hX:=Xct.grown) (e:=e) (cells:=new) (cs:=#[]++arr++Builtin.zeroCells zv.cells (c-(0+n))) (m:=m) (len:=n) (cap:=n) (c:=c) (ex:=false) R.drew
    (by
     have:(#[]++arr++Builtin.zeroCells zv.cells (c-(0+n))).toList.take new.length=arr.toList:=by
      rw[j,<-p];simp
     rw[this];exact Q) (by rw[j];simp[p]) (zac _) (by omega) (by simp) (by
     have h3:(Builtin.zeroCells zv.cells (c-(0+n))).size=(c-n)*m:=by simp[Builtin.zeroCells,af]
     rw[zdk,h3];simp only[zdk,zci,zan,p];rw[za7,<-zbF];have:n+(c-n)=c:=by omega
     rw[this];exact zac _)
   refine⟨_,ρ',_,q,q1,?_,(Ext.drew ρ H w).trans q3⟩
   simpa using q2
 ·rename_i r g off d len cap ex;split at h <;> first|(cases h;done)|skip
  rename_i g' ty cells ho;split at h <;> first|(cases h;done)|skip
  rename_i F;obtain⟨rfl,rfl,ax⟩:=F;have az:=EK R hx ho;obtain⟨b,o,c,T,cs,e',aD,q1,q2,q3,Q,ai,y,al,aE,am⟩:=az;subst aD;refine⟨some ⟨b,o,none⟩,len,c,rfl,?_⟩;have a3:H.gen r=g':=by simp[ah.gen,ho,gB.gen]
  have W:∀w',(w'=w∨w'=w.drew)->∃arr:Array Value,(Builtin.firstCells d len (.slice (some ⟨b,o,none⟩) len c)).run P w'=.ok arr w'/\RVs ρ H.gen w' ((cells.drop off).take (len*d)) arr.toList:=by
   intro w' ao;have R':Rel ρ H w':=by
    rcases ao with rfl|rfl
    ·exact R
    ·exact R.drew
   have aL:RV ρ H.gen w' (.sl r g' off d len cap ex) (.slice (some ⟨b,o,none⟩) len c):=by
    rcases ao with rfl|rfl
    ·exact hx
    ·exact R.keep (Ext.drew ρ H w) hx
   exact(jM (P:=P) (m:=d) R' aL rfl (by simp[cZ,ho,ax]) (by simp;omega)).2
  by_cases h0:n=0
  ·subst h0;simp only[if_true,zaa,zad]at h;obtain⟨rfl,rfl⟩:=h;obtain⟨arr,ha,k⟩:=z w (.inl rfl);have ap:arr.toList=[]:=by
    have:=dN k;rw[j]at this
    simpa using this
   refine OkP.ok ⟨.slice (some ⟨b,o,none⟩) len c,?_,hx⟩ R;simp[sG,ha,ap,storeCells,show len<=c by omega]
  ·rw[if_neg h0]at h;by_cases X:len+n<=cap
   ·rw[if_pos X]at h;split at h <;> first|(cases h;done)|skip
    rename_i aq;simp only[zaa,zad]at h;obtain⟨rfl,rfl⟩:=h;obtain⟨arr,ha,k⟩:=z w (.inl rfl);have p:=dN k;rw[j]at p;have G:o=T+off:=ai (by omega);have ab:(len+n)*d=len*d+n*d:=zbF _ _ _;have M:=kD (P:=P) (o:=o+len*d) arr.toList w cs 0 y (by
     rw[p];have:(len+n)*d<=c*d:=zaF _ (by omega);omega) (qw L k)
    have kX:Xct ty e' T cs.size cells.length:=by
     have tV:=R.obj r b T Q;simp only[yR,ho]at tV;obtain⟨aM,e2,k1,_,_,k4⟩:=tV;rw[y]at k1;cases k1;exact k4
    have C:=Gy (hX:=by rw[fA,ji _ _ _ (by rw[j];omega)];exact kX) (ty':=ty) (cells':=aN cells (off+len*d) new) (cs':=lF cs (o+len*d) arr.toList) (g':=g') (sh':=T) R Q y (fA _ _ _) (by omega) (λ_=>rfl)
     (by rw[ji _ _ _ (by rw[j];omega)];exact aE) (by
      intro i u K;rw[wJ _ _ _ (by rw[j];omega)]at K;rw[lZ _ _ _ _ (by rw[p];omega),p];by_cases hi:off+len*d<=i/\i<off+len*d+new.length
      ·rw[if_pos hi]at K;rw[j]at hi;rw[if_pos (by omega),show T+i-(o+len*d)=i-(off+len*d)from by omega];exact jL k K
      ·rw[if_neg hi]at K;rw[j]at hi;rw[if_neg (by omega)];exact wI y am K)
    refine⟨.slice (some ⟨b,o,none⟩) (len+n) c,_,_,?_,C.1,?_,C.2⟩
    ·simp only[sG,if_pos (show len+n<=c by omega),Sem.run_bind,ha,Result.andThen_ok,jU];simp only[zbL]at M;simp[M]
    ·simp only[RV];refine⟨b,o,c,rfl,X,q2,q3,?_,λ_=>⟨T,e',cs.size,by simp[updρ],λ_=>G,?_,al⟩⟩
     ·rw[uQ];simp[gB.gen]
     ·rw[fE,lY (nV y)];simp[DK,fA]
   ·rw[if_neg X]at h;split at h <;> first|(cases h;done)|skip
    rename_i aq;obtain⟨aR,a0⟩:=aq;have ab:(len+n)*d=len*d+n*d:=zbF _ _ _;have D:((cells.drop off).take (len*d)).length=len*d:=by simp;omega
    -- the way that makes a new row
    have ad:¬len+n<=c->∃c' old arr,len+n<=c'/\(sG e d zeros n appended (some ⟨b,o,none⟩) len c (.slice (some ⟨b,o,none⟩) len c) cy).run P w=
      .ok (.slice (some ⟨w.heap.size,0,none⟩) (len+n) c') (w.drew.alloc (.cells (old++arr++Builtin.zeroCells zv.cells (c'-(len+n))) e))/\RVs ρ H.gen w.drew ((cells.drop off).take (len*d)) old.toList/\RVs ρ H.gen w.drew new arr.toList:=by
     intro a1;obtain⟨old,ar,E⟩:=W w.drew (.inr rfl);obtain⟨arr,ha,k⟩:=z w.drew (.inr rfl);obtain⟨c',A,q⟩:=VI (P:=P) (w:=w) (e:=e) (m:=d) (n:=n) (by_:=by_) (sLen:=len) (sCap:=c) (zeros:=zeros) (appended:=appended) (base:=some ⟨b,o,none⟩) (s:=.slice (some ⟨b,o,none⟩) len c) (x:=cy) (zv:=zv) (old:=old) (arr:=arr) hb hz a1 aR a0 ar ha;exact⟨c',old,arr,A,q,E,k⟩
    have whole:∀(c':Nat) (old arr:Array Value),len+n<=c'->RVs ρ H.gen w.drew ((cells.drop off).take (len*d)) old.toList->RVs ρ H.gen w.drew new arr.toList->
      RVs ρ H.gen w.drew ((cells.drop off).take (len*d)++new) ((old++arr++Builtin.zeroCells zv.cells (c'-(len+n))).toList.take ((cells.drop off).take (len*d)++new).length)/\
      ((cells.drop off).take (len*d)++new).length<=(old++arr++Builtin.zeroCells zv.cells (c'-(len+n))).size/\c'*d<=(old++arr++Builtin.zeroCells zv.cells (c'-(len+n))).size:=by
     intro c' old arr A E k;have l1:=dN E;have l2:=dN k;rw[D]at l1;rw[j]at l2;have h3:(Builtin.zeroCells zv.cells (c'-(len+n))).size=(c'-(len+n))*d:=by simp[Builtin.zeroCells,af]
     have hsz:(old++arr++Builtin.zeroCells zv.cells (c'-(len+n))).size=c'*d:=by
      rw[zdk,zdk,h3,<-bM old,<-bM arr,l1,l2,<-zbF,<-zbF]
      congr 1;omega
     refine⟨?_,?_,by rw[hsz];exact zac _⟩
     ·have:(old++arr++Builtin.zeroCells zv.cells (c'-(len+n))).toList.take ((cells.drop off).take (len*d)++new).length=old.toList++arr.toList:=by
       have a2:((cells.drop off).take (len*d)++new).length=(old.toList++arr.toList).length:=by
        rw[zar,zar,l1,l2,D,j]
       rw[a2,zcn,zcn,List.take_left]
      rw[this];exact qg E k
     ·rw[hsz,zar,D,j,<-ab];exact zaF _ A
    by_cases ae:ex=true
    ·rw[if_pos ae]at h;simp only[zaa,zad]at h;obtain⟨rfl,rfl⟩:=h;obtain⟨c',old,arr,A,q,E,k⟩:=ad (by rw[q3 ae];exact X);obtain⟨w1,w2,w3⟩:=whole c' old arr A E k;obtain⟨ρ',p1,p2,p3⟩:=uT (ty:=e+gV) (hX:=Xct.grown) (e:=e) (m:=d) (len:=len+n) (cap:=len+n) (c:=c') (ex:=false) R.drew w1 w2 (zac _) A (by simp) w3;refine⟨_,ρ',_,q,p1,?_,(Ext.drew ρ H w).trans p3⟩
     simpa using p2
    ·rw[if_neg ae]at h;split at h <;> first|(cases h;done)|skip
     simp only[zaa,zad]at h;obtain⟨rfl,rfl⟩:=h;by_cases hc:len+n<=c
     ·-- in place
      obtain⟨arr,ha,k⟩:=z w (.inl rfl);have p:=dN k;rw[j]at p;have G:o=T+off:=ai (by omega);have a4:(len+n)*d<=c*d:=zaF _ hc;have M:=kD (P:=P) (o:=o+len*d) arr.toList w cs 0 y (by rw[p];omega) (qw L k);have kX:Xct ty e' T cs.size cells.length:=by
       have tV:=R.obj r b T Q;simp only[yR,ho]at tV;obtain⟨aM,e2,k1,_,_,k4⟩:=tV;rw[y]at k1;cases k1;exact k4
      have C:=Gy (hX:=by rw[G];exact ajH (uP hz) kX) (ty':=grT e ty off) (cells':=(cells.drop off).take (len*d)++new) (cs':=lF cs (o+len*d) arr.toList) (g':=g'+1) (sh':=o) R Q y (fA _ _ _) (by omega) (λhh=>by omega)
       (by rw[zar,D,j];omega) (by
        intro i u K;rw[zcD,D]at K;rw[lZ _ _ _ _ (by rw[p];omega),p];by_cases hi:i<len*d
        ·rw[if_pos hi,zaC,if_pos hi,zaH]at K;rw[if_neg (by omega),G,zck];exact wI y am K
        ·rw[if_neg hi]at K;have a5:i-len*d<n*d:=by
          rw[<-j];exact(zaf.1 K).1
         rw[if_pos (by omega),show o+i-(o+len*d)=i-len*d from by omega];exact jL k K)
      refine⟨.slice (some ⟨b,o,none⟩) (len+n) c,_,_,?_,C.1,?_,C.2⟩
      ·simp only[sG,if_pos hc,Sem.run_bind,ha,Result.andThen_ok,jU];simp only[zbL]at M;simp[M]
      ·simp only[RV];refine⟨b,o,c,rfl,zac _,hc,by simp,?_,λ_=>⟨o,e',cs.size,by simp[updρ],λ_=>rfl,?_,al⟩⟩
       ·rw[uQ];simp[gB.gen]
       ·rw[fE,lY (nV y)];simp[DK,fA]
     ·-- a new row
      obtain⟨c',old,arr,A,q,E,k⟩:=ad hc;obtain⟨w1,w2,w3⟩:=whole c' old arr A E k;have aw:=aek (hX:=ajG) (r:=r) (g':=g'+1) (ty:=grT e ty off) (e:=e) (cells:=(cells.drop off).take (len*d)++new) R.drew (R.lt Q) Q (by omega) w2 (by
       intro i u K;obtain⟨cv,aa,h1⟩:=jL w1 K;rw[zaC]at aa;split at aa
       ·exact⟨cv,by rw[<-zcX];exact aa,h1⟩
       ·cases aa)
      refine⟨_,_,_,q,aw.1,?_,(Ext.drew ρ H w).trans aw.2⟩;simp only[RV];refine⟨w.heap.size,0,c',rfl,zac _,A,by simp,?_,λ_=>⟨0,e,_,by simp[updρ],λ_=>rfl,?_,by rw[za7];exact w3⟩⟩
      ·rw[uQ];simp[gB.gen]
      ·rw[fE];have:(w.drew.alloc (.cells (old++arr++Builtin.zeroCells zv.cells (c'-(len+n))) e)).heap[w.heap.size]?=some (.cells (old++arr++Builtin.zeroCells zv.cells (c'-(len+n))) e):=kC w.drew _;rw[this];rfl
 ·cases h
end
section
variable {P:Program}{ρ:Ren}{H H':ah}{w:World}{v:AV}
def ZU(R:Rel ρ H w){t u ty:TypeId}{x y:AV}{X cy:Value}(hx:RV ρ H.gen w x X)(C:RV ρ H.gen w y cy)(h:MG P t u x y H=some (v,H')):Ok P ρ H w (Builtin.append_ #[t,u] ty #[X,cy]) v H':=by
 unfold MG at h;split at h <;> first|(cases h;done)|skip
 rename_i e d he hd;split at h <;> first|(cases h;done)|skip
 rename_i m by_ z F hb hz;split at h <;> first|(cases h;done)|skip
 rename_i j;obtain⟨zv,o,rfl⟩:=zY hz;simp at j;split at h
 ·rename_i k;split at h <;> first|(cases h;done)|skip
  rename_i k' n;split at h <;> first|(cases h;done)|skip
  rename_i p;obtain⟨h0,h1,h2⟩:=p;simp only[RV]at C;subst C;have b:∀w',w'=w∨w'=w.drew->∃g:Array Value,(if n.toNat*m=0 then pure #[]else do pure (Builtin.zeroCells (<-zeroValue e).cells n.toNat):Sem (Array Value)).run P w'=.ok g w'/\RVs ρ H.gen w' (dK (zv.cells.toList.map .s) n.toNat) g.toList:=by
   intro w' _;by_cases G:n.toNat*m=0
   ·rw[if_pos G];have:dK (zv.cells.toList.map .s) n.toNat=[]:=zaq (by rw[jl];simp[j,G]);exact⟨#[],rfl,by rw[this];exact jE⟩
   ·rw[if_neg G];exact⟨Builtin.zeroCells zv.cells n.toNat,by simp[gU o],wK zv n.toNat⟩
  obtain⟨base,D,E,rfl,q⟩:=yT (P:=P) (zeros:=true) (cy:=.int k' n) R F hb o j hx b h;obtain⟨cv,ρ',w',K,L,M,Q⟩:=q;exact⟨cv,ρ',w',by rw[Ez (oN he) F hb hd h0 h1 h2];exact K,L,M,Q⟩
 ·rename_i T;split at h <;> first|(cases h;done)|skip
  rename_i n new W i;have A:new.length=n*m:=by
   unfold dW at h;split at h
   ·rename_i hc;exact hc.1
   ·cases h
  have hl:=(jM (P:=P) R C W i A).1;have b:∀w',w'=w∨w'=w.drew->∃g:Array Value,(Builtin.firstCells m n cy).run P w'=.ok g w'/\RVs ρ H.gen w' new g.toList:=by
   rintro w' (rfl|rfl)
   ·exact(jM (P:=P) R C W i A).2
   ·exact(jM (P:=P) R.drew (R.keep (Ext.drew ρ H w) C) W i A).2
  obtain⟨base,D,E,rfl,q⟩:=yT (P:=P) (zeros:=false) (cy:=cy) R F hb o j hx b h;obtain⟨cv,ρ',w',K,L,M,Q⟩:=q;exact⟨cv,ρ',w',by rw[GL (oN he) F hd (λk hk=>T k hk) hl];exact K,L,M,Q⟩
def ajN(R:Rel ρ H w){ts:Array TypeId}{t ty:TypeId}{x y:AV}{cx cy:Value}(ht:ts[0]?=some t)(hx:RV ρ H.gen w x cx)(hy:RV ρ H.gen w y cy)(h:ad8 P t x y H=some (v,H')):Ok P ρ H w (Builtin.copy_ ts ty #[cx,cy]) v H':=by
 have a0:(#[cx,cy]:Array Value)[0]?=some cx:=rfl;have a1:(#[cx,cy]:Array Value)[1]?=some cy:=rfl;unfold ad8 at h;split at h <;> first|(cases h;done)|skip
 rename_i e he;split at h <;> first|(cases h;done)|skip
 rename_i m d n new hs hd hn hnew;simp only at h;split at h <;> first|(cases h;done)|skip
 rename_i hcond;obtain⟨hnl,hcell⟩:=hcond;obtain⟨hl,_⟩:=jM (P:=P) R hy hn hnew hnl
 -- the ael length
 have hdst:∀{base:Option Addr} {dl dc:Nat},cx=.slice base dl dc->dl=d:=by
  intro base dl dc hcx;subst hcx;unfold kK at hd;split at hd <;> first|(cases hd;done)|skip
  ·simp only[RV]at hx;obtain⟨_,_,_,h1,_⟩:=hx;cases h1;cases hd;rfl
  ·simp only[RV]at hx;obtain⟨_,_,_,h1,_⟩:=hx;cases h1;cases hd;rfl
  ·simp only[RV]at hx;cases hx;cases hd;rfl
  ·simp only[RV]at hx;cases hx
 have first:∃arr:Array Value,(Builtin.firstCells m (min n d) cy).run P w=.ok arr w/\RVs ρ H.gen w (new.take (min n d*m)) arr.toList:=by
  -- the first cells of the source
  unfold kK at hn;split at hn <;> first|(cases hn;done)|skip
  ·rename_i r g off esz len cap ex;simp only[zaa]at hn;subst hn;simp only[cZ]at hnew;split at hnew <;> first|(cases hnew;done)|skip
   rename_i g' ty' cells ho;split at hnew <;> first|(cases hnew;done)|skip
   rename_i hc2;obtain⟨rfl,hle⟩:=hc2;simp only[zaa]at hnew;subst hnew;obtain⟨b,o,c,sh,cs,e',rfl,q1,q2,q3,hr,hoo,hbk,hcs,hz',hcc⟩:=EK R hy ho;have hlen:((cells.drop off).take (len*esz)).length=len*esz:=by simp;omega
   by_cases h0:min len d*m=0
   ·refine⟨#[],?_,by rw[h0];simp[RVs]⟩;simp[Builtin.firstCells,h0,loadCells,loadCellsFrom]
   ·have hpos:0<min len d:=Nat.pos_of_ne_zero λhh=>h0 (by rw[hh,zbq]);have ho':=hoo (by omega);have hcells:RVc ρ H.gen w (((cells.drop off).take (len*esz)).take (min len d*m)) b (sh+off):=uO _ (uO _ (qX _ hcc));obtain⟨l,hl',h1⟩:=mY (P:=P) hcells;have hll:(((cells.drop off).take (len*esz)).take (min len d*m)).length=min len d*m:=by
     rw[zau,hnl];have:min len d*m<=len*m:=zaF _ (Nat.min_le_left _ _);omega
    rw[hll]at hl';exact⟨l.toArray,by simp only[Builtin.firstCells,ho'];exact hl',by simpa using h1⟩
  ·rename_i n' esz cells;simp only[zaa]at hn;subst hn;simp only[cZ,zaa]at hnew;subst hnew;simp only[RV]at hy;obtain⟨b,o,c,rfl,q1,q2,q3,q4,q5⟩:=hy;obtain⟨l,hl',h1⟩:=mY (P:=P) (uO (min n' d*m) q5);have hll:(cells.take (min n' d*m)).length=min n' d*m:=by
    rw[zau,hnl];have:min n' d*m<=n'*m:=zaF _ (Nat.min_le_left _ _);omega
   rw[hll]at hl';exact⟨l.toArray,by simp only[Builtin.firstCells];exact hl',by simpa using h1⟩
  ·simp only[RV]at hy;subst hy;simp only[cZ,zaa]at hnew;subst hnew;exact⟨#[],by simp[Builtin.firstCells],by simp[RVs]⟩
  ·rename_i s;simp only[zaa]at hn;subst hn;simp only[RV]at hy;subst hy;simp only[cZ,zaa]at hnew;subst hnew;refine⟨((s.extract 0 (min s.size d)).data.map λb=>.int .u8 b.toNat),by simp[Builtin.firstCells],?_⟩;have hm:m=1∨s.size=0:=by
    have h3:s.data.toList.length=s.size:=rfl;rw[zaz,h3]at hnl;rcases Nat.eq_zero_or_pos s.size with h|h
    ·exact .inr h
    ·left;rcases m with _|_|m
     ·rw[Nat.mul_zero]at hnl;omega
     ·rfl
     ·have:s.size*2<=s.size*(m+1+1):=Nat.mul_le_mul_left _ (by omega);omega
   have h2:((s.data.toList.map λb=>AV.s (.int .u8 b.toNat)).take (min s.size d*m))=(((s.extract 0 (min s.size d)).data.map λb=>Value.int .u8 b.toNat).toList).map .s:=by
    rcases hm with rfl|h0
    ·simp[ByteArray.data_extract,zcy];rfl
    ·have h3:s.data.toList=[]:=zaq h0;have h4:s.data=#[]:=by simpa using h3
     simp[ByteArray.data_extract,h4]
   rw[h2];exact iw _
 obtain⟨arr,ha,hra⟩:=first
 by_cases hk:min n d=0
 ·rw[if_pos hk]at h;split at h <;> first|(cases h;done)|skip
  rename_i hns;simp only[zaa,zad]at h;obtain⟨rfl,rfl⟩:=h;have harr:arr.toList=[]:=by
   have:=dN hra;rw[hk,zbq]at this
   simpa using this
  obtain⟨base,dl,dc,rfl⟩:∃base dl dc,cx=.slice base dl dc:=by
   unfold kK at hd;split at hd <;> first|(cases hd;done)|skip
   ·simp only[RV]at hx;obtain⟨_,_,_,rfl,_⟩:=hx;exact⟨_,_,_,rfl⟩
   ·simp only[RV]at hx;obtain⟨_,_,_,rfl,_⟩:=hx;exact⟨_,_,_,rfl⟩
   ·simp only[RV]at hx;subst hx;exact⟨_,_,_,rfl⟩
   ·exact(hns _ rfl).elim
  obtain rfl:=hdst rfl;refine OkP.ok ⟨.int .i64 0,?_,by simp only[RV]⟩ R;have hmin:Nat.min n dl=min n dl:=rfl;simp only[Builtin.copy_,ht,a0,a1,Sem.run_bind,run_underlying (oN he),Result.andThen_ok,hl,fB hs,hmin,ha];cases base with
  |none=>simp[goInt,hk]
  |some a=>simp[goInt,hk,harr,storeCells]
 ·rw[if_neg hk]at h;split at h <;> first|(cases h;done)|skip
  rename_i r g off esz len cap ex;split at h <;> first|(cases h;done)|skip
  rename_i g' ty' cells ho;split at h <;> first|(cases h;done)|skip
  rename_i hc2;obtain⟨rfl,rfl,hbase,hle⟩:=hc2;simp only[zaa,zad]at h;obtain⟨rfl,rfl⟩:=h;obtain⟨b,o,c,sh,cs,e',rfl,q1,q2,q3,hr,hoo,hbk,hcs,hz',hcc⟩:=EK R hx ho;obtain rfl:=hdst rfl;have hgen:H.gen r=g':=by simp[ah.gen,ho,gB.gen]
  have hoff:o=sh+off:=hoo (by omega);have hal:=dN hra;have htl:(new.take (min n len*esz)).length=min n len*esz:=by
   rw[zau,hnl];have:min n len*esz<=n*esz:=zaF _ (Nat.min_le_left _ _);omega
  rw[htl]at hal;have hml:min n len*esz<=len*esz:=zaF _ (Nat.min_le_right _ _);have hlc:len*esz<=c*esz:=zaF _ (by omega);have hcell':(new.take (min n len*esz)).all AV.aS=true:=by
   rw[za6]at hcell ⊢;intro a ha';exact hcell a (zcE ha')
  have hst:=kD (P:=P) (o:=o) arr.toList w cs 0 hbk (by rw[hal];omega) (qw hcell' hra);have kX:Xct ty' e' sh cs.size cells.length:=by
   have tV:=R.obj r b sh hr;simp only[yR,ho]at tV;obtain⟨cs2,e2,k1,_,_,k4⟩:=tV;rw[hbk]at k1;cases k1;exact k4
  have hput:=Gy (hX:=by rw[fA,ji _ _ _ (by rw[htl];omega)];exact kX) (ty':=ty') (cells':=aN cells off (new.take (min n len*esz))) (cs':=lF cs o arr.toList) (g':=g') (sh':=sh) R hr hbk (fA _ _ _) (by omega) (λ_=>rfl)
   (by rw[ji _ _ _ (by rw[htl];omega)];exact hz') (by
    intro i u hu;rw[wJ _ _ _ (by rw[htl];omega),htl]at hu;rw[lZ _ _ _ _ (by rw[hal];omega),hal];by_cases hi:off<=i/\i<off+min n len*esz
    ·rw[if_pos hi]at hu;rw[if_pos (by omega),show sh+i-o=i-off from by omega];exact jL hra hu
    ·rw[if_neg hi]at hu;rw[if_neg (by omega)];exact wI hbk hcc hu)
  refine⟨.int .i64 ((min n len:Nat):Int),_,_,?_,hput.1,by simp only[RV],hput.2⟩;have hmin:Nat.min n len=min n len:=rfl;simp only[zbL]at hst;simp only[Builtin.copy_,ht,a0,a1,Sem.run_bind,run_underlying (oN he),Result.andThen_ok,hl,fB hs,hmin,ha,hst,Sem.run_pure,goInt]
def aem(R:Rel ρ H w){t ty:TypeId}{x:AV}{M:Value}(C:RV ρ H.gen w x M)(h:VF P t x H=some (v,H')):Ok P ρ H w (Builtin.clear_ #[t] ty #[M]) v H':=by
 have a0:(#[t]:Array TypeId)[0]?=some t:=rfl;have a1:(#[M]:Array Value)[0]?=some M:=rfl;unfold VF at h;split at h <;> first|(cases h;done)|skip
 rename_i e Q;split at h <;> first|(cases h;done)|skip
 ·rename_i m z r g off d len am ex hs hz;obtain⟨zv,T,rfl⟩:=zY hz;by_cases h0:len=0
  ·subst h0;simp only[if_true,zaa,zad]at h;obtain⟨rfl,rfl⟩:=h;simp only[RV]at C;obtain⟨b,o,c,rfl,_⟩:=C;refine OkP.ok ⟨.tuple #[],?_,by simp only[RV];exact⟨_,rfl,jE⟩⟩ R;simp[Builtin.clear_,run_underlying (oN Q)]
  ·rw[if_neg h0]at h;split at h <;> first|(cases h;done)|skip
   rename_i g' ty' cells W;split at h <;> first|(cases h;done)|skip
   rename_i X;obtain⟨rfl,rfl,aa,D,A,ao⟩:=X;simp only[zaa,zad]at h;obtain⟨rfl,rfl⟩:=h;simp at D;obtain⟨b,o,c,E,cs,e',rfl,q1,q2,q3,hr,ab,j,ap,ad,ae⟩:=EK R C W;have ai:H.gen r=g':=by simp[ah.gen,W,gB.gen]
   have al:o=E+off:=ab V;have aq:len*d<=c*d:=zaF _ V;have p:=wK (ρ:=ρ) (G:=H.gen) (w:=w) zv len;have af:((Array.range (len*zv.cells.size)).map (zv.cells[· % zv.cells.size]!))=Builtin.zeroCells zv.cells len:=rfl;rw[af]at p;have F:(dK (zv.cells.toList.map .s) len).length=len*d:=by rw[jl];simp[D]
   have q:=dN p;rw[F]at q;have ag:(dK (zv.cells.toList.map .s) len).all AV.aS=true:=by
    have key:∀n,(dK (zv.cells.toList.map .s) n).all AV.aS=true:=by
     intro n
     induction n with
     |zero=>rfl
     |succ n ih=>simp only[dK,zbf,ih,A,zcz]
    exact key len
   have K:=kD (P:=P) (o:=o) (Builtin.zeroCells zv.cells len).toList w cs 0 j (by rw[q];omega) (qw ag p);have kX:Xct ty' e' E cs.size cells.length:=by
    have tV:=R.obj r b E hr;simp only[yR,W]at tV;obtain⟨ar,e2,k1,_,_,k4⟩:=tV;rw[j]at k1;cases k1;exact k4
   have y:=Gy (hX:=by rw[fA,ji _ _ _ (by rw[F];omega)];exact kX) (ty':=ty') (cells':=aN cells off (dK (zv.cells.toList.map .s) len)) (cs':=lF cs o (Builtin.zeroCells zv.cells len).toList) (g':=g') (sh':=E) R hr j (fA _ _ _) V (λ_=>rfl)
    (by rw[ji _ _ _ (by rw[F];omega)];exact ad) (by
     intro i u L;rw[wJ _ _ _ (by rw[F];omega),F]at L;rw[lZ _ _ _ _ (by rw[q];omega),q];by_cases hi:off<=i/\i<off+len*d
     ·rw[if_pos hi]at L;rw[if_pos V,show E+i-o=i-off from by omega];exact jL p L
     ·rw[if_neg hi]at L;rw[if_neg V];exact wI j ae L)
   refine⟨.tuple #[],_,_,?_,y.1,by simp only[RV];exact⟨_,rfl,jE⟩,y.2⟩;simp only[zbL]at K;obtain⟨len,rfl⟩:∃k,len=k+1:=⟨len-1,V⟩
   simp only[Builtin.clear_,a0,a1,Sem.run_bind,run_underlying (oN Q),Result.andThen_ok,gU T,K,Sem.run_pure]
 ·simp only[zaa,zad]at h;obtain⟨rfl,rfl⟩:=h;simp only[RV]at C;subst C;refine OkP.ok ⟨.tuple #[],?_,by simp only[RV];exact⟨_,rfl,jE⟩⟩ R;simp[Builtin.clear_,run_underlying (oN Q)]
end
section
variable {P:Program}{ρ:Ren}{H H':ah}{w:World}{v:AV}
def y9 {G:Nat->Nat}:∀(xs:List AV) (l:List Value) (d:List Int),RVs ρ G w xs l->oK xs=some d->l=d.map (Value.int .u8)
 |[],l,d,h,b=>by
  simp only[RVs]at h;subst h;simp only[oK,zaa]at b;subst b;rfl
 |x::xs,l,d,h,b=>by
  obtain⟨y,i,rfl,g,j⟩:=(by simpa only[RVs]using h)
  simp only[oK]at b;split at b <;> first|(cases b;done)|skip
  split at b <;> first|(cases b;done)|skip
  rename_i k e;simp only[zaa]at b;subst b;simp only[RV]at g;subst g;rw[y9 xs i k j e];rfl
def amo(R:Rel ρ H w){x:AV}{q:Value}{s:ByteArray}(e:RV ρ H.gen w x q)(h:al5 x ((bQ x).map H.get)=some s):(Conv.bytesToString q).run P w=.ok (.string s) w/\∃a l c,q=.slice a l c:=by
 unfold al5 at h;split at h <;> first|(cases h;done)|skip
 ·rename_i r g off u len v ex;split at h <;> first|(cases h;done)|skip
  rename_i y;subst y;split at h <;> first|(cases h;done)|skip
  rename_i g' G cells E;simp only[bQ,zaj,zaa]at E;split at h <;> first|(cases h;done)|skip
  rename_i i;obtain⟨rfl,z⟩:=i;cases hb:oK ((cells.drop off).take (len*1))with
  |none=>rw[hb]at h;cases h
  |some j=>
   simp only[hb,zaj,zaa]at h;subst h;have hc:cZ H (.sl r g' off 1 len v ex)=some ((cells.drop off).take (len*1)):=by simp only[cZ,E];rw[if_pos ⟨trivial,z⟩]
   have p:((cells.drop off).take (len*1)).length=len*1:=by simp;omega
   obtain⟨_,A,ha,k⟩:=jM (P:=P) (m:=1) R e rfl hc p;have d:=y9 _ _ j k hb;simp only[RV]at e;obtain⟨b,o,c,rfl,_⟩:=e;have C:(loadCells ⟨b,o,none⟩ len).run P w=.ok (j.map (Value.int .u8)).toArray w:=by
    simp only[Builtin.firstCells,zby]at ha;rw[ha,<-d]
   exact⟨run_bytesToString w ⟨b,o,none⟩ len c j C,_,_,_,rfl⟩
 ·rename_i n u cells;split at h <;> first|(cases h;done)|skip
  rename_i y;subst y;cases hb:oK cells with
  |none=>simp[hb]at h
  |some j=>
   simp only[hb,zaj,zaa]at h;subst h;have D:=e;simp only[RV]at e;obtain⟨b,o,c,rfl,K,F,_⟩:=e;obtain⟨_,A,ha,k⟩:=jM (P:=P) (m:=1) R D rfl rfl F;have d:=y9 _ _ j k hb;have C:(loadCells ⟨b,o,none⟩ n).run P w=.ok (j.map (Value.int .u8)).toArray w:=by
    simp only[Builtin.firstCells,zby]at ha;rw[ha,<-d]
   exact⟨run_bytesToString w ⟨b,o,none⟩ n c j C,_,_,_,rfl⟩
 ·simp only[zaa]at h;subst h;simp only[RV]at e;subst e;exact⟨by simp[Conv.bytesToString],_,_,_,rfl⟩
def Yg {src dst:TypeId}(h:Gs P src dst=true):∃e,P.underlying src=some (.slice e)/\P.underlying dst=some .string/\P.underlying e=some (.int .u8):=by
 unfold Gs at h;split at h <;> first|(cases h;done)|skip
 rename_i e b hd;split at h <;> first|(cases h;done)|skip
 rename_i d;exact⟨e,b,hd,d⟩
def Yh(R:Rel ρ H w){src dst:TypeId}{x:AV}{g:Value}(j:RV ρ H.gen w x g)(h:kL P src dst x H=some (v,H')):H'=H/\OkP P ρ H.gen w (convert src dst g) v:=by
 obtain⟨k,m⟩:=uS h
 clear h
 subst m;have h:=k
 clear k
 refine⟨rfl,?_⟩;unfold zW at h;split at h
 ·rename_i hb;obtain⟨e,n,hd,o⟩:=Yg hb;cases b:al5 x ((bQ x).map H'.get)with
  |none=>simp[b]at h
  |some s=>
   simp only[b,zaj,zaa]at h;subst h;obtain⟨d,a,l,c,rfl⟩:=amo (P:=P) R j b;exact⟨.string s,by rw[run_convert_bytes_string w src dst e _ _ _ n o hd];exact d,by simp only[RV]⟩
 ·split at h <;> first|(cases h;done)|skip
  rename_i u p;rw[JZ x g u j p];cases i:je P (convert src dst u)with
  |none=>simp[i]at h
  |some r=>
   simp only[i,zaj,zaa]at h;subst h;exact⟨r,mg i w,by simp only[RV]⟩
def Qb {G:Nat->Nat}{x:AV}{g:Value}(e:RV ρ G w x g)(h:ay x=some v):v=x/\(match g with
  |.pointer none|.nilIface|.nilFunc=>(runtimePanic .nilDeref:Sem Next)
  |.func (.method name) first d=>
   match(first[0]?:Option Value)with
   |some .nilIface=>runtimePanic .nilDeref
   |some (.iface t w)=>do
    if(<-nilAhead ((<-program).types.size+Made.depth) t w name) !=some false then
     unsupported (.noEntry "op/nilCheck.the method's receiver behind this interface value is a nil pointer, or cannot be seen to be none, and the arguments act or may panic (ledger 612)")
    pure (.value (.func (.method name) first d))
   |_=>pure (.value (.func (.method name) first d))
  |x=>pure (.value x)).run P w=.ok (.value g) w:=by
 unfold ay at h;split at h <;> first|(cases h;done)|skip
 all_goals
  simp only[zaa]at h;subst h;refine⟨rfl,?_⟩;simp only[RV]at e
 ·obtain⟨a,rfl,_⟩:=e;rfl
 ·obtain⟨b,o,rfl,_⟩:=e;rfl
 ·obtain⟨a,c,rfl,_⟩:=e;rfl
 ·subst e;rfl
end
def qQ(P:Program)(C:aA):Prop:=
 ∀f b H v H',C f b H=some (v,H')->∀(ρ:Ren) (w:World) (d:Array Value),Rel ρ H w->RVs ρ H.gen w b d.toList->
  Calls P f d w λe w'=>∃cv ρ',e=.returned cv/\Rel ρ' H' w'/\RV ρ' H'.gen w' v cv/\Ext ρ H w ρ' H' w'
section
variable {P:Program}{ρ:Ren}{H H':ah}{w:World}{v:AV}
def aen {o:Oper}{a:Act}{K:Act->World->Prop}{Q:Exit->Act->World->Prop}{s:Sem Value}{cv:Value}{w':World}(b:execOp a.eval o=(do pure (.value (<-s))))(d:s.run P w=.ok cv w')(hk:K (a.put o.dst cv) w'):
  o.wp P a w K Q:=by
 unfold Oper.wp;rw[b,Sem.run_bind,d];exact hk
def ajO {o:Oper}{a:Act}{K:Act->World->Prop}{Q:Exit->Act->World->Prop}{s:Sem Unit}{w':World}(b:execOp a.eval o=(do s;pure .skip))(d:s.run P w=.ok () w')(hk:K (a.put o.dst undef) w'):
  o.wp P a w K Q:=by
 unfold Oper.wp;rw[b,Sem.run_bind,d];exact hk
def ajP {o:Oper}{a:Act}{K:Act->World->Prop}{Q:Exit->Act->World->Prop}{s:Sem Next}{cv:Value}{w':World}(b:execOp a.eval o=s)(d:s.run P w=.ok (.value cv) w')(hk:K (a.put o.dst cv) w'):
  o.wp P a w K Q:=by
 unfold Oper.wp;rw[b,d];exact hk
def EL {G:Nat->Nat}:RV ρ G w aY undef:=by
 unfold aY undef;simp only[RV];exact⟨_,rfl,jE⟩
def BZ {G:Nat->Nat}{t:gG}{a:Act}:∀(xs:List Operand),(∀x∈xs,RV ρ G w (dS t x) (a.eval x))->RVs ρ G w (xs.map (dS t)) (xs.map a.eval)
 |[],_=>jE
 |x::xs,h=>jB (h x O) (BZ xs λy b=>h y (by simp[b]))
def GN {G:Nat->Nat}{t:gG}{a:Act}{x:Option Operand}(h:∀y∈x.toArray,RV ρ G w (dS t y) (a.eval y)):TB ρ G w (x.map (dS t)) (x.map a.eval):=by
 cases x with
 |none=>trivial
 |some y=>exact h y O
def Qc {f:FuncId}{args:Array Value}(h:qm P f=true):(callFunc f args).run P w=.ok (.enter f args) w:=by
 unfold qm at h;cases d:P.funcs[f]? with
 |none=>simp[d]at h
 |some fn=>
  simp only[d,zah,zbj]at h;have hb:fn.body.isNone=false:=by
   cases e:fn.body with
   |none=>simp[e]at h
   |some b=>rfl
  simp only[callFunc,Sem.run_bind,run_program,Result.andThen_ok,d,h.1,zal,if_false,hb,Sem.run_pure]
def ajQ {C:aA}(y:qQ P C){o:Oper}{c:Call}{f:Operand}(n:o.op=.call c)(z:c.callee=.value f){a:Act}{K:Act->World->Prop}{Q:Exit->Act->World->Prop}{x:AV}{args:List AV}(R:Rel ρ H w)
  (m:RV ρ H.gen w x (a.eval f)) (g:RVs ρ H.gen w args (c.args.map a.eval).toList) (h:qo P C x args H=some (v,H'))
  (A:∀cv ρ' w',Rel ρ' H' w'->RV ρ' H'.gen w' v cv->Ext ρ H w ρ' H' w'->K (a.put o.dst cv) w'):o.wp P a w K Q:=by
 have key:∀(d:FuncId) (first b:Array Value) (xs:List AV),a.eval f=.func (.func d) first b->qm P d=true->C d xs H=some (v,H')->RVs ρ H.gen w xs (first++c.args.map a.eval++b).toList->o.wp P a w K Q:=by
  intro d first b xs j i hc p
  have k:(execOp a.eval o).run P w=.ok (.enter d (first++c.args.map a.eval++b)) w:=by
   unfold execOp;rw[n];simp only[resolve,z,j,Deferred.ofValue,Sem.run_bind,Sem.run_pure,Result.andThen_ok,invoke];exact Qc i
  unfold Oper.wp;rw[k];refine(y d xs H v H' hc ρ w _ R p).mono λe w' D=>?_;obtain⟨cv,ρ',rfl,q,u,E⟩:=D;exact A cv ρ' w' q u E
 unfold qo at h;split at h <;> first|(cases h;done)|skip
 ·rename_i d first b
  split at h <;> first|(cases h;done)|skip
  rename_i i;simp only[RV]at m;obtain⟨F,ca,j,q,u⟩:=m;refine key d F ca _ j i h ?_;rw[zcn,zcn];exact qg (qg q g) u
 ·rename_i d first b
  split at h <;> first|(cases h;done)|skip
  rename_i i;simp only[RV]at m;refine key d first b _ m i h ?_
  rw[zcn,zcn];exact qg (qg (iw _) g) (iw _)
def uU {α:Type}{x:Option α}{u:α}(h:fQ x H=some (u,H')):x=some u/\H'=H:=by
 unfold fQ at h;cases x with
 |none=>cases h
 |some y=>simp only[zaj,zaa,zad]at h;exact⟨by rw[h.1],h.2.symm⟩
def Yi(R:Rel ρ H w){b:Builtin}{p:Array TypeId}{ty:TypeId}{consts:Array Bool}{args:List AV}{q:Array Value}(g:RVs ρ H.gen w args q.toList)(h:iV P b p ty args H=some (v,H')):
  ∃s:Sem Value,builtin b p ty consts q=(do pure (.value (<-s)))/\Ok P ρ H w s v H':=by
 have two:∀{x y:AV},args=[x,y]->∃i n,q=#[i,n]/\RV ρ H.gen w x i/\RV ρ H.gen w y n:=by
  intro x y o;subst o;obtain⟨i,l,e,j,m⟩:=(by simpa only[RVs]using g)
  obtain⟨n,E,A,C,D⟩:=(by simpa only[RVs]using m)
  subst A D;exact⟨i,n,zcp.1 (by simpa using e),j,C⟩
 have one:∀{x:AV},args=[x]->∃i,q=#[i]/\RV ρ H.gen w x i:=by
  intro x o;subst o;obtain⟨i,l,e,j,m⟩:=(by simpa only[RVs]using g)
  subst m;exact⟨i,zcp.1 (by simpa using e),j⟩
 have k:∀{l:List TypeId},p.toList=l->p=l.toArray:=λh=>by rw[<-h]
 unfold iV at h;split at h
 ·rename_i t u x y d;obtain⟨i,n,rfl,j,m⟩:=two rfl;rw[k d];exact⟨_,rfl,ZU R j m h⟩
 ·rename_i t x d;obtain⟨i,rfl,j⟩:=one rfl;rw[k d];obtain⟨rfl,m⟩:=aml (ty:=ty) R j h;exact⟨_,rfl,m.ok R⟩
 ·rename_i t x d;obtain⟨i,rfl,j⟩:=one rfl;rw[k d];unfold fQ at h;cases hc:agF P t x with
  |none=>simp[hc]at h
  |some u=>
   simp only[hc,zaj,zaa,zad]at h;obtain⟨rfl,rfl⟩:=h;exact⟨_,rfl,(amm (ty:=ty) j hc).ok R⟩
 ·rename_i t z x y d;obtain⟨i,n,rfl,j,m⟩:=two rfl;exact⟨_,rfl,ajN R (by rw[k d];rfl) j m h⟩
 ·rename_i t x d;obtain⟨i,rfl,j⟩:=one rfl;rw[k d];exact⟨_,rfl,aem R j h⟩
 ·rename_i t z x y d;obtain⟨i,n,rfl,j,m⟩:=two rfl;exact⟨_,rfl,ZR R (by rw[k d];rfl) j m h⟩
 ·obtain⟨hc,rfl⟩:=uU h;have:=Qa g hc;simp only[if_true]at this;exact⟨_,rfl,this.ok R⟩
 ·obtain⟨hc,rfl⟩:=uU h;have:=Qa g hc;simp only[zal,if_false]at this;exact⟨_,rfl,this.ok R⟩
 ·cases h
def MZ {G:Nat->Nat}{t:gG}{a:Act}(ps:Array (Nat × Operand))(h:∀x∈(ps.toList.map (·.2)).toArray,RV ρ G w (dS t x) (a.eval x)):
  (ps.toList.map λp=>(p.1,dS t p.2)).map (·.1)=((ps.map λ(i,x)=>(i,a.eval x)).toList).map (·.1)/\RVs ρ G w ((ps.toList.map λp=>(p.1,dS t p.2)).map (·.2)) (((ps.map λ(i,x)=>(i,a.eval x)).toList).map (·.2)):=by
 refine⟨by simp[Function.comp_def],?_⟩;have b:(ps.toList.map λp=>(p.1,dS t p.2)).map (·.2)=(ps.toList.map (·.2)).map (dS t):=by simp[Function.comp_def]
 have d:((ps.map λ(i,x)=>(i,a.eval x)).toList).map (·.2)=(ps.toList.map (·.2)).map a.eval:=by simp[Function.comp_def]
 rw[b,d];exact BZ _ λx e=>h x (by simpa using e)
def Nh {C:aA}(hC:qQ P C){t:gG}{o:Oper}(h:opA P C t o H=some (v,H'))(R:Rel ρ H w){a:Act}(d:∀x∈o.op.operands,RV ρ H.gen w (dS t x) (a.eval x)){K:Act->World->Prop}{Q:Exit->Act->World->Prop}
  (hK:∀cv ρ' w',Rel ρ' H' w'->RV ρ' H'.gen w' v cv->Ext ρ H w ρ' H' w'->K (a.put o.dst cv) w'):o.wp P a w K Q:=by
 obtain⟨dst,op,q,u,after,guard⟩:=o;simp only at d hK;have TG:∀{s:Sem Value},execOp a.eval ⟨dst,op,q,u,after,guard⟩=(do pure (.value (<-s)))->Ok P ρ H w s v H'->(⟨dst,op,q,u,after,guard⟩:Oper).wp P a w K Q:=by
  intro s A D;obtain⟨cv,ρ',w',g,j,L,h4⟩:=D;exact aen A g (hK cv ρ' w' j L h4)
 have T:∀{s:Sem Value},execOp a.eval ⟨dst,op,q,u,after,guard⟩=(do pure (.value (<-s)))->H'=H->OkP P ρ H.gen w s v->(⟨dst,op,q,u,after,guard⟩:Oper).wp P a w K Q:=by
  intro s A hh D;subst hh;exact TG A (D.ok R)
 have aa:∀{s:Sem Unit},execOp a.eval ⟨dst,op,q,u,after,guard⟩=(do s;pure .skip)->(v=aY/\∃ρ' w',s.run P w=.ok () w'/\Rel ρ' H' w'/\Ext ρ H w ρ' H' w')->(⟨dst,op,q,u,after,guard⟩:Oper).wp P a w K Q:=by
  intro s A D;obtain⟨rfl,ρ',w',g,j,L⟩:=D;exact ajO A g (hK undef ρ' w' j EL L)
 have M:∀{s:Sem Value} {x:Option AV},execOp a.eval ⟨dst,op,q,u,after,guard⟩=(do pure (.value (<-s)))->fQ x H=some (v,H')->(x=some v->OkP P ρ H.gen w s v)->(⟨dst,op,q,u,after,guard⟩:Oper).wp P a w K Q:=by
  intro s x A hl D;obtain⟨g,j⟩:=uU hl;exact T A j (D g)
 have W:∀{x:Operand},op.operands=#[x]->RV ρ H.gen w (dS t x) (a.eval x):=λA=>d _ (by rw[A];simp);have i2:∀{x y:Operand},op.operands=#[x,y]->RV ρ H.gen w (dS t x) (a.eval x)/\RV ρ H.gen w (dS t y) (a.eval y):=λA=>⟨d _ (by rw[A];simp),d _ (by rw[A];simp)⟩
 have i3:∀{x y z:Operand},op.operands=#[x,y,z]->RV ρ H.gen w (dS t x) (a.eval x)/\RV ρ H.gen w (dS t y) (a.eval y)/\RV ρ H.gen w (dS t z) (a.eval z):=λA=>⟨d _ (by rw[A];simp),d _ (by rw[A];simp),d _ (by rw[A];simp)⟩
 cases op with
 |move x=>
  refine M (s:=pure (a.eval x)) rfl h λp=>?_;cases p;exact⟨_,rfl,W rfl⟩
 |assign x=>
  refine M (s:=pure (a.eval x)) rfl h λp=>?_;cases p;exact⟨_,rfl,W rfl⟩
 |pick c x y=>
  obtain⟨g,j,L⟩:=i3 rfl;refine M (s:=do pure (if<-asBool (a.eval c)then a.eval x else a.eval y)) ?_ h λp=>ajK g j L p;simp[execOp]
 |alloc e=>exact TG rfl (aee R h)
 |box e x=>exact TG rfl (ami R (W rfl) h)
 |build F ps=>
  obtain⟨g,j⟩:=MZ (ρ:=ρ) (w:=w) (G:=H.gen) (t:=t) (a:=a) ps d;exact M rfl h λp=>aei g j p
 |buildSlice F n ps=>
  obtain⟨g,j⟩:=MZ (ρ:=ρ) (w:=w) (G:=H.gen) (t:=t) (a:=a) ps d;exact TG rfl (MS R g j h)
 |load F x=>
  obtain⟨g,j⟩:=ZN R (W rfl) h;exact T rfl g j
 |store F x y=>
  obtain⟨g,j⟩:=i2 rfl;exact aa rfl (aed R g j h)
 |nilCheck x=>
  obtain⟨g,j⟩:=uU h;subst j;obtain⟨rfl,L⟩:=Qb (P:=P) (W rfl) g;exact ajP rfl L (hK _ ρ w R (W rfl) (Ext.refl _ _ _))
 |binOp b F x y ag=>
  obtain⟨g,j⟩:=i2 rfl;exact M rfl h λp=>ajL g j (λhn=>by rw[P6 hn];rfl) p
 |unOp b F x=>exact M rfl h λp=>ase (W rfl) p
 |convert src dst x=>
  obtain⟨g,j⟩:=Yh R (W rfl) h;exact T rfl g j
 |makeFunc f fs cs=>
  refine M (s:=Instr.makeFunc f (fs.map a.eval) (cs.map a.eval)) rfl h λp=>?_;cases p;refine⟨_,rfl,?_⟩;simp only[RV];refine⟨_,_,rfl,?_,?_⟩
  ·rw[zdp];exact BZ _ λx p=>d x (by simp[Op.operands];exact .inl (by simpa using p))
  ·rw[zdp];exact BZ _ λx p=>d x (by simp[Op.operands];exact .inr (by simpa using p))
 |makeMap F r=>
  cases r with
  |none=>exact TG rfl (Yf R h)
  |some r=>cases h
 |makeSlice F l c=>
  obtain⟨g,j⟩:=i2 rfl;exact TG rfl (P7 R g j h)
 |slice F x lo hi mx=>
  have ab:RV ρ H.gen w (dS t x) (a.eval x):=d x (by simp[Op.operands]);have ad:TB ρ H.gen w (lo.map (dS t)) (lo.map a.eval):=GN λy X=>d y (by simp[Op.operands]at X ⊢;simp[X]);have ae:TB ρ H.gen w (hi.map (dS t)) (hi.map a.eval):=GN λy X=>d y (by simp[Op.operands]at X ⊢;simp[X]);have af:TB ρ H.gen w (mx.map (dS t)) (mx.map a.eval):=GN λy X=>d y (by simp[Op.operands]at X ⊢;simp[X]);exact M rfl h λhh=>aeh ab ad ae af hh
 |fieldAddr F x i=>exact M rfl h λp=>PZ (W rfl) p
 |field F x i=>exact M rfl h λp=>aef (W rfl) p
 |indexAddr F x i=>
  obtain⟨g,j⟩:=i2 rfl;obtain⟨L,h4⟩:=P5 R g j h;exact T rfl L h4
 |index F x i=>
  obtain⟨g,j⟩:=i2 rfl;exact M rfl h λp=>aeg g j p
 |lookup F x i ok=>
  obtain⟨g,j⟩:=i2 rfl;obtain⟨L,h4⟩:=ZQ R g j h;exact T rfl L h4
 |mapUpdate F m k x=>
  obtain⟨g,j,L⟩:=i3 rfl;exact aa rfl (P9 R g j L h)
 |extract x i=>exact M rfl h λp=>Yd (W rfl) p
 |call c=>
  simp only[opA,wH]at h;split at h
  ·rename_i f TF;have E:RVs ρ H.gen w (c.args.toList.map (dS t)) (c.args.map a.eval).toList:=by
    rw[zdp];exact BZ _ λx p=>d x (by simp[Op.operands,Call.operands,TF];exact .inr (by simpa using p))
   exact ajQ hC rfl TF R (d f (by simp[Op.operands,Call.operands,TF])) E h hK
  ·rename_i b TF;have E:RVs ρ H.gen w (c.args.toList.map (dS t)) (c.args.map a.eval).toList:=by
    rw[zdp];exact BZ _ λx p=>d x (by simp[Op.operands,Call.operands,TF];simpa using p)
   obtain⟨s,g,j⟩:=Yi (P:=P) (consts:=c.args.map fun|.const _=>true|_=>false) R E h;refine TG (s:=s) ?_ j;rw[<-g];simp only[execOp,resolve,TF];rfl
  ·cases h
 |_=>cases h
end
def ZW(o e:gB):Prop:=∀g d c,o=.blk g d c->∃g' b c',e=.blk g' b c'/\(b=d∨gV<=b)
def ZW.refl(o:gB):ZW o o:=λg b c h=>⟨g,b,c,h,.inl rfl⟩
def ZW.trans {a b c:gB}(h:ZW a b)(i:ZW b c):ZW a c:=λg j cs e=>by
 obtain⟨k,m,n,o,k1⟩:=h g j cs e;obtain⟨p,q,u,v,d⟩:=i k m n o;refine⟨p,q,u,v,?_⟩;rcases d with rfl|d
 ·exact k1
 ·exact .inr d
def zZ {o:gB}{g g' ty:Nat}{c c':List AV}(h:o=.blk g ty c):ZW o (.blk g' ty c'):=λ_ _ _ e=>by
 rw[h]at e;cases e;exact⟨_,_,_,rfl,.inl rfl⟩
def VJ {o:gB}{g' ty':Nat}{c':List AV}(h:gV<=ty'):ZW o (.blk g' ty' c'):=λ_ _ _ _=>⟨_,_,_,rfl,.inr h⟩
def VK {o b:gB}{k:IntKind}{es:List (Int × AV)}(h:o=.map k es):ZW o b:=λ_ _ _ e=>by rw[h]at e;cases e
def VL {e ty off:Nat}:gV<=grT e ty off:=by
 unfold grT;split <;> omega
structure Keeps(H H':ah):Prop where
 base:H'.base=H.base
 next:H.next<=H'.next
 get:∀r,r<H.base->r<H.next->H'.get r=H.get r
 types:∀r,r<H.next->ZW (H.get r) (H'.get r)
def Keeps.refl(H:ah):Keeps H H:=⟨rfl,zac _,λ_ _ _=>rfl,λ_ _=>.refl _⟩
def Keeps.trans {H H' H'':ah}(a:Keeps H H')(b:Keeps H' H''):Keeps H H'':=
 ⟨b.base.trans a.base,zav a.next b.next,λr d e=>(b.get r (by rw[a.base];exact d) (zax e a.next)).trans (a.get r d e),λr h=>(a.types r h).trans (b.types r (zax h a.next))⟩
def Keeps.new(H:ah)(o:gB):Keeps H (H.new o):=⟨rfl,by simp[ah.new],λr _ h=>by simp[ah.new];intro e;omega,λr h=>by
 have:(H.new o).get r=H.get r:=by simp[ah.new];intro e;omega
 rw[this];exact .refl _⟩
def Keeps.put {H:ah}{r:Nat}(o:gB)(h:H.base<=r)(b:ZW (H.get r) o):Keeps H (H.put r o):=⟨rfl,zac _,λx d _=>by simp[ah.put];intro e;omega,λx _=>by
 by_cases e:x=r
 ·subst e;simp only[ah.put,if_true];exact b
 ·simp only[ah.put,e,if_false];exact .refl _⟩
def kQ(C:aA):Prop:=∀f b H v H',C f b H=some (v,H')->Keeps H H'
def TJ(H H':ah):Prop:=H'.base=H.base/\H.next<=H'.next/\∀r,r<H.next->H'.get r=H.get r
section
variable {P:Program}{C:aA}{t:gG}{o:Oper}{H H':ah}{v:AV}
def tX {e:TypeId}{m b n:Nat}{x:AV}{new:List AV}(h:dW e m b x n new H=some (v,H')):Keeps H H':=by
 unfold dW at h;split at h <;> first|(cases h;done)|skip
 split at h <;> first|(cases h;done)|skip
 ·split at h
  ·simp only[zaa,zad]at h;rw[<-h.2];exact .refl _
  ·split at h <;> first|(cases h;done)|skip
   simp only[zaa,zad]at h;rw[<-h.2];exact .new _ _
 ·split at h <;> first|(cases h;done)|skip
  split at h <;> first|(cases h;done)|skip
  split at h
  ·simp only[zaa,zad]at h;rw[<-h.2];exact .refl _
  ·split at h
   ·split at h <;> first|(cases h;done)|skip
    rename_i hc;simp only[zaa,zad]at h;rw[<-h.2];exact .put _ hc.1 (by first|exact VJ VL|exact zZ (by assumption))
   ·split at h <;> first|(cases h;done)|skip
    split at h
    ·simp only[zaa,zad]at h;rw[<-h.2];exact .new _ _
    ·split at h <;> first|(cases h;done)|skip
     rename_i hc;simp only[zaa,zad]at h;rw[<-h.2];exact .put _ hc (by first|exact VJ VL|exact zZ (by assumption))
def Yj(A:qW o.op=true):∃F:Option gB->Option AV,(MK o.op=false->∀a b,F a=F b)/\∀H:ah,opA P C t o H=(F ((lK t o.op).map H.get)).map λv=>(v,H):=by
 obtain⟨dst,op,e,p,after,guard⟩:=o;have d:∀{x:Option AV},opA P C t ⟨dst,op,e,p,after,guard⟩=fQ x->∃F:Option gB->Option AV,(MK op=false->∀a b,F a=F b)/\∀H:ah,opA P C t ⟨dst,op,e,p,after,guard⟩ H=(F ((lK t op).map H.get)).map λv=>(v,H):=
  λ{x} L=>⟨λ_=>x,λ_ _ _=>rfl,λH=>by rw[L];rfl⟩
 cases op with
 |move x=>exact d rfl
 |assign x=>exact d rfl
 |pick c a b=>exact d rfl
 |build q ps=>exact d rfl
 |nilCheck x=>exact d rfl
 |binOp b q x y M=>exact d rfl
 |unOp b q x=>exact d rfl
 |makeFunc f a c=>exact d rfl
 |slice q x lo hi T=>exact d rfl
 |fieldAddr q x i=>exact d rfl
 |field q x i=>exact d rfl
 |index q x i=>exact d rfl
 |extract x i=>exact d rfl
 |load q x=>exact⟨_,(λh=>by cases h),λH=>rfl⟩
 |lookup q x i ok=>exact⟨_,(λh=>by cases h),λH=>rfl⟩
 |indexAddr q x i=>exact⟨_,(λh=>by cases h),λH=>rfl⟩
 |convert src dst x=>exact⟨_,(λh=>by cases h),λH=>rfl⟩
 |call c=>
  have w:∀H,opA P C t ⟨dst,.call c,e,p,after,guard⟩ H=wH P C t c e H:=λ_=>rfl;simp only[qW]at A;cases D:c.callee with
  |value f=>simp[D]at A
  |invoke r m=>simp[D]at A
  |builtin b=>
   have hb:∀H,wH P C t c e H=iV P b c.argTypes e (c.args.toList.map (dS t)) H:=λH=>by simp only[wH,D]
   have g:(∀H,iV P b c.argTypes e (c.args.toList.map (dS t)) H=none)->∃F:Option gB->Option AV,(MK (.call c)=false->∀a b,F a=F b)/\∀H:ah,opA P C t ⟨dst,.call c,e,p,after,guard⟩ H=(F ((lK t (.call c)).map H.get)).map λv=>(v,H):=
    λG=>⟨λ_=>none,λ_ _ _=>rfl,λH=>by rw[w,hb,G];rfl⟩
   have k:∀x,(∀H,iV P b c.argTypes e (c.args.toList.map (dS t)) H=fQ x H)->∃F:Option gB->Option AV,(MK (.call c)=false->∀a b,F a=F b)/\∀H:ah,opA P C t ⟨dst,.call c,e,p,after,guard⟩ H=(F ((lK t (.call c)).map H.get)).map λv=>(v,H):=
    λx G=>⟨λ_=>x,λ_ _ _=>rfl,λH=>by rw[w,hb,G];rfl⟩
   cases b with
   |len=>
    cases j:c.argTypes.toList with
    |nil=>exact g λH=>by simp only[iV,j]
    |cons u E=>
     cases E with
     |cons Q E=>exact g λH=>by simp only[iV,j]
     |nil=>
      cases n:c.args.toList with
      |nil=>exact g λH=>by simp only[iV,j,n,zbT]
      |cons y K=>
       cases K with
       |cons z R=>exact g λH=>by simp only[iV,j,n,zaD]
       |nil=>
        refine⟨asa P u (dS t y),(λh=>by simp[MK,D]at h),λH=>?_⟩;rw[w,hb];simp only[iV,j,n,zaD,zbT,asb,kV,lK]
   |cap=>
    cases j:c.argTypes.toList with
    |nil=>exact g λH=>by simp only[iV,j]
    |cons u E=>
     cases E with
     |cons Q E=>exact g λH=>by simp only[iV,j]
     |nil=>
      cases n:c.args.toList with
      |nil=>exact g λH=>by simp only[iV,j,n,zbT]
      |cons y K=>
       cases K with
       |cons z R=>exact g λH=>by simp only[iV,j,n,zaD]
       |nil=>exact k (agF P u (dS t y)) λH=>by simp only[iV,j,n,zaD,zbT]
   |max=>exact k (kF P true c.argTypes e (c.args.toList.map (dS t))) λH=>rfl
   |min=>exact k (kF P false c.argTypes e (c.args.toList.map (dS t))) λH=>rfl
   |_=>simp[D]at A
 |_=>cases A
def Nk(j:qW o.op=true)(h:opA P C t o H=some (v,H')):H'=H/\∀b:ah,(MK o.op=true->∀r,lK t o.op=some r->b.get r=H.get r)->opA P C t o b=some (v,b):=by
 obtain⟨F,k,g⟩:=Yj (P:=P) (C:=C) (t:=t) j;rw[g]at h;cases d:F ((lK t o.op).map H.get)with
 |none=>rw[d]at h;cases h
 |some u=>
  rw[d]at h;simp only[zaj,zaa,zad]at h;refine⟨h.2.symm,λb hw=>?_⟩;rw[g];have:F ((lK t o.op).map b.get)=F ((lK t o.op).map H.get):=by
   cases i:MK o.op with
   |false=>exact k i _ _
   |true=>
    cases e:lK t o.op with
    |none=>rfl
    |some r=>simp only[zaj,hw i r e]
  rw[this,d,h.1];rfl
def TK(b:kQ C){f:AV}{args:List AV}(h:qo P C f args H=some (v,H')):Keeps H H':=by
 unfold qo at h;split at h <;> first|(cases h;done)|skip
 ·split at h <;> first|(cases h;done)|skip
  exact b _ _ _ _ _ h
 ·split at h <;> first|(cases h;done)|skip
  exact b _ _ _ _ _ h
def EM(p:kQ C)(h:opA P C t o H=some (v,H')):Keeps H H':=by
 by_cases j:qW o.op=true
 ·rw[(Nk j h).1];exact .refl _
 obtain⟨dst,op,b,g,after,guard⟩:=o;cases op with
 |alloc e=>
  simp only[opA,JW]at h;split at h <;> first|(cases h;done)|skip
  split at h <;> first|(cases h;done)|skip
  simp only[zaa,zad]at h;rw[<-h.2];exact .new _ _
 |box e x=>
  simp only[opA,fM]at h;split at h <;> first|(cases h;done)|skip
  simp only[zaa,zad]at h;rw[<-h.2];exact .new _ _
 |buildSlice d n ps=>
  simp only[opA,dH]at h;split at h <;> first|(cases h;done)|skip
  split at h <;> first|(cases h;done)|skip
  split at h <;> first|(cases h;done)|skip
  split at h <;> first|(cases h;done)|skip
  split at h <;> first|(cases h;done)|skip
  simp only[zaa,zad]at h;rw[<-h.2];exact .new _ _
 |store d x y=>
  simp only[opA,PU]at h;split at h <;> first|(cases h;done)|skip
  split at h <;> first|(cases h;done)|skip
  split at h <;> first|(cases h;done)|skip
  rename_i hc;simp only[zaa,zad]at h;rw[<-h.2];exact .put _ hc.2.1 (zZ (by assumption))
 |makeMap d r=>
  cases r with
  |none=>
   simp only[opA,xR]at h;split at h <;> first|(cases h;done)|skip
   simp only[zaa,zad]at h;rw[<-h.2];exact .new _ _
  |some r=>cases h
 |makeSlice d l c=>
  simp only[opA,qc]at h;split at h <;> first|(cases h;done)|skip
  split at h <;> first|(cases h;done)|skip
  split at h <;> first|(cases h;done)|skip
  simp only[zaa,zad]at h;rw[<-h.2];exact .new _ _
 |mapUpdate d m k x=>
  simp only[opA,tJ]at h;split at h <;> first|(cases h;done)|skip
  split at h <;> first|(cases h;done)|skip
  split at h <;> first|(cases h;done)|skip
  rename_i hc;simp only[zaa,zad]at h;rw[<-h.2];exact .put _ hc.2.2 (VK (by assumption))
 |call c=>
  have i:opA P C t ⟨dst,.call c,b,g,after,guard⟩=wH P C t c b:=rfl;rw[i]at h;unfold wH at h;split at h <;> first|(cases h;done)|skip
  ·exact TK p h
  ·unfold iV at h;split at h <;> first|(cases h;done)|skip
   ·unfold MG at h;split at h <;> first|(cases h;done)|skip
    split at h <;> first|(cases h;done)|skip
    split at h <;> first|(cases h;done)|skip
    split at h
    ·split at h <;> first|(cases h;done)|skip
     split at h <;> first|(cases h;done)|skip
     exact tX h
    ·split at h <;> first|(cases h;done)|skip
     exact tX h
   ·rw[(uS h).2];exact .refl _
   ·rw[(uU h).2];exact .refl _
   ·unfold ad8 at h;split at h <;> first|(cases h;done)|skip
    split at h <;> first|(cases h;done)|skip
    simp only at h;split at h <;> first|(cases h;done)|skip
    split at h
    ·split at h <;> first|(cases h;done)|skip
     simp only[zaa,zad]at h;rw[<-h.2];exact .refl _
    ·split at h <;> first|(cases h;done)|skip
     split at h <;> first|(cases h;done)|skip
     split at h <;> first|(cases h;done)|skip
     rename_i hc;simp only[zaa,zad]at h;rw[<-h.2];exact .put _ hc.2.2.1 (zZ (by assumption))
   ·unfold VF at h;split at h <;> first|(cases h;done)|skip
    split at h <;> first|(cases h;done)|skip
    ·split at h
     ·simp only[zaa,zad]at h;rw[<-h.2];exact .refl _
     ·split at h <;> first|(cases h;done)|skip
      split at h <;> first|(cases h;done)|skip
      rename_i hc;simp only[zaa,zad]at h;rw[<-h.2];exact .put _ hc.2.2.1 (zZ (by assumption))
    ·simp only[zaa,zad]at h;rw[<-h.2];exact .refl _
   ·unfold MJ at h;split at h <;> first|(cases h;done)|skip
    split at h <;> first|(cases h;done)|skip
    split at h <;> first|(cases h;done)|skip
    rename_i hc;simp only[zaa,zad]at h;rw[<-h.2];exact .put _ hc.2.2 (VK (by assumption))
   ·rw[(uU h).2];exact .refl _
   ·rw[(uU h).2];exact .refl _
 |_=>first|(cases h;done)|exact absurd rfl j
def TJ.new(H:ah)(o:gB):TJ H (H.new o):=⟨rfl,by simp[ah.new],λr h=>by simp[ah.new];intro e;omega⟩
def TL(b:uN o.op=true)(hc:mM o.op=false)(h:opA P C t o H=some (v,H')):TJ H H':=by
 obtain⟨dst,op,d,i,after,guard⟩:=o;cases op with
 |box e x=>
  simp only[opA,fM]at h;split at h <;> first|(cases h;done)|skip
  simp only[zaa,zad]at h;rw[<-h.2];exact .new _ _
 |buildSlice g n ps=>
  simp only[opA,dH]at h;split at h <;> first|(cases h;done)|skip
  split at h <;> first|(cases h;done)|skip
  split at h <;> first|(cases h;done)|skip
  split at h <;> first|(cases h;done)|skip
  split at h <;> first|(cases h;done)|skip
  simp only[zaa,zad]at h;rw[<-h.2];exact .new _ _
 |makeMap g r=>
  cases r with
  |none=>
   simp only[opA,xR]at h;split at h <;> first|(cases h;done)|skip
   simp only[zaa,zad]at h;rw[<-h.2];exact .new _ _
  |some r=>cases h
 |makeSlice g l c=>
  simp only[opA,qc]at h;split at h <;> first|(cases h;done)|skip
  split at h <;> first|(cases h;done)|skip
  split at h <;> first|(cases h;done)|skip
  simp only[zaa,zad]at h;rw[<-h.2];exact .new _ _
 |call c=>
  simp only[uN]at b;simp only[mM]at hc;cases j:c.callee <;> simp_all
 |_=>cases b
def GR(e:kQ C)(h:opG P C t o H=some (v,H')):TJ H H'/\∃H1,opA P C t o H.guard=some (v,H1)/\H'={ H1 with base:=H.base }:=by
 unfold opG at h;split at h <;> first|(cases h;done)|skip
 rename_i u H1 b;simp only[zaa,zad]at h;obtain⟨rfl,rfl⟩:=h;have hk:=EM e b;exact⟨⟨rfl,hk.next,λr d=>hk.get r d d⟩,H1,b,rfl⟩
def aeo(hc:EH o.op=true)(h:opA P C t o H=some (v,H')):
  ∃(ty:TypeId) (z:List AV) (mk:Nat->AV),v=mk H.next/\H'=H.new (.blk 0 ty z)/\
   ∀(ρ:Ren) (G:Nat->Nat) (w:World) (a:Act),∃(cs:Array Value) (cv:Value),(execOp a.eval o).run P w=.ok (.value cv) (w.alloc (.cells cs ty))/\(RVs ρ G w z cs.toList/\ty<gV)/\
    ∀(ρ':Ren) (G':Nat->Nat) (r:Nat),G' r=0->ρ' r=some (w.heap.size,0)->RV ρ' G' (w.alloc (.cells cs ty)) (mk r) cv:=by
 obtain⟨dst,op,aa,ad,after,guard⟩:=o;cases op with
 |alloc e=>
  simp only[opA,JW,yH]at h;cases j:zU P e with
  |none=>simp[j]at h
  |some z=>
   simp only[j,zaj]at h;split at h <;> first|(cases h;done)|skip
   simp only[zaa,zad]at h;refine⟨e,_,λr=>.ref r 0 0,h.1.symm,h.2.symm,fun ρ G w a=>⟨z.cells,.pointer (some ⟨w.heap.size,0,none⟩),?_,⟨iw _,uP j⟩,fun ρ' G' r hg hr=>?_⟩⟩
   ·simp[execOp,Instr.alloc,gU j,newVar,newRow]
   ·simp only[RV];exact⟨_,rfl,V,λ_=>⟨_,0,hr,O⟩⟩
 |buildSlice ty n ps=>
  simp only[EH]at hc;simp only[opA]at h;have g:∀(a:Act) (p:Nat × Operand),p∈ps.toList->∃u,p.2=.const u:=by
   intro a p A;have:=zcP.1 hc p (by simpa using A);cases K:p.2 with
   |const u=>exact⟨u,rfl⟩
   |_=>rw[K]at this;cases this
  have L:∀(ρ:Ren) (G:Nat->Nat) (w:World) (a:Act),∀x∈(ps.toList.map (·.2)).toArray,RV ρ G w (dS t x) (a.eval x):=by
   intro ρ G w a x hx;simp only[List.mem_toArray,zaM]at hx;obtain⟨p,A,rfl⟩:=hx;obtain⟨u,hu⟩:=g a p A;rw[hu];simp only[dS,Act.eval,RV]
  unfold dH at h;cases M:JE P ty with
  |none=>simp[M]at h
  |some e=>
   simp only[M]at h;cases F:szT P e with
   |none=>simp[F]at h
   |some m=>
    cases j:yH P e with
    |none=>simp[F,j]at h
    |some z=>
     simp only[F,j]at h;obtain⟨zv,D,rfl⟩:=zY j;split at h <;> first|(cases h;done)|skip
     rename_i q;obtain⟨y,ab⟩:=q;simp at y;split at h <;> first|(cases h;done)|skip
     rename_i cells hf;split at h <;> first|(cases h;done)|skip
     simp only[zaa,zad]at h;refine⟨e,cells,λr=>.sl r 0 0 m n n true,h.1.symm,h.2.symm,fun ρ G w a=>?_⟩;obtain⟨hi,A⟩:=MZ (ρ:=ρ) (w:=w) (G:=G) (t:=t) (a:=a) ps (L ρ G w a);obtain⟨E,Q,R⟩:∃E:Array Value,RVs ρ G w (dK (zv.cells.toList.map .s) n) ((Array.range (n*m)).map (E[· % E.size]!)).toList/\((n*m=0/\E=#[])∨(¬n*m=0/\E=zv.cells)):=by
      by_cases k:n*m=0
      ·refine⟨#[],?_,.inl ⟨k,rfl⟩⟩;rw[k];have:dK (zv.cells.toList.map .s) n=[]:=zaq (by rw[jl];simp[y,k]);rw[this];simp[RVs]
      ·refine⟨zv.cells,?_,.inr ⟨k,rfl⟩⟩;have:=wK (ρ:=ρ) (G:=G) (w:=w) zv n;rw[y]at this ⊢;exact this
     obtain⟨cs,T,h2⟩:=GH _ _ _ _ cells hi A Q hf;have W:cs.size=n*m:=by
      have hsz:∀(d:Nat->Option (Nat × Nat)) (l:List (Nat × Value)) (a b:Array Value),Instr.fill d a l=some b->b.size=a.size:=by
       intro d l
       induction l with
       |nil=>intro a b h;simp[Instr.fill]at h;rw[h]
       |cons p l ih=>
        intro a b h;obtain⟨i,x⟩:=p;simp only[Instr.fill]at h;split at h
        ·cases h
        ·split at h
         ·cases h
         ·rw[ih _ _ h,<-zcO,zdC,xU,fA]
      rw[hsz _ _ _ _ T];simp
     refine⟨cs,.slice (some ⟨w.heap.size,0,none⟩) n n,?_,⟨h2,uP D⟩,fun ρ' G' r hg hr=>?_⟩
     ·have X:¬n*m > 2 ^ 24:=V
      simp only[execOp,Instr.buildSlice,Sem.run_bind,run_underlying (oN M),Result.andThen_ok,fB F,X,if_false];rcases R with⟨k,rfl⟩|⟨k,rfl⟩
      ·rw[if_pos k];simp only[Result.andThen_ok,T,Sem.run_bind,newRow,run_newObj,Sem.run_pure];rfl
      ·rw[if_neg k];simp only[Result.andThen_ok,T,Sem.run_bind,newRow,run_newObj,Sem.run_pure,gU D];rfl
     ·simp only[RV];refine⟨w.heap.size,0,n,rfl,zac _,zac _,λ_=>rfl,V,λ_=>⟨0,e,cs.size,hr,λ_=>rfl,?_,by rw[W];omega⟩⟩;rw[fE,kC];rfl
 |_=>cases hc
end
def uV {ops:List Oper}{L:Nat->Prop}(n:∀j o,ops[j]?=some o->L j->∀e∈o.after,Region.binds .any e=true->L e.on):
  ∀i j,mW ops i j=true->L j->L i:=by
 have key:∀(l g:List Oper) (b:Array Nat),g.length=b.size->(∀i j,(b.getD j 0).testBit i=true->(g++l=ops)->L j->L i)->g++l=ops->
   ∀i j,((l.foldl (init:=b) λb o=>b.push (o.after.foldl (λs e=>if Region.binds .any e then s ||| 2 ^ e.on ||| b.getD e.on 0 else s) 0)).getD j 0).testBit i=true->L j->L i:=by
  intro l
  induction l with
  |nil=>
   intro g b _ h k i j hb m;exact h i j hb k m
  |cons o l E=>
   intro g b hsz h k i j hb m;simp only[zbW]at hb;refine E (g++[o]) _ (by simp[hsz]) ?_ (by simpa using k) i j hb m;intro i j hb F m;by_cases y:j<b.size
   ·refine h i j ?_ k m
    simpa [Array.getD,y,Nat.lt_succ_of_lt y,Array.getElem_push_lt y]using hb
   ·by_cases z:j=b.size
    ·subst z;have A:ops[b.size]?=some o:=by rw[<-k,<-hsz];simp
     have q:((b.push (o.after.foldl (λs e=>if Region.binds .any e then s ||| 2 ^ e.on ||| b.getD e.on 0 else s) 0)).getD b.size 0)=o.after.foldl (λs e=>if Region.binds .any e then s ||| 2 ^ e.on ||| b.getD e.on 0 else s) 0:=O
     rw[q]at hb;have p:∀(u:List Edge) (s:Nat),(∀e∈u,e∈o.after)->(s.testBit i=true->L i)->(u.foldl (λs e=>if Region.binds .any e then s ||| 2 ^ e.on ||| b.getD e.on 0 else s) s).testBit i=true->L i:=by
      intro u
      induction u with
      |nil=>intro s _ q hb;exact q hb
      |cons e u C=>
       intro s v q hb;simp only[zbW]at hb;refine C _ (λG H=>v G (by simp[H])) ?_ hb;intro d;split at d
       ·rename_i D;simp only[zcH,zbu,zdb]at d;have w:=n _ o A m e (v e O) D;rcases d with(d|d)|d
        ·exact q d
        ·simp at d;rw[<-d];exact w
        ·exact h i e.on d k w
       ·exact q d
     refine p o.after.toList 0 (λe k=>by simpa using k) (λK=>by simp at K) ?_;rw[zcO];exact hb
    ·have:(b.push (o.after.foldl (λs e=>if Region.binds .any e then s ||| 2 ^ e.on ||| b.getD e.on 0 else s) 0)).getD j 0=0:=by
      simp[Array.getD,show¬j<b.size+1 by omega]
     rw[this]at hb;simp at hb
 intro i j hb m;refine key ops [] #[] rfl (λi j hb=>by simp at hb) rfl i j ?_ m;unfold mW Region.before at hb;rw[<-zcO]at hb;exact hb
def kE {n:Nat}{f:Nat->Bool}(h:Ey n f=true){i:Nat}(hi:i<n):f i=true:=by
 unfold Ey at h;exact za6.1 h i (za0.2 hi)
structure GU(ops:List Oper):Prop where
 edges:∀j o,ops[j]?=some o->∀e∈o.after,Region.binds .any e=true->e.on<ops.length/\Gt ops e.on j=true
 arM:∀(i j:Nat) (oi oj:Oper) (d:Tmp),ops[i]?=some oi->ops[j]?=some oj->oi.dst=some d->oj.dst=some d->i=j
 uses:∀(i j:Nat) (oi oj:Oper) (d:Tmp),i≠j->ops[i]?=some oi->ops[j]?=some oj->oi.dst=some d->d∈oj.looksAt ops.toArray->(mW ops i j=true/\Gt ops i j=true)∨(mW ops j i=true/\Gt ops j i=true)
 chain:∀i j,i<j->j<ops.length->chn ops i=true->chn ops j=true->mW ops i j=true
 const:∀j o,ops[j]?=some o->cst ops j=true->o.guard=none/\o.dst.isSome=true
 loose:∀j e,j<ops.length->e<ops.length->cst ops j=true->chn ops e=true->mW ops j e=false->(uN (qp ops e)=true∨ajJ (qp ops e)=true)/\mW ops e j=false
def dQ {α:Type}{l:List α}{i:Nat}{x:α}(h:l[i]?=some x):i<l.length:=(zaf.1 h).1
def uX {ops:List Oper}{j:Nat}{o:Oper}(h:ops[j]?=some o):qp ops j=o.op:=by simp[qp,h]
def GV {ops:List Oper}{j:Nat}{o:Oper}(h:ops[j]?=some o):JY ops j=o.dst:=by simp[JY,h]
def DL {ops:List Oper}(h:VG ops=true):GU ops:=by
 unfold VG at h;simp only[zah]at h;obtain⟨⟨⟨⟨⟨A,C⟩,D⟩,E⟩,F⟩,G⟩:=h;refine⟨λj o n e v hb=>?_,λi j k g d hi b m u=>?_,λi j k g d w hi b m hd=>?_,λi j p b H K=>?_,λj o n hc=>?_,λj e b v hc y hb=>?_⟩
 ·have:=kE A (dQ n);simp only[n,zaj,zat]at this;have:=zcP.1 this e v
  simpa [hb]using this
 ·have q:∀(i j:Nat) (k g:Oper),ops[i]?=some k->ops[j]?=some g->k.dst=some d->g.dst=some d->¬i<j:=by
   intro i j k g hi b m u z;have:=kE (kE C (dQ hi)) (dQ b);rw[GV hi,GV b,m,u]at this;simp[z]at this
  have L:=q i j k g hi b m u;have M:=q j i g k b hi u m;omega
 ·have:=kE (kE D (dQ hi)) (dQ b);rw[GV hi,m,b]at this;simp only[zbu,beq_iff_eq,zbj,zah]at this;rcases this with h|(h|h)|h
  ·exact absurd h w
  ·have hc:(g.looksAt ops.toArray).contains d=true:=List.contains_iff_mem.2 hd;rw[hc]at h;cases h
  ·exact .inl h
  ·exact .inr h
 ·have:=kE (kE E (Nat.lt_trans p b)) b
  simpa [H,K,p]using this
 ·have:=kE F (dQ n);simp only[hc,zae,zbI,n,zaj,zat,zah]at this;exact⟨Option.isNone_iff_eq_none.1 this.1,this.2⟩
 ·have:=kE (kE G b) v;simp only[hc,y,hb,zai,zcz,zae,zbI,zah,zbj,zbu]at this;exact this
def yU {P:Program}{C:aA}{ops:List Oper}:∀(l m:List Nat) (t:gG) (H:ah),
  fZ P C ops (l++m) t H=(fZ P C ops l t H).bind λs=>fZ P C ops m s.1 s.2
 |[],m,t,H=>rfl
 |i::l,m,t,H=>by
  simp only[za3,fZ];cases ops[i]? with
  |none=>rfl
  |some o=>
   simp only;cases mV P C ops (loose ops i && mM o.op) o t H with
   |none=>rfl
   |some r=>exact yU l m _ _
def Cb(f:Nat->Bool)(p:Nat):(List.range (p+1)).filter f=(List.range p).filter f++(if f p then [p]else []):=by
 rw[zbX,zcr]
 congr 1
 simp only[zb2,List.filter_nil]
def wO {P:Program}{C:aA}{ops:List Oper}{p:Nat}{t:gG}{H:ah}:Gu P C ops (p+1) t H=
  (Gu P C ops p t H).bind λs=>if cst ops p then some s else fZ P C ops [p] s.1 s.2:=by
 unfold Gu;rw[Cb,yU]
 congr 1
 funext s
 cases cst ops p <;> rfl
def ZX {P:Program}{C:aA}{ops:List Oper}{t:gG}{H:ah}{n:Nat}{s:gG × ah}(h:Gu P C ops n t H=some s):∀k p,p+k=n->∃d,Gu P C ops p t H=some d:=by
 intro k
 induction k generalizing n s with
 |zero=>intro p b;simp at b;subst b;exact⟨s,h⟩
 |succ k g=>
  intro p b;cases n with
  |zero=>omega
  |succ n=>
   rw[wO]at h;cases e:Gu P C ops n t H with
   |none=>rw[e]at h;cases h
   |some d=>exact g e p V
structure Cc(P:Program)(C:aA)(ops:List Oper)(t0:gG)(H0:ah)(T:Nat->gG)(Hp:Nat->ah)(val:Nat->AV):Prop where
 zero:T 0=t0/\Hp 0=H0
 at_:∀p,p<=ops.length->Gu P C ops p t0 H0=some (T p,Hp p)
 skip:∀p,p<ops.length->cst ops p=true->T (p+1)=T p/\Hp (p+1)=Hp p
 step:∀p o,ops[p]?=some o->cst ops p=false->mV P C ops (loose ops p && mM o.op) o (T p) (Hp p)=some (val p,Hp (p+1))/\T (p+1)=wF (T p) o.dst (val p)
def J5 {P:Program}{C:aA}{ops:List Oper}{t0:gG}{H0:ah}{s:gG × ah}(h:fZ P C ops (mX ops) t0 H0=some s)(m:Nat->AV):
  ∃T Hp val,Cc P C ops t0 H0 T Hp val/\(T ops.length,Hp ops.length)=s/\∀p,cst ops p=true->val p=m p:=by
 have n:Gu P C ops ops.length t0 H0=some s:=h;let S:Nat->gG × ah:=λp=>(Gu P C ops p t0 H0).getD (t0,H0)
 have e:∀p,p<=ops.length->Gu P C ops p t0 H0=some (S p):=λp j=>by
  obtain⟨u,k⟩:=ZX n (ops.length-p) p V;simp only[S,k,zat]
 have d:∀p o,ops[p]?=some o->cst ops p=false->∃v,mV P C ops (loose ops p && mM o.op) o (S p).1 (S p).2=some (v,(S (p+1)).2)/\(S (p+1)).1=wF (S p).1 o.dst v:=by
  intro p o g hc;have j:=dQ g;have b:=e (p+1) j;rw[wO,e p V]at b;simp only[za4,hc,zal,if_false,fZ,g]at b;cases i:mV P C ops (loose ops p && mM o.op) o (S p).1 (S p).2 with
  |none=>rw[i]at b;cases b
  |some r=>
   rw[i]at b;simp only[zaa]at b;exact⟨r.1,by rw[<-b],by rw[<-b]⟩
 refine⟨λp=>(S p).1,λp=>(S p).2,λp=>if cst ops p then m p else match ops[p]? with
  |some o=>(match mV P C ops (loose ops p && mM o.op) o (S p).1 (S p).2 with|some r=>r.1|none=>aY)
  |none=>aY,⟨⟨rfl,rfl⟩,e,λp j hc=>?_,λp o g hc=>?_⟩,?_,λp hc=>by simp[hc]⟩
 ·have b:=e (p+1) j;rw[wO,e p V]at b;simp only[za4,hc,if_true,zaa]at b;rw[<-b];exact⟨rfl,rfl⟩
 ·obtain⟨v,b,q⟩:=d p o g hc;simp only[hc,zal,if_false,g,b,q,and_self]
 ·have:=e ops.length (zac _);rw[n]at this;cases this;rfl
structure Qd(P:Program)(o:Oper)(v:AV)(r:Nat)(ob:gB):Prop where
 ex:∃(ty:TypeId) (z:List AV) (mk:Nat->AV),v=mk r/\ob=.blk 0 ty z/\
   ∀(ρ:Ren) (G:Nat->Nat) (w:World) (a:Act),∃(cs:Array Value) (cv:Value),(execOp a.eval o).run P w=.ok (.value cv) (w.alloc (.cells cs ty))/\(RVs ρ G w z cs.toList/\ty<gV)/\
    ∀(ρ':Ren) (G':Nat->Nat) (r:Nat),G' r=0->ρ' r=some (w.heap.size,0)->RV ρ' G' (w.alloc (.cells cs ty)) (mk r) cv
def mD(t:gG)(d:Option Tmp)(v:AV):(wF t d v).length=t.length:=by cases d <;> simp[wF]
def Nl(t:gG)(d:Option Tmp)(v:AV)(i:Nat):(wF t d v)[i]?=if d=some i/\i<t.length then some v else t[i]?:=by
 cases d with
 |none=>simp[wF]
 |some d=>
  simp only[wF,zcV,zaa];by_cases h:d=i
  ·subst h;by_cases b:d<t.length
   ·simp[b]
   ·simp[b]
  ·simp[h]
def uY {P:Program}{C:aA}{ops:List Oper}:∀(is:List Nat) (t:gG) (H:ah) (t0:gG) (H0:ah),is.Nodup->(∀j∈is,cst ops j=true)->
  (∀i∈is,∀j∈is,∀(oi oj:Oper) (d:Tmp),ops[i]?=some oi->ops[j]?=some oj->oi.dst=some d->oj.dst=some d->i=j)->iW P C ops is t H=some (t0,H0)->
  TJ H H0/\(∀r,H.next<=r->H.gen r=0->H0.gen r=0)/\t0.length=t.length/\∃(nm:Nat->Nat) (vl:Nat->AV),(∀j∈is,∃o,ops[j]?=some o/\H.next<=nm j/\nm j<H0.next/\Qd P o (vl j) (nm j) (H0.get (nm j))/\∀d,o.dst=some d->d<t.length->t0[d]?=some (vl j))/\
   (∀i∈is,∀j∈is,nm i=nm j->i=j)/\∀d,(∀j∈is,∀o,ops[j]?=some o->o.dst≠some d)->t0[d]?=t[d]?
 |[],t,H,t0,H0,_,_,_,h=>by
  simp only[iW,zaa,zad]at h;obtain⟨rfl,rfl⟩:=h;exact⟨⟨rfl,zac _,λ_ _=>rfl⟩,λ_ _ h=>h,rfl,λ_=>0,λ_=>aY,by simp,by simp,λ_ _=>rfl⟩
 |i::is,t,H,t0,H0,hnd,auU,hdst,h=>by
  simp only[iW]at h;cases ho:ops[i]? with
  |none=>rw[ho]at h;cases h
  |some o=>
   rw[ho]at h;simp only at h;cases hop:opA P C t o H with
   |none=>rw[hop]at h;cases h
   |some r=>
    obtain⟨v,H1⟩:=r;rw[hop]at h;simp only at h;have hco:EH o.op=true:=by have:=auU i (by simp);simpa [cst,uX ho]using this
    obtain⟨ty,z,mk,rfl,rfl,hrun⟩:=aeo hco hop;obtain⟨hf,hg,hlen,nm,vl,h1,h2,h3⟩:=uY is _ _ t0 H0 (za1.1 hnd).2 (λj hj=>auU j (by simp[hj])) (λa ha b hb=>hdst a (by simp[ha]) b (by simp[hb])) h;have hni:i∉is:=(za1.1 hnd).1;have hget:H0.get H.next=.blk 0 ty z:=by
     rw[hf.2.2 H.next (by simp[ah.new])];simp[ah.new]
    refine⟨⟨hf.1,zav (by simp[ah.new]) hf.2.1,λr hr=>?_⟩,λr hr hgr=>?_,by rw[hlen,mD],λj=>if j=i then H.next else nm j,λj=>if j=i then mk H.next else vl j,λj hj=>?_,λa ha b hb hab=>?_,λd hd=>?_⟩
    ·rw[hf.2.2 r (by simp[ah.new];omega)];simp[ah.new,show r≠H.next by omega]
    ·rcases zaU H.next r with hlt|hge
     ·refine hg r (by simp[ah.new];omega) ?_;rw[Tv,if_neg (by omega)];exact hgr
     ·have:r=H.next:=by omega
      subst this;simp[ah.gen,hget,gB.gen]
    ·by_cases hji:j=i
     ·subst hji;simp only[if_true];refine⟨o,ho,zac _,zax (by simp[ah.new]) hf.2.1,⟨ty,z,mk,rfl,hget,hrun⟩,λd hd hlt=>?_⟩;rw[h3 d (λk hk ok hok hkd=>hni (by
       have:=hdst j (by simp) k (by simp[hk]) o ok d ho hok hd hkd;rw[this];exact hk)),Nl,if_pos ⟨hd,hlt⟩]
     ·simp only[if_neg hji];obtain⟨oj,hoj,q1,q2,q3,q4⟩:=h1 j (by
       rcases zao.1 hj with e|e
       ·exact absurd e hji
       ·exact e)
      refine⟨oj,hoj,zav (by simp[ah.new]) q1,q2,q3,λd hd hlt=>q4 d hd (by rw[mD];exact hlt)⟩
    ·by_cases ha':a=i <;> by_cases hb':b=i
     ·rw[ha',hb']
     ·simp only[ha',if_true,if_neg hb']at hab;obtain⟨_,_,q1,_⟩:=h1 b (by exact(zao.1 hb).resolve_left hb');simp[ah.new]at q1;omega
     ·simp only[hb',if_true,if_neg ha']at hab;obtain⟨_,_,q1,_⟩:=h1 a (by exact(zao.1 ha).resolve_left ha');simp[ah.new]at q1;omega
     ·simp only[if_neg ha',if_neg hb']at hab;exact h2 a (by exact(zao.1 ha).resolve_left ha') b (by exact(zao.1 hb).resolve_left hb') hab
    ·rw[h3 d (λj hj=>hd j (by simp[hj])),Nl,if_neg (λhc=>hd i (by simp) o ho hc.1)]
structure TOn(ρ:Ren)(G:Nat->Nat)(w:World)(D:Tmp->Prop)(t:gG)(a:Act):Prop where
 size:a.tmps.size=t.length
 get:∀d,D d->d<t.length->RV ρ G w (t.getD d aY) (a.tmps.getD d undef)
section
variable {P:Program}{C:aA}{ops:List Oper}{H H':ah}{t:gG}{a:Act}{w:World}{ρ:Ren}{G:Nat->Nat}{o:Oper}{v:AV}
def TOn.any {D:Tmp->Prop}(h:TOn ρ G w D t a)(d:Tmp)(hd:D d):RV ρ G w (t.getD d aY) (a.tmps.getD d undef):=by
 by_cases b:d<t.length
 ·exact h.get d hd b
 ·have e:t.getD d aY=aY:=by simp[List.getD,zaI (zdO.1 b)]
  have g:a.tmps.getD d undef=undef:=by
   have:¬d<a.tmps.size:=by rw[h.size];exact b
   simp[Array.getD,this]
  rw[e,g];exact EL
def TOn.eval(h:TOn ρ G w (· ∈o.looksAt ops.toArray) t a):∀x∈o.op.operands,RV ρ G w (dS t x) (a.eval x):=by
 intro x b;cases x with
 |tmp d=>
  exact h.any d (zc5 _ (List.mem_filterMap.2 ⟨.tmp d,by simpa using b,rfl⟩))
 |const v=>simp[dS,Act.eval,RV]
 |global g=>simp[dS,Act.eval,RV]
 |func f=>simp[dS,Act.eval,RV,RVs]
def TOn.wanted {b:Bool}(h:TOn ρ G w (· ∈o.looksAt ops.toArray) t a)(hw:uM ops t o=some b):Region.wanted o (yielded ops.toArray a.tmps)=b:=by
 unfold uM at hw;unfold Region.wanted;cases v:o.guard with
 |none=>rw[v]at hw;simpa using hw
 |some C=>
  obtain⟨j,k⟩:=C;rw[v]at hw;simp only at hw;cases u:ops[j]? with
  |none=>rw[u]at hw;cases hw
  |some p=>
   rw[u]at hw;simp only at hw;cases hd:p.dst with
   |none=>rw[hd]at hw;cases hw
   |some d=>
    rw[hd]at hw;simp only at hw;have m:d∈o.looksAt ops.toArray:=by
     unfold Oper.looksAt;refine zdv _ ?_;simp[v,u,hd]
    cases g:t[d]? with
    |none=>rw[g]at hw;cases hw
    |some x=>
     have n:d<t.length:=(zaf.1 g).1;have e:=h.get d m n;have D:t.getD d aY=x:=by simp[List.getD,g]
     have q:d<a.tmps.size:=by rw[h.size];exact n
     have y:a.tmps[d]?=some (a.tmps.getD d undef):=by simp[Array.getD,q]
     rw[D]at e;rw[g]at hw;have A:yielded ops.toArray a.tmps j=(match a.tmps.getD d undef with|.bool b=>some b|_=>none):=by
      unfold yielded;have:(ops.toArray[j]?).bind (·.dst)=some d:=by simp[u,hd]
      rw[this,za4,y];cases a.tmps.getD d undef <;> rfl
     simp only;split at hw <;> first|(cases hw;done)|skip
     ·rename_i i;cases i;simp only[RV]at e;rw[A,e];simp only[zaa]at hw;rw[<-hw];rename_i E;cases E <;> cases k <;> rfl
     ·rename_i i;cases i;simp only[RV,RVs]at e;obtain⟨cs,z,_⟩:=e;rw[A,z]
      simpa using hw
def TOn.put {D:Tmp->Prop}(h:TOn ρ G w D t a)(d:Option Tmp){cv:Value}(hv:RV ρ G w v cv):TOn ρ G w D (wF t d v) (a.put d cv):=by
 refine⟨?_,λx k b=>?_⟩
 ·rw[mD,<-h.size];cases d <;> simp[Act.put]
 ·rw[mD]at b;have g:x<a.tmps.size:=by rw[h.size];exact b
  cases d with
  |none=>exact h.get x k b
  |some d=>
   by_cases e:d=x
   ·subst e;have i:(wF t (some d) v).getD d aY=v:=by simp[wF,List.getD,b]
    have j:(a.put (some d) cv).tmps.getD d undef=cv:=by simp[Act.put,Array.getD,g]
    rw[i,j];exact hv
   ·have i:(wF t (some d) v).getD x aY=t.getD x aY:=by simp[wF,List.getD,e]
    have j:(a.put (some d) cv).tmps.getD x undef=a.tmps.getD x undef:=by
     simp[Act.put,zbA e]
    rw[i,j];exact h.get x k b
def TOn.keep {ρ':Ren}{w':World}{D:Tmp->Prop}(h:TOn ρ H.gen w D t a)(E:Ext ρ H w ρ' H' w'):TOn ρ' H'.gen w' D t a:=
 ⟨h.size,λd hd b=>RV.mono E.toMono _ _ (h.get d hd b)⟩
def TOn.sub {D D':Tmp->Prop}(h:TOn ρ G w D t a)(b:∀d,D' d->D d):TOn ρ G w D' t a:=⟨h.size,λd hd=>h.get d (b d hd)⟩
def Np(g:qQ P C){lo:Bool}(h:mV P C ops lo o t H=some (v,H'))(R:Rel ρ H w)(T:TOn ρ H.gen w (· ∈o.looksAt ops.toArray) t a){i:Nat}(j:ops[i]?=some o)
  {K:Act->World->Prop} {Q:Exit->Act->World->Prop} (b:∀cv ρ' w',Rel ρ' H' w'->RV ρ' H'.gen w' v cv->Ext ρ H w ρ' H' w'->K (a.put o.dst cv) w'):wpOp P ops.toArray Q i K a w:=by
 unfold wpOp;have d:ops.toArray[i]?=some o:=by simpa using j
 simp only[d];unfold mV at h;split at h <;> first|(cases h;done)|skip
 ·rename_i hw;rw[T.wanted hw,if_pos rfl];left;split at h
  ·unfold opG at h;split at h <;> first|(cases h;done)|skip
   rename_i u H1 k;simp only[zaa,zad]at h;obtain⟨rfl,rfl⟩:=h;exact Nh g k (H:=H.guard) ⟨R.out,R.obj,R.inj,R.gl⟩ T.eval λcv ρ' w' r e x=>
    b cv ρ' w' ⟨r.out,r.obj,r.inj,r.gl⟩ e ⟨x.next,x.mono,x.same,x.kept,x.range,x.size,x.frame,x.shape,x.os,x.tape,x.output⟩
  ·exact Nh g h R T.eval b
 ·rename_i hw;rw[T.wanted hw];simp only[zaa,zad]at h;obtain⟨rfl,rfl⟩:=h;simp only[zal,if_false];exact b undef ρ w R EL (Ext.refl _ _ _)
def Qe {X:Prop}(h:o.wp P a w (λ_ _=>X) (λ_ _ _=>False)):X:=by
 unfold Oper.wp at h;generalize (execOp a.eval o).run P w=r at h;cases r with
 |ok n w'=>
  cases n <;> simp only[Oper.upon]at h <;> first|exact h|skip
  ·obtain⟨e,w',d,b,_⟩:=h [];cases e <;> simp only[LetsOut,exists_false]at b;exact b
  ·obtain⟨_,_,b,_⟩:=h (Frame.ofRow P "" #[] .normal) []
   exact b
 |halt x w'=>cases x <;> exact False.elim h
def TM {X:Prop}{i:Nat}{arr:Array Oper}(h:wpOp P arr (λ_ _ _=>False) i (λ_ _=>X) a w):X:=by
 unfold wpOp at h;split at h
 ·exact h
 ·split at h
  ·rcases h with h|⟨_,a,w,h⟩
   ·exact Qe h
   ·exact h.elim
  ·exact h
def zf(g:qQ P C):∀(is:List Nat) (t:gG) (H:ah) (t0:gG) (H0:ah) (ρ:Ren) (w:World) (a:Act),iW P C ops is t H=some (t0,H0)->Rel ρ H w->TOn ρ H.gen w (λ_=>True) t a->
  ∃ρ' w' a',Rel ρ' H0 w'/\TOn ρ' H0.gen w' (λ_=>True) t0 a'
 |[],t,H,t0,H0,ρ,w,a,h,R,T=>by
  simp only[iW,zaa,zad]at h;obtain⟨rfl,rfl⟩:=h;exact⟨ρ,w,a,R,T⟩
 |i::is,t,H,t0,H0,ρ,w,a,h,R,T=>by
  simp only[iW]at h;cases j:ops[i]? with
  |none=>rw[j]at h;cases h
  |some o=>
   rw[j]at h;simp only at h;cases b:opA P C t o H with
   |none=>rw[b]at h;cases h
   |some r=>
    rw[b]at h;simp only at h;obtain⟨ρ',w',cv,d,e⟩:∃ρ' w' cv,Rel ρ' r.2 w'/\TOn ρ' r.2.gen w' (λ_=>True) (wF t o.dst r.1) (a.put o.dst cv):=
     Qe (Nh g b R ((T.sub (D':=(· ∈o.looksAt ops.toArray)) λ_ _=>trivial).eval) (Q:=λ_ _ _=>False)
      λcv ρ' w' d e k=>⟨ρ',w',cv,d,(T.keep k).put _ e⟩)
    exact zf g is _ _ t0 H0 ρ' w' _ h d e
def J6(i:qQ P C){t0:gG}{H0:ah}{T:Nat->gG}{Hp:Nat->ah}{val:Nat->AV}(S:Cc P C ops t0 H0 T Hp val)(R:Rel ρ H0 w)(j:TOn ρ H0.gen w (λ_=>True) t0 a):
  ∀p,p<=ops.length->∃ρ' w' a',Rel ρ' (Hp p) w'/\TOn ρ' (Hp p).gen w' (λ_=>True) (T p) a':=by
 intro p
 induction p with
 |zero=>intro _;rw[S.zero.1,S.zero.2];exact⟨ρ,w,a,R,j⟩
 |succ p k=>
  intro u;obtain⟨ρ1,w1,m,g,b⟩:=k V;cases hc:cst ops p with
  |true=>obtain⟨d,e⟩:=S.skip p V hc;rw[d,e];exact⟨ρ1,w1,m,g,b⟩
  |false=>
   have h:ops[p]?=some (ops[p]' V):=zab _;obtain⟨d,e⟩:=S.step p _ h hc;rw[e];exact TM (Np i d g (b.sub λ_ _=>trivial) h (Q:=λ_ _ _=>False) λcv ρ' w' n o q=>⟨ρ',w',_,n,(b.keep q).put _ o⟩)
def Qg {x:AV}{n r:Nat}(h:NV n x)(hw:bQ x=some r):r<n:=by
 cases x <;> simp only[bQ]at hw <;> first|(cases hw;done)|(cases hw;simpa only[NV]using h)
def VN {n r:Nat}(h:∀x∈o.op.operands,NV n (dS t x))(hw:lK t o.op=some r):r<n:=by
 obtain⟨dst,op,b,d,after,guard⟩:=o;cases op <;> simp only[lK]at hw <;> first|(cases hw;done)|skip
 case call c=>
  split at hw
  ·rename_i x e;refine Qg (h x ?_) hw;have:x∈c.args:=by
    have:x∈c.args.toList:=by rw[e];simp
    simpa using this
   simp[Op.operands,Call.operands,this]
  ·cases hw
 all_goals exact Qg (h _ (by simp[Op.operands])) hw
def aep {n:Nat}(h:∀d,NV n (t.getD d aY))(x:Operand):NV n (dS t x):=by
 cases x with
 |tmp d=>exact h d
 |_=>simp[dS,NV,NVs]
end
end
end Go.Proofs.YtgplhpgkompkmaaGreat
