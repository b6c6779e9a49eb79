/-
  Own work: an interpreter over named blocks, its soundness, and what the functions of this seat compute (part 1 of 12).
  Conditions: those of the statement alone.
-/
import Derived.Calls
import Derived.Orders
import Derived.Laws.World
import Derived.Laws.Entries
import Derived.Laws.Slices
import Derived.Laws.Append
import Derived.Laws.MakeOwn
import Derived.Laws.BytesString
set_option linter.all false
set_option linter.unusedSectionVars false
set_option linter.unusedVariables false
set_option linter.unusedSimpArgs false
namespace Go.Proofs.YtljogojaihgdlaaGreat
def V{p:Prop}(h:p:=by omega):p:=h
def Zs{p:Prop}(h:p:=by omega):p:=h
def O{p:Prop}(h:p:=by simp):p:=h
def ZZ{p:Prop}(h:p:=by simp):p:=h
noncomputable section
def zaa:=@Option.some.injEq.{0}
def zab:=@List.getElem?_eq_getElem.{0}
def zac:=@Nat.le_refl
def zad:=@Prod.mk.injEq.{0,0}
def zae:=@List.getElem?_eq_some_iff.{0}
def zaf:=@Bool.not_true
def zah:=@Bool.and_eq_true
def zai:=@Bool.false_eq_true
def zaj:=@List.mem_cons.{0}
def zak:=@Option.map_some.{0,0}
def zal:=@List.length_cons.{0}
def zam:=@Bool.not_false
def zan:=@List.mem_of_getElem?.{0}
def zao:=@List.length_nil.{0}
def zaq:=@List.length_append.{0}
def zar:=@Int.toNat_natCast
def zas:=@List.getD_eq_getElem?_getD.{0}
def zat:=@List.eq_nil_of_length_eq_zero.{0}
def zau:=@List.length_take.{0}
def zav:=@Option.getD_some.{0}
def zaw:=@List.take_of_length_le.{0}
def zax:=@List.map_cons.{0,0}
def zay:=@Nat.lt_of_lt_of_le
def zaz:=@Nat.le_trans
def zaA:=@List.not_mem_nil.{0}
def zaB:=@List.getElem?_take.{0}
def zaC:=@List.flatMap_cons.{0,0}
def zaD:=@Nat.mul_le_mul_right
def zaE:=@List.length_map.{0,0}
def zaF:=@List.getElem?_drop.{0}
def zaG:=@List.getElem?_eq_none.{0}
def zaH:=@List.getElem?_map.{0,0}
def zaI:=@List.mem_map.{0,0}
def zaJ:=@List.getElem?_append_left.{0}
def zaK:=@Option.isSome_none.{0}
def zaL:=@Option.isSome_some.{0}
def zaM:=@List.nil_append.{0}
def zaN:=@Bool.true_and
def zaO:=@List.mem_append.{0}
def zaP:=@Bool.false_and
def zaQ:=@Nat.lt_or_ge
def zaR:=@List.length_drop.{0}
def zaS:=@List.drop_zero.{0}
def zaT:=@List.getElem?_cons_zero.{0}
def zaU:=@List.mem_singleton.{0}
def zaV:=@List.drop_of_length_le.{0}
def zaW:=@List.mem_range
def zaX:=@Option.some.inj.{0}
def zaY:=@Nat.zero_le
def zaZ:=@List.all_eq_true.{0}
def za0:=@List.mem_flatMap.{0,0}
def za1:=@List.nodup_cons.{0}
def za2:=@Int.le_refl
def za3:=@List.getElem?_append_right.{0}
def za4:=@Bool.not_eq_true'
def za5:=@Option.getD_none.{0}
def za6:=@Nat.zero_add
def za7:=@Option.bind_some.{0,0}
def za8:=@Nat.le_succ
def za9:=@List.mem_cons_of_mem.{0}
def zba:=@List.mem_of_find?_eq_some.{0}
def zbb:=@List.ext_getElem?.{0}
def zbc:=@List.append_assoc.{0}
def zbd:=@List.getElem?_set_self.{0}
def zbe:=@List.getElem?_mapIdx.{0,0}
def zbf:=@List.getElem?_cons_succ.{0}
def zbg:=@List.pairwise_cons.{0}
def zbh:=@Nat.one_mul
def zbi:=@List.map_append.{0,0}
def zbj:=@List.all_append.{0}
def zbk:=@Bool.or_eq_true
def zbl:=@List.getElem?_set_ne.{0}
def zbm:=@List.append_nil.{0}
def zbn:=@Array.getElem?_push.{0}
def zbo:=@Nat.min_eq_left
def zbp:=@List.mem_filter.{0}
def zbq:=@List.cons_append.{0}
def zbr:=@Nat.add_zero
def zbs:=@List.mem_iff_getElem?.{0}
def zbt:=@List.map_congr_left.{0,0}
def zbu:=@List.drop_eq_getElem_cons.{0}
def zbv:=@Nat.add_mul
def zbw:=@List.mapM_cons.{0,0,0}
def zbx:=@List.sum_cons.{0}
def zby:=@BitVec.xor_assoc
def zbz:=@List.getElem?_range
def zbA:=@Array.getElem?_setIfInBounds_ne.{0}
def zbB:=@List.getElem?_replicate.{0}
def zbC:=@Array.getElem?_eq_some_iff.{0}
def zbD:=@Nat.zero_mul
def zbE:=@List.findIdx?_eq_some_iff_findIdx_eq.{0}
def zbF:=@Array.getElem?_eq_getElem.{0}
def zbG:=@List.flatMap_append.{0,0}
def zbH:=@Nat.le_succ_of_le
def zbI:=@Bool.false_or
def zbJ:=@List.map_nil.{0,0}
def zbK:=@Nat.eq_of_beq_eq_true
def zbL:=@List.drop_drop.{0}
def zbM:=@Nat.succ_mul
def zbN:=@Int.mul_le_mul
def zbO:=@Nat.mul_one
def zbP:=@List.find?_eq_none.{0}
def zbQ:=@Bool.true_eq_false
def zbR:=@Nat.eq_of_mul_eq_mul_right
def zbS:=@Int.tmod_eq_emod_of_nonneg
def zbT:=@List.foldl_cons.{0,0}
def zbU:=@List.cons.injEq.{0}
def zbV:=@List.mem_or_eq_of_mem_set.{0}
def zbW:=@List.take_append_of_le_length.{0}
def zbX:=@List.filter_cons.{0}
def zbY:=@List.eq_of_mem_replicate.{0}
def zbZ:=@List.take_take.{0}
def zb0:=@Int.mul_nonneg
def zb1:=@List.flatMap_eq_nil_iff.{0,0}
def zb2:=@List.nodup_append.{0}
def zb3:=@List.find?_some.{0}
def zb4:=@Nat.ne_of_lt
def zb5:=@Option.map_eq_some_iff.{0,0}
def zb6:=@Nat.add_assoc
def zb7:=@Int.fdiv_eq_ediv_of_nonneg
def zb8:=@Bool.and_false
def zb9:=@List.set_cons_zero.{0}
def zca:=@List.set_cons_succ.{0}
def zcb:=@List.length_replicate.{0}
def zcc:=@List.length_mapIdx.{0,0}
def zcd:=@List.range_succ
def zce:=@Nat.add_right_cancel_iff
def zcf:=@List.length_set.{0}
def zcg:=@BitVec.getLsbD_shiftLeft
def zch:=@Int.emod_nonneg
def zci:=@List.forall_mem_cons.{0}
def zcj:=@Bool.and_self
def zck:=@BitVec.eq_of_getLsbD_eq
def zcl:=@Array.toList_append.{0}
def zcm:=@Option.bind_eq_bind.{0}
def zcn:=@Array.toList_inj.{0}
def zco:=@Nat.mod_eq_of_lt
def zcp:=@List.drop_take.{0}
def zcq:=@List.filter_append.{0}
def zcr:=@Array.getD_eq_getD_getElem?.{0}
def zcs:=@BitVec.toNat_ofNat
def zct:=@Int.emod_lt_of_pos
def zcu:=@List.take_append_drop.{0}
def zcv:=@List.length_filter_le.{0}
def zcw:=@List.singleton_append.{0}
def zcx:=@List.pairwise_map.{0,0}
def zcy:=@Bool.not_eq_false
def zcz:=@List.take_add_one.{0}
def zcA:=@List.getElem?_append.{0}
def zcB:=@List.mem_of_mem_take.{0}
def zcC:=@List.mem_append_left.{0}
def zcD:=@List.range_eq_range'
def zcE:=@Nat.shiftRight_eq_div_pow
def zcF:=@Nat.testBit_or
def zcG:=@List.any_eq_true.{0}
def zcH:=@List.mem_of_mem_eraseIdx.{0}
def zcI:=@List.length_eq_zero_iff.{0}
def zcJ:=@List.map_take.{0,0}
def zcK:=@List.all_cons.{0}
def zcL:=@Bool.and_true
def zcM:=@Array.foldl_toList.{0,0}
def zcN:=@Array.all_eq_true'.{0}
def zcO:=@Option.pure_def.{0}
def zcP:=@Option.isNone_none.{0}
def zcQ:=@BitVec.xor_self
def zcR:=@List.findIdx?_cons.{0}
def zcS:=@List.sum_append.{0}
def zcT:=@Option.toList_some.{0}
def zcU:=@Nat.not_lt_zero
def zcV:=@Array.getElem?_eq_none.{0}
def zcW:=@List.getElem?_set.{0}
def zcX:=@List.length_range
def zcY:=@Array.getElem?_toList.{0}
def zcZ:=@List.eraseIdx_sublist.{0}
def zc0:=@List.mem_append_right.{0}
def zc1:=@Bool.true_or
def zc2:=@List.map_map.{0,0,0}
def zc3:=@Bool.and_eq_false_iff
def zc4:=@List.getElem_mem.{0}
def zc5:=@List.range'_succ
def zc6:=@List.mem_iff_getElem.{0}
def zc7:=@BitVec.getLsbD_ushiftRight
def zc8:=@Nat.testBit_two_pow
def zc9:=@Int.toNat_of_nonneg
def zda:=@Option.map_none.{0,0}
def zdb:=@Nat.mul_eq_zero
def zdc:=@List.getElem?_eq_none_iff.{0}
def zdd:=@Int.le_trans
def zde:=@Option.isSome_iff_exists.{0}
def zdf:=@Int.tmod_lt_of_pos
def zdg:=@List.nodup_nil.{0}
def zdh:=@List.eraseIdx_cons_succ.{0}
def zdi:=@Array.size_append.{0}
def zdj:=@List.filter_congr.{0}
def zdk:=@List.foldl_append.{0,0}
def zdl:=@List.all_eq_false.{0}
def zdm:=@List.set_eq_take_append_cons_drop.{0}
def zdn:=@Nat.lt_succ_self
def zdo:=@Array.toList_map.{0,0}
def zdp:=@Bool.not_eq_true
def zdq:=@List.drop_append.{0}
def zdr:=@List.perm_middle.{0}
def zds:=@Nat.testBit_eq_decide_div_mod_eq
def zdu:=@Nat.shiftLeft_eq
def zdv:=@List.flatMap_nil.{0,0}
def zdw:=@List.getElem?_zipWith.{0,0,0}
def zdx:=@List.perm_append_comm.{0}
def zdy:=@BitVec.xor_zero
def zdz:=@BitVec.ofInt_natCast
def zdA:=@List.all_nil.{0}
def zdB:=@Int.ediv_nonneg
def zdC:=@List.getElem_of_mem.{0}
def zdD:=@Array.toList_zipIdx.{0}
def zdE:=@List.length_pos_iff.{0}
def zdF:=@Option.some_ne_none.{0}
def zdG:=@List.take_zero.{0}
def zdH:=@List.take_succ.{0}
def zdI:=@Bool.false_ne_true
def zdJ:=@List.filter_filter.{0}
def zdK:=@BitVec.ofNat_toNat
def zdL:=@Bool.or_false
def zdM:=@List.map_drop.{0,0}
def zdN:=@Bool.eq_false_iff
def zdO:=@List.find?_append.{0}
def zdP:=@List.flatten_cons.{0}
def zdQ:=@Nat.not_lt
structure Fix where
 blocks:List Nat
 ok:World->Prop
 frame:∀w w':World,(∀b∈blocks,w'.heap[b]?=w.heap[b]?)->ok w->ok w'
def fx:Fix:=⟨[],λ_=>True,λ_ _ _ h=>h⟩
inductive AV where
 |s (v:Value)
 |ref (r g off:Nat)
 |sl (r g off esz len cap:Nat) (ex:Bool)
 |ip (cells:List AV)
 |vs (n esz:Nat) (cells:List AV)
 |mp (r:Nat)
 |fn (f:Fn) (first captured:List AV)
 |agg (cells:List AV)
 |tup (cells:List AV)
 deriving Inhabited
inductive gu where
 |blk (g:Nat) (ty:TypeId) (cells:List AV)
 |map (k:IntKind) (es:List (Int × AV))
 deriving Inhabited
def gu.gen:gu->Nat
 |.blk g _ _=>g
 |.map _ _=>0
structure ah where
 next:Nat
 base:Nat
 get:Nat->gu
def ah.gen(H:ah)(r:Nat):Nat:=(H.get r).gen
def ah.put(H:ah)(r:Nat)(o:gu):ah:={ H with get:=λx=>if x=r then o else H.get x }
def ah.new(H:ah)(o:gu):ah:={ next:=H.next+1,base:=H.base,get:=λx=>if x=H.next then o else H.get x }
def ah.guard(H:ah):ah:={ H with base:=H.next }
def ah.empty:ah:={ next:=0,base:=0,get:=λ_=>.blk 0 0 [] }
abbrev Ren:=Nat->Option (Nat × Nat)
def Imm(ρ:Ren)(b:Nat):Prop:=∀r d,ρ r≠some (b,d)
mutual
def RV(ρ:Ren)(G:Nat->Nat)(w:World):AV->Value->Prop
 |.s v,cv=>cv=v
 |.ref r g off,cv=>∃a,cv=.pointer (some a)/\g<=G r/\(G r=g->∃b j,ρ r=some (b,j)/\a=⟨b,j+off,none⟩)
 |.sl r g off h len i ex,cv=>∃b o c,cv=.slice (some ⟨b,o,none⟩) len c/\len<=i/\i<=c/\(ex=true->c=i)/\g<=G r/\
   (G r=g->∃j e n,ρ r=some (b,j)/\(0<c->o=j+off)/\w.shape? b=some (e,n)/\o+c*h<=n)
 |.ip cells,cv=>∃b o,cv=.pointer (some ⟨b,o,none⟩)/\b<w.heap.size/\Imm ρ b/\RVc ρ G w cells b o
 |.vs n h cells,cv=>∃b o c,cv=.slice (some ⟨b,o,none⟩) n c/\n<=c/\cells.length=n*h/\b<w.heap.size/\Imm ρ b/\RVc ρ G w cells b o
 |.mp r,cv=>∃b,cv=.map (some b)/\(G r=0->ρ r=some (b,0))
 |.fn f first d,cv=>∃a c,cv=.func f a c/\RVs ρ G w first a.toList/\RVs ρ G w d c.toList
 |.agg cells,cv=>∃cs,cv=.agg cs/\RVs ρ G w cells cs.toList
 |.tup cells,cv=>∃cs,cv=.tuple cs/\RVs ρ G w cells cs.toList
def RVs(ρ:Ren)(G:Nat->Nat)(w:World):List AV->List Value->Prop
 |[],l=>l=[]
 |x::xs,l=>∃y b,l=y::b/\RV ρ G w x y/\RVs ρ G w xs b
def RVc(ρ:Ren)(G:Nat->Nat)(w:World):List AV->Nat->Nat->Prop
 |[],_,_=>True
 |x::xs,b,o=>(∃v,w.cell? ⟨b,o,none⟩=some v/\RV ρ G w x v)/\RVc ρ G w xs b (o+1)
end
def RVm(ρ:Ren)(G:Nat->Nat)(w:World)(k:IntKind):List (Int × AV)->List MapEntry->Prop
 |[],l=>l=[]
 |(n,x)::xs,l=>∃e b,l=e::b/\e.key=.int k n/\RV ρ G w x e.val/\RVm ρ G w k xs b
def Born(es:List MapEntry)(dh:Nat):Prop:=(∀x∈es,x.born<dh)/\(es.map (·.born)).Nodup
def iC:Nat:=1000000000
def Xct(ty e sh n l:Nat):Prop:=(ty<iC->e=ty/\sh=0/\n=l)/\(iC<=ty->ty<iC+iC->ty=e+iC/\sh=0)
def Xct.low {e n l:Nat}(h:e<iC)(hn:n=l):Xct e e 0 n l:=⟨λ_=>⟨rfl,rfl,hn⟩,λh1=>absurd h1 (Nat.not_le.2 h)⟩
def Xct.grown {e n l:Nat}:Xct (e+iC) e 0 n l:=⟨λh=>absurd h (zdQ.2 (Nat.le_add_left _ _)),λ_ _=>⟨rfl,rfl⟩⟩
def Xct.void {e sh n l:Nat}:Xct (iC+iC) e sh n l:=⟨λh=>absurd h (zdQ.2 (Nat.le_add_left _ _)),λ_ h=>absurd h (Nat.lt_irrefl _)⟩
def grT(e ty off:Nat):Nat:=if(ty=e∨ty=e+iC)/\off=0 then e+iC else iC+iC
def ah5 {e ty off n l:Nat}:Xct (grT e ty off) e 0 n l:=by
 unfold grT;split
 ·exact Xct.grown
 ·exact Xct.void
def ah6 {e e' ty sh off n l n' b:Nat}(d:e<iC)(h:Xct ty e' sh n l):Xct (grT e ty off) e' (sh+off) n' b:=by
 unfold grT;split
 ·rename_i g;obtain⟨i,rfl⟩:=g;rcases i with rfl|rfl
  ·obtain⟨rfl,rfl,_⟩:=h.1 d;exact Xct.grown
  ·obtain⟨j,rfl⟩:=h.2 (Nat.le_add_left _ _) V;have:e'=e:=V
   subst this;exact Xct.grown
 ·exact Xct.void
def zA(ρ:Ren)(G:Nat->Nat)(w:World)(o:gu)(b sh:Nat):Prop:=
 match o with
 |.blk _ g cells=>∃cs e,w.heap[b]?=some (.cells cs e (0,0))/\sh+cells.length<=cs.size/\RVc ρ G w cells b sh/\Xct g e sh cs.size cells.length
 |.map k h=>∃d dh,w.heap[b]?=some (.map d dh)/\sh=0/\RVm ρ G w k h d.toList/\Born d.toList dh
def adb(ρ:Ren)(w:World):Prop:=(∀b∈fx.blocks,b<w.heap.size/\Imm ρ b)/\fx.ok w
structure Rel(ρ:Ren)(H:ah)(w:World):Prop where
 out:∀r,H.next<=r->ρ r=none/\H.gen r=0
 obj:∀r b sh,ρ r=some (b,sh)->zA ρ H.gen w (H.get r) b sh
 inj:∀r r' b sh sh',ρ r=some (b,sh)->ρ r'=some (b,sh')->r=r'
 gl:adb ρ w
structure Ext(ρ:Ren)(H:ah)(w:World)(ρ':Ren)(H':ah)(w':World):Prop where
 next:H.next<=H'.next
 mono:∀r,H.gen r<=H'.gen r
 same:∀r x,ρ r=some x->H'.gen r=H.gen r->ρ' r=some x
 kept:∀r,r<H.next->ρ r=none->ρ' r=none
 range:∀r b sh,ρ' r=some (b,sh)->w.heap.size<=b∨∃sh',ρ r=some (b,sh')
 size:w.heap.size<=w'.heap.size
 frame:∀b,b<w.heap.size->Imm ρ b->w'.heap[b]?=w.heap[b]?
 shape:∀b,b<w.heap.size->w'.shape? b=w.shape? b
 os:w'.os=w.os
 tape:w'.tape=w.tape
 output:w'.output=w.output
def adb.of {ρ ρ':Ren}{w w':World}(h:adb ρ w)(hs:w.heap.size<=w'.heap.size)(d:∀r b sh,ρ' r=some (b,sh)->w.heap.size<=b∨∃r' sh',ρ r'=some (b,sh'))(g:∀b,b<w.heap.size->Imm ρ b->w'.heap[b]?=w.heap[b]?):adb ρ' w':=by
 refine⟨λb hb=>?_,fx.frame w w' (λb hb=>g b (h.1 b hb).1 (h.1 b hb).2) h.2⟩;obtain⟨i,j⟩:=h.1 b hb;refine⟨zay i hs,λr sh e=>?_⟩;rcases d r b sh e with h|⟨r',sh',h⟩
 ·omega
 ·exact j r' sh' h
def adb.ext {ρ ρ':Ren}{H H':ah}{w w':World}(h:adb ρ w)(E:Ext ρ H w ρ' H' w'):adb ρ' w':=
 h.of E.size (λr b g e=>(E.range r b g e).imp id λ⟨d,h⟩=>⟨r,d,h⟩) E.frame
mutual
def AV.val?:AV->Option Value
 |.s v=>some v
 |.agg l=>(vals? l).map λvs=>.agg vs.toArray
 |.tup l=>(vals? l).map λvs=>.tuple vs.toArray
 |.ref ..=>none
 |.sl ..=>none
 |.ip ..=>none
 |.vs ..=>none
 |.mp ..=>none
 |.fn ..=>none
def vals?:List AV->Option (List Value)
 |[]=>some []
 |x::xs=>match x.val?,vals? xs with
  |some v,some vs=>some (v::vs)
  |_,_=>none
end
def AV.cells:AV->List AV
 |.agg l=>l
 |.s v=>v.cells.toList.map .s
 |x=>[x]
def AV.aP:AV->Bool
 |.agg _=>false
 |.tup _=>false
 |.s (.agg _)=>false
 |.s (.tuple _)=>false
 |_=>true
def bg:AV:=.tup []
def aO(cells:List AV)(off:Nat)(xs:List AV):List AV:=cells.take off++(xs++cells.drop (off+xs.length))
def jd {α:Type}(P:Program):Sem α->Option α
 |.pure a=>some a
 |.program k=>jd P (k P)
 |_=>none
def szT(P:Program)(t:TypeId):Option Nat:=(P.info? t).map (·.size)
def yZ(P:Program)(t:TypeId):Option Nat:=(P.info? t).map (·.bytes)
def akG(P:Program)(t:TypeId):Option Bool:=
 match P.underlying t with
 |some (.struct _)=>some true
 |some (.array _ _)=>some true
 |some _=>some false
 |none=>none
def Am(P:Program)(t:TypeId):Option TypeId:=
 match P.underlying t with
 |some (.slice e)=>some e
 |_=>none
def Ap(P:Program)(t:TypeId):Option Value:=if t<iC then(P.info? t).bind (·.zero) else none
def yR(P:Program)(t:TypeId):Option (List AV):=(Ap P t).map λv=>v.cells.toList.map .s
def Vb(P:Program)(t:TypeId)(i:Nat):Option Field:=
 match P.underlying t with
 |some (.struct b)=>b[i]?
 |_=>none
def JC(P:Program)(t:TypeId)(cells:List AV)(off:Nat):Option AV:=
 match akG P t,szT P t with
 |some true,some n=>if off+n<=cells.length then some (.agg ((cells.drop off).take n)) else none
 |some false,some _=>cells[off]?
 |_,_=>none
def fK(b:Nat->Option (Nat × Nat))(cells:List AV):List (Nat × AV)->Option (List AV)
 |[]=>some cells
 |(i,v)::rest=>
  match b i with
  |none=>none
  |some (off,size)=>
   if v.cells.length=size/\off+v.cells.length<=cells.length then fK b (aO cells off v.cells) rest else none
def PS(P:Program)(fs:Array Field)(i:Nat):Option (Nat × Nat):=
 match fs[i]? with
 |some f=>(szT P f.type).map λn=>(f.offset,n)
 |none=>none
def gy(P:Program)(t:TypeId)(b:List (Nat × AV)):Option AV:=
 match yR P t,P.underlying t with
 |some z,some (.struct d)=>if d.all (λf=>(szT P f.type).isSome) then(fK (PS P d) z b).map .agg else none
 |some z,some (.array _ e)=>match szT P e with
  |some n=>(fK (λi=>some (i*n,n)) z b).map .agg
  |none=>none
 |_,_=>none
def PU(P:Program)(t:TypeId)(x y:AV):Option Bool:=
 match P.underlying t with
 |some (.slice _)=>match x,y with
  |.sl ..,.s (.slice none _ _)=>some false
  |.vs ..,.s (.slice none _ _)=>some false
  |.s (.slice none _ _),.sl ..=>some false
  |.s (.slice none _ _),.vs ..=>some false
  |_,_=>none
 |some (.pointer _)=>match x,y with
  |.ref ..,.s (.pointer none)=>some false
  |.ip ..,.s (.pointer none)=>some false
  |.s (.pointer none),.ref ..=>some false
  |.s (.pointer none),.ip ..=>some false
  |_,_=>none
 |some (.map _ _)=>match x,y with
  |.mp ..,.s (.map none)=>some false
  |.s (.map none),.mp ..=>some false
  |_,_=>none
 |some (.func _ _ _)=>match x,y with
  |.fn ..,.s .nilFunc=>some false
  |.s .nilFunc,.fn ..=>some false
  |_,_=>none
 |_=>none
def qH(P:Program)(op:BinOp)(t:TypeId)(x y:AV):Option AV:=
 match x.val?,y.val? with
 |some a,some b=>(jd P (do eqGuard op t (.tmp 0) (.tmp 0) a b;binOp op t a b)).map .s
 |_,_=>match op with
  |.eql=>(PU P t x y).map λb=>.s (.bool b)
  |.neq=>(PU P t x y).map λb=>.s (.bool !b)
  |_=>none
def as7(P:Program)(op:BinOp)(t:TypeId)(x:AV):Option AV:=
 match x.val? with
 |some a=>(jd P (do eqGuard op t (.tmp 0) (.const .nilIface) a .nilIface;binOp op t a .nilIface)).map .s
 |none=>none
def Vd:Operand->Bool
 |.const .nilIface=>true
 |_=>false
def akH(P:Program)(op:BinOp)(t:TypeId)(b:Operand)(x y:AV):Option AV:=
 match Vd b with
 |true=>as7 P op t x
 |false=>qH P op t x y
def unA(P:Program)(op:UnOp)(x:AV):Option AV:=
 match x.val? with
 |some a=>(jd P (Op.unary op a)).map .s
 |none=>none
def uj(P:Program)(t:TypeId)(x:AV)(i:Nat):Option AV:=
 match Vb P t i with
 |some f=>match szT P f.type with
  |some (_+1)=>match x with
   |.ref r g off=>some (.ref r g (off+f.offset))
   |.ip cells=>some (.ip (cells.drop f.offset))
   |_=>none
  |_=>none
 |none=>none
def PV(P:Program)(t:TypeId)(x:AV)(i:Nat):Option AV:=
 match Vb P t i,x with
 |some f,.agg cells=>JC P f.type cells f.offset
 |some f,.s (.agg cs)=>JC P f.type (cs.toList.map .s) f.offset
 |_,_=>none
def PW(P:Program)(t:TypeId)(x i:AV):Option AV:=
 match P.underlying t,x,i with
 |some .string,.s (.string s),.s (.int _ n)=>match(if 0<=n then s[n.toNat]? else none) with
  |some b=>some (.s (.int .u8 b.toNat))
  |none=>none
 |some (.array len e),.agg cells,.s (.int _ n)=>match szT P e with
  |some m=>if 0<=n/\n<len then JC P e cells (n.toNat*m) else none
  |none=>none
 |some (.array len e),.s (.agg cs),.s (.int _ n)=>match szT P e with
  |some m=>if 0<=n/\n<len then JC P e (cs.toList.map .s) (n.toNat*m) else none
  |none=>none
 |_,_,_=>none
def aJ(x:AV)(i:Nat):Option AV:=
 match x with
 |.tup l=>l[i]?
 |.s (.tuple vs)=>(vs[i]?).map .s
 |_=>none
def ji:Option AV->Nat->Option Nat
 |none,d=>some d
 |some (.s (.int _ n)),_=>if 0<=n then some n.toNat else none
 |_,_=>none
def isNone {α:Type}:Option α->Bool
 |none=>true
 |some _=>false
def PX(P:Program)(t:TypeId)(x:AV)(lo hi d:Option AV):Option AV:=
 match P.underlying t with
 |some (.slice e)=>match x,szT P e with
  |.s (.slice none 0 0),some _=>match ji lo 0,ji hi 0,ji d 0 with
   |some 0,some 0,some 0=>if hi=none->d=none then some (.s (.slice none 0 0)) else none
   |_,_,_=>none
  |.sl r g off b len i ex,some m=>match ji lo 0,ji hi len,ji d i with
   |some l,some h,some k=>
    if b=m/\l<=h/\h<=k/\k<=i/\(hi=none->d=none) then some (.sl r g (off+l*b) b (h-l) (k-l) (ex || !isNone d)) else none
   |_,_,_=>none
  |.vs n b cells,some m=>match ji lo 0,ji hi n,d with
   |some l,some h,none=>if b=m/\l<=h/\h<=n then some (.vs (h-l) b ((cells.drop (l*b)).take ((h-l)*b))) else none
   |_,_,_=>none
  |_,_=>none
 |some .string=>match x,ji lo 0,d with
  |.s (.string s),some l,none=>match ji hi s.size with
   |some h=>if l<=h/\h<=s.size then some (.s (.string (s.extract l h))) else none
   |none=>none
  |_,_,_=>none
 |_=>none
abbrev AM(α:Type):=ah->Option (α × ah)
def fU {α:Type}(x:Option α):AM α:=λH=>x.map λv=>(v,H)
def bT:AV->Option Nat
 |.ref r _ _=>some r
 |.sl r _ _ _ _ _ _=>some r
 |.mp r=>some r
 |_=>none
def kS(f:Option gu->Option AV)(x:AV):AM AV:=λH=>(f ((bT x).map H.get)).map λv=>(v,H)
def ah7(P:Program)(t:TypeId)(x:AV)(b:Option gu):Option AV:=
 match x with
 |.ref _ g off=>match b with
  |some (.blk g' _ cells)=>if g'=g then JC P t cells off else none
  |_=>none
 |.ip cells=>JC P t cells 0
 |_=>none
def Tf(P:Program)(t:TypeId)(x:AV):AM AV:=kS (ah7 P t x) x
def PY(P:Program)(t:TypeId)(x v:AV):AM AV:=λH=>
 match x with
 |.ref r g off=>match H.get r with
  |.blk g' b cells=>
   if g'=g/\H.base<=r/\szT P t=some v.cells.length/\v.cells.all AV.aP=true/\off+v.cells.length<=cells.length then
    some (bg,H.put r (.blk g b (aO cells off v.cells)))
   else none
  |.map ..=>none
 |_=>none
def JV(P:Program)(t:TypeId):AM AV:=λH=>
 match yR P t with
 |some z=>if z.all AV.aP=true then some (.ref H.next 0 0,H.new (.blk 0 t z)) else none
 |none=>none
def gV(t:TypeId)(v:AV):AM AV:=λH=>
 if v.cells.all AV.aP=true/\t<iC then some (.ref H.next 0 0,H.new (.blk 0 t v.cells)) else none
def dN(z:List AV):Nat->List AV
 |0=>[]
 |n+1=>z++dN z n
def dK(P:Program)(t:TypeId)(len:Nat)(b:List (Nat × AV)):AM AV:=λH=>
 match Am P t with
 |some e=>match szT P e,yR P e with
  |some m,some z=>
   if z.length=m/\len*m<=16777216 then
    match fK (λi=>some (i*m,m)) (dN z len) b with
    |some cells=>if cells.all AV.aP=true then some (.sl H.next 0 0 m len len true,H.new (.blk 0 e cells)) else none
    |none=>none
   else none
  |_,_=>none
 |none=>none
def qP(P:Program)(t:TypeId)(len cap:AV):AM AV:=λH=>
 match Am P t,len,cap with
 |some e,.s (.int _ l),.s (.int _ c)=>match szT P e,yZ P e,yR P e with
  |some m,some by_,some z=>
   if z.length=m/\z.all AV.aP=true/\0<=l/\l<=c/\c<=140737488355328/\by_*c<=140737488355328 then
    some (.sl H.next 0 0 m l.toNat c.toNat true,H.new (.blk 0 e (dN z c.toNat)))
   else none
  |_,_,_=>none
 |_,_,_=>none
def akI:Option gu->Nat
 |some o=>o.gen
 |none=>0
def CB(P:Program)(t:TypeId)(x i:AV)(d:Option gu):Option AV:=
 match P.underlying t with
 |some (.slice e)=>match x with
  |.sl r g off b len _ _=>match i with
   |.s (.int _ n)=>if szT P e=some b/\akI d=g/\0<=n/\n<len then some (.ref r g (off+n.toNat*b)) else none
   |_=>none
  |.vs len b cells=>match i with
   |.s (.int _ n)=>if szT P e=some b/\0<=n/\n<len then some (.ip (cells.drop (n.toNat*b))) else none
   |_=>none
  |_=>none
 |some (.array len e)=>match szT P e with
  |some m=>match x with
   |.ref r g off=>match i with
    |.s (.int _ n)=>if 0<=n/\n<len then some (.ref r g (off+n.toNat*m)) else none
    |_=>none
   |.ip cells=>match i with
    |.s (.int _ n)=>if 0<=n/\n<len then some (.ip (cells.drop (n.toNat*m))) else none
    |_=>none
   |_=>none
  |none=>none
 |_=>none
def um(P:Program)(t:TypeId)(x i:AV):AM AV:=kS (CB P t x i) x
def aky(P:Program)(t:TypeId):Option (IntKind × TypeId):=
 match P.underlying t with
 |some (.map k e)=>match P.underlying k with
  |some (.int b)=>some (b,e)
  |_=>none
 |_=>none
def yh(P:Program)(t:TypeId):AM AV:=λH=>
 match aky P t with
 |some (k,_)=>some (.mp H.next,H.new (.map k []))
 |none=>none
def qY:List (Int × AV)->Int->Option AV
 |[],_=>none
 |(k,v)::b,n=>if k=n then some v else qY b n
def L6:List (Int × AV)->Int->AV->List (Int × AV)
 |[],n,x=>[(n,x)]
 |(k,v)::b,n,x=>if k=n then(n,x)::b else(k,v)::L6 b n x
def Aq:List (Int × AV)->Int->List (Int × AV)
 |[],_=>[]
 |(k,v)::b,n=>if k=n then b else(k,v)::Aq b n
def Y9(P:Program)(t:TypeId)(x i:AV)(ok:Bool)(d:Option gu):Option AV:=
 match aky P t with
 |some (k,e)=>match Ap P e with
  |some z=>match x with
   |.mp _=>match i with
    |.s (.int k' n)=>match d with
     |some (.map b g)=>
      if k'=k/\b=k then
       match qY g n with
       |some v=>some (if ok then .tup [v,.s (.bool true)] else v)
       |none=>some (if ok then .tup [.s z,.s (.bool false)] else .s z)
      else none
     |_=>none
    |_=>none
   |_=>none
  |none=>none
 |none=>none
def Ti(P:Program)(t:TypeId)(x i:AV)(ok:Bool):AM AV:=kS (Y9 P t x i ok) x
def uo(P:Program)(t:TypeId)(x i v:AV):AM AV:=λH=>
 match aky P t,x,i with
 |some (k,_),.mp r,.s (.int k' n)=>match H.get r with
  |.map b d=>if k'=k/\b=k/\H.base<=r then some (bg,H.put r (.map k (L6 d n v))) else none
  |_=>none
 |_,_,_=>none
def dH(H:ah):AV->Option (List AV)
 |.sl r g off d len _ _=>match H.get r with
  |.blk g' _ cells=>if g'=g/\off+len*d<=cells.length then some ((cells.drop off).take (len*d)) else none
  |.map ..=>none
 |.vs _ _ cells=>some cells
 |.s (.slice none _ _)=>some []
 |.s (.string s)=>some (s.data.toList.map λb=>.s (.int .u8 b.toNat))
 |_=>none
def kL:AV->Option Nat
 |.sl _ _ _ _ len _ _=>some len
 |.vs n _ _=>some n
 |.s (.slice none n _)=>some n
 |.s (.string s)=>some s.size
 |_=>none
def most:Nat:=140737488355328
def dZ(e:TypeId)(m by_:Nat)(x:AV)(n:Nat)(new:List AV):AM AV:=λH=>
 if new.length=n*m/\new.all AV.aP=true then
  match x with
  |.s (.slice none 0 0)=>
   if n=0 then some (x,H)
   else if n<=most/\n*by_<=most then some (.sl H.next 0 0 m n n false,H.new (.blk 0 (e+iC) new))
   else none
  |.sl r g off d len b ex=>match H.get r with
   |.blk g' h cells=>
    if d=m/\g'=g/\off+len*m<=cells.length then
     if n=0 then some (x,H)
     else if len+n<=b then
      (if H.base<=r/\off+(len+n)*m<=cells.length then some (.sl r g off m (len+n) b ex,H.put r (.blk g h (aO cells (off+len*m) new))) else none)
     else if len+n<=most/\(len+n)*by_<=most then
      if ex then some (.sl H.next 0 0 m (len+n) (len+n) false,H.new (.blk 0 (e+iC) ((cells.drop off).take (len*m)++new)))
      else if H.base<=r then some (.sl r (g+1) 0 m (len+n) (len+n) false,H.put r (.blk (g+1) (grT e h off) ((cells.drop off).take (len*m)++new)))
      else none
     else none
    else none
   |.map ..=>none
  |_=>none
 else none
def L8(P:Program)(t u:TypeId)(x y:AV):AM AV:=λH=>
 match Am P t,P.underlying u with
 |some e,some d=>match szT P e,yZ P e,yR P e with
  |some m,some by_,some z=>
   if z.length=m then
    match d with
    |.int _=>match y with
     |.s (.int _ n)=>if 0<=n/\n<=most/\n*by_<=most then dZ e m by_ x n.toNat (dN z n.toNat) H else none
     |_=>none
    |_=>match kL y,dH H y with
     |some n,some new=>dZ e m by_ x n new H
     |_,_=>none
   else none
  |_,_,_=>none
 |_,_=>none
def adg(P:Program)(t:TypeId)(x y:AV):AM AV:=λH=>
 match Am P t with
 |some e=>match szT P e,kL x,kL y,dH H y with
  |some m,some d,some n,some new=>
   let k:=min n d
   if new.length=n*m/\new.all AV.aP=true then
    if k=0 then(match x with|.s (.string _)=>none|_=>some (.s (.int .i64 0),H)) else
    match x with
    |.sl r g off b len _ _=>match H.get r with
     |.blk g' h cells=>
      if b=m/\g'=g/\H.base<=r/\off+len*m<=cells.length then
       some (.s (.int .i64 k),H.put r (.blk g h (aO cells off (new.take (k*m)))))
      else none
     |.map ..=>none
    |_=>none
   else none
  |_,_,_,_=>none
 |none=>none
def Ve(P:Program)(t:TypeId)(x:AV):AM AV:=λH=>
 match Am P t with
 |some e=>match szT P e,yR P e,x with
  |some m,some z,.sl r g off b len _ _=>
   if len=0 then some (.tup [],H) else
   match H.get r with
   |.blk g' d cells=>
    if b=m/\g'=g/\H.base<=r/\z.length=m/\z.all AV.aP=true/\off+len*m<=cells.length then
     some (.tup [],H.put r (.blk g d (aO cells off (dN z len))))
    else none
   |.map ..=>none
  |some _,some _,.s (.slice none _ _)=>some (.tup [],H)
  |_,_,_=>none
 |none=>none
def L9(P:Program)(t:TypeId)(x i:AV):AM AV:=λH=>
 match aky P t,x,i with
 |some (k,_),.mp r,.s (.int k' n)=>match H.get r with
  |.map b d=>if k'=k/\b=k/\H.base<=r then some (.tup [],H.put r (.map k (Aq d n))) else none
  |_=>none
 |_,_,_=>none
def apU(P:Program)(t:TypeId)(x:AV)(b:Option gu):Option AV:=
 match P.underlying t with
 |some (.slice _)=>match x with
  |.sl _ _ _ _ len _ _=>some (.s (.int .i64 len))
  |.vs n _ _=>some (.s (.int .i64 n))
  |.s (.slice _ n _)=>some (.s (.int .i64 n))
  |_=>none
 |some .string=>match x with
  |.s (.string s)=>some (.s (.int .i64 s.size))
  |_=>none
 |some (.map _ _)=>match x with
  |.mp _=>match b with
   |some (.map _ d)=>some (.s (.int .i64 d.length))
   |_=>none
  |.s (.map none)=>some (.s (.int .i64 0))
  |_=>none
 |_=>none
def akJ(P:Program)(t:TypeId)(x:AV):AM AV:=kS (apU P t x) x
def afJ(P:Program)(t:TypeId)(x:AV):Option AV:=
 match P.underlying t with
 |some (.slice _)=>match x with
  |.sl _ _ _ _ _ b true=>some (.s (.int .i64 b))
  |.s (.slice none _ c)=>some (.s (.int .i64 c))
  |_=>none
 |_=>none
def pR:List AV->Option (List Int)
 |[]=>some []
 |x::xs=>match x with
  |.s (.int .u8 n)=>match pR xs with
   |some l=>some (n::l)
   |none=>none
  |_=>none
def PZ(b:List Int):ByteArray:=b.foldl (λs n=>s.push (UInt8.ofNat n.toNat)) ByteArray.empty
def akz(x:AV)(d:Option gu):Option ByteArray:=
 match x with
 |.sl _ g off b len _ _=>if b=1 then match d with
   |some (.blk g' _ cells)=>if g'=g/\off+len*b<=cells.length then(pR ((cells.drop off).take (len*b))).map PZ else none
   |_=>none
  else none
 |.vs _ b cells=>if b=1 then(pR cells).map PZ else none
 |.s (.slice none _ _)=>some ByteArray.empty
 |_=>none
def Gt(P:Program)(src dst:TypeId):Bool:=
 match P.underlying src,P.underlying dst with
 |some (.slice e),some .string=>match P.underlying e with
  |some (.int .u8)=>true
  |_=>false
 |_,_=>false
def Ar(P:Program)(src dst:TypeId)(x:AV)(b:Option gu):Option AV:=
 if Gt P src dst=true then(akz x b).map λs=>.s (.string s)
 else match x.val? with
  |some v=>(jd P (convert src dst v)).map .s
  |none=>none
def kM(P:Program)(src dst:TypeId)(x:AV):AM AV:=kS (Ar P src dst x) x
def bV(H:ah)(n:Nat):Nat->AV->Option AV
 |0,_=>none
 |d+1,x=>match x with
  |.s v=>some (.s v)
  |.ref r g off=>if r<n then some (.ref r g off) else none
  |.mp r=>if r<n then some (.mp r) else none
  |.sl r g off b len e ex=>
   if r<n then some (.sl r g off b len e ex)
   else match dH H (.sl r g off b len e ex) with
    |some cells=>(cells.mapM (bV H n d)).map λl=>.vs len b l
    |none=>none
  |.ip cells=>(cells.mapM (bV H n d)).map .ip
  |.vs k b cells=>(cells.mapM (bV H n d)).map (.vs k b)
  |.fn f a c=>match a.mapM (bV H n d),c.mapM (bV H n d) with
   |some a,some c=>some (.fn f a c)
   |_,_=>none
  |.agg cells=>(cells.mapM (bV H n d)).map .agg
  |.tup cells=>(cells.mapM (bV H n d)).map .tup
abbrev aF:=FuncId->List AV->AM AV
abbrev gB:=List AV
def dU(t:gB):Operand->AV
 |.tmp i=>t.getD i bg
 |.const v=>.s v
 |.global g=>.s (.pointer (some ⟨g,0,none⟩))
 |.func f=>.fn (.func f) [] []
def wV(t:gB)(dst:Option Tmp)(v:AV):gB:=
 match dst with
 |some d=>t.set d v
 |none=>t
def nO(P:Program)(f:FuncId):Bool:=
 match P.funcs[f]? with
 |some fn=>!(fn.name=="runtime.NumGoroutine") && fn.body.isSome
 |none=>false
def tJ(P:Program)(C:aF)(f:AV)(args:List AV):AM AV:=
 match f with
 |.fn (.func f) first b=>if nO P f=true then C f (first++args++b) else λ_=>none
 |.s (.func (.func f) first b)=>if nO P f=true then C f (first.toList.map .s++args++b.toList.map .s) else λ_=>none
 |_=>λ_=>none
def cO(c a b:AV):Option AV:=
 match c with
 |.s (.bool true)=>some a
 |.s (.bool false)=>some b
 |_=>none
def aA(x:AV):Option AV:=
 match x with
 |.ref ..=>some x
 |.ip ..=>some x
 |.fn (.func _) _ _=>some x
 |.s (.pointer (some _))=>some x
 |_=>none
def kG(P:Program)(d:Bool)(b:Array TypeId)(type:TypeId)(args:List AV):Option AV:=
 match vals? args with
 |some vs=>(jd P (if d then Builtin.max_ b type vs.toArray else Builtin.min_ b type vs.toArray)).map .s
 |none=>none
def iU(P:Program)(b:Builtin)(d:Array TypeId)(type:TypeId)(args:List AV):AM AV:=λH=>
 match b,d.toList,args with
 |.append,[t,u],[x,y]=>L8 P t u x y H
 |.len,[t],[x]=>akJ P t x H
 |.cap,[t],[x]=>fU (afJ P t x) H
 |.copy,t::_,[x,y]=>adg P t x y H
 |.clear,[t],[x]=>Ve P t x H
 |.delete,t::_,[x,y]=>L9 P t x y H
 |.max,_,args=>fU (kG P true d type args) H
 |.min,_,args=>fU (kG P false d type args) H
 |_,_,_=>none
def wX(P:Program)(C:aF)(t:gB)(c:Call)(type:TypeId):AM AV:=λH=>
 match c.callee with
 |.value f=>tJ P C (dU t f) (c.args.toList.map (dU t)) H
 |.builtin b=>iU P b c.argTypes type (c.args.toList.map (dU t)) H
 |.invoke _ _=>none
def opA(P:Program)(C:aF)(t:gB)(o:Oper):AM AV:=
 match o.op with
 |.move x=>fU (some (dU t x))
 |.assign x=>fU (some (dU t x))
 |.pick c a b=>fU (cO (dU t c) (dU t a) (dU t b))
 |.alloc e=>JV P e
 |.box e x=>gV e (dU t x)
 |.build d g=>fU (gy P d (g.toList.map λp=>(p.1,dU t p.2)))
 |.buildSlice d n g=>dK P d n (g.toList.map λp=>(p.1,dU t p.2))
 |.load d x=>Tf P d (dU t x)
 |.store d x v=>PY P d (dU t x) (dU t v)
 |.nilCheck x=>fU (aA (dU t x))
 |.binOp op d x y _=>fU (akH P op d y (dU t x) (dU t y))
 |.unOp op _ x=>fU (unA P op (dU t x))
 |.convert src dst x=>kM P src dst (dU t x)
 |.makeFunc f a c=>fU (some (.fn f (a.toList.map (dU t)) (c.toList.map (dU t))))
 |.makeMap d none=>yh P d
 |.makeSlice d l c=>qP P d (dU t l) (dU t c)
 |.slice d x lo hi h=>fU (PX P d (dU t x) (lo.map (dU t)) (hi.map (dU t)) (h.map (dU t)))
 |.fieldAddr d x i=>fU (uj P d (dU t x) i)
 |.field d x i=>fU (PV P d (dU t x) i)
 |.indexAddr d x i=>um P d (dU t x) (dU t i)
 |.index d x i=>fU (PW P d (dU t x) (dU t i))
 |.lookup d x i ok=>Ti P d (dU t x) (dU t i) ok
 |.mapUpdate d m k v=>uo P d (dU t m) (dU t k) (dU t v)
 |.extract x i=>fU (aJ (dU t x) i)
 |.call c=>wX P C t c o.type
 |_=>λ_=>none
def uX(ops:List Oper)(t:gB)(o:Oper):Option Bool:=
 match o.guard with
 |none=>some true
 |some (j,e)=>match ops[j]? with
  |some p=>match p.dst with
   |some d=>match t[d]? with
    |some (.s (.bool b))=>some (b==e)
    |some (.tup [])=>some false
    |_=>none
   |none=>none
  |none=>none
def P5(P:Program)(C:aF)(ops:List Oper):List Oper->gB->AM gB
 |[],t,H=>some (t,H)
 |o::rest,t,H=>match uX ops t o with
  |some true=>match opA P C t o H with
   |some (v,H')=>P5 P C ops rest (wV t o.dst v) H'
   |none=>none
  |some false=>P5 P C ops rest (wV t o.dst bg) H
  |none=>none
def akK:List Nat:=[
 121,
 14,
 129,
 23,
 13,
 130,
 30,
 0]
def adh:Operand->Bool
 |.const _=>true
 |_=>false
def ET:Op->Bool
 |.alloc _=>true
 |.buildSlice _ _ b=>b.all λp=>adh p.2
 |_=>false
def rZ:Op->Bool
 |.move _=>true
 |.assign _=>true
 |.pick _ _ _=>true
 |.build _ _=>true
 |.nilCheck _=>true
 |.binOp _ _ _ _ _=>true
 |.unOp _ _ _=>true
 |.makeFunc _ _ _=>true
 |.slice _ _ _ _ _=>true
 |.fieldAddr _ _ _=>true
 |.field _ _ _=>true
 |.index _ _ _=>true
 |.extract _ _=>true
 |.load _ _=>true
 |.lookup _ _ _ _=>true
 |.indexAddr _ _ _=>true
 |.convert _ _ _=>true
 |.call c=>match c.callee with
  |.builtin .len=>true
  |.builtin .cap=>true
  |.builtin .max=>true
  |.builtin .min=>true
  |_=>false
 |_=>false
def aqj:Operand->Bool
 |.func f=>akK.contains f
 |_=>false
def uY:Op->Bool
 |.box _ _=>true
 |.buildSlice _ _ _=>true
 |.makeMap _ _=>true
 |.makeSlice _ _ _=>true
 |.call c=>match c.callee with
  |.value x=>!aqj x
  |_=>false
 |_=>false
def nI:Op->Bool
 |.call c=>match c.callee with
  |.value x=>!aqj x
  |_=>false
 |_=>false
def ah8:Op->Bool
 |.call c=>match c.callee with
  |.value x=>aqj x
  |_=>false
 |_=>false
def Me:Op->Bool
 |.load _ _=>true
 |.lookup _ _ _ _=>true
 |.indexAddr _ _ _=>true
 |.convert _ _ _=>true
 |.call c=>match c.callee with
  |.builtin .len=>true
  |_=>false
 |_=>false
def lV(t:gB):Op->Option Nat
 |.load _ x=>bT (dU t x)
 |.lookup _ x _ _=>bT (dU t x)
 |.indexAddr _ x _=>bT (dU t x)
 |.convert _ _ x=>bT (dU t x)
 |.call c=>match c.args.toList with
  |[x]=>bT (dU t x)
  |_=>none
 |_=>none
def nP(ops:List Oper)(i j:Nat):Bool:=((Region.before ops.toArray).getD j 0).testBit i
def qZ(ops:List Oper)(i:Nat):Op:=(ops[i]?.map (·.op)).getD (.alloc 0)
def JW(ops:List Oper)(i:Nat):Option Tmp:=ops[i]?.bind (·.dst)
def cst(ops:List Oper)(i:Nat):Bool:=ET (qZ ops i)
def flo(ops:List Oper)(i:Nat):Bool:=rZ (qZ ops i)
def chn(ops:List Oper)(i:Nat):Bool:=!cst ops i && !flo ops i
def Gu(ops:List Oper)(i j:Nat):Bool:=if cst ops i==cst ops j then decide (i<j) else cst ops i
def EK(n:Nat)(f:Nat->Bool):Bool:=(List.range n).all f
def Xr(ops:List Oper)(j e:Nat):Bool:=chn ops e && flo ops j && Me (qZ ops j) && !nP ops j e && !nP ops e j
def loose(ops:List Oper)(e:Nat):Bool:=(List.range ops.length).any λj=>Xr ops j e || (cst ops j && chn ops e && !nP ops j e)
def mJ(ops:List Oper):List (Nat × Nat):=
 (List.range ops.length).flatMap λj=>((List.range ops.length).filter λe=>(Xr ops j e && !uY (qZ ops e)) || (cst ops j && chn ops e && !nP ops j e && ah8 (qZ ops e))).map λe=>(j,e)
def Vf(ops:List Oper):Bool:=
 let n:=ops.length
 (EK n λj=>(ops[j]?.map λo=>o.after.all λe=>!Region.binds .any e || (decide (e.on<n) && Gu ops e.on j)).getD false) &&
 (EK n λi=>EK n λj=>!(decide (i<j)) || (JW ops i).isNone || !(JW ops i==JW ops j)) &&
 (EK n λi=>EK n λj=>i==j || (match JW ops i,ops[j]? with
  |some d,some o=>!(o.looksAt ops.toArray).contains d || (nP ops i j && Gu ops i j) || (nP ops j i && Gu ops j i)
  |_,_=>true)) &&
 (EK n λi=>EK n λj=>!(chn ops i && chn ops j && decide (i<j)) || nP ops i j) &&
 (EK n λj=>!cst ops j || ((ops[j]?.map λo=>o.guard.isNone && o.dst.isSome).getD false)) &&
 (EK n λj=>EK n λe=>!(cst ops j && chn ops e && !nP ops j e) || ((uY (qZ ops e) || ah8 (qZ ops e)) && !nP ops e j))
def opG(P:Program)(C:aF)(t:gB)(o:Oper):AM AV:=λH=>
 match opA P C t o H.guard with
 |some (v,H')=>some (v,{ H' with base:=H.base })
 |none=>none
def nM(P:Program)(C:aF)(ops:List Oper)(lo:Bool)(o:Oper)(t:gB):AM AV:=λH=>
 match uX ops t o with
 |some true=>if lo then opG P C t o H else opA P C t o H
 |some false=>some (bg,H)
 |none=>none
def iV(P:Program)(C:aF)(ops:List Oper):List Nat->gB->ah->Option (gB × ah)
 |[],t,H=>some (t,H)
 |i::is,t,H=>match ops[i]? with
  |some o=>match opA P C t o H with
   |some (v,H')=>iV P C ops is (wV t o.dst v) H'
   |none=>none
  |none=>none
def fV(P:Program)(C:aF)(ops:List Oper):List Nat->gB->ah->Option (gB × ah)
 |[],t,H=>some (t,H)
 |i::is,t,H=>match ops[i]? with
  |some o=>match nM P C ops (loose ops i && nI o.op) o t H with
   |some (v,H')=>fV P C ops is (wV t o.dst v) H'
   |none=>none
  |none=>none
def pU(ops:List Oper):List Nat:=(List.range ops.length).filter (cst ops)
def nR(ops:List Oper):List Nat:=(List.range ops.length).filter λi=>!cst ops i
def Gv(P:Program)(C:aF)(ops:List Oper)(p:Nat)(t:gB)(H:ah):Option (gB × ah):=
 fV P C ops ((List.range p).filter λi=>!cst ops i) t H
def agree(P:Program)(C:aF)(ops:List Oper)(s:Nat)(t:gB)(H:ah)(p:Nat × Nat):Prop:=
 if cst ops p.1=true then
  ∀g e d b,Gv P C ops p.2 t H=some (g,e)->Gv P C ops (p.2+1) t H=some (d,b)->∀r,s<=r->r<H.next->b.get r=e.get r
 else
 ∀h i g e d b,Gv P C ops p.1 t H=some (h,i)->Gv P C ops p.2 t H=some (g,e)->Gv P C ops (p.2+1) t H=some (d,b)->
  ∀r,lV h (qZ ops p.1)=some r->b.get r=e.get r
open Classical in
def zC(P:Program)(C:aF)(ops:List Oper)(t:gB)(H:ah):Option (gB × ah):=
 if Vf ops=true then
  match iV P C ops (pU ops) t H with
  |some (t0,H0)=>match mJ ops with
   |[]=>fV P C ops (nR ops) t0 H0
   |ps=>if∀p∈ps,agree P C ops H.next t0 H0 p then fV P C ops (nR ops) t0 H0 else none
  |none=>none
 else none
mutual
def NV(n:Nat):AV->Prop
 |.s _=>True
 |.ref r _ _=>r<n
 |.sl r _ _ _ _ _ _=>r<n
 |.ip cells=>NVs n cells
 |.vs _ _ cells=>NVs n cells
 |.mp r=>r<n
 |.fn _ a c=>NVs n a/\NVs n c
 |.agg cells=>NVs n cells
 |.tup cells=>NVs n cells
def NVs(n:Nat):List AV->Prop
 |[]=>True
 |x::xs=>NV n x/\NVs n xs
end
mutual
def RV.nv {ρ:Ren}{G:Nat->Nat}{w:World}{n:Nat}(out:∀r,n<=r->ρ r=none/\G r=0):∀(x:AV) (v:Value),RV ρ G w x v->NV n x
 |.s _,_,_=>by simp [NV]
 |.ref r g off,v,h=>by
  obtain⟨a,_,d,j⟩:=(by simpa only [RV] using h)
  simp only [NV];rcases zaQ r n with i|i
  ·exact i
  ·obtain⟨k,p⟩:=out r i;obtain⟨b,u,hb,_⟩:=j V;rw [k] at hb;cases hb
 |.sl r g off q len y ex,v,h=>by
  obtain⟨b,o,c,_,_,_,_,d,j⟩:=(by simpa only [RV] using h)
  simp only [NV];rcases zaQ r n with i|i
  ·exact i
  ·obtain⟨k,p⟩:=out r i;obtain⟨u,e,m,hb,_⟩:=j V;rw [k] at hb;cases hb
 |.ip cells,v,h=>by
  obtain⟨b,o,_,_,_,d⟩:=(by simpa only [RV] using h)
  simp only [NV];exact RVc.nv out cells b o d
 |.vs m q cells,v,h=>by
  obtain⟨b,o,c,_,_,_,_,_,d⟩:=(by simpa only [RV] using h)
  simp only [NV];exact RVc.nv out cells b o d
 |.mp r,v,h=>by
  obtain⟨b,_,d⟩:=(by simpa only [RV] using h)
  simp only [NV];rcases zaQ r n with i|i
  ·exact i
  ·obtain⟨k,p⟩:=out r i;have:=d p;rw [k] at this;cases this
 |.fn f a c,v,h=>by
  obtain⟨a',c',_,d,j⟩:=(by simpa only [RV] using h)
  simp only [NV];exact⟨RVs.nv out a _ d,RVs.nv out c _ j⟩
 |.agg cells,v,h=>by
  obtain⟨cs,_,d⟩:=(by simpa only [RV] using h)
  simp only [NV];exact RVs.nv out cells _ d
 |.tup cells,v,h=>by
  obtain⟨cs,_,d⟩:=(by simpa only [RV] using h)
  simp only [NV];exact RVs.nv out cells _ d
def RVs.nv {ρ:Ren}{G:Nat->Nat}{w:World}{n:Nat}(out:∀r,n<=r->ρ r=none/\G r=0):∀(xs:List AV) (l:List Value),RVs ρ G w xs l->NVs n xs
 |[],_,_=>by simp [NVs]
 |x::xs,l,h=>by
  obtain⟨y,b,_,d,e⟩:=(by simpa only [RVs] using h)
  simp only [NVs];exact⟨RV.nv out x y d,RVs.nv out xs b e⟩
def RVc.nv {ρ:Ren}{G:Nat->Nat}{w:World}{n:Nat}(out:∀r,n<=r->ρ r=none/\G r=0):∀(xs:List AV) (b o:Nat),RVc ρ G w xs b o->NVs n xs
 |[],_,_,_=>by simp [NVs]
 |x::xs,b,o,h=>by
  obtain⟨⟨y,_,d⟩,e⟩:=(by simpa only [RVc] using h)
  simp only [NVs];exact⟨RV.nv out x y d,RVc.nv out xs b (o+1) e⟩
end
structure afK(ρ:Ren)(G:Nat->Nat)(w:World)(ρ':Ren)(G':Nat->Nat)(w':World):Prop where
 mono:∀r,G r<=G' r
 same:∀r x,ρ r=some x->G' r=G r->ρ' r=some x
 imm:∀b,b<w.heap.size->Imm ρ b->b<w'.heap.size/\Imm ρ' b/\∀o,w'.cell? ⟨b,o,none⟩=w.cell? ⟨b,o,none⟩
 shape:∀b e m,w.shape? b=some (e,m)->w'.shape? b=some (e,m)
mutual
def RV.mono {ρ ρ':Ren}{G G':Nat->Nat}{w w':World}(M:afK ρ G w ρ' G' w'):∀(x:AV) (v:Value),RV ρ G w x v->RV ρ' G' w' x v
 |.s _,_,h=>by simpa only [RV] using h
 |.ref r g off,v,h=>by
  obtain⟨a,e,d,p⟩:=(by simpa only [RV] using h)
  simp only [RV];have m:=M.mono r;refine⟨a,e,V,λhg=>?_⟩;have q:G r=g:=V
  obtain⟨b,u,A,ha⟩:=p q;exact⟨b,u,M.same r _ A V,ha⟩
 |.sl r g off y len C ex,v,h=>by
  obtain⟨b,o,c,e,k1,z,D,d,p⟩:=(by simpa only [RV] using h)
  simp only [RV];have m:=M.mono r;refine⟨b,o,c,e,k1,z,D,V,λhg=>?_⟩;have q:G r=g:=V
  obtain⟨u,E,k,F,H,K,L⟩:=p q;exact⟨u,E,k,M.same r _ F V,H,M.shape _ _ _ K,L⟩
 |.ip cells,v,h=>by
  obtain⟨b,o,e,hb,hi,d⟩:=(by simpa only [RV] using h)
  simp only [RV];obtain⟨i,j,hc⟩:=M.imm b hb hi;exact⟨b,o,e,i,j,RVc.mono M cells b o (λo v hv=>by rw [hc];exact hv) d⟩
 |.vs m y cells,v,h=>by
  obtain⟨b,o,c,e,k1,z,hb,hi,d⟩:=(by simpa only [RV] using h)
  simp only [RV];obtain⟨i,j,hc⟩:=M.imm b hb hi;exact⟨b,o,c,e,k1,z,i,j,RVc.mono M cells b o (λo v hv=>by rw [hc];exact hv) d⟩
 |.mp r,v,h=>by
  obtain⟨b,e,d⟩:=(by simpa only [RV] using h)
  simp only [RV];have m:=M.mono r;refine⟨b,e,λhg=>?_⟩;have q:G r=0:=V
  exact M.same r _ (d q) V
 |.fn f a c,v,h=>by
  obtain⟨a',c',e,d,p⟩:=(by simpa only [RV] using h)
  simp only [RV];exact⟨a',c',e,RVs.mono M a _ d,RVs.mono M c _ p⟩
 |.agg cells,v,h=>by
  obtain⟨cs,e,d⟩:=(by simpa only [RV] using h)
  simp only [RV];exact⟨cs,e,RVs.mono M cells _ d⟩
 |.tup cells,v,h=>by
  obtain⟨cs,e,d⟩:=(by simpa only [RV] using h)
  simp only [RV];exact⟨cs,e,RVs.mono M cells _ d⟩
def RVs.mono {ρ ρ':Ren}{G G':Nat->Nat}{w w':World}(M:afK ρ G w ρ' G' w'):∀(xs:List AV) (l:List Value),RVs ρ G w xs l->RVs ρ' G' w' xs l
 |[],_,h=>by simpa only [RVs] using h
 |x::xs,l,h=>by
  obtain⟨y,b,e,d,g⟩:=(by simpa only [RVs] using h)
  simp only [RVs];exact⟨y,b,e,RV.mono M x y d,RVs.mono M xs b g⟩
def RVc.mono {ρ ρ':Ren}{G G':Nat->Nat}{w w':World}(M:afK ρ G w ρ' G' w'):∀(xs:List AV) (b o:Nat),(∀o v,w.cell? ⟨b,o,none⟩=some v->w'.cell? ⟨b,o,none⟩=some v)->RVc ρ G w xs b o->RVc ρ' G' w' xs b o
 |[],_,_,_,_=>by simp only [RVc]
 |x::xs,b,o,hc,h=>by
  obtain⟨⟨y,e,d⟩,g⟩:=(by simpa only [RVc] using h)
  simp only [RVc];exact⟨⟨y,hc _ _ e,RV.mono M x y d⟩,RVc.mono M xs b (o+1) hc g⟩
end
structure Back(n:Nat)(ρ:Ren)(G:Nat->Nat)(ρ':Ren)(G':Nat->Nat):Prop where
 gen:∀r,r<n->G' r=G r
 same:∀r,r<n->ρ' r=none∨ρ' r=ρ r
 sub:∀r x,ρ' r=some x->ρ r=some x
def Back.imm {n:Nat}{ρ ρ':Ren}{G G':Nat->Nat}(B:Back n ρ G ρ' G'){b:Nat}(h:Imm ρ b):Imm ρ' b:=λr d e=>h r d (B.sub r _ e)
mutual
def RV.back {n:Nat}{ρ ρ':Ren}{G G':Nat->Nat}{w w0:World}(B:Back n ρ G ρ' G')(out:∀r,n<=r->ρ' r=none/\G' r=0):∀(x:AV) (v v0:Value),RV ρ' G' w0 x v0->RV ρ G w x v->RV ρ' G' w x v
 |.s _,_,_,_,h=>by simpa only [RV] using h
 |.ref r g off,v,v0,h0,h=>by
  have hn:=RV.nv out _ _ h0;simp only [NV] at hn;obtain⟨a0,_,g1,g2⟩:=(by simpa only [RV] using h0)
  obtain⟨a,e,h1,h2⟩:=(by simpa only [RV] using h)
  simp only [RV];refine⟨a,e,by rw [B.gen r hn];exact h1,λhg=>?_⟩;obtain⟨b0,sh0,hr0,_⟩:=g2 hg;obtain⟨b,sh,hr,ha⟩:=h2 (by rw [<-B.gen r hn];exact hg);refine⟨b,sh,?_,ha⟩;rcases B.same r hn with q|q
  ·rw [q] at hr0;cases hr0
  ·rw [q];exact hr
 |.sl r g off esz len cap ex,v,v0,h0,h=>by
  have hn:=RV.nv out _ _ h0;simp only [NV] at hn;obtain⟨_,_,_,_,_,_,_,_,g2⟩:=(by simpa only [RV] using h0)
  obtain⟨b,o,c,e,k1,k2,k3,h1,h2⟩:=(by simpa only [RV] using h)
  simp only [RV];refine⟨b,o,c,e,k1,k2,k3,by rw [B.gen r hn];exact h1,λhg=>?_⟩;obtain⟨_,_,_,hr0,_⟩:=g2 hg;obtain⟨sh,ty,k,q1,q2,q3,q4⟩:=h2 (by rw [<-B.gen r hn];exact hg);refine⟨sh,ty,k,?_,q2,q3,q4⟩;rcases B.same r hn with q|q
  ·rw [q] at hr0;cases hr0
  ·rw [q];exact q1
 |.ip cells,v,v0,h0,h=>by
  obtain⟨b0,o0,_,_,_,g1⟩:=(by simpa only [RV] using h0)
  obtain⟨b,o,e,hb,hi,h1⟩:=(by simpa only [RV] using h)
  simp only [RV];exact⟨b,o,e,hb,B.imm hi,RVc.back B out cells b o b0 o0 g1 h1⟩
 |.vs m esz cells,v,v0,h0,h=>by
  obtain⟨b0,o0,_,_,_,_,_,_,g1⟩:=(by simpa only [RV] using h0)
  obtain⟨b,o,c,e,k1,k2,hb,hi,h1⟩:=(by simpa only [RV] using h)
  simp only [RV];exact⟨b,o,c,e,k1,k2,hb,B.imm hi,RVc.back B out cells b o b0 o0 g1 h1⟩
 |.mp r,v,v0,h0,h=>by
  have hn:=RV.nv out _ _ h0;simp only [NV] at hn;obtain⟨_,_,g1⟩:=(by simpa only [RV] using h0)
  obtain⟨b,e,h1⟩:=(by simpa only [RV] using h)
  simp only [RV];refine⟨b,e,λhg=>?_⟩;have:=g1 hg;rcases B.same r hn with q|q
  ·rw [q] at this;cases this
  ·rw [q];exact h1 (by rw [<-B.gen r hn];exact hg)
 |.fn f a c,v,v0,h0,h=>by
  obtain⟨_,_,_,g1,g2⟩:=(by simpa only [RV] using h0)
  obtain⟨a',c',e,h1,h2⟩:=(by simpa only [RV] using h)
  simp only [RV];exact⟨a',c',e,RVs.back B out a _ _ g1 h1,RVs.back B out c _ _ g2 h2⟩
 |.agg cells,v,v0,h0,h=>by
  obtain⟨_,_,g1⟩:=(by simpa only [RV] using h0)
  obtain⟨cs,e,h1⟩:=(by simpa only [RV] using h)
  simp only [RV];exact⟨cs,e,RVs.back B out cells _ _ g1 h1⟩
 |.tup cells,v,v0,h0,h=>by
  obtain⟨_,_,g1⟩:=(by simpa only [RV] using h0)
  obtain⟨cs,e,h1⟩:=(by simpa only [RV] using h)
  simp only [RV];exact⟨cs,e,RVs.back B out cells _ _ g1 h1⟩
def RVs.back {n:Nat}{ρ ρ':Ren}{G G':Nat->Nat}{w w0:World}(B:Back n ρ G ρ' G')(out:∀r,n<=r->ρ' r=none/\G' r=0):∀(xs:List AV) (l l0:List Value),RVs ρ' G' w0 xs l0->RVs ρ G w xs l->RVs ρ' G' w xs l
 |[],_,_,_,h=>by simpa only [RVs] using h
 |x::xs,l,l0,d,h=>by
  obtain⟨_,_,_,g,i⟩:=(by simpa only [RVs] using d)
  obtain⟨y,b,e,j,k⟩:=(by simpa only [RVs] using h)
  simp only [RVs];exact⟨y,b,e,RV.back B out x y _ g j,RVs.back B out xs b _ i k⟩
def RVc.back {n:Nat}{ρ ρ':Ren}{G G':Nat->Nat}{w w0:World}(B:Back n ρ G ρ' G')(out:∀r,n<=r->ρ' r=none/\G' r=0):∀(xs:List AV) (b o d g:Nat),RVc ρ' G' w0 xs d g->RVc ρ G w xs b o->RVc ρ' G' w xs b o
 |[],_,_,_,_,_,_=>by simp only [RVc]
 |x::xs,b,o,d,g,i,h=>by
  obtain⟨⟨_,_,j⟩,k⟩:=(by simpa only [RVc] using i)
  obtain⟨⟨y,e,m⟩,p⟩:=(by simpa only [RVc] using h)
  simp only [RVc];exact⟨⟨y,e,RV.back B out x y _ j m⟩,RVc.back B out xs b (o+1) d (g+1) k p⟩
end
def RVm.nv {ρ:Ren}{G:Nat->Nat}{w:World}{n:Nat}(out:∀r,n<=r->ρ r=none/\G r=0){k:IntKind}:∀(es:List (Int × AV)) (l:List MapEntry),RVm ρ G w k es l->NVs n (es.map (·.2))
 |[],_,_=>by simp [NVs]
 |(m,x)::xs,l,h=>by
  obtain⟨e,es,_,_,b,d⟩:=(by simpa only [RVm] using h)
  simp only [zax,NVs];exact⟨RV.nv out x _ b,RVm.nv out xs es d⟩
def RVm.mono {ρ ρ':Ren}{G G':Nat->Nat}{w w':World}(M:afK ρ G w ρ' G' w'){k:IntKind}:∀(xs:List (Int × AV)) (l:List MapEntry),RVm ρ G w k xs l->RVm ρ' G' w' k xs l
 |[],_,h=>by simpa only [RVm] using h
 |(m,x)::xs,l,h=>by
  obtain⟨e,b,d,g,i,j⟩:=(by simpa only [RVm] using h)
  simp only [RVm];exact⟨e,b,d,g,RV.mono M x _ i,RVm.mono M xs b j⟩
def RVm.back {n:Nat}{ρ ρ':Ren}{G G':Nat->Nat}{w w0:World}(B:Back n ρ G ρ' G')(out:∀r,n<=r->ρ' r=none/\G' r=0){k:IntKind}:∀(xs:List (Int × AV)) (l l0:List MapEntry),RVm ρ' G' w0 k xs l0->RVm ρ G w k xs l->RVm ρ' G' w k xs l
 |[],_,_,_,h=>by simpa only [RVm] using h
 |(m,x)::xs,l,l0,d,h=>by
  obtain⟨_,_,_,_,g,i⟩:=(by simpa only [RVm] using d)
  obtain⟨e,b,j,o,p,q⟩:=(by simpa only [RVm] using h)
  simp only [RVm];exact⟨e,b,j,o,RV.back B out x _ _ g p,RVm.back B out xs b _ i q⟩
def cell?_of_block {w w':World}{b o:Nat}(h:w'.heap[b]?=w.heap[b]?):w'.cell? ⟨b,o,none⟩=w.cell? ⟨b,o,none⟩:=by
 simp only [World.cell?,h]
def Gw {w:World}{b:Nat}{e:TypeId}{m:Nat}(h:w.shape? b=some (e,m)):b<w.heap.size:=by
 rcases zaQ b w.heap.size with hb|hb
 ·exact hb
 ·simp [World.shape?,zcV hb] at h
def Ext.toMono {ρ ρ':Ren}{H H':ah}{w w':World}(E:Ext ρ H w ρ' H' w'):afK ρ H.gen w ρ' H'.gen w' where
 mono:=E.mono
 same:=E.same
 imm:=λb hb hi=>⟨zay hb E.size,λr g i=>by
   rcases E.range r b g i with h|⟨d,h⟩
   ·omega
   ·exact hi r d h,λo=>cell?_of_block (E.frame b hb hi)⟩
 shape:=λb e m h=>by rw [E.shape b (Gw h)];exact h
def Ext.refl(ρ:Ren)(H:ah)(w:World):Ext ρ H w ρ H w where
 next:=zac _
 mono:=λ_=>zac _
 same:=λ_ _ h _=>h
 kept:=λ_ _ h=>h
 range:=λ_ _ b h=>.inr ⟨b,h⟩
 size:=zac _
 frame:=λ_ _ _=>rfl
 shape:=λ_ _=>rfl
 os:=rfl
 tape:=rfl
 output:=rfl
def Ext.trans {ρ ρ' d:Ren}{H H' H'':ah}{w w' e:World}(E:Ext ρ H w ρ' H' w')(F:Ext ρ' H' w' d H'' e):Ext ρ H w d H'' e where
 next:=zaz E.next F.next
 mono:=λr=>zaz (E.mono r) (F.mono r)
 same:=λr x g h=>by
  have k:=E.mono r;have m:=F.mono r;exact F.same r x (E.same r x g V) V
 kept:=λr g h=>F.kept r (zay g E.next) (E.kept r g h)
 range:=λr b j h=>by
  rcases F.range r b j h with h|⟨i,h⟩
  ·exact .inl (zaz E.size h)
  ·exact E.range r b i h
 size:=zaz E.size F.size
 frame:=λb hb hi=>by
  rw [F.frame b (zay hb E.size) (E.toMono.imm b hb hi).2.1,E.frame b hb hi]
 shape:=λb hb=>by rw [F.shape b (zay hb E.size),E.shape b hb]
 os:=F.os.trans E.os
 tape:=F.tape.trans E.tape
 output:=F.output.trans E.output
def Rel.keep {ρ ρ':Ren}{H H':ah}{w w':World}(_R:Rel ρ H w)(E:Ext ρ H w ρ' H' w'){x:AV}{v:Value}(h:RV ρ H.gen w x v):RV ρ' H'.gen w' x v:=
 RV.mono E.toMono x v h
def Rel.keeps {ρ ρ':Ren}{H H':ah}{w w':World}(_R:Rel ρ H w)(E:Ext ρ H w ρ' H' w'){xs:List AV}{l:List Value}(h:RVs ρ H.gen w xs l):RVs ρ' H'.gen w' xs l:=
 RVs.mono E.toMono xs l h
def jI {ρ:Ren}{G:Nat->Nat}{w:World}:RVs ρ G w [] []:=by simp only [RVs]
def jF {ρ:Ren}{G:Nat->Nat}{w:World}{x:AV}{y:Value}{xs:List AV}{ys:List Value}(h:RV ρ G w x y)(t:RVs ρ G w xs ys):RVs ρ G w (x::xs) (y::ys):=by
 simp only [RVs];exact⟨y,ys,rfl,h,t⟩
def dQ {ρ:Ren}{G:Nat->Nat}{w:World}:∀{xs:List AV} {l:List Value},RVs ρ G w xs l->l.length=xs.length
 |[],l,h=>by simp only [RVs] at h;subst h;rfl
 |x::xs,l,h=>by
  simp only [RVs] at h;obtain⟨y,d,rfl,_,b⟩:=h;simp [dQ b]
def jR {ρ:Ren}{G:Nat->Nat}{w:World}:∀{xs:List AV} {l:List Value},RVs ρ G w xs l->∀{i:Nat} {x:AV},xs[i]?=some x->∃v,l[i]?=some v/\RV ρ G w x v
 |[],l,h,i,x,b=>by simp at b
 |y::xs,l,h,i,x,b=>by
  simp only [RVs] at h;obtain⟨z,g,rfl,d,e⟩:=h;cases i with
  |zero=>simp at b;subst b;exact⟨z,rfl,d⟩
  |succ i=>simp at b;simpa using jR e b
def uq {ρ:Ren}{G:Nat->Nat}{w:World}:∀{xs:List AV} {l:List Value},l.length=xs.length->(∀(i:Nat) (x:AV),xs[i]?=some x->∃v,l[i]?=some v/\RV ρ G w x v)->RVs ρ G w xs l
 |[],l,h,_=>by cases l with|nil=>exact jI|cons a l=>simp at h
 |x::xs,l,h,b=>by
  cases l with
  |nil=>simp at h
  |cons y g=>
   obtain⟨v,hv,d⟩:=b 0 x rfl;simp at hv;subst hv;exact jF d (uq (by simpa using h) λi x e=>by simpa using b (i+1) x (by simpa using e))
def qQ {ρ:Ren}{G:Nat->Nat}{w:World}:∀{xs ys:List AV} {l m:List Value},RVs ρ G w xs l->RVs ρ G w ys m->RVs ρ G w (xs++ys) (l++m)
 |[],ys,l,m,h,b=>by simp only [RVs] at h;subst h;simpa using b
 |x::xs,ys,l,m,h,b=>by
  simp only [RVs] at h;obtain⟨z,g,rfl,d,e⟩:=h;exact jF d (qQ e b)
def adi {ρ:Ren}{G:Nat->Nat}{w:World}(n:Nat):∀{xs:List AV} {l:List Value},RVs ρ G w xs l->RVs ρ G w (xs.take n) (l.take n):=by
 intro xs l h;refine uq (by simp [dQ h]) λi x b=>?_;rw [zaB] at b;split at b
 ·obtain⟨v,hv,d⟩:=jR h b;exact⟨v,by rw [zaB,if_pos ‹_›];exact hv,d⟩
 ·cases b
def adk {ρ:Ren}{G:Nat->Nat}{w:World}(n:Nat):∀{xs:List AV} {l:List Value},RVs ρ G w xs l->RVs ρ G w (xs.drop n) (l.drop n):=by
 intro xs l h;refine uq (by simp [dQ h]) λi x b=>?_;rw [zaF] at b;obtain⟨v,hv,d⟩:=jR h b;exact⟨v,by rw [zaF];exact hv,d⟩
def iw {ρ:Ren}{G:Nat->Nat}{w:World}:∀(l:List Value),RVs ρ G w (l.map .s) l
 |[]=>jI
 |v::l=>jF (by simp only [RV]) (iw l)
def zD {ρ:Ren}{G:Nat->Nat}{w:World}:∀{xs:List AV} {b o:Nat},RVc ρ G w xs b o->∀{i:Nat} {x:AV},xs[i]?=some x->∃v,w.cell? ⟨b,o+i,none⟩=some v/\RV ρ G w x v
 |[],b,o,h,i,x,d=>by simp at d
 |y::xs,b,o,h,i,x,d=>by
  simp only [RVc] at h;obtain⟨⟨v,hv,e⟩,g⟩:=h;cases i with
  |zero=>simp at d;subst d;exact⟨v,hv,e⟩
  |succ i=>simp at d;have:=zD g d;rwa [show o+1+i=o+(i+1) from by omega] at this
def qR {ρ:Ren}{G:Nat->Nat}{w:World}:∀{xs:List AV} {b o:Nat},(∀(i:Nat) (x:AV),xs[i]?=some x->∃v,w.cell? ⟨b,o+i,none⟩=some v/\RV ρ G w x v)->RVc ρ G w xs b o
 |[],_,_,_=>by simp only [RVc]
 |x::xs,b,o,h=>by
  simp only [RVc];exact⟨h 0 x rfl,qR λi y d=>by have:=h (i+1) y (by simpa using d);rwa [show o+(i+1)=o+1+i from by omega] at this⟩
def su {ρ:Ren}{G:Nat->Nat}{w:World}{xs:List AV}{b o:Nat}(n:Nat)(h:RVc ρ G w xs b o):RVc ρ G w (xs.drop n) b (o+n):=
 qR λi x d=>by
  rw [zaF] at d;have:=zD h d
  rwa [show o+(n+i)=o+n+i from by omega] at this
def uZ {ρ:Ren}{G:Nat->Nat}{w:World}{xs:List AV}{b o:Nat}(n:Nat)(h:RVc ρ G w xs b o):RVc ρ G w (xs.take n) b o:=
 qR λi x d=>by
  rw [zaB] at d;split at d
  ·exact zD h d
  ·cases d
def Xt {ρ:Ren}{G:Nat->Nat}{w:World}{xs ys:List AV}{b o:Nat}(h:RVc ρ G w xs b o)(e:RVc ρ G w ys b (o+xs.length)):RVc ρ G w (xs++ys) b o:=
 qR λi x d=>by
  rw [zcA] at d;split at d
  ·exact zD h d
  ·rename_i hi;have:=zD e d
   rwa [show o+xs.length+(i-xs.length)=o+i from by omega] at this
def sD {ρ:Ren}{G:Nat->Nat}{w:World}{b o:Nat}{cs:Array Value}{e:TypeId}{d:Nat × Nat}(hb:w.heap[b]?=some (.cells cs e d)){xs:List AV}
  (h:∀(i:Nat) (x:AV),xs[i]?=some x->∃v,cs[o+i]?=some v/\RV ρ G w x v):RVc ρ G w xs b o:=
 qR λi x g=>by
  obtain⟨v,hv,j⟩:=h i x g;exact⟨v,by simp [World.cell?,hb,hv],j⟩
def wY {ρ:Ren}{G:Nat->Nat}{w:World}{b o:Nat}{cs:Array Value}{e:TypeId}{d:Nat × Nat}(hb:w.heap[b]?=some (.cells cs e d)){xs:List AV}
  (h:RVc ρ G w xs b o):∀{i:Nat} {x:AV},xs[i]?=some x->∃v,cs[o+i]?=some v/\RV ρ G w x v:=by
 intro i x g;obtain⟨v,hv,j⟩:=zD h g;exact⟨v,by simpa [World.cell?,hb] using hv,j⟩
def jX(b o n:Nat):Addr.add ⟨b,o,none⟩ n=⟨b,o+n,none⟩:=Addr.add_lit b o n
def Tj {P:Program}{w:World}{a:Addr}{v:Value}(h:w.cell? a=some v):(load a).run P w=.ok v w:=by simp [h]
def uw {P:Program}{ρ:Ren}{G:Nat->Nat}{w:World}{b o:Nat}:∀(xs:List AV) (i:Nat) (d:Array Value),RVc ρ G w xs b (o+i)->
  ∃l:List Value,(loadCellsFrom ⟨b,o,none⟩ i xs.length d).run P w=.ok (d++l.toArray) w/\RVs ρ G w xs l
 |[],i,d,_=>⟨[],by simp [loadCellsFrom],jI⟩
 |x::xs,i,d,h=>by
  simp only [RVc] at h;obtain⟨⟨v,hv,e⟩,g⟩:=h;obtain⟨l,j,k⟩:=uw (P:=P) xs (i+1) (d.push v) (by rw [<-zb6];exact g);refine⟨v::l,?_,jF e k⟩;simp only [zal,loadCellsFrom,Sem.run_bind,jX,Tj hv,Result.andThen_ok];rw [j];simp
def nS {P:Program}{ρ:Ren}{G:Nat->Nat}{w:World}{b o:Nat}{xs:List AV}(h:RVc ρ G w xs b o):
  ∃l:List Value,(loadCells ⟨b,o,none⟩ xs.length).run P w=.ok l.toArray w/\RVs ρ G w xs l:=by
 obtain⟨l,d,e⟩:=uw (P:=P) xs 0 #[] (by simpa using h);exact⟨l,by simpa [loadCells] using d,e⟩
def EU {P:Program}{t:TypeId}{i:TypeInfo}(h:P.info? t=some i)(w:World):(typeInfo t).run P w=.ok i w:=by
 simp [typeInfo,h]
def fC {P:Program}{t:TypeId}{n:Nat}(h:szT P t=some n)(w:World):(sizeOf t).run P w=.ok n w:=by
 unfold szT at h;cases hi:P.info? t with
 |none=>simp [hi] at h
 |some i=>simp [hi] at h;subst h;simp [sizeOf,EU hi]
def P6 {P:Program}{t:TypeId}{z:Value}(h:(if t<iC then(P.info? t).bind (·.zero) else none)=some z):t<iC:=by
 split at h
 ·assumption
 ·cases h
def vg {P:Program}{t:TypeId}{z:Value}(h:Ap P t=some z):t<iC:=P6 h
def adl {P:Program}{t:TypeId}{z:Value}(h:Ap P t=some z):(P.info? t).bind (·.zero)=some z:=by
 have:=vg h;unfold Ap at h
 rwa [if_pos this] at h
def gU {P:Program}{t:TypeId}{z:Value}(h:Ap P t=some z)(w:World):(zeroValue t).run P w=.ok z w:=by
 unfold Ap at h;rw [if_pos (P6 h)] at h;cases hi:P.info? t with
 |none=>simp [hi] at h
 |some i=>simp [hi] at h;simp [zeroValue,EU hi,h]
def Au {P:Program}{t:TypeId}{b:Bool}(h:akG P t=some b)(w:World):(isAgg t).run P w=.ok b w:=by
 unfold akG at h;cases e:P.underlying t with
 |none=>simp [e] at h
 |some d=>cases d <;> simp [e] at h <;> subst h <;> simp [isAgg,run_underlying e]
def Gx {P:Program}{ρ:Ren}{G:Nat->Nat}{w:World}{b o:Nat}{cells:List AV}(h:RVc ρ G w cells b o){t:TypeId}{off:Nat}{v:AV}(d:JC P t cells off=some v):
  ∃cv,(loadVar t ⟨b,o+off,none⟩).run P w=.ok cv w/\RV ρ G w v cv:=by
 unfold JC at d;cases ha:akG P t with
 |none=>simp [ha] at d
 |some k=>
  cases hs:szT P t with
  |none=>simp [ha,hs] at d
  |some n=>
   cases k with
   |true=>
    simp [ha,hs] at d;obtain⟨j,rfl⟩:=d;obtain⟨l,i,g⟩:=nS (P:=P) (uZ n (su off h));refine⟨.agg l.toArray,?_,?_⟩
    ·have e:(List.take n (List.drop off cells)).length=n:=by simp;omega
     rw [e] at i;simp [loadVar,Au ha,fC hs,i]
    ·simp only [RV];exact⟨_,rfl,g⟩
   |false=>
    simp [ha,hs] at d;obtain⟨cv,hc,g⟩:=zD h d;exact⟨cv,by simp [loadVar,Au ha,hc],g⟩
def jY(w:World)(b:Nat)(o:Obj):World:={ w with heap:=w.heap.setIfInBounds b o }
def updρ(ρ:Ren)(r:Nat)(x:Nat × Nat):Ren:=λy=>if y=r then some x else ρ y
def mX {w:World}{b:Nat}{o:Obj}(h:b<w.heap.size):(jY w b o).heap[b]?=some o:=by
 simp [jY,h]
def Gy {w:World}{b d:Nat}{o:Obj}(h:d≠b):(jY w b o).heap[d]?=w.heap[d]?:=by
 simp [jY,zbA (Ne.symm h)]
def MB(w:World)(b:Nat)(o d:Obj):jY (jY w b o) b d=jY w b d:=by
 simp [jY]
def Tn {w:World}{b:Nat}{o:Obj}(h:w.heap[b]?=some o):jY w b o=w:=by
 have hb:b<w.heap.size:=by
  rcases zaQ b w.heap.size with hb|hb
  ·exact hb
  ·simp [zcV hb] at h
 have:w.heap.setIfInBounds b o=w.heap:=by
  apply Array.ext_getElem?
  intro i;by_cases hi:b=i
  ·subst hi;rw [zbF hb] at h;simp only [Array.getElem?_setIfInBounds_self_of_lt hb,zbF hb,h]
  ·simp [zbA hi]
 simp [jY,this]
def oP {w:World}{b:Nat}{o:Obj}(h:w.heap[b]?=some o):b<w.heap.size:=by
 rcases zaQ b w.heap.size with hb|hb
 ·exact hb
 ·simp [zcV hb] at h
def Rel.lt {ρ:Ren}{H:ah}{w:World}(R:Rel ρ H w){r b sh:Nat}(h:ρ r=some (b,sh)):r<H.next:=by
 rcases zaQ r H.next with d|d
 ·exact d
 ·rw [(R.out r d).1] at h;cases h
def Rel.block {ρ:Ren}{H:ah}{w:World}(R:Rel ρ H w){r b sh:Nat}(h:ρ r=some (b,sh)):b<w.heap.size:=by
 have:=R.obj r b sh h;unfold zA at this;split at this
 ·obtain⟨cs,e,hb,_⟩:=this;exact oP hb
 ·obtain⟨cs,e,hb,_⟩:=this;exact oP hb
def Ea:Obj->Option (TypeId × Nat)
 |.cells c e _=>some (e,c.size)
 |_=>none
def fG(w:World)(b:Nat):w.shape? b=(w.heap[b]?).bind Ea:=by
 unfold World.shape? Ea;cases w.heap[b]? with
 |none=>rfl
 |some o=>cases o <;> rfl
def vk(H:ah)(r x:Nat)(o:gu):(H.put r o).gen x=if x=r then o.gen else H.gen x:=by
 simp only [ah.gen,ah.put];split <;> rfl
def Tq(H:ah)(x:Nat)(o:gu):(H.new o).gen x=if x=H.next then o.gen else H.gen x:=by
 simp only [ah.gen,ah.new];split <;> rfl
def Za {ρ:Ren}{H:ah}{w:World}{r b sh sh':Nat}{co co':Obj}{o:gu}(hr:ρ r=some (b,sh))(hb:w.heap[b]?=some co)
  (hs:Ea co'=Ea co) (hg:H.gen r<=o.gen) (hsh:o.gen=H.gen r->sh'=sh):Ext ρ H w (updρ ρ r (b,sh')) (H.put r o) (jY w b co') where
 next:=zac _
 mono:=λx=>by rw [vk];split <;> simp_all
 same:=λx y hx h=>by
  rw [vk] at h;unfold updρ
  split
  ·rename_i e;subst e;simp at h;rw [hsh h,<-hr,hx]
  ·exact hx
 kept:=λx _ h=>by
  unfold updρ
  split
  ·rename_i e;subst e;rw [hr] at h;cases h
  ·exact h
 range:=λx b' s h=>by
  unfold updρ at h;split at h
  ·cases h;rename_i e;subst e;exact .inr ⟨_,hr⟩
  ·exact .inr ⟨_,h⟩
 size:=by simp [jY]
 frame:=λb' hb' hi=>Gy λe=>hi r sh (e ▸ hr)
 shape:=λb' hb'=>by
  rw [fG,fG];by_cases e:b'=b
  ·subst e;rw [mX hb',hb];exact hs
  ·rw [Gy e]
 os:=rfl
 tape:=rfl
 output:=rfl
def zA.mono {ρ ρ':Ren}{G G':Nat->Nat}{w w':World}(M:afK ρ G w ρ' G' w'){o:gu}{b sh:Nat}(hb:w'.heap[b]?=w.heap[b]?)(h:zA ρ G w o b sh):zA ρ' G' w' o b sh:=by
 unfold zA at*;split at h
 ·obtain⟨cs,e,g,i,d⟩:=h;exact⟨cs,e,by rw [hb];exact g,i,RVc.mono M _ _ _ (λo v hv=>by rw [cell?_of_block hb];exact hv) d.1,d.2⟩
 ·obtain⟨cs,e,g,i,d⟩:=h;exact⟨cs,e,by rw [hb];exact g,i,RVm.mono M _ _ d.1,d.2⟩
def Zb {ρ:Ren}{H:ah}{w:World}(R:Rel ρ H w){r b sh sh':Nat}{co':Obj}{o:gu}(hr:ρ r=some (b,sh))
  (E:Ext ρ H w (updρ ρ r (b,sh')) (H.put r o) (jY w b co'))
  (ho:zA (updρ ρ r (b,sh')) (H.put r o).gen (jY w b co') o b sh'):Rel (updρ ρ r (b,sh')) (H.put r o) (jY w b co') where
 out:=λx hx=>by
  have hne:x≠r:=λe=>by have:=R.lt hr;subst e;exact absurd hx (by simpa [ah.put] using this)
  rw [vk,if_neg hne];unfold updρ;rw [if_neg hne];exact R.out x hx
 obj:=λx b' s h=>by
  unfold updρ at h;by_cases e:x=r
  ·subst e;simp at h;obtain⟨rfl,rfl⟩:=h
   simpa [ah.put] using ho
  ·rw [if_neg e] at h;have hne:b'≠b:=λe'=>e (R.inj x r b' s sh h (e' ▸ hr));have:(H.put r o).get x=H.get x:=by simp [ah.put,e]
   rw [this];exact zA.mono E.toMono (Gy hne) (R.obj x b' s h)
 inj:=λx y b' s s' h h'=>by
  unfold updρ at h h';split at h <;> split at h'
  ·simp_all
  ·cases h;rename_i e _;subst e;exact(R.inj _ _ _ _ _ h' hr).symm
  ·cases h';rename_i _ e;subst e;exact R.inj _ _ _ _ _ h hr
  ·exact R.inj _ _ _ _ _ h h'
 gl:=R.gl.ext E
def MC {ρ:Ren}{H:ah}{w:World}(R:Rel ρ H w){co:Obj}{o:gu}:Ext ρ H w (updρ ρ H.next (w.heap.size,0)) (H.new o) (w.alloc co) where
 next:=by simp [ah.new]
 mono:=λx=>by
  rw [Tq];split
  ·rename_i e;subst e;rw [(R.out _ (zac _)).2];exact zaY _
  ·exact zac _
 same:=λx y hx _=>by
  have hne:x≠H.next:=λe=>by subst e;rw [(R.out _ (zac _)).1] at hx;cases hx
  unfold updρ;rw [if_neg hne];exact hx
 kept:=λx hx h=>by
  unfold updρ
  rw [if_neg (by omega)];exact h
 range:=λx b' s h=>by
  unfold updρ at h;split at h
  ·cases h;exact .inl (zac _)
  ·exact .inr ⟨_,h⟩
 size:=by simp
 frame:=λb hb _=>by simp only [World.alloc,zbn,if_neg (zb4 hb)]
 shape:=λb hb=>by
  rw [fG,fG];simp only [World.alloc,zbn,if_neg (zb4 hb)]
 os:=rfl
 tape:=rfl
 output:=rfl
def Zc {ρ:Ren}{H:ah}{w:World}(R:Rel ρ H w){co:Obj}{o:gu}
  (ho:zA (updρ ρ H.next (w.heap.size,0)) (H.new o).gen (w.alloc co) o w.heap.size 0):Rel (updρ ρ H.next (w.heap.size,0)) (H.new o) (w.alloc co) where
 out:=λx hx=>by
  have hx1:H.next+1<=x:=hx
  have hne:x≠H.next:=V
  have hx':H.next<=x:=V
  rw [Tq,if_neg hne];unfold updρ;rw [if_neg hne];exact R.out x hx'
 obj:=λx b' s h=>by
  unfold updρ at h;by_cases e:x=H.next
  ·subst e;simp at h;obtain⟨rfl,rfl⟩:=h
   simpa [ah.new] using ho
  ·rw [if_neg e] at h;have:(H.new o).get x=H.get x:=by simp [ah.new,e]
   rw [this];have hb:=R.block h;exact zA.mono (MC R (o:=o) (co:=co)).toMono (by simp only [World.alloc,zbn,if_neg (zb4 hb)]) (R.obj x b' s h)
 inj:=λx y b' s s' h h'=>by
  unfold updρ at h h';split at h <;> split at h'
  ·simp_all
  ·cases h;have:=R.block h';omega
  ·cases h';have:=R.block h;omega
  ·exact R.inj _ _ _ _ _ h h'
 gl:=R.gl.ext (MC R (o:=o) (co:=co))
def kD(w:World)(o:Obj):(w.alloc o).heap[w.heap.size]?=some o:=by
 show(w.heap.push o)[w.heap.size]?=some o;simp
def Zd {ρ:Ren}{H:ah}{w:World}(R:Rel ρ H w){e ty:TypeId}{cells:List AV}{cs:Array Value}(hl:cells.length<=cs.size)
  (hc:∀(i:Nat) (x:AV),cells[i]?=some x->∃v,cs[i]?=some v/\RV ρ H.gen w x v) (hX:Xct ty e 0 cs.size cells.length):
  Rel (updρ ρ H.next (w.heap.size,0)) (H.new (.blk 0 ty cells)) (w.alloc (.cells cs e))/\Ext ρ H w (updρ ρ H.next (w.heap.size,0)) (H.new (.blk 0 ty cells)) (w.alloc (.cells cs e)):=by
 have E:=MC R (o:=.blk 0 ty cells) (co:=.cells cs e);refine⟨Zc R ⟨cs,e,kD w _,V,?_,hX⟩,E⟩;refine sD (kD w _) λi x hx=>?_;obtain⟨v,hv,h1⟩:=hc i x hx;exact⟨v,by simpa using hv,R.keep E h1⟩
def Gz {ρ:Ren}{H:ah}{w:World}(R:Rel ρ H w){r b sh sh' g':Nat}{ty':TypeId}{cells':List AV}{cs cs':Array Value}{e:TypeId}(d:ρ r=some (b,sh))
  (hb:w.heap[b]?=some (.cells cs e (0,0))) (h:cs'.size=cs.size) (j:H.gen r<=g') (g:g'=H.gen r->sh'=sh) (p:sh'+cells'.length<=cs.size)
  (hc:∀(i:Nat) (x:AV),cells'[i]?=some x->∃v,cs'[sh'+i]?=some v/\RV ρ H.gen w x v) (hX:Xct ty' e sh' cs'.size cells'.length):
  Rel (updρ ρ r (b,sh')) (H.put r (.blk g' ty' cells')) (jY w b (.cells cs' e (0,0)))/\Ext ρ H w (updρ ρ r (b,sh')) (H.put r (.blk g' ty' cells')) (jY w b (.cells cs' e (0,0))):=by
 have E:=Za (ρ:=ρ) (H:=H) (w:=w) (r:=r) (b:=b) (sh:=sh) (sh':=sh') (co:=.cells cs e (0,0)) (co':=.cells cs' e (0,0)) (o:=.blk g' ty' cells') d hb (by simp [Ea,h]) j g;refine⟨Zb R d E ⟨cs',e,mX (R.block d),V,?_,hX⟩,E⟩;refine sD (mX (R.block d)) λi x k=>?_;obtain⟨v,hv,m⟩:=hc i x k;exact⟨v,hv,R.keep E m⟩
def MF {ρ:Ren}{H:ah}{w:World}(R:Rel ρ H w){r b:Nat}{k:IntKind}{es es':List (Int × AV)}{d ade:Array MapEntry}{cl cl':Nat}(h:ρ r=some (b,0))(g:H.get r=.map k es)
  (hb:w.heap[b]?=some (.map d cl)) (hc:RVm ρ H.gen w k es' ade.toList) (i:Born ade.toList cl'):
  Rel ρ (H.put r (.map k es')) (jY w b (.map ade cl'))/\Ext ρ H w ρ (H.put r (.map k es')) (jY w b (.map ade cl')):=by
 have m:updρ ρ r (b,0)=ρ:=by
  funext x;unfold updρ;split
  ·rename_i e;subst e;exact h.symm
  ·rfl
 have j:H.gen r=0:=by simp [ah.gen,g,gu.gen]
 have E:=Za (ρ:=ρ) (H:=H) (w:=w) (r:=r) (b:=b) (sh:=0) (sh':=0) (co:=.map d cl) (co':=.map ade cl') (o:=.map k es') h hb rfl (by simp [j]) (λ_=>rfl);have:=Zb R h E ⟨ade,cl',mX (R.block h),rfl,RVm.mono E.toMono _ _ hc,i⟩;rw [m] at this E;exact⟨this,E⟩
def lK(cs:Array Value)(o:Nat):List Value->Array Value
 |[]=>cs
 |v::vs=>lK (cs.setIfInBounds o v) (o+1) vs
def fB:∀(vs:List Value) (cs:Array Value) (o:Nat),(lK cs o vs).size=cs.size
 |[],_,_=>rfl
 |v::vs,cs,o=>by simp [lK,fB vs]
def mY:∀(vs:List Value) (cs:Array Value) (o i:Nat),o+vs.length<=cs.size->(lK cs o vs)[i]?=if o<=i/\i<o+vs.length then vs[i-o]? else cs[i]?
 |[],cs,o,i,h=>by
  simp only [lK,zao,zbr];rw [if_neg V]
 |v::vs,cs,o,i,h=>by
  simp only [zal] at h;simp only [lK,zal];rw [mY vs _ (o+1) i (by simp;omega)];by_cases b:o=i
  ·subst b;rw [if_neg V,if_pos V];simp [show o<cs.size from by omega]
  ·by_cases d:o+1<=i/\i<o+1+vs.length
   ·rw [if_pos d,if_pos V,show i-o=(i-(o+1))+1 from by omega];rfl
   ·rw [if_neg d,if_neg V,zbA b]
def GH {P:Program}{w:World}{b o:Nat}{cs:Array Value}{e:TypeId}{v:Value}(hb:w.heap[b]?=some (.cells cs e (0,0)))(g:o<cs.size)(hv:v.oneCell'=true):
  (store ⟨b,o,none⟩ v).run P w=.ok () (jY w b (.cells (cs.setIfInBounds o v) e (0,0))):=by
 have hc:w.cell? ⟨b,o,none⟩=some cs[o]:=by simp [World.cell?,hb,g]
 have h:w.frozen? ⟨b,o,none⟩=false:=by simp [World.frozen?,hb]
 rw [run_store P w _ v _ hv,hc];simp only [h,if_false,zai];have d:=oP hb;have:w.setCell ⟨b,o,none⟩ v=jY w b (.cells (cs.setIfInBounds o v) e (0,0)):=by
  simp only [World.setCell,jY]
  congr 1
  apply Array.ext_getElem?
  intro i;rw [Array.getElem?_modify];by_cases hi:b=i
  ·subst hi;rw [hb];simp [d]
  ·simp [hi,zbA hi]
 rw [this]
def kE {P:Program}{b o:Nat}{e:TypeId}:∀(vs:List Value) (w:World) (cs:Array Value) (i:Nat),w.heap[b]?=some (.cells cs e (0,0))->o+i+vs.length<=cs.size->(∀v∈vs,v.oneCell'=true)->
  (storeCells ⟨b,o,none⟩ vs i).run P w=.ok () (jY w b (.cells (lK cs (o+i) vs) e (0,0)))
 |[],w,cs,i,hb,_,_=>by simp [storeCells,lK,Tn hb]
 |v::vs,w,cs,i,hb,d,hv=>by
  simp only [zal] at d;simp only [storeCells,Sem.run_bind,jX,GH hb (show o+i<cs.size by omega) (hv v O),Result.andThen_ok];rw [kE vs _ (cs.setIfInBounds (o+i) v) (i+1) (mX (oP hb)) (by simp;omega) (λu g=>hv u (by simp [g])),MB];rfl
def Xu {ρ:Ren}{G:Nat->Nat}{w:World}{x:AV}{v:Value}(e:x.aP=true)(h:RV ρ G w x v):v.oneCell'=true:=by
 cases x with
 |s u=>
  simp only [RV] at h;subst h;cases v <;> simp_all [AV.aP,Value.oneCell']
 |ref r g off=>simp only [RV] at h;obtain⟨a,rfl,_⟩:=h;rfl
 |sl r g off d len i ex=>simp only [RV] at h;obtain⟨b,o,c,rfl,_⟩:=h;rfl
 |ip cells=>simp only [RV] at h;obtain⟨b,o,rfl,_⟩:=h;rfl
 |vs n d cells=>simp only [RV] at h;obtain⟨b,o,c,rfl,_⟩:=h;rfl
 |mp r=>simp only [RV] at h;obtain⟨b,rfl,_⟩:=h;rfl
 |fn f a c=>simp only [RV] at h;obtain⟨a,c,rfl,_⟩:=h;rfl
 |agg l=>simp [AV.aP] at e
 |tup l=>simp [AV.aP] at e
def ru {ρ:Ren}{G:Nat->Nat}{w:World}{xs:List AV}{l:List Value}(e:xs.all AV.aP=true)(h:RVs ρ G w xs l):∀v∈l,v.oneCell'=true:=by
 intro v hv;obtain⟨i,hi,rfl⟩:=zdC hv;have j:=dQ h;have b:xs[i]?=some (xs[i]' V):=zab _;obtain⟨u,d,g⟩:=jR h b;rw [zab hi] at d;cases d;exact Xu (zaZ.1 e _ (zc4 _)) g
def MG {ρ:Ren}{G:Nat->Nat}{w:World}{x:AV}{v:Value}(h:RV ρ G w x v):RVs ρ G w x.cells v.cells.toList:=by
 cases x with
 |s u=>simp only [RV] at h;subst h;exact iw _
 |agg l=>simp only [RV] at h;obtain⟨cs,rfl,i⟩:=h;exact i
 |ref r g off=>
  have d:=h;simp only [RV] at h;obtain⟨a,rfl,_⟩:=h;exact jF d jI
 |sl r g off e len j ex=>have d:=h;simp only [RV] at h;obtain⟨b,o,c,rfl,_⟩:=h;exact jF d jI
 |ip cells=>have d:=h;simp only [RV] at h;obtain⟨b,o,rfl,_⟩:=h;exact jF d jI
 |vs n e cells=>have d:=h;simp only [RV] at h;obtain⟨b,o,c,rfl,_⟩:=h;exact jF d jI
 |mp r=>have d:=h;simp only [RV] at h;obtain⟨b,rfl,_⟩:=h;exact jF d jI
 |fn f a c=>have d:=h;simp only [RV] at h;obtain⟨a,c,rfl,_⟩:=h;exact jF d jI
 |tup l=>have d:=h;simp only [RV] at h;obtain⟨cs,rfl,_⟩:=h;exact jF d jI
def wZ(cells:List AV)(off:Nat)(xs:List AV)(h:off+xs.length<=cells.length)(i:Nat):(aO cells off xs)[i]?=if off<=i/\i<off+xs.length then xs[i-off]? else cells[i]?:=by
 unfold aO;rw [zcA];simp only [zau];rw [zbo V];by_cases b:i<off
 ·rw [if_pos b,if_neg V,zaB,if_pos b]
 ·rw [if_neg b,zcA];by_cases d:i-off<xs.length
  ·rw [if_pos d,if_pos V]
  ·rw [if_neg d,if_neg V,zaF]
   congr 1;omega
def jl(cells:List AV)(off:Nat)(xs:List AV)(h:off+xs.length<=cells.length):(aO cells off xs).length=cells.length:=by
 simp [aO];omega
def Ok(P:Program)(ρ:Ren)(H:ah)(w:World)(s:Sem Value)(v:AV)(H':ah):Prop:=
 ∃cv ρ' w',s.run P w=.ok cv w'/\Rel ρ' H' w'/\RV ρ' H'.gen w' v cv/\Ext ρ H w ρ' H' w'
def OkP(P:Program)(ρ:Ren)(G:Nat->Nat)(w:World)(s:Sem Value)(v:AV):Prop:=∃cv,s.run P w=.ok cv w/\RV ρ G w v cv
def OkP.ok {P:Program}{ρ:Ren}{H:ah}{w:World}{s:Sem Value}{v:AV}(h:OkP P ρ H.gen w s v)(R:Rel ρ H w):Ok P ρ H w s v H:=
 let⟨cv,h1,h2⟩:=h;⟨cv,ρ,w,h1,R,h2,Ext.refl _ _ _⟩
def mZ {α:Type}{P:Program}{s:Sem α}{a:α}(h:jd P s=some a)(w:World):s.run P w=.ok a w:=by
 induction s with
 |pure b=>simp [jd] at h;subst h;rfl
 |program k d=>exact d P h
 |_=>simp [jd] at h
mutual
def JX {ρ:Ren}{G:Nat->Nat}{w:World}:∀(x:AV) (v u:Value),RV ρ G w x v->x.val?=some u->v=u
 |.s _,v,u,h,b=>by simp only [RV] at h;simp only [AV.val?,zaa] at b;rw [h,b]
 |.agg l,v,u,h,b=>by
  obtain⟨cs,rfl,d⟩:=(by simpa only [RV] using h)
  simp only [AV.val?] at b;cases hv:vals? l with
  |none=>simp [hv] at b
  |some vs=>simp [hv] at b;subst b;rw [<-MJ l _ _ d hv]
 |.tup l,v,u,h,b=>by
  obtain⟨cs,rfl,d⟩:=(by simpa only [RV] using h)
  simp only [AV.val?] at b;cases hv:vals? l with
  |none=>simp [hv] at b
  |some vs=>simp [hv] at b;subst b;rw [<-MJ l _ _ d hv]
 |.ref ..,_,_,_,b=>by simp [AV.val?] at b
 |.sl ..,_,_,_,b=>by simp [AV.val?] at b
 |.ip ..,_,_,_,b=>by simp [AV.val?] at b
 |.vs ..,_,_,_,b=>by simp [AV.val?] at b
 |.mp ..,_,_,_,b=>by simp [AV.val?] at b
 |.fn ..,_,_,_,b=>by simp [AV.val?] at b
def MJ {ρ:Ren}{G:Nat->Nat}{w:World}:∀(xs:List AV) (l e:List Value),RVs ρ G w xs l->vals? xs=some e->l=e
 |[],l,e,h,b=>by simp only [RVs] at h;simp only [vals?,zaa] at b;rw [h,b]
 |x::xs,l,e,h,b=>by
  obtain⟨y,i,rfl,j,k⟩:=(by simpa only [RVs] using h)
  simp only [vals?] at b;cases g:x.val? with
  |none=>simp [g] at b
  |some v=>
   cases d:vals? xs with
   |none=>simp [g,d] at b
   |some vs=>simp [g,d] at b;subst b;rw [JX x y v j g,MJ xs i vs k d]
end
section
variable {P:Program}{ρ:Ren}{H H':ah}{w:World}{v:AV}
def vw {f:Option gu->Option AV}{x:AV}(h:kS f x H=some (v,H')):f ((bT x).map H.get)=some v/\H'=H:=by
 unfold kS at h;cases b:f ((bT x).map H.get) with
 |none=>rw [b] at h;cases h
 |some u=>rw [b] at h;simp only [zak,zaa,zad] at h;exact⟨by rw [h.1],h.2.symm⟩
def Ze(R:Rel ρ H w){t:TypeId}{x:AV}{q:Value}(d:RV ρ H.gen w x q)(h:Tf P t x H=some (v,H')):H'=H/\OkP P ρ H.gen w (Instr.loadAt t q) v:=by
 obtain⟨u,z⟩:=vw h
 clear h
 subst z;have h:=u
 clear u
 refine⟨rfl,?_⟩;unfold ah7 at h;cases x with
 |ref r g off=>
  simp only [bT,zak] at h;cases i:H'.get r with
  |map k E=>simp [i] at h
  |blk g' F cells=>
   simp only [i] at h;by_cases m:g'=g
   ·rw [if_pos m] at h;simp only [RV] at d;obtain⟨a,rfl,_,A⟩:=d;obtain⟨b,C,D,rfl⟩:=A (by simp [ah.gen,i,gu.gen,m]);have y:=R.obj r b C D;simp only [zA,i] at y;obtain⟨cs,e,_,_,hc,_⟩:=y;obtain⟨cv,j,p⟩:=Gx (P:=P) hc h;exact⟨cv,by simp [Instr.loadAt,Instr.sureAddr,j],p⟩
   ·rw [if_neg m] at h;cases h
 |ip cells=>
  simp only at h;simp only [RV] at d;obtain⟨b,o,rfl,_,_,hc⟩:=d;obtain⟨cv,j,p⟩:=Gx (P:=P) hc h;exact⟨cv,by simp [Instr.loadAt,Instr.sureAddr] at j ⊢;simp [j],p⟩
 |_=>simp at h
def bP {α:Type}(a:Array α):a.toList.length=a.size:=rfl
def adn(R:Rel ρ H w){t:TypeId}{x y:AV}{F cy:Value}(G:RV ρ H.gen w x F)(Q:RV ρ H.gen w y cy)(h:PY P t x y H=some (v,H')):
  v=bg/\∃ρ' w',(Instr.storeAt t F cy).run P w=.ok () w'/\Rel ρ' H' w'/\Ext ρ H w ρ' H' w':=by
 unfold PY at h;cases x with
 |ref r g off=>
  simp only at h;cases A:H.get r with
  |map k es=>simp [A] at h
  |blk g' T cells=>
   simp only [A] at h;split at h
   ·rename_i hc;obtain⟨rfl,_,hs,m,p⟩:=hc;simp only [zaa,zad] at h;obtain⟨rfl,rfl⟩:=h;simp only [RV] at G;obtain⟨a,rfl,_,W⟩:=G;obtain⟨b,z,K,rfl⟩:=W (by simp [ah.gen,A,gu.gen]);have L:=R.obj r b z K;simp only [zA,A] at L;obtain⟨cs,e,hb,X,E,hX⟩:=L;have q:=MG Q;have d:=dQ q;rw [bP] at d;have C:=kE (P:=P) (o:=z+off) cy.cells.toList w cs 0 hb (by rw [bP];omega) (ru m q);have M:H.gen r=g':=by simp [ah.gen,A,gu.gen]
    have j:=Gz (ty':=T) (cells':=aO cells off y.cells) (cs':=lK cs (z+off) cy.cells.toList) (g':=g') (sh':=z) R K hb (fB _ _ _) V (λ_=>rfl)
     (by rw [jl _ _ _ p];exact X) (by
      intro i u D;rw [wZ _ _ _ p] at D;rw [mY _ _ _ _ (by rw [bP];omega),bP];by_cases hi:off<=i/\i<off+y.cells.length
      ·rw [if_pos hi] at D;rw [if_pos V,show z+i-(z+off)=i-off from by omega];exact jR q D
      ·rw [if_neg hi] at D;rw [if_neg V];exact wY hb E D) (by rw [fB,jl _ _ _ p];exact hX)
    refine⟨rfl,_,_,?_,j.1,j.2⟩;simp only [Instr.storeAt,Instr.sureAddr,storeVar,Sem.run_bind,Sem.run_pure,Result.andThen_ok,fC hs,d,ne_eq,not_true,if_false]
    simpa using C
   ·cases h
 |_=>simp at h
def P7(R:Rel ρ H w)(t:TypeId)(d:t<iC){cells:List AV}{cv:Value}(hc:RVs ρ H.gen w cells cv.cells.toList):
  Ok P ρ H w (do pure (.pointer (some (<-newVar t cv)))) (.ref H.next 0 0) (H.new (.blk 0 t cells)):=by
 have b:=Zd (e:=t) (ty:=t) (cells:=cells) (cs:=cv.cells) R (by rw [<-bP,dQ hc];exact zac _) (λi x g=>by
  obtain⟨u,h,i⟩:=jR hc g;exact⟨u,by simpa using h,i⟩) (Xct.low d (by have:=dQ hc;rw [bP] at this;omega))
 refine⟨.pointer (some ⟨w.heap.size,0,none⟩),_,_,?_,b.1,?_,b.2⟩
 ·simp [newVar,newRow]
 ·simp only [RV];exact⟨_,rfl,V,λ_=>⟨w.heap.size,0,by simp [updρ],O⟩⟩
def akL(R:Rel ρ H w){t:TypeId}{x:AV}{b:Value}(d:RV ρ H.gen w x b)(h:gV t x H=some (v,H')):Ok P ρ H w (Instr.box t b) v H':=by
 unfold gV at h;split at h
 ·rename_i e;simp only [zaa,zad] at h;obtain⟨rfl,rfl⟩:=h;exact P7 R t e.2 (MG d)
 ·cases h
def ado(R:Rel ρ H w){t:TypeId}(h:JV P t H=some (v,H')):Ok P ρ H w (Instr.alloc t true (.tuple #[])) v H':=by
 unfold JV yR at h;cases b:Ap P t with
 |none=>simp [b] at h
 |some z=>
  simp only [b,zak] at h;split at h
  ·simp only [zaa,zad] at h;obtain⟨rfl,rfl⟩:=h;obtain⟨cv,ρ',w',d,e,g,i⟩:=P7 (P:=P) R t (vg b) (cells:=z.cells.toList.map .s) (cv:=z) (iw _);exact⟨cv,ρ',w',by simpa [Instr.alloc,gU b] using d,e,g,i⟩
  ·cases h
def JD {f:Field}{n:Nat}{a:Addr}(h:szT P f.type=some (n+1)):(fieldPlace a f).run P w=.ok (a.add f.offset) w:=by
 simp [fieldPlace,fC h]
def P8 {t:TypeId}{i:Nat}{x:AV}{cx:Value}(hx:RV ρ H.gen w x cx)(h:uj P t x i=some v):OkP P ρ H.gen w (Instr.fieldAt t cx i) v:=by
 unfold uj Vb at h;cases hu:P.underlying t with
 |none=>simp [hu] at h
 |some d=>
  cases d with
  |struct fs=>
   simp only [hu] at h;cases hf:fs[i]? with
   |none=>simp [hf] at h
   |some f=>
    simp only [hf] at h;cases hs:szT P f.type with
    |none=>simp [hs] at h
    |some n=>
     cases n with
     |zero=>simp [hs] at h
     |succ n=>
      simp only [hs] at h;have hrun:∀a,(Instr.fieldAt t (.pointer (some a)) i).run P w=.ok (.pointer (some (a.add f.offset))) w:=λa=>by
       simp [Instr.fieldAt,run_underlying hu,hf,Instr.sureAddr,JD hs]
      cases x with
      |ref r g off=>
       simp only [zaa] at h;subst h;simp only [RV] at hx;obtain⟨a,rfl,h1,h2⟩:=hx;refine⟨_,hrun a,?_⟩;simp only [RV];refine⟨_,rfl,h1,λhg=>?_⟩;obtain⟨b,sh,hr,rfl⟩:=h2 hg;exact⟨b,sh,hr,by rw [jX,zb6]⟩
      |ip cells=>
       simp only [zaa] at h;subst h;simp only [RV] at hx;obtain⟨b,o,rfl,h1,h2,h3⟩:=hx;refine⟨_,hrun _,?_⟩;simp only [RV];exact⟨b,o+f.offset,by rw [jX],h1,h2,su _ h3⟩
      |_=>simp at h
  |_=>simp [hu] at h
def P9(_R:Rel ρ H w){t:TypeId}{x i:AV}{cx ci:Value}(hx:RV ρ H.gen w x cx)(hi:RV ρ H.gen w i ci)(h:um P t x i H=some (v,H')):
  H'=H/\OkP P ρ H.gen w (Instr.indexAt t cx ci) v:=by
 obtain⟨h',hh⟩:=vw h
 clear h
 subst hh;have h:=h'
 clear h'
 refine⟨rfl,?_⟩;unfold CB at h;split at h
 ·rename_i e hu;split at h
  ·rename_i r g off esz len cap ex;split at h <;> first|(cases h;done)|skip
   rename_i k n;split at h <;> first|(cases h;done)|skip
   rename_i hc;obtain⟨hs,hg,h0,h1⟩:=hc;simp only [zaa] at h;subst h;simp only [RV] at hi hx;subst hi;obtain⟨b,o,c,rfl,q1,q2,q3,q4,q5⟩:=hx;obtain⟨sh,ty,m,hr,ho,hsh,hle⟩:=q5 hg;have ho':=ho V;refine⟨.pointer (some ⟨b,o+n.toNat*esz,none⟩),?_,?_⟩
   ·simp [Instr.indexAt,asIntOf,run_underlying hu,fC hs,jX,h0,h1]
   ·simp only [RV];exact⟨_,rfl,q4,λ_=>⟨b,sh,hr,by rw [ho',zb6]⟩⟩
  ·rename_i len esz cells;split at h <;> first|(cases h;done)|skip
   rename_i k n;split at h <;> first|(cases h;done)|skip
   rename_i hc;obtain⟨hs,h0,h1⟩:=hc;simp only [zaa] at h;subst h;simp only [RV] at hi hx;subst hi;obtain⟨b,o,c,rfl,q1,q2,q3,q4,q5⟩:=hx;refine⟨.pointer (some ⟨b,o+n.toNat*esz,none⟩),?_,?_⟩
   ·simp [Instr.indexAt,asIntOf,run_underlying hu,fC hs,jX,h0,h1]
   ·simp only [RV];exact⟨b,_,rfl,q3,q4,su _ q5⟩
  ·cases h
 ·rename_i len e hu;split at h <;> first|(cases h;done)|skip
  rename_i m hs;split at h
  ·rename_i r g off;split at h <;> first|(cases h;done)|skip
   rename_i k n;split at h <;> first|(cases h;done)|skip
   rename_i hc;obtain⟨h0,h1⟩:=hc;simp only [zaa] at h;subst h;simp only [RV] at hi hx;subst hi;obtain⟨a,rfl,q1,q2⟩:=hx;refine⟨.pointer (some (a.add (n.toNat*m))),?_,?_⟩
   ·simp [Instr.indexAt,asIntOf,run_underlying hu,fC hs,h0,h1,Instr.sureAddr]
   ·simp only [RV];refine⟨_,rfl,q1,λhg=>?_⟩;obtain⟨b,sh,hr,rfl⟩:=q2 hg;exact⟨b,sh,hr,by rw [jX,zb6]⟩
  ·rename_i cells;split at h <;> first|(cases h;done)|skip
   rename_i k n;split at h <;> first|(cases h;done)|skip
   rename_i hc;obtain⟨h0,h1⟩:=hc;simp only [zaa] at h;subst h;simp only [RV] at hi hx;subst hi;obtain⟨b,o,rfl,q1,q2,q3⟩:=hx;refine⟨.pointer (some ⟨b,o+n.toNat*m,none⟩),?_,?_⟩
   ·simp [Instr.indexAt,asIntOf,run_underlying hu,fC hs,h0,h1,Instr.sureAddr,jX]
   ·simp only [RV];exact⟨b,_,rfl,q1,q2,su _ q3⟩
  ·cases h
 ·cases h
end
section
variable {P:Program}{ρ:Ren}{G:Nat->Nat}{w:World}{v:AV}
def EX {t:TypeId}{cells:List AV}{cs:Array Value}{off:Nat}(hc:RVs ρ G w cells cs.toList)(h:JC P t cells off=some v):OkP P ρ G w (part t cs off) v:=by
 unfold JC at h;cases ha:akG P t with
 |none=>simp [ha] at h
 |some k=>
  cases hs:szT P t with
  |none=>simp [ha,hs] at h
  |some n=>
   cases k with
   |true=>
    simp [ha,hs] at h;obtain⟨d,rfl⟩:=h;refine⟨.agg (cs.extract off (off+n)),by simp [part,Au ha,fC hs],?_⟩;simp only [RV];refine⟨_,rfl,?_⟩;have:=adi n (adk off hc);rw [Array.toList_extract]
    simpa [List.extract] using this
   |false=>
    simp [ha,hs] at h;obtain⟨cv,b,e⟩:=jR hc h;refine⟨cv,?_,e⟩;have:cs[off]?=some cv:=by simpa using b
    simp [part,Au ha,this]
def adp {t:TypeId}{i:Nat}{x:AV}{p:Value}(e:RV ρ G w x p)(h:PV P t x i=some v):OkP P ρ G w (Instr.field t p i) v:=by
 unfold PV Vb at h;cases b:P.underlying t with
 |none=>simp [b] at h
 |some d=>
  cases d with
  |struct q=>
   simp only [b] at h;cases j:q[i]? with
   |none=>simp [j] at h
   |some f=>
    simp only [j] at h;split at h
    ·rename_i g cells k;cases k;simp only [RV] at e;obtain⟨cs,rfl,u⟩:=e;obtain⟨cv,m,o⟩:=EX (P:=P) u h;exact⟨cv,by simp [Instr.field,run_underlying b,j,asAgg,m],o⟩
    ·rename_i g cs k;cases k;simp only [RV] at e;subst e;obtain⟨cv,m,o⟩:=EX (P:=P) (iw (ρ:=ρ) (G:=G) (w:=w) cs.toList) h;exact⟨cv,by simp [Instr.field,run_underlying b,j,asAgg,m],o⟩
    ·cases h
  |_=>simp [b] at h
def adq {t:TypeId}{x i:AV}{p q:Value}(d:RV ρ G w x p)(hi:RV ρ G w i q)(h:PW P t x i=some v):OkP P ρ G w (Instr.index t p q) v:=by
 unfold PW at h;split at h
 ·rename_i s k n g;simp only [RV] at d hi;subst d hi;split at h
  ·rename_i b hb;simp only [zaa] at h;subst h;exact⟨.int .u8 b.toNat,by simp [Instr.index,asIntOf,run_underlying g,hb],by simp only [RV]⟩
  ·cases h
 ·rename_i len e cells k n g;simp only [RV] at d hi;subst hi;obtain⟨cs,rfl,u⟩:=d;cases hs:szT P e with
  |none=>simp [hs] at h
  |some m=>
   simp only [hs] at h;split at h
   ·rename_i hc;obtain⟨cv,j,o⟩:=EX (P:=P) u h;exact⟨cv,by simp [Instr.index,asIntOf,run_underlying g,fC hs,hc,j],o⟩
   ·cases h
 ·rename_i len e cs k n g;simp only [RV] at d hi;subst d hi;cases hs:szT P e with
  |none=>simp [hs] at h
  |some m=>
   simp only [hs] at h;split at h
   ·rename_i hc;obtain⟨cv,j,o⟩:=EX (P:=P) (iw (ρ:=ρ) (G:=G) (w:=w) cs.toList) h;exact⟨cv,by simp [Instr.index,asIntOf,run_underlying g,fC hs,hc,j],o⟩
   ·cases h
 ·cases h
def Xv {x:AV}{i:Nat}{e:Value}(b:RV ρ G w x e)(h:aJ x i=some v):OkP P ρ G w (Instr.extract e i) v:=by
 unfold aJ at h;split at h
 ·rename_i l;simp only [RV] at b;obtain⟨cs,rfl,g⟩:=b;obtain⟨cv,d,j⟩:=jR g h;have:cs[i]?=some cv:=by simpa using d
  exact⟨cv,by simp [Instr.extract,this],j⟩
 ·rename_i vs;simp only [RV] at b;subst b;cases hv:vs[i]? with
  |none=>simp [hv] at h
  |some u=>simp [hv] at h;subst h;exact⟨u,by simp [Instr.extract,hv],by simp only [RV]⟩
 ·cases h
def ah9 {c a b:AV}{e ca d:Value}(hc:RV ρ G w c e)(ha:RV ρ G w a ca)(hb:RV ρ G w b d)(h:cO c a b=some v):
  OkP P ρ G w (do pure (if<-asBool e then ca else d)) v:=by
 unfold cO at h;split at h
 ·simp only [RV] at hc;subst hc;simp only [zaa] at h;subst h;exact⟨ca,by simp [asBool],ha⟩
 ·simp only [RV] at hc;subst hc;simp only [zaa] at h;subst h;exact⟨d,by simp [asBool],hb⟩
 ·cases h
def aqk {op:UnOp}{x:AV}{b:Value}(e:RV ρ G w x b)(h:unA P op x=some v):OkP P ρ G w (Op.unary op b) v:=by
 unfold unA at h;cases hv:x.val? with
 |none=>simp [hv] at h
 |some a=>
  simp only [hv] at h;rw [JX x b a e hv];cases d:jd P (Op.unary op a) with
  |none=>simp [d] at h
  |some u=>simp [d] at h;subst h;exact⟨u,mZ d w,by simp only [RV]⟩
def lW {t:TypeId}{e cy:Value}{b:Bool}(h:∀d,(Op.equalIn (d+1) t e cy).run P w=.ok b w):(Op.equal t e cy).run P w=.ok b w:=h 9999
def Vg {t:TypeId}{x y:AV}{cx cy:Value}{b:Bool}(hx:RV ρ G w x cx)(hy:RV ρ G w y cy)(h:PU P t x y=some b):
  (Op.equal t cx cy).run P w=.ok b w/\(∀op u z,eqGuard op t u z cx cy=pure ())/\(binOp .eql t cx cy=(do pure (.bool (<-Op.equal t cx cy))))/\(binOp .neq t cx cy=(do pure (.bool (!(<-Op.equal t cx cy))))):=by
 unfold PU at h;cases hu:P.underlying t with
 | none=> simp [hu] at h
 | some d=>
  cases d with
  | slice e=>
   simp only [hu] at h;split at h <;> first
    | (cases h;done)
    | (simp only [zaa] at h;subst h
       simp only [RV] at hx hy
       first
          | (obtain⟨_,_,_,rfl,_⟩:=hx;subst hy;exact⟨lW λd=> by simp [Op.equalIn,run_underlying hu],λop _ _=> by cases op <;> rfl,rfl,rfl⟩)
          | (obtain⟨_,_,_,rfl,_⟩:=hy;subst hx;exact⟨lW λd=> by simp [Op.equalIn,run_underlying hu],λop _ _=> by cases op <;> rfl,rfl,rfl⟩))
  | pointer e=>
   simp only [hu] at h;split at h <;> first
    | (cases h;done)
    | (simp only [zaa] at h;subst h
       simp only [RV] at hx hy
       first
          | (obtain⟨_,rfl,_⟩:=hx;subst hy;exact⟨lW λd=> by simp [Op.equalIn,run_underlying hu],λop _ _=> by cases op <;> rfl,rfl,rfl⟩)
          | (obtain⟨_,rfl,_⟩:=hy;subst hx;exact⟨lW λd=> by simp [Op.equalIn,run_underlying hu],λop _ _=> by cases op <;> rfl,rfl,rfl⟩)
          | (obtain⟨_,_,rfl,_⟩:=hx;subst hy;exact⟨lW λd=> by simp [Op.equalIn,run_underlying hu],λop _ _=> by cases op <;> rfl,rfl,rfl⟩)
          | (obtain⟨_,_,rfl,_⟩:=hy;subst hx;exact⟨lW λd=> by simp [Op.equalIn,run_underlying hu],λop _ _=> by cases op <;> rfl,rfl,rfl⟩))
  | map k e=>
   simp only [hu] at h;split at h <;> first
    | (cases h;done)
    | (simp only [zaa] at h;subst h
       simp only [RV] at hx hy
       first
          | (obtain⟨_,rfl,_⟩:=hx;subst hy;exact⟨lW λd=> by simp [Op.equalIn,run_underlying hu],λop _ _=> by cases op <;> rfl,rfl,rfl⟩)
          | (obtain⟨_,rfl,_⟩:=hy;subst hx;exact⟨lW λd=> by simp [Op.equalIn,run_underlying hu],λop _ _=> by cases op <;> rfl,rfl,rfl⟩))
  | func ps rs vd=>
   simp only [hu] at h;split at h <;> first
    | (cases h;done)
    | (simp only [zaa] at h;subst h
       simp only [RV] at hx hy
       first
          | (obtain⟨_,_,rfl,_⟩:=hx;subst hy;exact⟨lW λd=> by simp [Op.equalIn,run_underlying hu],λop _ _=> by cases op <;> rfl,rfl,rfl⟩)
          | (obtain⟨_,_,rfl,_⟩:=hy;subst hx;exact⟨lW λd=> by simp [Op.equalIn,run_underlying hu],λop _ _=> by cases op <;> rfl,rfl,rfl⟩))
  | _=> simp [hu] at h
def Tt {op:BinOp}{t:TypeId}{a b:Value}{x y:Operand}(h:(eqGuard op t (.tmp 0) (.tmp 0) a b).run P w=.ok () w):(eqGuard op t x y a b).run P w=.ok () w:=by
 cases op <;> first
  |rfl
  |(cases a <;> first
    |rfl
    |(cases b <;> first
      |rfl
      |exact h
      |(cases x <;> cases y <;> first|rfl|exact h)))
def Qa {z:Operand}(h:Vd z=true):z=.const .nilIface:=by
 unfold Vd at h;split at h
 ·rfl
 ·cases h
def Tv {op:BinOp}{t:TypeId}{a:Value}{x:Operand}:eqGuard op t x (.const .nilIface) a .nilIface=eqGuard op t (.tmp 0) (.const .nilIface) a .nilIface:=by
 cases op <;> first
  |rfl
  |(cases a <;> first
    |rfl
    |(cases x <;> rfl))
def akM {op:BinOp}{t:TypeId}{x y:AV}{p cy:Value}{u z:Operand}(A:RV ρ G w x p)(C:RV ρ G w y cy)(h:qH P op t x y=some v):
  OkP P ρ G w (do eqGuard op t u z p cy;binOp op t p cy) v:=by
 unfold qH at h;split at h
 ·rename_i a b ha hb;rw [JX x p a A ha,JX y cy b C hb];cases q:jd P (do eqGuard op t (.tmp 0) (.tmp 0) a b;binOp op t a b) with
  |none=>simp [q] at h
  |some r=>
   simp [q] at h;subst h;have i:=mZ q w;rw [Sem.run_bind] at i;cases F:(eqGuard op t (.tmp 0) (.tmp 0) a b).run P w with
   |halt e w'=>rw [F] at i;cases i
   |ok c w'=>
    have j:∀w,(eqGuard op t (.tmp 0) (.tmp 0) a b).run P w=.ok c w:=by
     have D:∀{α β:Type} (s:Sem α) (f:α->Sem β) (r:β),jd P (s.bind f)=some r->∃a,jd P s=some a:=by
      intro α β s f r
      induction s with
      |pure a=>intro _;exact⟨a,rfl⟩
      |program k L=>intro h;exact L P h
      |_=>intro h;simp [Sem.bind,jd] at h
     obtain⟨c',m⟩:=D _ _ _ q;intro w0;have o:=mZ m w0;have g:=mZ m w;rw [F] at g;cases g;exact o
    have E:=Tt (x:=u) (y:=z) (by simpa using j w);refine⟨r,?_,by simp only [RV]⟩;rw [Sem.run_bind,E];rw [j w] at i;exact i
 ·split at h
  ·cases d:PU P t x y with
   |none=>simp [d] at h
   |some b=>
    simp [d] at h;subst h;obtain⟨o,g,H,K⟩:=Vg A C d;exact⟨.bool b,by rw [g,H];simp [o],by simp only [RV]⟩
  ·cases d:PU P t x y with
   |none=>simp [d] at h
   |some b=>
    simp [d] at h;subst h;obtain⟨o,g,H,K⟩:=Vg A C d;exact⟨.bool !b,by rw [g,K];simp [o],by simp only [RV]⟩
  ·cases h
def aia {op:BinOp}{t:TypeId}{x y:AV}{b cy:Value}{u z:Operand}(g:RV ρ G w x b)(j:RV ρ G w y cy)(k:Vd z=true->cy=.nilIface)(h:akH P op t z x y=some v):
  OkP P ρ G w (do eqGuard op t u z b cy;binOp op t b cy) v:=by
 unfold akH at h;split at h
 ·rename_i i;have e:=k i;have m:=Qa i;subst e m;unfold as7 at h;split at h
  ·rename_i a ha;rw [JX x b a g ha,Tv];cases d:jd P (do eqGuard op t (.tmp 0) (.const .nilIface) a .nilIface;binOp op t a .nilIface) with
   |none=>simp [d] at h
   |some r=>
    simp [d] at h;subst h;exact⟨r,mZ d w,by simp only [RV]⟩
  ·cases h
 ·exact akM g j h
def pV {x:Option AV}{b:Option Value}{d n:Nat}(e:match x,b with|some a,some c=>RV ρ G w a c|none,none=>True|_,_=>False)(h:ji x d=some n):
  (x=none/\b=none/\n=d)∨∃k i,x=some (.s (.int k i))/\b=some (.int k i)/\0<=i/\n=i.toNat:=by
 unfold ji at h;split at h
 ·cases b with
  |none=>cases h;exact .inl ⟨rfl,rfl,rfl⟩
  |some c=>exact e.elim
 ·rename_i k i;split at h
  ·cases b with
   |none=>exact e.elim
   |some c=>
    simp only [RV] at e;subst e;cases h;exact .inr ⟨k,i,rfl,rfl,‹_›,rfl⟩
  ·cases h
 ·cases h
def nT {k:IntKind}{i:Int}{y:Nat}{b:BoundsCode}(h0:0<=i)(d:i<=y):(Instr.sliceBound (.int k i) y b).run P w=.ok i.toNat w:=
 run_sliceBound w k i y b h0 d
end
section
variable {P:Program}{ρ:Ren}{H H':ah}{w:World}{v:AV}
def Tz(ρ:Ren)(G:Nat->Nat)(w:World)(x:Option AV)(b:Option Value):Prop:=match x,b with|some a,some c=>RV ρ G w a c|none,none=>True|_,_=>False
def nU {s:Bool}{len c l h m:Nat}{g j e:Option Value}
  (hm:(e=none/\m=c)∨∃k i,e=some (.int k i)/\0<=i/\m=i.toNat/\m<=c)
  (E:(j=none/\e=none/\h=len)∨∃k i,j=some (.int k i)/\0<=i/\h=i.toNat/\h<=m)
  (A:(g=none/\l=0)∨∃k i,g=some (.int k i)/\0<=i/\l=i.toNat/\l<=h):(Instr.sliceBounds s len c g j e).run P w=.ok (l,h,m) w:=by
 rcases hm with⟨rfl,rfl⟩|⟨L,z,rfl,q,rfl,G⟩
 ·rcases E with⟨rfl,_,rfl⟩|⟨H,o,rfl,b,rfl,C⟩
  ·rcases A with⟨rfl,rfl⟩|⟨F,u,rfl,d,rfl,v⟩
   ·simp [Instr.sliceBounds]
   ·have y:u<=(h:Int):=V
    simp [Instr.sliceBounds,nT d y]
  ·have p:o<=(m:Int):=V
   rcases A with⟨rfl,rfl⟩|⟨F,u,rfl,d,rfl,v⟩
   ·simp [Instr.sliceBounds,nT b p]
   ·have y:u<=(o.toNat:Int):=V
    simp only [Instr.sliceBounds,Sem.run_bind,Sem.run_pure,Result.andThen_ok,nT b p];simp [nT d y]
 ·rcases E with⟨_,K,_⟩|⟨H,o,rfl,b,rfl,C⟩
  ·cases K
  ·rcases A with⟨rfl,rfl⟩|⟨F,u,rfl,d,rfl,v⟩
   ·have D:z<=(c:Int):=V
    have p:o<=(z.toNat:Int):=V
    simp only [Instr.sliceBounds,Sem.run_bind,Sem.run_pure,Result.andThen_ok,nT q D,nT b p]
   ·have D:z<=(c:Int):=V
    have p:o<=(z.toNat:Int):=V
    have y:u<=(o.toNat:Int):=V
    simp only [Instr.sliceBounds,Sem.run_bind,Sem.run_pure,Result.andThen_ok,nT q D,nT b p,nT d y]
def nV {t e:TypeId}{len c l h m n:Nat}{a:Option Addr}{b d g:Option Value}(i:P.underlying t=some (.slice e))(hs:szT P e=some n)
  (hb:(Instr.sliceBounds true len c b d g).run P w=.ok (l,h,m) w):
  (Instr.sliceAt t (.slice a len c) b d g).run P w=.ok (.slice (if m=l then a else a.map (·.add (l*n))) (h-l) (m-l)) w:=by
 simp only [Instr.sliceAt,Sem.run_bind,run_underlying i,Result.andThen_ok,Instr.slice,hb,fC hs,Sem.run_pure]
def adr {t:TypeId}{x:AV}{lo hi mx:Option AV}{cx:Value}{clo chi cmx:Option Value}(hx:RV ρ H.gen w x cx)(hlo:Tz ρ H.gen w lo clo)(hhi:Tz ρ H.gen w hi chi)(hmx:Tz ρ H.gen w mx cmx)
  (h:PX P t x lo hi mx=some v):OkP P ρ H.gen w (Instr.sliceAt t cx clo chi cmx) v:=by
 unfold PX at h;cases hu:P.underlying t with
 |none=>simp [hu] at h
 |some d=>
  cases d with
  |slice e=>
   simp only [hu] at h;split at h
   ·rename_i n hs;split at h <;> first|(cases h;done)|skip
    rename_i h1 h2 h3;split at h <;> first|(cases h;done)|skip
    rename_i hcond;simp only [zaa] at h;subst h;simp only [RV] at hx;subst hx;have b1:=pV (x:=lo) hlo h1;have b2:=pV (x:=hi) hhi h2;have b3:=pV (x:=mx) hmx h3;refine⟨.slice none 0 0,?_,by simp only [RV]⟩;rw [nV hu hs (nU (l:=0) (h:=0) (m:=0) (by
       rcases b3 with⟨_,q,_⟩|⟨k,i,_,q,q0,q1⟩
       ·exact .inl ⟨q,rfl⟩
       ·exact .inr ⟨k,i,q,q0,q1,by omega⟩) (by
       rcases b2 with⟨p,q,_⟩|⟨k,i,_,q,q0,q1⟩
       ·refine .inl ⟨q,?_,rfl⟩;have:=hcond p;rcases b3 with⟨_,q',_⟩|⟨k,i,p',_⟩
        ·exact q'
        ·rw [this] at p';cases p'
       ·exact .inr ⟨k,i,q,q0,q1,by omega⟩) (by
       rcases b1 with⟨_,q,_⟩|⟨k,i,_,q,q0,q1⟩
       ·exact .inl ⟨q,rfl⟩
       ·exact .inr ⟨k,i,q,q0,q1,by omega⟩))]
    simp
   ·rename_i r g off esz len cap ex m hs;split at h <;> first|(cases h;done)|skip
    rename_i l hh k h1 h2 h3;split at h <;> first|(cases h;done)|skip
    rename_i hcond;obtain⟨rfl,c1,c2,c3,c4⟩:=hcond;simp only [zaa] at h;subst h;simp only [RV] at hx;obtain⟨b,o,c,rfl,q1,q2,q3,q4,q5⟩:=hx;have b1:=pV (x:=lo) hlo h1;have b2:=pV (x:=hi) hhi h2;have b3:=pV (x:=mx) hmx h3
    -- the capacity then
    obtain⟨m,hm,hkm,hmc,hex⟩:∃m,((cmx=none/\m=c)∨∃k i,cmx=some (.int k i)/\0<=i/\m=i.toNat/\m<=c)/\k<=m/\m<=c/\((ex || !isNone mx)=true->m=k):=by
     rcases b3 with⟨p,q,r⟩|⟨k',i,p,q,q0,r⟩
     ·refine⟨c,.inl ⟨q,rfl⟩,by omega,zac _,λhx=>?_⟩;subst p;simp [isNone] at hx;rw [q3 hx,r]
     ·exact⟨k,.inr ⟨k',i,q,q0,r,by omega⟩,zac _,by omega,λ_=>rfl⟩
    have hb:=nU (P:=P) (w:=w) (s:=true) (len:=len) (c:=c) (l:=l) (h:=hh) (m:=m) hm (by
       rcases b2 with⟨p,q,r⟩|⟨k',i,_,q,q0,r⟩
       ·refine .inl ⟨q,?_,r⟩;have:=c4 p;rcases b3 with⟨_,q',_⟩|⟨_,_,p',_⟩
        ·exact q'
        ·rw [this] at p';cases p'
       ·exact .inr ⟨k',i,q,q0,r,by omega⟩) (by
       rcases b1 with⟨_,q,r⟩|⟨k',i,_,q,q0,r⟩
       ·exact .inl ⟨q,r⟩
       ·exact .inr ⟨k',i,q,q0,r,by omega⟩)
    refine⟨_,nV hu hs hb,?_⟩;simp only [RV];by_cases hml:m=l
    ·refine⟨b,o,m-l,by simp [hml],by omega,by omega,λhx=>by rw [hex hx],q4,λhg=>?_⟩;obtain⟨sh,ty,n,p1,p2,p3,p4⟩:=q5 hg;refine⟨sh,ty,n,p1,λhc=>by omega,p3,?_⟩;have:(m-l)*esz<=c*esz:=zaD _ (by omega);omega
    ·refine⟨b,o+l*esz,m-l,by simp [hml,jX],by omega,by omega,λhx=>by rw [hex hx],q4,λhg=>?_⟩;obtain⟨sh,ty,n,p1,p2,p3,p4⟩:=q5 hg;refine⟨sh,ty,n,p1,λ_=>by rw [p2 (by omega)];omega,p3,?_⟩;have:l*esz+(m-l)*esz<=c*esz:=by rw [<-zbv];exact zaD _ (by omega)
     omega
   ·rename_i n esz cells m hs;split at h <;> first|(cases h;done)|skip
    rename_i l hh h1 h2;split at h <;> first|(cases h;done)|skip
    rename_i hcond;obtain⟨rfl,c1,c2⟩:=hcond;simp only [zaa] at h;subst h;simp only [RV] at hx;obtain⟨b,o,c,rfl,q1,q2,q3,q4,q5⟩:=hx;have b1:=pV (x:=lo) hlo h1;have b2:=pV (x:=hi) hhi h2;have hmn:cmx=none:=by
     cases cmx with
     |none=>rfl
     |some c=>exact hmx.elim
    have hb:=nU (P:=P) (w:=w) (s:=true) (len:=n) (c:=c) (l:=l) (h:=hh) (m:=c) (.inl ⟨hmn,rfl⟩) (by
       rcases b2 with⟨p,q,r⟩|⟨k',i,_,q,q0,r⟩
       ·exact .inl ⟨q,hmn,r⟩
       ·exact .inr ⟨k',i,q,q0,r,by omega⟩) (by
       rcases b1 with⟨_,q,r⟩|⟨k',i,_,q,q0,r⟩
       ·exact .inl ⟨q,r⟩
       ·exact .inr ⟨k',i,q,q0,r,by omega⟩)
    refine⟨_,nV hu hs hb,?_⟩;simp only [RV];have hlen:(List.take ((hh-l)*esz) (List.drop (l*esz) cells)).length=(hh-l)*esz:=by
     simp only [zau,zaR,q2];have:(hh-l)*esz+l*esz<=n*esz:=by rw [<-zbv];exact zaD _ (by omega)
     omega
    by_cases hml:c=l
    ·have:hh-l=0:=by omega
     refine⟨b,o,c-l,by simp [hml],by omega,hlen,q3,q4,?_⟩;rw [this];simp [RVc]
    ·exact⟨b,o+l*esz,c-l,by simp [hml,jX],by omega,hlen,q3,q4,uZ _ (su _ q5)⟩
   ·cases h
  |string=>
   simp only [hu] at h;split at h
   ·rename_i s l h1;split at h <;> first|(cases h;done)|skip
    rename_i hh h2;split at h <;> first|(cases h;done)|skip
    rename_i hcond;simp only [zaa] at h;subst h;simp only [RV] at hx;subst hx;have b1:=pV (x:=lo) hlo h1;have b2:=pV (x:=hi) hhi h2;have hmn:cmx=none:=by
     cases cmx with
     |none=>rfl
     |some c=>exact hmx.elim
    subst hmn;have hb:=nU (P:=P) (w:=w) (s:=false) (len:=s.size) (c:=s.size) (l:=l) (h:=hh) (m:=s.size) (.inl ⟨rfl,rfl⟩) (by
       rcases b2 with⟨p,q,r⟩|⟨k',i,_,q,q0,r⟩
       ·exact .inl ⟨q,rfl,r⟩
       ·exact .inr ⟨k',i,q,q0,r,by omega⟩) (by
       rcases b1 with⟨_,q,r⟩|⟨k',i,_,q,q0,r⟩
       ·exact .inl ⟨q,r⟩
       ·exact .inr ⟨k',i,q,q0,r,by omega⟩)
    refine⟨.string (s.extract l hh),?_,by simp only [RV]⟩;simp only [Instr.sliceAt,Sem.run_bind,run_underlying hu,Result.andThen_ok,Instr.slice,zaK,zai,if_false,hb,Sem.run_pure]
   ·cases h
  |_=>simp [hu] at h
end
def yj(off:Nat):∀(l:List Value) (k:Nat) (cs:Array Value),(l.zipIdx k).foldl (λcs (p:Value × Nat)=>cs.setIfInBounds (off+p.2) p.1) cs=lK cs (off+k) l
 |[],_,_=>rfl
 |v::l,k,cs=>by
  simp only [List.zipIdx_cons,zbT,lK];exact yj off l (k+1) _
section
variable {P:Program}{ρ:Ren}{G:Nat->Nat}{H H':ah}{w:World}{v:AV}
def Zf {cells xs:List AV}{cs vs:List Value}{off:Nat}(hc:RVs ρ G w cells cs)(j:RVs ρ G w xs vs)(d:off+xs.length<=cells.length):RVs ρ G w (aO cells off xs) (lK cs.toArray off vs).toList:=by
 have k:=dQ hc;have m:=dQ j;refine uq (by rw [jl _ _ _ d,bP,fB];simp [k]) λi x hi=>?_;rw [wZ _ _ _ d] at hi;have b:=mY vs cs.toArray off i (by simp;omega);rw [m] at b;by_cases e:off<=i/\i<off+xs.length
 ·rw [if_pos e] at hi b;obtain⟨u,g,h⟩:=jR j hi;exact⟨u,by rw [zcY,b,g],h⟩
 ·rw [if_neg e] at hi b;obtain⟨u,g,h⟩:=jR hc hi;exact⟨u,by rw [zcY,b];simpa using g,h⟩
def GI {d:Nat->Option (Nat × Nat)}:∀(b:List (Nat × AV)) (o:List (Nat × Value)) (cells:List AV) (cs:Array Value) (cells':List AV),
  b.map (·.1)=o.map (·.1)->RVs ρ G w (b.map (·.2)) (o.map (·.2))->RVs ρ G w cells cs.toList->fK d cells b=some cells'->
  ∃cs',Instr.fill d cs o=some cs'/\RVs ρ G w cells' cs'.toList
 |[],[],cells,cs,cells',_,_,hc,h=>by
  simp only [fK,zaa] at h;subst h;exact⟨cs,rfl,hc⟩
 |[],_::_,_,_,_,hi,_,_,_=>by simp at hi
 |_::_,[],_,_,_,hi,_,_,_=>by simp at hi
 |(i,x)::b,(j,y)::o,cells,cs,cells',hi,z,hc,h=>by
  simp only [zax,zbU] at hi;obtain⟨rfl,hi⟩:=hi;simp only [zax,RVs] at z;obtain⟨_,_,e,A,C⟩:=z;cases e;simp only [fK] at h;cases k:d i with
  |none=>simp [k] at h
  |some os=>
   obtain⟨off,size⟩:=os;simp only [k] at h;split at h
   ·rename_i m;obtain⟨hs,u⟩:=m;have g:=MG A;have p:=dQ g;rw [bP] at p;have v:=dQ hc;rw [bP] at v;have q:=Zf hc g u;obtain⟨cs',D,E⟩:=GI b o _ _ cells' hi C q h;refine⟨cs',?_,E⟩;simp only [Instr.fill,k];rw [if_neg (by simp;omega)];rw [<-D]
    congr 1
    rw [<-zcM,zdD];exact yj off y.cells.toList 0 _
   ·cases h
def Xw {fs:Array Field}(h:fs.all (λf=>(szT P f.type).isSome)=true):
  (fs.mapM λf=>do pure (f.offset,<-sizeOf f.type):Sem (Array (Nat × Nat))).run P w=.ok (fs.map λf=>(f.offset,(szT P f.type).getD 0)) w:=by
 rw [Array.mapM_eq_mapM_toList];have key:∀l:List Field,(∀f∈l,(szT P f.type).isSome=true)->(l.mapM λf=>do pure (f.offset,<-sizeOf f.type):Sem (List (Nat × Nat))).run P w=.ok (l.map λf=>(f.offset,(szT P f.type).getD 0)) w:=by
  intro l
  induction l with
  |nil=>intro _;simp
  |cons f l d=>
   intro b;have e:=b f O;cases hs:szT P f.type with
   |none=>simp [hs] at e
   |some n=>
    rw [zbw];simp only [Sem.run_bind,fC hs,Sem.run_pure,Result.andThen_ok,d (λg i=>b g (by simp [i])),zax,hs,zav]
 rw [Sem.run_map,key fs.toList (λf j=>by
  have:=zcN.1 h f (by simpa using j);exact this)]
 simp only [Result.andThen_ok]
 congr 1
 exact(zcn.1 O)
def ads {t:TypeId}{b:List (Nat × AV)}{p:Array (Nat × Value)}(hi:b.map (·.1)=p.toList.map (·.1))(D:RVs ρ G w (b.map (·.2)) (p.toList.map (·.2)))
  (h:gy P t b=some v):OkP P ρ G w (Instr.build t p) v:=by
 unfold gy yR at h;cases j:Ap P t with
 |none=>simp [j] at h
 |some z=>
  cases o:P.underlying t with
  |none=>simp [j,o] at h
  |some d=>
   cases d with
   |struct q=>
    simp only [j,o,zak] at h;split at h
    ·rename_i g;cases k:fK (PS P q) (z.cells.toList.map .s) b with
     |none=>simp [k] at h
     |some cells=>
      simp only [k,zak,zaa] at h;subst h;obtain⟨cs,u,y⟩:=GI (ρ:=ρ) (G:=G) (w:=w) b p.toList _ z.cells cells hi D (iw _) k;refine⟨.agg cs,?_,by simp only [RV];exact⟨cs,rfl,y⟩⟩;have A:(λi=>(q.map λf=>(f.offset,(szT P f.type).getD 0))[i]?)=PS P q:=by
       funext i
       simp only [PS,Array.getElem?_map];cases C:q[i]? with
       |none=>simp
       |some f=>
        have E:=zcN.1 g f (Array.mem_of_getElem? C);cases hs:szT P f.type with
        |none=>simp [hs] at E
        |some n=>simp [hs]
      simp only [Instr.build,Sem.run_bind,gU j,run_underlying o,Result.andThen_ok,Xw g];rw [A,u];simp
    ·cases h
   |array n e=>
    simp only [j,o,zak] at h;cases hs:szT P e with
    |none=>simp [hs] at h
    |some m=>
     simp only [hs] at h;cases k:fK (λi=>some (i*m,m)) (z.cells.toList.map .s) b with
     |none=>simp [k] at h
     |some cells=>
      simp only [k,zak,zaa] at h;subst h;obtain⟨cs,u,y⟩:=GI (ρ:=ρ) (G:=G) (w:=w) b p.toList _ z.cells cells hi D (iw _) k;refine⟨.agg cs,?_,by simp only [RV];exact⟨cs,rfl,y⟩⟩;simp only [Instr.build,Sem.run_bind,gU j,run_underlying o,Result.andThen_ok,fC hs,u,Sem.run_pure]
   |_=>simp [j,o] at h
def JY(z:List AV)(d:0<z.length):∀(n i:Nat),i<n*z.length->(dN z n)[i]?=z[i % z.length]?
 |0,i,h=>by simp at h
 |n+1,i,h=>by
  simp only [dN];rw [zcA];by_cases hi:i<z.length
  ·rw [if_pos hi,zco hi]
  ·have b:(i-z.length) % z.length=i % z.length:=by rw [Nat.mod_eq_sub_mod (a:=i) V]
   rw [if_neg hi,JY z d n (i-z.length) (by rw [zbv,zbh] at h;omega),b]
def jm(z:List AV):∀n,(dN z n).length=n*z.length
 |0=>by simp [dN]
 |n+1=>by simp [dN,jm z n,zbv];omega
def xg(z:Value)(n:Nat):RVs ρ G w (dN (z.cells.toList.map .s) n) ((Array.range (n*z.cells.size)).map (z.cells[· % z.cells.size]!)).toList:=by
 have d:(z.cells.toList.map AV.s).length=z.cells.size:=O
 refine uq (by rw [jm,d];simp) λi x e=>?_;have hi:i<n*z.cells.size:=by
  rcases zaQ i (n*z.cells.size) with h|h
  ·exact h
  ·rw [zaG (by rw [jm,d];exact h)] at e;cases e
 have b:0<z.cells.size:=by
  rcases Nat.eq_zero_or_pos z.cells.size with h|h
  ·rw [h,Nat.mul_zero] at hi;omega
  ·exact h
 rw [JY _ (by rw [d];exact b) n i (by rw [d];exact hi),d] at e;have hm:i % z.cells.size<z.cells.size:=Nat.mod_lt _ b;refine⟨z.cells[i % z.cells.size],?_,?_⟩
 ·simp [hi,hm]
 ·have:x=.s z.cells[i % z.cells.size]:=by
   simp [hm] at e;exact e.symm
  subst this;simp only [RV]
def pW {t e:TypeId}(h:Am P t=some e):P.underlying t=some (.slice e):=by
 unfold Am at h;split at h
 ·rename_i b;cases h;exact b
 ·cases h
def Aw {t:TypeId}{z:List AV}(h:yR P t=some z):∃v,Ap P t=some v/\z=v.cells.toList.map .s:=by
 unfold yR at h;cases b:Ap P t with
 |none=>simp [b] at h
 |some v=>simp [b] at h;exact⟨v,rfl,h.symm⟩
def vC(R:Rel ρ H w){e:TypeId}{cells:List AV}{cs:Array Value}{m len cap c:Nat}{ex:Bool}(hc:RVs ρ H.gen w cells (cs.toList.take cells.length))(d:cells.length<=cs.size)(h:len<=cap)(i:cap<=c)(j:ex=true->c=cap)(p:c*m<=cs.size){ty:TypeId}(hX:Xct ty e 0 cs.size cells.length):
  ∃ρ',Rel ρ' (H.new (.blk 0 ty cells)) (w.alloc (.cells cs e))/\RV ρ' (H.new (.blk 0 ty cells)).gen (w.alloc (.cells cs e)) (.sl H.next 0 0 m len cap ex) (.slice (some ⟨w.heap.size,0,none⟩) len c)/\Ext ρ H w ρ' (H.new (.blk 0 ty cells)) (w.alloc (.cells cs e)):=by
 have g:=Zd (e:=e) (ty:=ty) (cells:=cells) (cs:=cs) R d (λi x k=>by
  obtain⟨u,b,o⟩:=jR hc k;rw [zaB] at b;split at b
  ·exact⟨u,by simpa using b,o⟩
  ·cases b) hX
 refine⟨_,g.1,?_,g.2⟩;simp only [RV];refine⟨w.heap.size,0,c,rfl,h,i,j,V,λ_=>⟨0,e,cs.size,by simp [updρ],λ_=>rfl,?_,V⟩⟩;rw [fG,kD];rfl
def Zg {xs:List AV}{l:List Value}(h:RVs ρ G w xs l):RVs ρ G w xs (l.take xs.length):=by
 rw [zaw (by rw [dQ h];exact zac _)];exact h
def MK(R:Rel ρ H w){t:TypeId}{len:Nat}{d:List (Nat × AV)}{A:Array (Nat × Value)}(hi:d.map (·.1)=A.toList.map (·.1))(W:RVs ρ H.gen w (d.map (·.2)) (A.toList.map (·.2)))
  (h:dK P t len d H=some (v,H')):Ok P ρ H w (Instr.buildSlice t len A) v H':=by
 unfold dK at h;cases C:Am P t with
 |none=>simp [C] at h
 |some e=>
  simp only [C] at h;cases hs:szT P e with
  |none=>simp [hs] at h
  |some m=>
   cases D:yR P e with
   |none=>simp [hs,D] at h
   |some z=>
    simp only [hs,D] at h;obtain⟨zv,u,rfl⟩:=Aw D;split at h <;> first|(cases h;done)|skip
    rename_i o;obtain⟨q,Q⟩:=o;simp at q;split at h <;> first|(cases h;done)|skip
    rename_i cells X;split at h <;> first|(cases h;done)|skip
    simp only [zaa,zad] at h;obtain⟨rfl,rfl⟩:=h
    -- the zero cells
    obtain⟨y,E,F⟩:∃y:Array Value,RVs ρ H.gen w (dN (zv.cells.toList.map .s) len) ((Array.range (len*m)).map (y[· % y.size]!)).toList/\((len*m=0/\y=#[])∨(¬len*m=0/\y=zv.cells)):=by
     by_cases j:len*m=0
     ·refine⟨#[],?_,.inl ⟨j,rfl⟩⟩;rw [j];have:dN (zv.cells.toList.map .s) len=[]:=zat (by rw [jm];simp [q,j]);rw [this];simp [RVs]
     ·refine⟨zv.cells,?_,.inr ⟨j,rfl⟩⟩;have:=xg (ρ:=ρ) (G:=H.gen) (w:=w) zv len;rw [q] at this ⊢;exact this
    obtain⟨cs,K,T⟩:=GI d A.toList _ _ cells hi W E X;have k:=dQ T;have L:cs.size=len*m:=by
     have hsz:∀(g:Nat->Option (Nat × Nat)) (l:List (Nat × Value)) (a b:Array Value),Instr.fill g a l=some b->b.size=a.size:=by
      intro g l
      induction l with
      |nil=>intro a b h;simp [Instr.fill] at h;rw [h]
      |cons p l ih=>
       intro a b h;obtain⟨i,x⟩:=p;simp only [Instr.fill] at h;split at h
       ·cases h
       ·split at h
        ·cases h
        ·rw [ih _ _ h,<-zcM,zdD,yj,fB]
     rw [hsz _ _ _ _ K];simp
    obtain⟨ρ',q1,q2,q3⟩:=vC (ty:=e) (hX:=Xct.low (vg u) (by have:=k;rw [bP] at this;omega)) (e:=e) (cells:=cells) (cs:=cs) (m:=m) (len:=len) (cap:=len) (c:=len) (ex:=true) R (Zg T) (by rw [<-k,bP];exact zac _) (zac _) (zac _) (λ_=>rfl) (by rw [L];exact zac _);refine⟨_,ρ',_,?_,q1,q2,q3⟩;have M:¬len*m > 2 ^ 24:=V
    simp only [Instr.buildSlice,Sem.run_bind,run_underlying (pW C),Result.andThen_ok,fC hs,M,if_false];rcases F with⟨j,rfl⟩|⟨j,rfl⟩
    ·rw [if_pos j];simp only [Result.andThen_ok,K,Sem.run_bind,newRow,run_newObj,Sem.run_pure];rfl
    ·rw [if_neg j];simp only [Result.andThen_ok,K,Sem.run_bind,newRow,run_newObj,Sem.run_pure,gU u];rfl
def Qb(R:Rel ρ H w){t:TypeId}{x y:AV}{E cy:Value}(F:RV ρ H.gen w x E)(K:RV ρ H.gen w y cy)(h:qP P t x y H=some (v,H')):Ok P ρ H w (Instr.makeSlice t E cy) v H':=by
 unfold qP at h;split at h <;> first|(cases h;done)|skip
 rename_i e k1 l L c M;simp only [RV] at F K;subst F K;cases hs:szT P e with
 |none=>simp [hs] at h
 |some m=>
  cases hb:yZ P e with
  |none=>simp [hs,hb] at h
  |some by_=>
   cases u:yR P e with
   |none=>simp [hs,hb,u] at h
   |some z=>
    simp only [hs,hb,u] at h;obtain⟨zv,k,rfl⟩:=Aw u;split at h <;> first|(cases h;done)|skip
    rename_i g;obtain⟨i,A,Q,T,h2,h3⟩:=g;simp at i;simp only [zaa,zad] at h;obtain⟨rfl,rfl⟩:=h;cases b:P.info? e with
    |none=>simp [szT,b] at hs
    |some d=>
     simp [szT,b] at hs;simp [yZ,b] at hb;have C:d.zero=some zv:=by simpa [b] using adl k
     have o:=run_make (P:=P) (w:=w) t e d zv (pW M) b C k1 L l c Q T (by rw [hb];omega) V;have p:=xg (ρ:=ρ) (G:=H.gen) (w:=w) zv c.toNat;have D:((Array.range (c.toNat*zv.cells.size)).map (zv.cells[· % zv.cells.size]!))=madeCells zv.cells (c.toNat*d.size):=by
      rw [madeCells,hs,i]
     have j:(madeCells zv.cells (c.toNat*d.size)).size=c.toNat*m:=by rw [size_madeCells,hs]
     have q:(dN (zv.cells.toList.map .s) c.toNat).length=c.toNat*m:=by rw [jm];simp [i]
     obtain⟨ρ',W,X,q3⟩:=vC (ty:=e) (hX:=Xct.low (vg k) (by rw [j,q])) (e:=e) (cells:=dN (zv.cells.toList.map .s) c.toNat) (cs:=madeCells zv.cells (c.toNat*d.size)) (m:=m) (len:=l.toNat) (cap:=c.toNat) (c:=c.toNat) (ex:=true) R
      (Zg (by rw [D] at p;exact p)) (by rw [j,q];exact zac _) V (zac _) (λ_=>rfl) (by rw [j];exact zac _)
     exact⟨_,ρ',_,o,W,X,q3⟩
end
section
variable {P:Program}{ρ:Ren}{G:Nat->Nat}{H H':ah}{w:World}{v:AV}
def TA {t:TypeId}{k:IntKind}{e:TypeId}(h:aky P t=some (k,e)):∃b,P.underlying t=some (.map b e)/\P.underlying b=some (.int k):=by
 unfold aky at h;split at h
 ·rename_i b g d;split at h
  ·rename_i i hk;simp only [zaa,zad] at h;obtain⟨rfl,rfl⟩:=h;exact⟨b,d,hk⟩
  ·cases h
 ·cases h
def oQ {b:Nat}{d:Array MapEntry}{cl:Nat}(h:w.heap[b]?=some (.map d cl)):(getObj b).run P w=.ok (.map d cl) w:=by
 simp [getObj,Sem.run,h]
def yt {b:Nat}{d:Array MapEntry}{cl:Nat}{o:Obj}(h:w.heap[b]?=some (.map d cl)):(setObj b o).run P w=.ok () (jY w b o):=by
 simp [setObj,Sem.run,h,jY]
def xk {b:TypeId}{k:IntKind}{n:Int}(hk:P.underlying b=some (.int k))(e:Bool)(d:Nat):(Instr.checkKey e (d+1) b (.int k n)).run P w=.ok () w:=by
 simp [Instr.checkKey,run_underlying hk]
def sF {k:IntKind}{n:Int}:∀(es:List (Int × AV)) (l:List MapEntry) (i:Nat),RVm ρ G w k es l->qY es n=none->Instr.findNow (.int k) (.int k n) l i=some none
 |[],l,i,h,_=>by simp only [RVm] at h;subst h;rfl
 |(m,x)::es,l,i,h,b=>by
  obtain⟨e,d,rfl,hk,_,g⟩:=(by simpa only [RVm] using h)
  simp only [qY] at b;split at b
  ·cases b
  ·rename_i j;simp only [Instr.findNow,hk,Instr.sameNow];have:(n==m)=false:=by simp;omega
   simp [this,sF es d (i+1) g b]
def sG {k:IntKind}{n:Int}{x:AV}:∀(es:List (Int × AV)) (l:List MapEntry) (i:Nat),RVm ρ G w k es l->qY es n=some x->
  ∃j e,Instr.findNow (.int k) (.int k n) l i=some (some (i+j,e.val))/\l[j]?=some e/\e.key=.int k n/\RV ρ G w x e.val/\
   (∀y cy,RV ρ G w y cy->RVm ρ G w k (L6 es n y) (l.modify j λe=>{ e with key:=.int k n,val:=cy }))/\RVm ρ G w k (Aq es n) (l.eraseIdx j)
 |[],l,i,h,b=>by simp [qY] at b
 |(m,z)::es,l,i,h,b=>by
  obtain⟨e,u,rfl,hk,g,o⟩:=(by simpa only [RVm] using h)
  simp only [qY] at b;split at b
  ·rename_i p;cases b;subst p;refine⟨0,e,?_,rfl,hk,g,λy cy q=>?_,?_⟩
   ·simp [Instr.findNow,hk,Instr.sameNow]
   ·simp only [L6,if_true,List.modify_zero_cons,RVm];exact⟨_,_,rfl,rfl,q,o⟩
   ·simpa only [Aq,if_true,List.eraseIdx_zero,List.tail_cons] using o
  ·rename_i d;obtain⟨j,v,A,C,D,E,F,H⟩:=sG es u (i+1) o b;refine⟨j+1,v,?_,by simpa using C,D,E,λy cy q=>?_,?_⟩
   ·have:(n==m)=false:=by simp;omega
    simp only [Instr.findNow,hk,Instr.sameNow,if_true,this];rw [A,show i+1+j=i+(j+1) from by omega]
   ·simp only [L6,if_neg d,List.modify_succ_cons,RVm];exact⟨_,_,rfl,hk,g,F y cy q⟩
   ·simp only [Aq,if_neg d,zdh,RVm];exact⟨_,_,rfl,hk,g,H⟩
def Qc {k:IntKind}{n:Int}{y:AV}{cy:Value}{born:Nat}(g:RV ρ G w y cy):∀(es:List (Int × AV)) (l:List MapEntry),RVm ρ G w k es l->qY es n=none->RVm ρ G w k (L6 es n y) (l++[{ key:=.int k n,val:=cy,born }])
 |[],l,h,_=>by
  simp only [RVm] at h;subst h;simp only [L6,zaM,RVm];exact⟨_,_,rfl,rfl,g,rfl⟩
 |(m,z)::es,l,h,b=>by
  obtain⟨e,i,rfl,hk,j,o⟩:=(by simpa only [RVm] using h)
  simp only [qY] at b;split at b
  ·cases b
  ·rename_i d;simp only [L6,if_neg d,zbq,RVm];exact⟨_,_,rfl,hk,j,Qc g es i o b⟩
def JZ {n:Int}:∀(es:List (Int × AV)),qY es n=none->Aq es n=es
 |[],_=>rfl
 |(m,z)::es,b=>by
  simp only [qY] at b;split at b
  ·cases b
  ·rename_i d;simp only [Aq,if_neg d,JZ es b]
def oU {b:TypeId}{k:IntKind}{n:Int}{l:List MapEntry}{r:Option (Nat × Value)}(hk:P.underlying b=some (.int k))(h:Instr.findNow (.int k) (.int k n) l 0=some r):
  (Instr.findKey b (.int k n) l).run P w=.ok r w:=by
 simp [Instr.findKey,run_underlying hk,h]
def Born.push {es:List MapEntry}{cl:Nat}(h:Born es cl){key val:Value}:Born (es++[{ key,val,born:=cl }]) (cl+1):=by
 obtain⟨d,e⟩:=h;refine⟨λx b=>?_,?_⟩
 ·rcases zaO.1 b with b|b
  ·exact Nat.lt_succ_of_lt (d x b)
  ·rw [zaU] at b;subst b;exact zdn _
 ·rw [zbi];refine zb2.2 ⟨e,O,λa ha c hc=>?_⟩;simp only [zax,zbJ,zaU] at hc;subst hc;obtain⟨x,b,rfl⟩:=zaI.1 ha;exact zb4 (d x b)
def xq {g:MapEntry->MapEntry}(b:∀e,(g e).born=e.born):∀(es:List MapEntry) (j:Nat),(es.modify j g).map (·.born)=es.map (·.born)
 |[],j=>by simp
 |e::es,0=>by simp [b]
 |e::es,j+1=>by simp [xq b es j]
def Born.modify {es:List MapEntry}{cl:Nat}(h:Born es cl){j:Nat}{g:MapEntry->MapEntry}(b:∀e,(g e).born=e.born):Born (es.modify j g) cl:=by
 have hm:=xq b es j;refine⟨λx d=>?_,by rw [hm];exact h.2⟩;have:x.born∈es.map (·.born):=by rw [<-hm];exact zaI.2 ⟨x,d,rfl⟩
 obtain⟨y,i,e⟩:=zaI.1 this;have:=h.1 y i;rw [<-e];exact this
def Born.erase {es:List MapEntry}{cl:Nat}(h:Born es cl){j:Nat}:Born (es.eraseIdx j) cl:=
 ⟨λx b=>h.1 x ((zcZ _ _).mem b),h.2.sublist ((zcZ _ _).map _)⟩
def ML(R:Rel ρ H w){r:Nat}{k:IntKind}{es:List (Int × AV)}{g:Value}(h:RV ρ H.gen w (.mp r) g)(i:H.get r=.map k es):
  ∃b d cl,g=.map (some b)/\ρ r=some (b,0)/\w.heap[b]?=some (.map d cl)/\RVm ρ H.gen w k es d.toList/\Born d.toList cl:=by
 simp only [RV] at h;obtain⟨b,rfl,e⟩:=h;have e:=e (by simp [ah.gen,i,gu.gen]);have j:=R.obj r b 0 e;simp only [zA,i] at j;obtain⟨d,cl,m,_,o,p⟩:=j;exact⟨b,d,cl,rfl,e,m,o,p⟩
def Zh(R:Rel ρ H w){t:TypeId}{x i:AV}{ok:Bool}{cx ci:Value}(hx:RV ρ H.gen w x cx)(hi:RV ρ H.gen w i ci)(h:Ti P t x i ok H=some (v,H')):H'=H/\OkP P ρ H.gen w (Instr.lookup t cx ci ok) v:=by
 obtain⟨h',hh⟩:=vw h
 clear h
 subst hh;have h:=h'
 clear h'
 refine⟨rfl,?_⟩;unfold Y9 at h;split at h <;> first|(cases h;done)|skip
 rename_i k e hm;obtain⟨kt,hu,hk⟩:=TA hm;split at h <;> first|(cases h;done)|skip
 rename_i z hz;split at h <;> first|(cases h;done)|skip
 rename_i r;split at h <;> first|(cases h;done)|skip
 rename_i k' n;split at h <;> first|(cases h;done)|skip
 rename_i k'' es ho;simp only [bT,zak,zaa] at ho;split at h <;> first|(cases h;done)|skip
 rename_i hkk;obtain⟨rfl,rfl⟩:=hkk;obtain⟨b,ces,cl,rfl,hr,hb,hes,hbn⟩:=ML R hx ho;simp only [RV] at hi;subst hi;have hck:∀e',(Instr.checkKey e' 10000 kt (.int k'' n)).run P w=.ok () w:=λe'=>xk hk e' 9999;cases hf:qY es n with
 |none=>
  simp only [hf,zaa] at h;subst h;have hfind:=oU (P:=P) (w:=w) hk (sF es ces.toList 0 hes hf);refine⟨if ok then .tuple #[z,.bool false] else z,?_,?_⟩
  ·simp only [Instr.lookup,Sem.run_bind,run_underlying hu,Result.andThen_ok,oQ hb,Sem.run_pure,hck,hfind,gU hz]
  ·cases ok
   ·simp only [RV,zai,if_false]
   ·simp only [RV,if_true];exact⟨_,rfl,jF (by simp only [RV]) (jF (by simp only [RV]) jI)⟩
 |some y=>
  simp only [hf,zaa] at h;subst h;obtain⟨j,en,p1,p2,p3,p4,_⟩:=sG es ces.toList 0 hes hf;have hfind:=oU (P:=P) (w:=w) hk p1;refine⟨if ok then .tuple #[en.val,.bool true] else en.val,?_,?_⟩
  ·simp only [Instr.lookup,Sem.run_bind,run_underlying hu,Result.andThen_ok,oQ hb,Sem.run_pure,hck,hfind]
  ·cases ok
   ·simpa only [zai,if_false] using p4
   ·simp only [RV,if_true];exact⟨_,rfl,jF p4 (jF (by simp only [RV]) jI)⟩
def Qd(R:Rel ρ H w){t:TypeId}{x i y:AV}{G K cy:Value}(X:RV ρ H.gen w x G)(hi:RV ρ H.gen w i K)(L:RV ρ H.gen w y cy)(h:uo P t x i y H=some (v,H')):
  v=bg/\∃ρ' w',(Instr.mapUpdate t G K cy).run P w=.ok () w'/\Rel ρ' H' w'/\Ext ρ H w ρ' H' w':=by
 unfold uo at h;split at h <;> first|(cases h;done)|skip
 rename_i k e r k' n hm;obtain⟨kt,M,hk⟩:=TA hm;split at h <;> first|(cases h;done)|skip
 rename_i m q C;split at h <;> first|(cases h;done)|skip
 rename_i D;obtain⟨rfl,rfl,_⟩:=D;simp only [zaa,zad] at h;obtain⟨rfl,rfl⟩:=h;obtain⟨b,o,cl,rfl,Q,hb,p,u⟩:=ML R X C;simp only [RV] at hi;subst hi;have A:(Instr.checkKey false 10000 kt (.int m n)).run P w=.ok () w:=xk hk false 9999;cases E:qY q n with
 |none=>
  have g:=oU (P:=P) (w:=w) hk (sF q o.toList 0 p E);have d:=MF (es':=L6 q n y) (ade:=o.push { key:=.int m n,val:=cy,born:=cl }) (cl':=cl+1) R Q C hb (by rw [Array.toList_push];exact Qc L q _ p E) (by rw [Array.toList_push];exact u.push);refine⟨rfl,ρ,_,?_,d.1,d.2⟩;simp only [Instr.mapUpdate,Sem.run_bind,run_underlying M,Result.andThen_ok,oQ hb,A,g,yt hb]
 |some z=>
  obtain⟨j,T,W,p2,p3,p4,p5,_⟩:=sG q o.toList 0 p E;rw [za6] at W;have g:=oU (P:=P) (w:=w) hk W;have d:=MF (es':=L6 q n y) (ade:=o.modify j λe=>{ e with key:=.int m n,val:=cy }) (cl':=cl) R Q C hb (by rw [Array.toList_modify];exact p5 y cy L) (by rw [Array.toList_modify];exact u.modify λ_=>rfl);refine⟨rfl,ρ,_,?_,d.1,d.2⟩;have hg:o[j]?=some T:=by simpa using p2
  have F:Instr.keyThatStays T.key (.int m n)=pure (.int m n):=by
   rw [p3];simp [Instr.keyThatStays,Instr.sameBits]
  simp only [Instr.mapUpdate,Sem.run_bind,run_underlying M,Result.andThen_ok,oQ hb,A,g,hg,zak,zav,F,Sem.run_pure,yt hb]
def Zi(R:Rel ρ H w){t ty:TypeId}{ts:Array TypeId}{x i:AV}{cx ci:Value}(ht:ts[0]?=some t)(hx:RV ρ H.gen w x cx)(hi:RV ρ H.gen w i ci)(h:L9 P t x i H=some (v,H')):
  Ok P ρ H w (Builtin.delete_ ts ty #[cx,ci]) v H':=by
 unfold L9 at h;split at h <;> first|(cases h;done)|skip
 rename_i k e r k' n hm;obtain⟨kt,hu,hk⟩:=TA hm;split at h <;> first|(cases h;done)|skip
 rename_i k'' es ho;split at h <;> first|(cases h;done)|skip
 rename_i hkk;obtain⟨rfl,rfl,_⟩:=hkk;simp only [zaa,zad] at h;obtain⟨rfl,rfl⟩:=h;obtain⟨b,ces,cl,rfl,hr,hb,hes,hbn⟩:=ML R hx ho;simp only [RV] at hi;subst hi;have hck:∀e',(Instr.checkKey e' 10000 kt (.int k'' n)).run P w=.ok () w:=λe'=>xk hk e' 9999;have a0:(#[Value.map (some b),Value.int k'' n]:Array Value)[0]?=some (.map (some b)):=rfl;have a1:(#[Value.map (some b),Value.int k'' n]:Array Value)[1]?=some (.int k'' n):=rfl;cases hf:qY es n with
 |none=>
  have hfind:=oU (P:=P) (w:=w) hk (sF es ces.toList 0 hes hf);have hput:=MF (es':=Aq es n) (ade:=ces) (cl':=cl) R hr ho hb (by rw [JZ es hf];exact hes) hbn;refine⟨.tuple #[],ρ,_,?_,hput.1,by simp only [RV];exact⟨_,rfl,jI⟩,hput.2⟩;simp only [Builtin.delete_,ht,a0,a1,Sem.run_bind,run_underlying hu,Result.andThen_ok,oQ hb,hck,hfind,yt hb,Sem.run_pure]
 |some z=>
  obtain⟨j,en,p1,p2,p3,p4,_,p6⟩:=sG es ces.toList 0 hes hf;rw [za6] at p1;have hfind:=oU (P:=P) (w:=w) hk p1;have hput:=MF (es':=Aq es n) (ade:=ces.eraseIdxIfInBounds j) (cl':=cl) R hr ho hb (by
   have:(ces.eraseIdxIfInBounds j).toList=ces.toList.eraseIdx j:=O
   rw [this];exact p6) (by
   have:(ces.eraseIdxIfInBounds j).toList=ces.toList.eraseIdx j:=O
   rw [this];exact hbn.erase)
  refine⟨.tuple #[],ρ,_,?_,hput.1,by simp only [RV];exact⟨_,rfl,jI⟩,hput.2⟩;simp only [Builtin.delete_,ht,a0,a1,Sem.run_bind,run_underlying hu,Result.andThen_ok,oQ hb,hck,hfind,yt hb,Sem.run_pure]
def Xx(R:Rel ρ H w){t:TypeId}(h:yh P t H=some (v,H')):Ok P ρ H w (Instr.makeMap t none) v H':=by
 unfold yh at h;split at h <;> first|(cases h;done)|skip
 rename_i k e hm;simp only [zaa,zad] at h;obtain⟨rfl,rfl⟩:=h;have E:=MC R (o:=.map k []) (co:=.map #[] 0);refine⟨.map (some w.heap.size),_,_,by simp [Instr.makeMap],Zc R ⟨#[],0,kD w _,rfl,by simp [RVm],by simp [Born]⟩,?_,E⟩;simp only [RV];exact⟨_,rfl,λ_=>by simp [updρ]⟩
def akO(R:Rel ρ H w){t ty:TypeId}{x:AV}{o:Value}(i:RV ρ H.gen w x o)(h:akJ P t x H=some (v,H')):H'=H/\OkP P ρ H.gen w (Builtin.len_ #[t] ty #[o]) v:=by
 have a0:(#[t]:Array TypeId)[0]?=some t:=rfl;have C:(#[o]:Array Value)[0]?=some o:=rfl;obtain⟨y,D⟩:=vw h
 clear h
 subst D;have h:=y
 clear y
 refine⟨rfl,?_⟩;unfold apU at h;cases g:P.underlying t with
 |none=>simp [g] at h
 |some d=>
  cases d with
  |slice e=>
   simp only [g] at h;split at h <;> first|(cases h;done)|skip
   all_goals
    simp only [zaa] at h;subst h;simp only [RV] at i
   ·obtain⟨_,_,_,rfl,_⟩:=i;exact⟨_,by simp [Builtin.len_,run_underlying g];rfl,by simp only [RV,goInt]⟩
   ·obtain⟨_,_,_,rfl,_⟩:=i;exact⟨_,by simp [Builtin.len_,run_underlying g];rfl,by simp only [RV,goInt]⟩
   ·subst i;exact⟨_,by simp [Builtin.len_,run_underlying g];rfl,by simp only [RV,goInt]⟩
  |string=>
   simp only [g] at h;split at h <;> first|(cases h;done)|skip
   simp only [zaa] at h;subst h;simp only [RV] at i;subst i;exact⟨_,by simp [Builtin.len_,run_underlying g];rfl,by simp only [RV,goInt]⟩
  |map M e=>
   simp only [g] at h;split at h <;> first|(cases h;done)|skip
   ·split at h <;> first|(cases h;done)|skip
    rename_i k j A;simp only [bT,zak,zaa] at A;simp only [zaa] at h;subst h;obtain⟨b,q,cl,rfl,Q,hb,u,E⟩:=ML R i A;have F:q.size=j.length:=by
     have:∀(j:List (Int × AV)) (l:List MapEntry),RVm ρ H'.gen w k j l->l.length=j.length:=by
      intro j
      induction j with
      |nil=>intro l h;simp only [RVm] at h;subst h;rfl
      |cons p j G=>
       intro l h;obtain⟨m,z⟩:=p;obtain⟨e,K,rfl,_,_,L⟩:=(by simpa only [RVm] using h)
       simp [G K L]
     rw [<-this j _ u,bP]
    refine⟨.int .i64 j.length,?_,by simp only [RV]⟩;simp only [Builtin.len_,a0,C,Sem.run_bind,run_underlying g,Result.andThen_ok,oQ hb,Sem.run_pure,goInt,F]
   ·simp only [zaa] at h;subst h;simp only [RV] at i;subst i;exact⟨.int .i64 0,by simp [Builtin.len_,run_underlying g,goInt],by simp only [RV]⟩
  |_=>simp [g] at h
def akP {t ty:TypeId}{x:AV}{i:Value}(g:RV ρ G w x i)(h:afJ P t x=some v):OkP P ρ G w (Builtin.cap_ #[t] ty #[i]) v:=by
 unfold afJ at h;cases b:P.underlying t with
 |none=>simp [b] at h
 |some d=>
  cases d with
  |slice e=>
   simp only [b] at h;split at h <;> first|(cases h;done)|skip
   all_goals
    simp only [zaa] at h;subst h;simp only [RV] at g
   ·obtain⟨_,_,c,rfl,_,_,j,_⟩:=g;rw [j trivial];exact⟨_,by simp [Builtin.cap_,run_underlying b];rfl,by simp only [RV,goInt]⟩
   ·subst g;exact⟨_,by simp [Builtin.cap_,run_underlying b];rfl,by simp only [RV,goInt]⟩
  |_=>simp [b] at h
def Qe {d:Bool}{b:Array TypeId}{ty:TypeId}{xs:List AV}{cs:Array Value}(g:RVs ρ G w xs cs.toList)(h:kG P d b ty xs=some v):
  OkP P ρ G w (if d then Builtin.max_ b ty cs else Builtin.min_ b ty cs) v:=by
 unfold kG at h;cases hv:vals? xs with
 |none=>simp [hv] at h
 |some vs=>
  simp only [hv] at h;have i:=MJ xs _ vs g hv;have:cs=vs.toArray:=by rw [<-i]
  rw [this];cases e:jd P (if d=true then Builtin.max_ b ty vs.toArray else Builtin.min_ b ty vs.toArray) with
  |none=>simp [e] at h
  |some u=>simp [e] at h;subst h;exact⟨u,mZ e w,by simp only [RV]⟩
end
def Ext.drew(ρ:Ren)(H:ah)(w:World):Ext ρ H w ρ H w.drew where
 next:=zac _
 mono:=λ_=>zac _
 same:=λ_ _ h _=>h
 kept:=λ_ _ h=>h
 range:=λ_ _ b h=>.inr ⟨b,h⟩
 size:=zac _
 frame:=λ_ _ _=>rfl
 shape:=λ_ _=>rfl
 os:=rfl
 tape:=rfl
 output:=rfl
def Rel.drew {ρ:Ren}{H:ah}{w:World}(R:Rel ρ H w):Rel ρ H w.drew where
 out:=R.out
 obj:=λr b d h=>zA.mono (Ext.drew ρ H w).toMono rfl (R.obj r b d h)
 inj:=R.inj
 gl:=R.gl.ext (Ext.drew ρ H w)
def MN {ρ:Ren}{H:ah}{w:World}{r:Nat}{y:Nat × Nat}(b:ρ r=some y){co:Obj}{o:gu}(d:H.gen r<o.gen):Ext ρ H w (updρ ρ r (w.heap.size,0)) (H.put r o) (w.alloc co) where
 next:=zac _
 mono:=λx=>by rw [vk];split <;> simp_all;omega
 same:=λx y b h=>by
  rw [vk] at h;unfold updρ
  split
  ·rename_i e;subst e;simp at h;omega
  ·exact b
 kept:=λx _ h=>by
  unfold updρ
  split
  ·rename_i e;subst e;rw [b] at h;cases h
  ·exact h
 range:=λx g s h=>by
  unfold updρ at h;split at h
  ·cases h;exact .inl (zac _)
  ·exact .inr ⟨_,h⟩
 size:=O
 frame:=λb hb _=>by simp only [World.alloc,zbn,if_neg (zb4 hb)]
 shape:=λb hb=>by
  rw [fG,fG];simp only [World.alloc,zbn,if_neg (zb4 hb)]
 os:=rfl
 tape:=rfl
 output:=rfl
def adt {ρ:Ren}{H:ah}{w:World}(R:Rel ρ H w){r:Nat}(hr:r<H.next){y:Nat × Nat}(hy:ρ r=some y){co:Obj}{o:gu}(hg:H.gen r<o.gen)
  (ho:zA (updρ ρ r (w.heap.size,0)) (H.put r o).gen (w.alloc co) o w.heap.size 0):Rel (updρ ρ r (w.heap.size,0)) (H.put r o) (w.alloc co) where
 out:=λx hx=>by
  have hx':H.next<=x:=hx
  have hne:x≠r:=V
  rw [vk,if_neg hne];unfold updρ;rw [if_neg hne];exact R.out x hx'
 obj:=λx b' s h=>by
  unfold updρ at h;by_cases e:x=r
  ·subst e;simp at h;obtain⟨rfl,rfl⟩:=h
   simpa [ah.put] using ho
  ·rw [if_neg e] at h;have:(H.put r o).get x=H.get x:=by simp [ah.put,e]
   rw [this];have hb:=R.block h;exact zA.mono (MN (ρ:=ρ) (w:=w) (co:=co) hy hg).toMono (by simp only [World.alloc,zbn,if_neg (zb4 hb)]) (R.obj x b' s h)
 inj:=λx y b' s s' h h'=>by
  unfold updρ at h h';split at h <;> split at h'
  ·simp_all
  ·cases h;have:=R.block h';omega
  ·cases h';have:=R.block h;omega
  ·exact R.inj _ _ _ _ _ h h'
 gl:=R.gl.ext (MN (ρ:=ρ) (w:=w) (co:=co) hy hg)
def adu {ρ:Ren}{H:ah}{w:World}(R:Rel ρ H w){r g':Nat}(hr:r<H.next){y:Nat × Nat}(hy:ρ r=some y)(hg:H.gen r<g'){ty e:TypeId}{cells:List AV}{cs:Array Value}(hl:cells.length<=cs.size)
  (hc:∀(i:Nat) (x:AV),cells[i]?=some x->∃v,cs[i]?=some v/\RV ρ H.gen w x v) (hX:Xct ty e 0 cs.size cells.length):
  Rel (updρ ρ r (w.heap.size,0)) (H.put r (.blk g' ty cells)) (w.alloc (.cells cs e))/\Ext ρ H w (updρ ρ r (w.heap.size,0)) (H.put r (.blk g' ty cells)) (w.alloc (.cells cs e)):=by
 have E:=MN (ρ:=ρ) (H:=H) (w:=w) (r:=r) (o:=.blk g' ty cells) (co:=.cells cs e) hy hg;refine⟨adt R hr hy hg ⟨cs,e,kD w _,V,?_,hX⟩,E⟩;refine sD (kD w _) λi x hx=>?_;obtain⟨v,hv,h1⟩:=hc i x hx;exact⟨v,by simpa using hv,R.keep E h1⟩
section
variable {P:Program}{ρ:Ren}{H H':ah}{w:World}{v:AV}
def jS(R:Rel ρ H w){y:AV}{cy:Value}{n m:Nat}{new:List AV}(j:RV ρ H.gen w y cy)(d:kL y=some n)(hc:dH H y=some new)(D:new.length=n*m):
  (Builtin.lenOf cy).run P w=.ok n w/\∃arr:Array Value,(Builtin.firstCells m n cy).run P w=.ok arr w/\RVs ρ H.gen w new arr.toList:=by
 unfold kL at d;split at d <;> first|(cases d;done)|skip
 ·simp only [zaa] at d;subst d;rename_i r g off q len L ex;simp only [RV] at j;obtain⟨b,o,c,rfl,M,Q,T,W,u⟩:=j;simp only [dH] at hc;split at hc <;> first|(cases hc;done)|skip
  rename_i g' ty cells E;split at hc <;> first|(cases hc;done)|skip
  rename_i p;obtain⟨rfl,X⟩:=p;simp only [zaa] at hc;subst hc;obtain⟨F,e,k,hr,v,aa,G⟩:=u (by simp [ah.gen,E,gu.gen]);have K:=R.obj r b F hr;simp only [zA,E] at K;obtain⟨cs,e',hb,hz,z,_⟩:=K;refine⟨by simp [Builtin.lenOf],?_⟩;by_cases h0:len=0
  ·subst h0;refine⟨#[],?_,by simp [RVs]⟩;simp [Builtin.firstCells,loadCells,loadCellsFrom]
  ·have A:=v V;have i:RVc ρ H.gen w ((cells.drop off).take (len*q)) b (F+off):=uZ _ (su _ z);obtain⟨l,h,C⟩:=nS (P:=P) i;rw [D] at h;exact⟨l.toArray,by simp only [Builtin.firstCells,A];exact h,by simpa using C⟩
 ·simp only [zaa] at d;subst d;simp only [RV] at j;obtain⟨b,o,c,rfl,M,Q,T,W,u⟩:=j;simp only [dH,zaa] at hc;subst hc;refine⟨by simp [Builtin.lenOf],?_⟩;obtain⟨l,h,C⟩:=nS (P:=P) u;rw [D] at h;exact⟨l.toArray,by simp only [Builtin.firstCells];exact h,by simpa using C⟩
 ·simp only [zaa] at d;subst d;simp only [RV] at j;subst j;simp only [dH,zaa] at hc;subst hc;exact⟨by simp [Builtin.lenOf],#[],by simp [Builtin.firstCells],by simp [RVs]⟩
 ·simp only [zaa] at d;subst d;simp only [RV] at j;subst j;simp only [dH,zaa] at hc;subst hc;rename_i s;refine⟨by simp [Builtin.lenOf],(s.data.map λb=>.int .u8 b.toNat),?_,?_⟩
  ·have:s.extract 0 s.size=s:=by
    apply ByteArray.ext
    simp
   simp [Builtin.firstCells,this]
  ·have:(s.data.map λb=>Value.int .u8 b.toNat).toList=s.data.toList.map λb=>.int .u8 b.toNat:=O
   rw [this];have h2:(s.data.toList.map λb=>AV.s (.int .u8 b.toNat))=(s.data.toList.map λb=>Value.int .u8 b.toNat).map .s:=O
   rw [h2];exact iw _
def tK(elem:TypeId)(size:Nat)(zeros:Bool)(n:Nat)(appended:Sem (Array Value))(base:Option Addr)(sLen sCap:Nat)(s x:Value):Sem Value:=do
 let need:=sLen+n
 if need<=sCap then
  let new<-appended
  if let some a:=base then storeCells (a.add (sLen*size)) new.toList
  pure (.slice base need sCap)
 else
  if(need:Int) > IntKind.i64.max∧(zeros∨(←typeInfo elem).bytes=0) then runtimePanic (.error "growslice: len out of range")
  if Builtin.nextslicecap need sCap*(←typeInfo elem).bytes > 2 ^ 48 then(if zeros then runtimePanic (.error "growslice: len out of range") else do
   if !(<-Builtin.mayShare size sLen n base x) then mark .noRoom
   unsupported (.resourceLimit "append: a slice or a string whose bytes no memory bears"))
  let newCap<-choose (.appendCap need sCap elem)
  askRoom (newCap*(<-typeInfo elem).bytes)
  let old<-Builtin.firstCells size sLen s;let new<-appended;let rest:=Builtin.zeroCells (<-zeroValue elem).cells (newCap-need)
  pure (.slice (some (<-newRow elem (old++new++rest))) need newCap)
def afM {α:Type}(a b:α):(if false=true then a else b)=b:=rfl
def akQ {α:Type}(a b:α):(if true=true then a else b)=a:=rfl
def GK {t u ty e:TypeId}{d:TypeDesc}{m n sLen sCap:Nat}{base:Option Addr}{cy:Value}(hu:P.underlying t=some (.slice e))(hs:szT P e=some m)(hd:P.underlying u=some d)(hnd:∀k,d≠.int k)
  (hl:(Builtin.lenOf cy).run P w=.ok n w):
  (Builtin.append_ #[t,u] ty #[.slice base sLen sCap,cy]).run P w=(tK e m false n (Builtin.firstCells m n cy) base sLen sCap (.slice base sLen sCap) cy).run P w:=by
 have a0:(#[t,u]:Array TypeId)[0]?=some t:=rfl;have a1:(#[t,u]:Array TypeId)[1]?=some u:=rfl;have a2:(#[Value.slice base sLen sCap,cy]:Array Value)[0]?=some (.slice base sLen sCap):=rfl;have a3:(#[Value.slice base sLen sCap,cy]:Array Value)[1]?=some cy:=rfl;cases d
 case int k=>exact absurd rfl (hnd k)
 all_goals
  simp only [Builtin.append_,a0,a1,a2,a3,Sem.run_bind,run_underlying hu,Result.andThen_ok,fC hs,run_underlying hd,Sem.run_pure,afM,hl];rfl
def EL {t u ty e:TypeId}{k:IntKind}{m by_ sLen sCap:Nat}{base:Option Addr}{k':IntKind}{n:Int}(hu:P.underlying t=some (.slice e))(hs:szT P e=some m)(hb:yZ P e=some by_)(hd:P.underlying u=some (.int k))
  (h0:0<=n) (h1:n<=most) (h2:n*by_<=most):
  (Builtin.append_ #[t,u] ty #[.slice base sLen sCap,.int k' n]).run P w=
   (tK e m true n.toNat (if n.toNat*m=0 then pure #[] else do pure (Builtin.zeroCells (<-zeroValue e).cells n.toNat)) base sLen sCap (.slice base sLen sCap) (.int k' n)).run P w:=by
 have a0:(#[t,u]:Array TypeId)[0]?=some t:=rfl;have a1:(#[t,u]:Array TypeId)[1]?=some u:=rfl;have a2:(#[Value.slice base sLen sCap,.int k' n]:Array Value)[0]?=some (.slice base sLen sCap):=rfl;have a3:(#[Value.slice base sLen sCap,.int k' n]:Array Value)[1]?=some (.int k' n):=rfl;have hw:IntKind.i64.wrap n=n:=by rw [IntKind.wrap_i64];unfold most at h1;omega
 have aib:∃i,P.info? e=some i/\i.bytes=by_:=by
  unfold yZ at hb;cases hi:P.info? e with
  |none=>simp [hi] at hb
  |some i=>simp [hi] at hb;exact⟨i,rfl,hb⟩
 obtain⟨i,hi,rfl⟩:=aib;have hn:¬n<0:=V
 have hnb:¬n*(i.bytes:Int) > 2 ^ 48:=by unfold most at h2;omega
 simp only [-eq_self,Builtin.append_,a0,a1,a2,a3,Sem.run_bind,run_underlying hu,Result.andThen_ok,fC hs,run_underlying hd,Sem.run_pure,akQ,asInt,asIntOf,hw,hn,if_false,EU hi,hnb];rfl
end
section
variable {P:Program}{ρ:Ren}{H H':ah}{w:World}{v:AV}
def Zj {e:TypeId}{b:Nat}(h:yZ P e=some b):∃i,P.info? e=some i/\i.bytes=b:=by
 unfold yZ at h;cases hi:P.info? e with
 |none=>simp [hi] at h
 |some i=>simp [hi] at h;exact⟨i,rfl,h⟩
def Vh {e:TypeId}{m n by_ sLen sCap:Nat}{zeros:Bool}{appended:Sem (Array Value)}{base:Option Addr}{s x zv:Value}{old arr:Array Value}(hb:yZ P e=some by_)(o:Ap P e=some zv)
  (k:¬sLen+n<=sCap) (d:sLen+n<=most) (b:(sLen+n)*by_<=most) (g:(Builtin.firstCells m sLen s).run P w.drew=.ok old w.drew) (j:appended.run P w.drew=.ok arr w.drew):
  ∃c,sLen+n<=c/\(tK e m zeros n appended base sLen sCap s x).run P w=
   .ok (.slice (some ⟨w.heap.size,0,none⟩) (sLen+n) c) (w.drew.alloc (.cells (old++arr++Builtin.zeroCells zv.cells (c-(sLen+n))) e)):=by
 obtain⟨i,hi,rfl⟩:=Zj hb;unfold most at d b;have p:¬(((sLen+n:Nat):Int) > IntKind.i64.max/\((zeros:Prop)∨i.bytes=0)):=by
  rintro⟨h,_⟩;rw [IntKind.max_i64] at h;omega
 have q:¬Builtin.nextslicecap (sLen+n) sCap*i.bytes > 2 ^ 48:=by
  have:=growslice_fits (need:=sLen+n) (old:=sCap) (bytes:=i.bytes) V b;omega
 have u:(Question.appendCap (sLen+n) sCap e).forced=false:=rfl;refine⟨(Question.appendCap (sLen+n) sCap e).cut (w.tape w.drawn (Question.appendCap (sLen+n) sCap e)),by simp [Question.cut],?_⟩;simp only [tK,if_neg k,Sem.run_bind,EU hi,Result.andThen_ok,if_neg p,if_neg q,Sem.run_pure,run_choose,u,afM,run_askRoom,World.drew_eq,g,j,gU o,newRow,run_newObj,World.alloc_eq];rfl
def EY(R:Rel ρ H w){r g off h len cap:Nat}{ex:Bool}{ty:TypeId}{cells:List AV}{m:Value}(p:RV ρ H.gen w (.sl r g off h len cap ex) m)(q:H.get r=.blk g ty cells):
  ∃b o c sh cs e,m=.slice (some ⟨b,o,none⟩) len c/\len<=cap/\cap<=c/\(ex=true->c=cap)/\ρ r=some (b,sh)/\(0<c->o=sh+off)/\w.heap[b]?=some (.cells cs e (0,0))/\o+c*h<=cs.size/\
   sh+cells.length<=cs.size/\RVc ρ H.gen w cells b sh:=by
 simp only [RV] at p;obtain⟨b,o,c,rfl,z,A,C,G,D⟩:=p;obtain⟨sh,E,k,u,i,d,v⟩:=D (by simp [ah.gen,q,gu.gen]);have y:=R.obj r b sh u;simp only [zA,q] at y;obtain⟨cs,e,hb,F,j,_⟩:=y;have:cs.size=k:=by
  rw [fG,hb] at d;simp [Ea] at d;exact d.2
 exact⟨b,o,c,sh,cs,e,rfl,z,A,C,u,i,hb,V,F,j⟩
def y7(R:Rel ρ H w){e:TypeId}{m n by_:Nat}{zeros:Bool}{appended:Sem (Array Value)}{x:AV}{cx cy zv:Value}{new:List AV}(hs:szT P e=some m)(hb:yZ P e=some by_)(hz:Ap P e=some zv)(af:zv.cells.size=m)
  (hx:RV ρ H.gen w x cx) (z:∀w',w'=w∨w'=w.drew->∃arr:Array Value,appended.run P w'=.ok arr w'/\RVs ρ H.gen w' new arr.toList)
  (h:dZ e m by_ x n new H=some (v,H')):
  ∃base sLen sCap,cx=.slice base sLen sCap/\Ok P ρ H w (tK e m zeros n appended base sLen sCap cx cy) v H':=by
 unfold dZ at h;split at h <;> first|(cases h;done)|skip
 rename_i ag;obtain⟨j,L⟩:=ag;split at h
 ·-- nil
  simp only [RV] at hx;subst hx;refine⟨none,0,0,rfl,?_⟩;by_cases h0:n=0
  ·subst h0;simp only [if_true,zaa,zad] at h;obtain⟨rfl,rfl⟩:=h;obtain⟨arr,ha,_⟩:=z w (.inl rfl);refine OkP.ok ⟨.slice none 0 0,?_,by simp only [RV]⟩ R;simp [tK,ha]
  ·rw [if_neg h0] at h;split at h <;> first|(cases h;done)|skip
   rename_i F;simp only [zaa,zad] at h;obtain⟨rfl,rfl⟩:=h;obtain⟨arr,ha,Q⟩:=z w.drew (.inr rfl);obtain⟨c,hc,q⟩:=Vh (P:=P) (w:=w) (e:=e) (m:=m) (n:=n) (by_:=by_) (sLen:=0) (sCap:=0) (zeros:=zeros) (appended:=appended) (base:=none) (s:=.slice none 0 0) (x:=cy) (zv:=zv) (old:=#[]) (arr:=arr) hb hz (by omega) (by omega) (by simpa using F.2) (by simp [Builtin.firstCells]) ha;have p:=dQ Q;rw [bP,j] at p;obtain⟨ρ',q1,q2,q3⟩:=vC (ty:=e+iC) (hX:=Xct.grown) (e:=e) (cells:=new) (cs:=#[]++arr++Builtin.zeroCells zv.cells (c-(0+n))) (m:=m) (len:=n) (cap:=n) (c:=c) (ex:=false) R.drew
    (by
     have:(#[]++arr++Builtin.zeroCells zv.cells (c-(0+n))).toList.take new.length=arr.toList:=by
      rw [j,<-p];simp
     rw [this];exact Q) (by rw [j];simp [p]) (zac _) (by omega) (by simp) (by
     have h3:(Builtin.zeroCells zv.cells (c-(0+n))).size=(c-n)*m:=by simp [Builtin.zeroCells,af]
     rw [zdi,h3];simp only [zdi,List.size_toArray,zao,p];rw [za6,<-zbv];have:n+(c-n)=c:=by omega
     rw [this];exact zac _)
   refine⟨_,ρ',_,q,q1,?_,(Ext.drew ρ H w).trans q3⟩
   simpa using q2
 ·rename_i r g off d len cap ex;split at h <;> first|(cases h;done)|skip
  rename_i g' ty cells ho;split at h <;> first|(cases h;done)|skip
  rename_i F;obtain⟨rfl,rfl,ax⟩:=F;have ay:=EY R hx ho;obtain⟨b,o,c,T,cs,e',az,q1,q2,q3,Q,ai,y,al,aD,am⟩:=ay;subst az;refine⟨some ⟨b,o,none⟩,len,c,rfl,?_⟩;have a2:H.gen r=g':=by simp [ah.gen,ho,gu.gen]
  have W:∀w',(w'=w∨w'=w.drew)->∃arr:Array Value,(Builtin.firstCells d len (.slice (some ⟨b,o,none⟩) len c)).run P w'=.ok arr w'/\RVs ρ H.gen w' ((cells.drop off).take (len*d)) arr.toList:=by
   intro w' ao;have R':Rel ρ H w':=by
    rcases ao with rfl|rfl
    ·exact R
    ·exact R.drew
   have aE:RV ρ H.gen w' (.sl r g' off d len cap ex) (.slice (some ⟨b,o,none⟩) len c):=by
    rcases ao with rfl|rfl
    ·exact hx
    ·exact R.keep (Ext.drew ρ H w) hx
   exact(jS (P:=P) (m:=d) R' aE rfl (by simp [dH,ho,ax]) (by simp;omega)).2
  by_cases h0:n=0
  ·subst h0;simp only [if_true,zaa,zad] at h;obtain⟨rfl,rfl⟩:=h;obtain⟨arr,ha,k⟩:=z w (.inl rfl);have ap:arr.toList=[]:=by
    have:=dQ k;rw [j] at this
    simpa using this
   refine OkP.ok ⟨.slice (some ⟨b,o,none⟩) len c,?_,hx⟩ R;simp [tK,ha,ap,storeCells,show len<=c by omega]
  ·rw [if_neg h0] at h;by_cases X:len+n<=cap
   ·rw [if_pos X] at h;split at h <;> first|(cases h;done)|skip
    rename_i aq;simp only [zaa,zad] at h;obtain⟨rfl,rfl⟩:=h;obtain⟨arr,ha,k⟩:=z w (.inl rfl);have p:=dQ k;rw [j] at p;have G:o=T+off:=ai (by omega);have ab:(len+n)*d=len*d+n*d:=zbv _ _ _;have M:=kE (P:=P) (o:=o+len*d) arr.toList w cs 0 y (by
     rw [p];have:(len+n)*d<=c*d:=zaD _ (by omega);omega) (ru L k)
    have kX:Xct ty e' T cs.size cells.length:=by
     have wJ:=R.obj r b T Q;simp only [zA,ho] at wJ;obtain⟨aL,e2,k1,_,_,k4⟩:=wJ;rw [y] at k1;cases k1;exact k4
    have C:=Gz (hX:=by rw [fB,jl _ _ _ (by rw [j];omega)];exact kX) (ty':=ty) (cells':=aO cells (off+len*d) new) (cs':=lK cs (o+len*d) arr.toList) (g':=g') (sh':=T) R Q y (fB _ _ _) (by omega) (λ_=>rfl)
     (by rw [jl _ _ _ (by rw [j];omega)];exact aD) (by
      intro i u K;rw [wZ _ _ _ (by rw [j];omega)] at K;rw [mY _ _ _ _ (by rw [p];omega),p];by_cases hi:off+len*d<=i/\i<off+len*d+new.length
      ·rw [if_pos hi] at K;rw [j] at hi;rw [if_pos (by omega),show T+i-(o+len*d)=i-(off+len*d) from by omega];exact jR k K
      ·rw [if_neg hi] at K;rw [j] at hi;rw [if_neg (by omega)];exact wY y am K)
    refine⟨.slice (some ⟨b,o,none⟩) (len+n) c,_,_,?_,C.1,?_,C.2⟩
    ·simp only [tK,if_pos (show len+n<=c by omega),Sem.run_bind,ha,Result.andThen_ok,jX];simp only [zbr] at M;simp [M]
    ·simp only [RV];refine⟨b,o,c,rfl,X,q2,q3,?_,λ_=>⟨T,e',cs.size,by simp [updρ],λ_=>G,?_,al⟩⟩
     ·rw [vk];simp [gu.gen]
     ·rw [fG,mX (oP y)];simp [Ea,fB]
   ·rw [if_neg X] at h;split at h <;> first|(cases h;done)|skip
    rename_i aq;obtain⟨aM,aR⟩:=aq;have ab:(len+n)*d=len*d+n*d:=zbv _ _ _;have D:((cells.drop off).take (len*d)).length=len*d:=by simp;omega
    -- the way that makes a new row
    have ad:¬len+n<=c->∃c' old arr,len+n<=c'/\(tK e d zeros n appended (some ⟨b,o,none⟩) len c (.slice (some ⟨b,o,none⟩) len c) cy).run P w=
      .ok (.slice (some ⟨w.heap.size,0,none⟩) (len+n) c') (w.drew.alloc (.cells (old++arr++Builtin.zeroCells zv.cells (c'-(len+n))) e))/\RVs ρ H.gen w.drew ((cells.drop off).take (len*d)) old.toList/\RVs ρ H.gen w.drew new arr.toList:=by
     intro a0;obtain⟨old,ar,E⟩:=W w.drew (.inr rfl);obtain⟨arr,ha,k⟩:=z w.drew (.inr rfl);obtain⟨c',A,q⟩:=Vh (P:=P) (w:=w) (e:=e) (m:=d) (n:=n) (by_:=by_) (sLen:=len) (sCap:=c) (zeros:=zeros) (appended:=appended) (base:=some ⟨b,o,none⟩) (s:=.slice (some ⟨b,o,none⟩) len c) (x:=cy) (zv:=zv) (old:=old) (arr:=arr) hb hz a0 aM aR ar ha;exact⟨c',old,arr,A,q,E,k⟩
    have whole:∀(c':Nat) (old arr:Array Value),len+n<=c'->RVs ρ H.gen w.drew ((cells.drop off).take (len*d)) old.toList->RVs ρ H.gen w.drew new arr.toList->
      RVs ρ H.gen w.drew ((cells.drop off).take (len*d)++new) ((old++arr++Builtin.zeroCells zv.cells (c'-(len+n))).toList.take ((cells.drop off).take (len*d)++new).length)/\
      ((cells.drop off).take (len*d)++new).length<=(old++arr++Builtin.zeroCells zv.cells (c'-(len+n))).size/\c'*d<=(old++arr++Builtin.zeroCells zv.cells (c'-(len+n))).size:=by
     intro c' old arr A E k;have l1:=dQ E;have l2:=dQ k;rw [D] at l1;rw [j] at l2;have h3:(Builtin.zeroCells zv.cells (c'-(len+n))).size=(c'-(len+n))*d:=by simp [Builtin.zeroCells,af]
     have hsz:(old++arr++Builtin.zeroCells zv.cells (c'-(len+n))).size=c'*d:=by
      rw [zdi,zdi,h3,<-bP old,<-bP arr,l1,l2,<-zbv,<-zbv]
      congr 1;omega
     refine⟨?_,?_,by rw [hsz];exact zac _⟩
     ·have:(old++arr++Builtin.zeroCells zv.cells (c'-(len+n))).toList.take ((cells.drop off).take (len*d)++new).length=old.toList++arr.toList:=by
       have a1:((cells.drop off).take (len*d)++new).length=(old.toList++arr.toList).length:=by
        rw [zaq,zaq,l1,l2,D,j]
       rw [a1,zcl,zcl,List.take_left]
      rw [this];exact qQ E k
     ·rw [hsz,zaq,D,j,<-ab];exact zaD _ A
    by_cases ae:ex=true
    ·rw [if_pos ae] at h;simp only [zaa,zad] at h;obtain⟨rfl,rfl⟩:=h;obtain⟨c',old,arr,A,q,E,k⟩:=ad (by rw [q3 ae];exact X);obtain⟨w1,w2,w3⟩:=whole c' old arr A E k;obtain⟨ρ',p1,p2,p3⟩:=vC (ty:=e+iC) (hX:=Xct.grown) (e:=e) (m:=d) (len:=len+n) (cap:=len+n) (c:=c') (ex:=false) R.drew w1 w2 (zac _) A (by simp) w3;refine⟨_,ρ',_,q,p1,?_,(Ext.drew ρ H w).trans p3⟩
     simpa using p2
    ·rw [if_neg ae] at h;split at h <;> first|(cases h;done)|skip
     simp only [zaa,zad] at h;obtain⟨rfl,rfl⟩:=h;by_cases hc:len+n<=c
     ·-- in place
      obtain⟨arr,ha,k⟩:=z w (.inl rfl);have p:=dQ k;rw [j] at p;have G:o=T+off:=ai (by omega);have a3:(len+n)*d<=c*d:=zaD _ hc;have M:=kE (P:=P) (o:=o+len*d) arr.toList w cs 0 y (by rw [p];omega) (ru L k);have kX:Xct ty e' T cs.size cells.length:=by
       have wJ:=R.obj r b T Q;simp only [zA,ho] at wJ;obtain⟨aL,e2,k1,_,_,k4⟩:=wJ;rw [y] at k1;cases k1;exact k4
      have C:=Gz (hX:=by rw [G];exact ah6 (vg hz) kX) (ty':=grT e ty off) (cells':=(cells.drop off).take (len*d)++new) (cs':=lK cs (o+len*d) arr.toList) (g':=g'+1) (sh':=o) R Q y (fB _ _ _) (by omega) (λhh=>by omega)
       (by rw [zaq,D,j];omega) (by
        intro i u K;rw [zcA,D] at K;rw [mY _ _ _ _ (by rw [p];omega),p];by_cases hi:i<len*d
        ·rw [if_pos hi,zaB,if_pos hi,zaF] at K;rw [if_neg (by omega),G,zb6];exact wY y am K
        ·rw [if_neg hi] at K;have a4:i-len*d<n*d:=by
          rw [<-j];exact(zae.1 K).1
         rw [if_pos (by omega),show o+i-(o+len*d)=i-len*d from by omega];exact jR k K)
      refine⟨.slice (some ⟨b,o,none⟩) (len+n) c,_,_,?_,C.1,?_,C.2⟩
      ·simp only [tK,if_pos hc,Sem.run_bind,ha,Result.andThen_ok,jX];simp only [zbr] at M;simp [M]
      ·simp only [RV];refine⟨b,o,c,rfl,zac _,hc,by simp,?_,λ_=>⟨o,e',cs.size,by simp [updρ],λ_=>rfl,?_,al⟩⟩
       ·rw [vk];simp [gu.gen]
       ·rw [fG,mX (oP y)];simp [Ea,fB]
     ·-- a new row
      obtain⟨c',old,arr,A,q,E,k⟩:=ad hc;obtain⟨w1,w2,w3⟩:=whole c' old arr A E k;have aw:=adu (hX:=ah5) (r:=r) (g':=g'+1) (ty:=grT e ty off) (e:=e) (cells:=(cells.drop off).take (len*d)++new) R.drew (R.lt Q) Q (by omega) w2 (by
       intro i u K;obtain⟨cv,aa,h1⟩:=jR w1 K;rw [zaB] at aa;split at aa
       ·exact⟨cv,by rw [<-zcY];exact aa,h1⟩
       ·cases aa)
      refine⟨_,_,_,q,aw.1,?_,(Ext.drew ρ H w).trans aw.2⟩;simp only [RV];refine⟨w.heap.size,0,c',rfl,zac _,A,by simp,?_,λ_=>⟨0,e,_,by simp [updρ],λ_=>rfl,?_,by rw [za6];exact w3⟩⟩
      ·rw [vk];simp [gu.gen]
      ·rw [fG];have:(w.drew.alloc (.cells (old++arr++Builtin.zeroCells zv.cells (c'-(len+n))) e)).heap[w.heap.size]?=some (.cells (old++arr++Builtin.zeroCells zv.cells (c'-(len+n))) e):=kD w.drew _;rw [this];rfl
 ·cases h
end
section
variable {P:Program}{ρ:Ren}{H H':ah}{w:World}{v:AV}
def Zk(R:Rel ρ H w){t u ty:TypeId}{x y:AV}{W cy:Value}(X:RV ρ H.gen w x W)(C:RV ρ H.gen w y cy)(h:L8 P t u x y H=some (v,H')):Ok P ρ H w (Builtin.append_ #[t,u] ty #[W,cy]) v H':=by
 unfold L8 at h;split at h <;> first|(cases h;done)|skip
 rename_i e d he hd;split at h <;> first|(cases h;done)|skip
 rename_i m by_ z hs hb hz;split at h <;> first|(cases h;done)|skip
 rename_i j;obtain⟨zv,o,rfl⟩:=Aw hz;simp at j;split at h
 ·rename_i k;split at h <;> first|(cases h;done)|skip
  rename_i k' n;split at h <;> first|(cases h;done)|skip
  rename_i p;obtain⟨h0,h1,h2⟩:=p;simp only [RV] at C;subst C;have b:∀w',w'=w∨w'=w.drew->∃g:Array Value,(if n.toNat*m=0 then pure #[] else do pure (Builtin.zeroCells (<-zeroValue e).cells n.toNat):Sem (Array Value)).run P w'=.ok g w'/\RVs ρ H.gen w' (dN (zv.cells.toList.map .s) n.toNat) g.toList:=by
   intro w' _;by_cases F:n.toNat*m=0
   ·rw [if_pos F];have:dN (zv.cells.toList.map .s) n.toNat=[]:=zat (by rw [jm];simp [j,F]);exact⟨#[],rfl,by rw [this];exact jI⟩
   ·rw [if_neg F];exact⟨Builtin.zeroCells zv.cells n.toNat,by simp [gU o],xg zv n.toNat⟩
  obtain⟨base,D,E,rfl,q⟩:=y7 (P:=P) (zeros:=true) (cy:=.int k' n) R hs hb o j X b h;obtain⟨cv,ρ',w',G,K,L,M⟩:=q;exact⟨cv,ρ',w',by rw [EL (pW he) hs hb hd h0 h1 h2];exact G,K,L,M⟩
 ·rename_i Q;split at h <;> first|(cases h;done)|skip
  rename_i n new T i;have A:new.length=n*m:=by
   unfold dZ at h;split at h
   ·rename_i hc;exact hc.1
   ·cases h
  have hl:=(jS (P:=P) R C T i A).1;have b:∀w',w'=w∨w'=w.drew->∃g:Array Value,(Builtin.firstCells m n cy).run P w'=.ok g w'/\RVs ρ H.gen w' new g.toList:=by
   rintro w' (rfl|rfl)
   ·exact(jS (P:=P) R C T i A).2
   ·exact(jS (P:=P) R.drew (R.keep (Ext.drew ρ H w) C) T i A).2
  obtain⟨base,D,E,rfl,q⟩:=y7 (P:=P) (zeros:=false) (cy:=cy) R hs hb o j X b h;obtain⟨cv,ρ',w',G,K,L,M⟩:=q;exact⟨cv,ρ',w',by rw [GK (pW he) hs hd (λk hk=>Q k hk) hl];exact G,K,L,M⟩
def aic(R:Rel ρ H w){ts:Array TypeId}{t ty:TypeId}{x y:AV}{cx cy:Value}(ht:ts[0]?=some t)(hx:RV ρ H.gen w x cx)(hy:RV ρ H.gen w y cy)(h:adg P t x y H=some (v,H')):Ok P ρ H w (Builtin.copy_ ts ty #[cx,cy]) v H':=by
 have a0:(#[cx,cy]:Array Value)[0]?=some cx:=rfl;have a1:(#[cx,cy]:Array Value)[1]?=some cy:=rfl;unfold adg at h;split at h <;> first|(cases h;done)|skip
 rename_i e he;split at h <;> first|(cases h;done)|skip
 rename_i m d n new hs hd hn hnew;simp only at h;split at h <;> first|(cases h;done)|skip
 rename_i hcond;obtain⟨hnl,hcell⟩:=hcond;obtain⟨hl,_⟩:=jS (P:=P) R hy hn hnew hnl
 -- the adv length
 have hdst:∀{base:Option Addr} {dl dc:Nat},cx=.slice base dl dc->dl=d:=by
  intro base dl dc hcx;subst hcx;unfold kL at hd;split at hd <;> first|(cases hd;done)|skip
  ·simp only [RV] at hx;obtain⟨_,_,_,h1,_⟩:=hx;cases h1;cases hd;rfl
  ·simp only [RV] at hx;obtain⟨_,_,_,h1,_⟩:=hx;cases h1;cases hd;rfl
  ·simp only [RV] at hx;cases hx;cases hd;rfl
  ·simp only [RV] at hx;cases hx
 have first:∃arr:Array Value,(Builtin.firstCells m (min n d) cy).run P w=.ok arr w/\RVs ρ H.gen w (new.take (min n d*m)) arr.toList:=by
  -- the first cells of the source
  unfold kL at hn;split at hn <;> first|(cases hn;done)|skip
  ·rename_i r g off esz len cap ex;simp only [zaa] at hn;subst hn;simp only [dH] at hnew;split at hnew <;> first|(cases hnew;done)|skip
   rename_i g' ty' cells ho;split at hnew <;> first|(cases hnew;done)|skip
   rename_i hc2;obtain⟨rfl,hle⟩:=hc2;simp only [zaa] at hnew;subst hnew;obtain⟨b,o,c,sh,cs,e',rfl,q1,q2,q3,hr,hoo,hbk,hcs,hz',hcc⟩:=EY R hy ho;have hlen:((cells.drop off).take (len*esz)).length=len*esz:=by simp;omega
   by_cases h0:min len d*m=0
   ·refine⟨#[],?_,by rw [h0];simp [RVs]⟩;simp [Builtin.firstCells,h0,loadCells,loadCellsFrom]
   ·have hpos:0<min len d:=Nat.pos_of_ne_zero λhh=>h0 (by rw [hh,zbD]);have ho':=hoo (by omega);have hcells:RVc ρ H.gen w (((cells.drop off).take (len*esz)).take (min len d*m)) b (sh+off):=uZ _ (uZ _ (su _ hcc));obtain⟨l,hl',h1⟩:=nS (P:=P) hcells;have hll:(((cells.drop off).take (len*esz)).take (min len d*m)).length=min len d*m:=by
     rw [zau,hnl];have:min len d*m<=len*m:=zaD _ (Nat.min_le_left _ _);omega
    rw [hll] at hl';exact⟨l.toArray,by simp only [Builtin.firstCells,ho'];exact hl',by simpa using h1⟩
  ·rename_i n' esz cells;simp only [zaa] at hn;subst hn;simp only [dH,zaa] at hnew;subst hnew;simp only [RV] at hy;obtain⟨b,o,c,rfl,q1,q2,q3,q4,q5⟩:=hy;obtain⟨l,hl',h1⟩:=nS (P:=P) (uZ (min n' d*m) q5);have hll:(cells.take (min n' d*m)).length=min n' d*m:=by
    rw [zau,hnl];have:min n' d*m<=n'*m:=zaD _ (Nat.min_le_left _ _);omega
   rw [hll] at hl';exact⟨l.toArray,by simp only [Builtin.firstCells];exact hl',by simpa using h1⟩
  ·simp only [RV] at hy;subst hy;simp only [dH,zaa] at hnew;subst hnew;exact⟨#[],by simp [Builtin.firstCells],by simp [RVs]⟩
  ·rename_i s;simp only [zaa] at hn;subst hn;simp only [RV] at hy;subst hy;simp only [dH,zaa] at hnew;subst hnew;refine⟨((s.extract 0 (min s.size d)).data.map λb=>.int .u8 b.toNat),by simp [Builtin.firstCells],?_⟩;have hm:m=1∨s.size=0:=by
    have h3:s.data.toList.length=s.size:=rfl;rw [zaE,h3] at hnl;rcases Nat.eq_zero_or_pos s.size with h|h
    ·exact .inr h
    ·left;rcases m with _|_|m
     ·rw [Nat.mul_zero] at hnl;omega
     ·rfl
     ·have:s.size*2<=s.size*(m+1+1):=Nat.mul_le_mul_left _ (by omega);omega
   have h2:((s.data.toList.map λb=>AV.s (.int .u8 b.toNat)).take (min s.size d*m))=(((s.extract 0 (min s.size d)).data.map λb=>Value.int .u8 b.toNat).toList).map .s:=by
    rcases hm with rfl|h0
    ·simp [ByteArray.data_extract,zcJ];rfl
    ·have h3:s.data.toList=[]:=zat h0;have h4:s.data=#[]:=by simpa using h3
     simp [ByteArray.data_extract,h4]
   rw [h2];exact iw _
 obtain⟨arr,ha,hra⟩:=first
 by_cases hk:min n d=0
 ·rw [if_pos hk] at h;split at h <;> first|(cases h;done)|skip
  rename_i hns;simp only [zaa,zad] at h;obtain⟨rfl,rfl⟩:=h;have harr:arr.toList=[]:=by
   have:=dQ hra;rw [hk,zbD] at this
   simpa using this
  obtain⟨base,dl,dc,rfl⟩:∃base dl dc,cx=.slice base dl dc:=by
   unfold kL at hd;split at hd <;> first|(cases hd;done)|skip
   ·simp only [RV] at hx;obtain⟨_,_,_,rfl,_⟩:=hx;exact⟨_,_,_,rfl⟩
   ·simp only [RV] at hx;obtain⟨_,_,_,rfl,_⟩:=hx;exact⟨_,_,_,rfl⟩
   ·simp only [RV] at hx;subst hx;exact⟨_,_,_,rfl⟩
   ·exact(hns _ rfl).elim
  obtain rfl:=hdst rfl;refine OkP.ok ⟨.int .i64 0,?_,by simp only [RV]⟩ R;have hmin:Nat.min n dl=min n dl:=rfl;simp only [Builtin.copy_,ht,a0,a1,Sem.run_bind,run_underlying (pW he),Result.andThen_ok,hl,fC hs,hmin,ha];cases base with
  |none=>simp [goInt,hk]
  |some a=>simp [goInt,hk,harr,storeCells]
 ·rw [if_neg hk] at h;split at h <;> first|(cases h;done)|skip
  rename_i r g off esz len cap ex;split at h <;> first|(cases h;done)|skip
  rename_i g' ty' cells ho;split at h <;> first|(cases h;done)|skip
  rename_i hc2;obtain⟨rfl,rfl,hbase,hle⟩:=hc2;simp only [zaa,zad] at h;obtain⟨rfl,rfl⟩:=h;obtain⟨b,o,c,sh,cs,e',rfl,q1,q2,q3,hr,hoo,hbk,hcs,hz',hcc⟩:=EY R hx ho;obtain rfl:=hdst rfl;have hgen:H.gen r=g':=by simp [ah.gen,ho,gu.gen]
  have hoff:o=sh+off:=hoo (by omega);have hal:=dQ hra;have htl:(new.take (min n len*esz)).length=min n len*esz:=by
   rw [zau,hnl];have:min n len*esz<=n*esz:=zaD _ (Nat.min_le_left _ _);omega
  rw [htl] at hal;have hml:min n len*esz<=len*esz:=zaD _ (Nat.min_le_right _ _);have hlc:len*esz<=c*esz:=zaD _ (by omega);have hcell':(new.take (min n len*esz)).all AV.aP=true:=by
   rw [zaZ] at hcell ⊢;intro a ha';exact hcell a (zcB ha')
  have hst:=kE (P:=P) (o:=o) arr.toList w cs 0 hbk (by rw [hal];omega) (ru hcell' hra);have kX:Xct ty' e' sh cs.size cells.length:=by
   have wJ:=R.obj r b sh hr;simp only [zA,ho] at wJ;obtain⟨cs2,e2,k1,_,_,k4⟩:=wJ;rw [hbk] at k1;cases k1;exact k4
  have hput:=Gz (hX:=by rw [fB,jl _ _ _ (by rw [htl];omega)];exact kX) (ty':=ty') (cells':=aO cells off (new.take (min n len*esz))) (cs':=lK cs o arr.toList) (g':=g') (sh':=sh) R hr hbk (fB _ _ _) (by omega) (λ_=>rfl)
   (by rw [jl _ _ _ (by rw [htl];omega)];exact hz') (by
    intro i u hu;rw [wZ _ _ _ (by rw [htl];omega),htl] at hu;rw [mY _ _ _ _ (by rw [hal];omega),hal];by_cases hi:off<=i/\i<off+min n len*esz
    ·rw [if_pos hi] at hu;rw [if_pos (by omega),show sh+i-o=i-off from by omega];exact jR hra hu
    ·rw [if_neg hi] at hu;rw [if_neg (by omega)];exact wY hbk hcc hu)
  refine⟨.int .i64 ((min n len:Nat):Int),_,_,?_,hput.1,by simp only [RV],hput.2⟩;have hmin:Nat.min n len=min n len:=rfl;simp only [zbr] at hst;simp only [Builtin.copy_,ht,a0,a1,Sem.run_bind,run_underlying (pW he),Result.andThen_ok,hl,fC hs,hmin,ha,hst,Sem.run_pure,goInt]
def adw(R:Rel ρ H w){t ty:TypeId}{x:AV}{M:Value}(C:RV ρ H.gen w x M)(h:Ve P t x H=some (v,H')):Ok P ρ H w (Builtin.clear_ #[t] ty #[M]) v H':=by
 have a0:(#[t]:Array TypeId)[0]?=some t:=rfl;have a1:(#[M]:Array Value)[0]?=some M:=rfl;unfold Ve at h;split at h <;> first|(cases h;done)|skip
 rename_i e Q;split at h <;> first|(cases h;done)|skip
 ·rename_i m z r g off d len am ex hs hz;obtain⟨zv,T,rfl⟩:=Aw hz;by_cases h0:len=0
  ·subst h0;simp only [if_true,zaa,zad] at h;obtain⟨rfl,rfl⟩:=h;simp only [RV] at C;obtain⟨b,o,c,rfl,_⟩:=C;refine OkP.ok ⟨.tuple #[],?_,by simp only [RV];exact⟨_,rfl,jI⟩⟩ R;simp [Builtin.clear_,run_underlying (pW Q)]
  ·rw [if_neg h0] at h;split at h <;> first|(cases h;done)|skip
   rename_i g' ty' cells W;split at h <;> first|(cases h;done)|skip
   rename_i X;obtain⟨rfl,rfl,aa,D,A,ao⟩:=X;simp only [zaa,zad] at h;obtain⟨rfl,rfl⟩:=h;simp at D;obtain⟨b,o,c,E,cs,e',rfl,q1,q2,q3,hr,ab,j,ap,ad,ae⟩:=EY R C W;have ai:H.gen r=g':=by simp [ah.gen,W,gu.gen]
   have al:o=E+off:=ab V;have aq:len*d<=c*d:=zaD _ V;have p:=xg (ρ:=ρ) (G:=H.gen) (w:=w) zv len;have af:((Array.range (len*zv.cells.size)).map (zv.cells[· % zv.cells.size]!))=Builtin.zeroCells zv.cells len:=rfl;rw [af] at p;have F:(dN (zv.cells.toList.map .s) len).length=len*d:=by rw [jm];simp [D]
   have q:=dQ p;rw [F] at q;have ag:(dN (zv.cells.toList.map .s) len).all AV.aP=true:=by
    have key:∀n,(dN (zv.cells.toList.map .s) n).all AV.aP=true:=by
     intro n
     induction n with
     |zero=>rfl
     |succ n ih=>simp only [dN,zbj,ih,A,zcj]
    exact key len
   have K:=kE (P:=P) (o:=o) (Builtin.zeroCells zv.cells len).toList w cs 0 j (by rw [q];omega) (ru ag p);have kX:Xct ty' e' E cs.size cells.length:=by
    have wJ:=R.obj r b E hr;simp only [zA,W] at wJ;obtain⟨ar,e2,k1,_,_,k4⟩:=wJ;rw [j] at k1;cases k1;exact k4
   have y:=Gz (hX:=by rw [fB,jl _ _ _ (by rw [F];omega)];exact kX) (ty':=ty') (cells':=aO cells off (dN (zv.cells.toList.map .s) len)) (cs':=lK cs o (Builtin.zeroCells zv.cells len).toList) (g':=g') (sh':=E) R hr j (fB _ _ _) V (λ_=>rfl)
    (by rw [jl _ _ _ (by rw [F];omega)];exact ad) (by
     intro i u L;rw [wZ _ _ _ (by rw [F];omega),F] at L;rw [mY _ _ _ _ (by rw [q];omega),q];by_cases hi:off<=i/\i<off+len*d
     ·rw [if_pos hi] at L;rw [if_pos V,show E+i-o=i-off from by omega];exact jR p L
     ·rw [if_neg hi] at L;rw [if_neg V];exact wY j ae L)
   refine⟨.tuple #[],_,_,?_,y.1,by simp only [RV];exact⟨_,rfl,jI⟩,y.2⟩;simp only [zbr] at K;obtain⟨len,rfl⟩:∃k,len=k+1:=⟨len-1,V⟩
   simp only [Builtin.clear_,a0,a1,Sem.run_bind,run_underlying (pW Q),Result.andThen_ok,gU T,K,Sem.run_pure]
 ·simp only [zaa,zad] at h;obtain⟨rfl,rfl⟩:=h;simp only [RV] at C;subst C;refine OkP.ok ⟨.tuple #[],?_,by simp only [RV];exact⟨_,rfl,jI⟩⟩ R;simp [Builtin.clear_,run_underlying (pW Q)]
end
section
variable {P:Program}{ρ:Ren}{H H':ah}{w:World}{v:AV}
def zF {G:Nat->Nat}:∀(xs:List AV) (l:List Value) (d:List Int),RVs ρ G w xs l->pR xs=some d->l=d.map (Value.int .u8)
 |[],l,d,h,b=>by
  simp only [RVs] at h;subst h;simp only [pR,zaa] at b;subst b;rfl
 |x::xs,l,d,h,b=>by
  obtain⟨y,i,rfl,g,j⟩:=(by simpa only [RVs] using h)
  simp only [pR] at b;split at b <;> first|(cases b;done)|skip
  split at b <;> first|(cases b;done)|skip
  rename_i k e;simp only [zaa] at b;subst b;simp only [RV] at g;subst g;rw [zF xs i k j e];rfl
def akR(R:Rel ρ H w){x:AV}{q:Value}{s:ByteArray}(e:RV ρ H.gen w x q)(h:akz x ((bT x).map H.get)=some s):(Conv.bytesToString q).run P w=.ok (.string s) w/\∃a l c,q=.slice a l c:=by
 unfold akz at h;split at h <;> first|(cases h;done)|skip
 ·rename_i r g off u len v ex;split at h <;> first|(cases h;done)|skip
  rename_i y;subst y;split at h <;> first|(cases h;done)|skip
  rename_i g' G cells E;simp only [bT,zak,zaa] at E;split at h <;> first|(cases h;done)|skip
  rename_i i;obtain⟨rfl,z⟩:=i;cases hb:pR ((cells.drop off).take (len*1)) with
  |none=>rw [hb] at h;cases h
  |some j=>
   simp only [hb,zak,zaa] at h;subst h;have hc:dH H (.sl r g' off 1 len v ex)=some ((cells.drop off).take (len*1)):=by simp only [dH,E];rw [if_pos ⟨trivial,z⟩]
   have p:((cells.drop off).take (len*1)).length=len*1:=by simp;omega
   obtain⟨_,A,ha,k⟩:=jS (P:=P) (m:=1) R e rfl hc p;have d:=zF _ _ j k hb;simp only [RV] at e;obtain⟨b,o,c,rfl,_⟩:=e;have C:(loadCells ⟨b,o,none⟩ len).run P w=.ok (j.map (Value.int .u8)).toArray w:=by
    simp only [Builtin.firstCells,zbO] at ha;rw [ha,<-d]
   exact⟨run_bytesToString w ⟨b,o,none⟩ len c j C,_,_,_,rfl⟩
 ·rename_i n u cells;split at h <;> first|(cases h;done)|skip
  rename_i y;subst y;cases hb:pR cells with
  |none=>simp [hb] at h
  |some j=>
   simp only [hb,zak,zaa] at h;subst h;have D:=e;simp only [RV] at e;obtain⟨b,o,c,rfl,K,F,_⟩:=e;obtain⟨_,A,ha,k⟩:=jS (P:=P) (m:=1) R D rfl rfl F;have d:=zF _ _ j k hb;have C:(loadCells ⟨b,o,none⟩ n).run P w=.ok (j.map (Value.int .u8)).toArray w:=by
    simp only [Builtin.firstCells,zbO] at ha;rw [ha,<-d]
   exact⟨run_bytesToString w ⟨b,o,none⟩ n c j C,_,_,_,rfl⟩
 ·simp only [zaa] at h;subst h;simp only [RV] at e;subst e;exact⟨by simp [Conv.bytesToString],_,_,_,rfl⟩
def Xy {src dst:TypeId}(h:Gt P src dst=true):∃e,P.underlying src=some (.slice e)/\P.underlying dst=some .string/\P.underlying e=some (.int .u8):=by
 unfold Gt at h;split at h <;> first|(cases h;done)|skip
 rename_i e hs hd;split at h <;> first|(cases h;done)|skip
 rename_i b;exact⟨e,hs,hd,b⟩
def Xz(R:Rel ρ H w){src dst:TypeId}{x:AV}{g:Value}(j:RV ρ H.gen w x g)(h:kM P src dst x H=some (v,H')):H'=H/\OkP P ρ H.gen w (convert src dst g) v:=by
 obtain⟨k,m⟩:=vw h
 clear h
 subst m;have h:=k
 clear k
 refine⟨rfl,?_⟩;unfold Ar at h;split at h
 ·rename_i hb;obtain⟨e,hs,hd,o⟩:=Xy hb;cases b:akz x ((bT x).map H'.get) with
  |none=>simp [b] at h
  |some s=>
   simp only [b,zak,zaa] at h;subst h;obtain⟨d,a,l,c,rfl⟩:=akR (P:=P) R j b;exact⟨.string s,by rw [run_convert_bytes_string w src dst e _ _ _ hs o hd];exact d,by simp only [RV]⟩
 ·split at h <;> first|(cases h;done)|skip
  rename_i u p;rw [JX x g u j p];cases i:jd P (convert src dst u) with
  |none=>simp [i] at h
  |some r=>
   simp only [i,zak,zaa] at h;subst h;exact⟨r,mZ i w,by simp only [RV]⟩
def Qg {G:Nat->Nat}{x:AV}{g:Value}(e:RV ρ G w x g)(h:aA x=some v):v=x/\(match g with
  |.pointer none|.nilIface|.nilFunc=>(runtimePanic .nilDeref:Sem Next)
  |.func (.method name) first d=>
   match(first[0]?:Option Value) with
   |some .nilIface=>runtimePanic .nilDeref
   |some (.iface t w)=>do
    if(<-nilAhead ((<-program).types.size+Made.depth) t w name) !=some false then
     unsupported (.noEntry "op/nilCheck.the method's receiver behind this interface value is a nil pointer, or cannot be seen to be none, and the arguments act or may panic (ledger 612)")
    pure (.value (.func (.method name) first d))
   |_=>pure (.value (.func (.method name) first d))
  |x=>pure (.value x)).run P w=.ok (.value g) w:=by
 unfold aA at h;split at h <;> first|(cases h;done)|skip
 all_goals
  simp only [zaa] at h;subst h;refine⟨rfl,?_⟩;simp only [RV] at e
 ·obtain⟨a,rfl,_⟩:=e;rfl
 ·obtain⟨b,o,rfl,_⟩:=e;rfl
 ·obtain⟨a,c,rfl,_⟩:=e;rfl
 ·subst e;rfl
end
def rW(P:Program)(C:aF):Prop:=
 ∀f b H v H',C f b H=some (v,H')->∀(ρ:Ren) (w:World) (d:Array Value),Rel ρ H w->RVs ρ H.gen w b d.toList->
  Calls P f d w λe w'=>∃cv ρ',e=.returned cv/\Rel ρ' H' w'/\RV ρ' H'.gen w' v cv/\Ext ρ H w ρ' H' w'
section
variable {P:Program}{ρ:Ren}{H H':ah}{w:World}{v:AV}
def adx {o:Oper}{a:Act}{K:Act->World->Prop}{Q:Exit->Act->World->Prop}{s:Sem Value}{cv:Value}{w':World}(b:execOp a.eval o=(do pure (.value (<-s))))(d:s.run P w=.ok cv w')(hk:K (a.put o.dst cv) w'):
  o.wp P a w K Q:=by
 unfold Oper.wp;rw [b,Sem.run_bind,d];exact hk
def aie {o:Oper}{a:Act}{K:Act->World->Prop}{Q:Exit->Act->World->Prop}{s:Sem Unit}{w':World}(b:execOp a.eval o=(do s;pure .skip))(d:s.run P w=.ok () w')(hk:K (a.put o.dst undef) w'):
  o.wp P a w K Q:=by
 unfold Oper.wp;rw [b,Sem.run_bind,d];exact hk
def aif {o:Oper}{a:Act}{K:Act->World->Prop}{Q:Exit->Act->World->Prop}{s:Sem Next}{cv:Value}{w':World}(b:execOp a.eval o=s)(d:s.run P w=.ok (.value cv) w')(hk:K (a.put o.dst cv) w'):
  o.wp P a w K Q:=by
 unfold Oper.wp;rw [b,d];exact hk
def EZ {G:Nat->Nat}:RV ρ G w bg undef:=by
 unfold bg undef;simp only [RV];exact⟨_,rfl,jI⟩
def CG {G:Nat->Nat}{t:gB}{a:Act}:∀(xs:List Operand),(∀x∈xs,RV ρ G w (dU t x) (a.eval x))->RVs ρ G w (xs.map (dU t)) (xs.map a.eval)
 |[],_=>jI
 |x::xs,h=>jF (h x O) (CG xs λy b=>h y (by simp [b]))
def GL {G:Nat->Nat}{t:gB}{a:Act}{x:Option Operand}(h:∀y∈x.toArray,RV ρ G w (dU t y) (a.eval y)):Tz ρ G w (x.map (dU t)) (x.map a.eval):=by
 cases x with
 |none=>trivial
 |some y=>exact h y O
def Qh {f:FuncId}{args:Array Value}(h:nO P f=true):(callFunc f args).run P w=.ok (.enter f args) w:=by
 unfold nO at h;cases d:P.funcs[f]? with
 |none=>simp [d] at h
 |some fn=>
  simp only [d,zah,za4] at h;have hb:fn.body.isNone=false:=by
   cases e:fn.body with
   |none=>simp [e] at h
   |some b=>rfl
  simp only [callFunc,Sem.run_bind,run_program,Result.andThen_ok,d,h.1,zai,if_false,hb,Sem.run_pure]
def aii {C:aF}(y:rW P C){o:Oper}{c:Call}{f:Operand}(m:o.op=.call c)(z:c.callee=.value f){a:Act}{K:Act->World->Prop}{Q:Exit->Act->World->Prop}{x:AV}{args:List AV}(R:Rel ρ H w)
  (k:RV ρ H.gen w x (a.eval f)) (e:RVs ρ H.gen w args (c.args.map a.eval).toList) (h:tJ P C x args H=some (v,H'))
  (A:∀cv ρ' w',Rel ρ' H' w'->RV ρ' H'.gen w' v cv->Ext ρ H w ρ' H' w'->K (a.put o.dst cv) w'):o.wp P a w K Q:=by
 have key:∀(d:FuncId) (first b:Array Value) (xs:List AV),a.eval f=.func (.func d) first b->nO P d=true->C d xs H=some (v,H')->RVs ρ H.gen w xs (first++c.args.map a.eval++b).toList->o.wp P a w K Q:=by
  intro d first b xs i g hc p
  have j:(execOp a.eval o).run P w=.ok (.enter d (first++c.args.map a.eval++b)) w:=by
   unfold execOp;rw [m];simp only [resolve,z,i,Deferred.ofValue,Sem.run_bind,Sem.run_pure,Result.andThen_ok,invoke];exact Qh g
  unfold Oper.wp;rw [j];refine(y d xs H v H' hc ρ w _ R p).mono λe w' D=>?_;obtain⟨cv,ρ',rfl,q,u,E⟩:=D;exact A cv ρ' w' q u E
 unfold tJ at h;split at h <;> first|(cases h;done)|skip
 ·rename_i d first b
  split at h <;> first|(cases h;done)|skip
  rename_i g;simp only [RV] at k;obtain⟨F,ca,i,q,u⟩:=k;refine key d F ca _ i g h ?_;rw [zcl,zcl];exact qQ (qQ q e) u
 ·rename_i d first b
  split at h <;> first|(cases h;done)|skip
  rename_i g;simp only [RV] at k;refine key d first b _ k g h ?_
  rw [zcl,zcl];exact qQ (qQ (iw _) e) (iw _)
def vF {α:Type}{x:Option α}{u:α}(h:fU x H=some (u,H')):x=some u/\H'=H:=by
 unfold fU at h;cases x with
 |none=>cases h
 |some y=>simp only [zak,zaa,zad] at h;exact⟨by rw [h.1],h.2.symm⟩
def XA(R:Rel ρ H w){b:Builtin}{q:Array TypeId}{ty:TypeId}{consts:Array Bool}{args:List AV}{z:Array Value}(g:RVs ρ H.gen w args z.toList)(h:iU P b q ty args H=some (v,H')):
  ∃s:Sem Value,builtin b q ty consts z=(do pure (.value (<-s)))/\Ok P ρ H w s v H':=by
 have two:∀{x y:AV},args=[x,y]->∃i o,z=#[i,o]/\RV ρ H.gen w x i/\RV ρ H.gen w y o:=by
  intro x y p;subst p;obtain⟨i,l,e,j,m⟩:=(by simpa only [RVs] using g)
  obtain⟨o,F,C,D,E⟩:=(by simpa only [RVs] using m)
  subst C E;exact⟨i,o,zcn.1 (by simpa using e),j,D⟩
 have one:∀{x:AV},args=[x]->∃i,z=#[i]/\RV ρ H.gen w x i:=by
  intro x p;subst p;obtain⟨i,l,e,j,m⟩:=(by simpa only [RVs] using g)
  subst m;exact⟨i,zcn.1 (by simpa using e),j⟩
 have k:∀{l:List TypeId},q.toList=l->q=l.toArray:=λh=>by rw [<-h]
 unfold iU at h;split at h
 ·rename_i t u x y d;obtain⟨i,o,rfl,j,m⟩:=two rfl;rw [k d];exact⟨_,rfl,Zk R j m h⟩
 ·rename_i t x d;obtain⟨i,rfl,j⟩:=one rfl;rw [k d];obtain⟨rfl,m⟩:=akO (ty:=ty) R j h;exact⟨_,rfl,m.ok R⟩
 ·rename_i t x d;obtain⟨i,rfl,j⟩:=one rfl;rw [k d];unfold fU at h;cases hc:afJ P t x with
  |none=>simp [hc] at h
  |some u=>
   simp only [hc,zak,zaa,zad] at h;obtain⟨rfl,rfl⟩:=h;exact⟨_,rfl,(akP (ty:=ty) j hc).ok R⟩
 ·rename_i t A x y d;obtain⟨i,o,rfl,j,m⟩:=two rfl;exact⟨_,rfl,aic R (by rw [k d];rfl) j m h⟩
 ·rename_i t x d;obtain⟨i,rfl,j⟩:=one rfl;rw [k d];exact⟨_,rfl,adw R j h⟩
 ·rename_i t A x y d;obtain⟨i,o,rfl,j,m⟩:=two rfl;exact⟨_,rfl,Zi R (by rw [k d];rfl) j m h⟩
 ·obtain⟨hc,rfl⟩:=vF h;have:=Qe g hc;simp only [if_true] at this;exact⟨_,rfl,this.ok R⟩
 ·obtain⟨hc,rfl⟩:=vF h;have:=Qe g hc;simp only [zai,if_false] at this;exact⟨_,rfl,this.ok R⟩
 ·cases h
def MP {G:Nat->Nat}{t:gB}{a:Act}(ps:Array (Nat × Operand))(h:∀x∈(ps.toList.map (·.2)).toArray,RV ρ G w (dU t x) (a.eval x)):
  (ps.toList.map λp=>(p.1,dU t p.2)).map (·.1)=((ps.map λ(i,x)=>(i,a.eval x)).toList).map (·.1)/\RVs ρ G w ((ps.toList.map λp=>(p.1,dU t p.2)).map (·.2)) (((ps.map λ(i,x)=>(i,a.eval x)).toList).map (·.2)):=by
 refine⟨by simp [Function.comp_def],?_⟩;have b:(ps.toList.map λp=>(p.1,dU t p.2)).map (·.2)=(ps.toList.map (·.2)).map (dU t):=by simp [Function.comp_def]
 have d:((ps.map λ(i,x)=>(i,a.eval x)).toList).map (·.2)=(ps.toList.map (·.2)).map a.eval:=by simp [Function.comp_def]
 rw [b,d];exact CG _ λx e=>h x (by simpa using e)
def MQ {C:aF}(hC:rW P C){t:gB}{o:Oper}(h:opA P C t o H=some (v,H'))(R:Rel ρ H w){a:Act}(hop:∀x∈o.op.operands,RV ρ H.gen w (dU t x) (a.eval x)){K:Act->World->Prop}{Q:Exit->Act->World->Prop}
  (hK:∀cv ρ' w',Rel ρ' H' w'->RV ρ' H'.gen w' v cv->Ext ρ H w ρ' H' w'->K (a.put o.dst cv) w'):o.wp P a w K Q:=by
 obtain⟨dst,op,type,pos,after,guard⟩:=o;simp only at hop hK;have TD:∀{s:Sem Value},execOp a.eval ⟨dst,op,type,pos,after,guard⟩=(do pure (.value (<-s)))->Ok P ρ H w s v H'->(⟨dst,op,type,pos,after,guard⟩:Oper).wp P a w K Q:=by
  intro s he hok;obtain⟨cv,ρ',w',h1,h2,h3,h4⟩:=hok;exact adx he h1 (hK cv ρ' w' h2 h3 h4)
 have akS:∀{s:Sem Value},execOp a.eval ⟨dst,op,type,pos,after,guard⟩=(do pure (.value (<-s)))->H'=H->OkP P ρ H.gen w s v->(⟨dst,op,type,pos,after,guard⟩:Oper).wp P a w K Q:=by
  intro s he hh hok;subst hh;exact TD he (hok.ok R)
 have as8:∀{s:Sem Unit},execOp a.eval ⟨dst,op,type,pos,after,guard⟩=(do s;pure .skip)->(v=bg/\∃ρ' w',s.run P w=.ok () w'/\Rel ρ' H' w'/\Ext ρ H w ρ' H' w')->(⟨dst,op,type,pos,after,guard⟩:Oper).wp P a w K Q:=by
  intro s he hok;obtain⟨rfl,ρ',w',h1,h2,h3⟩:=hok;exact aie he h1 (hK undef ρ' w' h2 EZ h3)
 have Y2:∀{s:Sem Value} {x:Option AV},execOp a.eval ⟨dst,op,type,pos,after,guard⟩=(do pure (.value (<-s)))->fU x H=some (v,H')->(x=some v->OkP P ρ H.gen w s v)->(⟨dst,op,type,pos,after,guard⟩:Oper).wp P a w K Q:=by
  intro s x he hl hok;obtain⟨h1,h2⟩:=vF hl;exact akS he h2 (hok h1)
 have i1:∀{x:Operand},op.operands=#[x]->RV ρ H.gen w (dU t x) (a.eval x):=λhe=>hop _ (by rw [he];simp);have i2:∀{x y:Operand},op.operands=#[x,y]->RV ρ H.gen w (dU t x) (a.eval x)/\RV ρ H.gen w (dU t y) (a.eval y):=λhe=>⟨hop _ (by rw [he];simp),hop _ (by rw [he];simp)⟩
 have i3:∀{x y z:Operand},op.operands=#[x,y,z]->RV ρ H.gen w (dU t x) (a.eval x)/\RV ρ H.gen w (dU t y) (a.eval y)/\RV ρ H.gen w (dU t z) (a.eval z):=λhe=>⟨hop _ (by rw [he];simp),hop _ (by rw [he];simp),hop _ (by rw [he];simp)⟩
 cases op with
 |move x=>
  refine Y2 (s:=pure (a.eval x)) rfl h λhx=>?_;cases hx;exact⟨_,rfl,i1 rfl⟩
 |assign x=>
  refine Y2 (s:=pure (a.eval x)) rfl h λhx=>?_;cases hx;exact⟨_,rfl,i1 rfl⟩
 |pick c x y=>
  obtain⟨h1,h2,h3⟩:=i3 rfl;refine Y2 (s:=do pure (if<-asBool (a.eval c) then a.eval x else a.eval y)) ?_ h λhx=>ah9 h1 h2 h3 hx;simp [execOp]
 |alloc e=>exact TD rfl (ado R h)
 |box e x=>exact TD rfl (akL R (i1 rfl) h)
 |build ty ps=>
  obtain⟨h1,h2⟩:=MP (ρ:=ρ) (w:=w) (G:=H.gen) (t:=t) (a:=a) ps hop;exact Y2 rfl h λhx=>ads h1 h2 hx
 |buildSlice ty n ps=>
  obtain⟨h1,h2⟩:=MP (ρ:=ρ) (w:=w) (G:=H.gen) (t:=t) (a:=a) ps hop;exact TD rfl (MK R h1 h2 h)
 |load ty x=>
  obtain⟨h1,h2⟩:=Ze R (i1 rfl) h;exact akS rfl h1 h2
 |store ty x y=>
  obtain⟨h1,h2⟩:=i2 rfl;exact as8 rfl (adn R h1 h2 h)
 |nilCheck x=>
  obtain⟨h1,h2⟩:=vF h;subst h2;obtain⟨rfl,h3⟩:=Qg (P:=P) (i1 rfl) h1;exact aif rfl h3 (hK _ ρ w R (i1 rfl) (Ext.refl _ _ _))
 |binOp b ty x y ty'=>
  obtain⟨h1,h2⟩:=i2 rfl;exact Y2 rfl h λhx=>aia h1 h2 (λhn=>by rw [Qa hn];rfl) hx
 |unOp b ty x=>exact Y2 rfl h λhx=>aqk (i1 rfl) hx
 |convert src dst x=>
  obtain⟨h1,h2⟩:=Xz R (i1 rfl) h;exact akS rfl h1 h2
 |makeFunc f fs cs=>
  refine Y2 (s:=Instr.makeFunc f (fs.map a.eval) (cs.map a.eval)) rfl h λhx=>?_;cases hx;refine⟨_,rfl,?_⟩;simp only [RV];refine⟨_,_,rfl,?_,?_⟩
  ·rw [zdo];exact CG _ λx hx=>hop x (by simp [Op.operands];exact .inl (by simpa using hx))
  ·rw [zdo];exact CG _ λx hx=>hop x (by simp [Op.operands];exact .inr (by simpa using hx))
 |makeMap ty r=>
  cases r with
  |none=>exact TD rfl (Xx R h)
  |some r=>cases h
 |makeSlice ty l c=>
  obtain⟨h1,h2⟩:=i2 rfl;exact TD rfl (Qb R h1 h2 h)
 |slice ty x lo hi mx=>
  have hx0:RV ρ H.gen w (dU t x) (a.eval x):=hop x (by simp [Op.operands]);have hlo:Tz ρ H.gen w (lo.map (dU t)) (lo.map a.eval):=GL λy hy=>hop y (by simp [Op.operands] at hy ⊢;simp [hy]);have hhi:Tz ρ H.gen w (hi.map (dU t)) (hi.map a.eval):=GL λy hy=>hop y (by simp [Op.operands] at hy ⊢;simp [hy]);have hmx:Tz ρ H.gen w (mx.map (dU t)) (mx.map a.eval):=GL λy hy=>hop y (by simp [Op.operands] at hy ⊢;simp [hy]);exact Y2 rfl h λhh=>adr hx0 hlo hhi hmx hh
 |fieldAddr ty x i=>exact Y2 rfl h λhx=>P8 (i1 rfl) hx
 |field ty x i=>exact Y2 rfl h λhx=>adp (i1 rfl) hx
 |indexAddr ty x i=>
  obtain⟨h1,h2⟩:=i2 rfl;obtain⟨h3,h4⟩:=P9 R h1 h2 h;exact akS rfl h3 h4
 |index ty x i=>
  obtain⟨h1,h2⟩:=i2 rfl;exact Y2 rfl h λhx=>adq h1 h2 hx
 |lookup ty x i ok=>
  obtain⟨h1,h2⟩:=i2 rfl;obtain⟨h3,h4⟩:=Zh R h1 h2 h;exact akS rfl h3 h4
 |mapUpdate ty m k x=>
  obtain⟨h1,h2,h3⟩:=i3 rfl;exact as8 rfl (Qd R h1 h2 h3 h)
 |extract x i=>exact Y2 rfl h λhx=>Xv (i1 rfl) hx
 |call c=>
  simp only [opA,wX] at h;split at h
  ·rename_i f TB;have hargs:RVs ρ H.gen w (c.args.toList.map (dU t)) (c.args.map a.eval).toList:=by
    rw [zdo];exact CG _ λx hx=>hop x (by simp [Op.operands,Call.operands,TB];exact .inr (by simpa using hx))
   exact aii hC rfl TB R (hop f (by simp [Op.operands,Call.operands,TB])) hargs h hK
  ·rename_i b TB;have hargs:RVs ρ H.gen w (c.args.toList.map (dU t)) (c.args.map a.eval).toList:=by
    rw [zdo];exact CG _ λx hx=>hop x (by simp [Op.operands,Call.operands,TB];simpa using hx)
   obtain⟨s,h1,h2⟩:=XA (P:=P) (consts:=c.args.map fun|.const _=>true|_=>false) R hargs h;refine TD (s:=s) ?_ h2;rw [<-h1];simp only [execOp,resolve,TB];rfl
  ·cases h
 |_=>cases h
end
def Zm(o e:gu):Prop:=∀g d c,o=.blk g d c->∃g' b c',e=.blk g' b c'/\(b=d∨iC<=b)
def Zm.refl(o:gu):Zm o o:=λg b c h=>⟨g,b,c,h,.inl rfl⟩
def Zm.trans {a b c:gu}(h:Zm a b)(i:Zm b c):Zm a c:=λg j cs e=>by
 obtain⟨k,m,o,p,k1⟩:=h g j cs e;obtain⟨q,u,v,w,d⟩:=i k m o p;refine⟨q,u,v,w,?_⟩;rcases d with rfl|d
 ·exact k1
 ·exact .inr d
def Az {o:gu}{g g' ty:Nat}{c c':List AV}(h:o=.blk g ty c):Zm o (.blk g' ty c'):=λ_ _ _ e=>by
 rw [h] at e;cases e;exact⟨_,_,_,rfl,.inl rfl⟩
def Vj {o:gu}{g' ty':Nat}{c':List AV}(h:iC<=ty'):Zm o (.blk g' ty' c'):=λ_ _ _ _=>⟨_,_,_,rfl,.inr h⟩
def Vk {o b:gu}{k:IntKind}{es:List (Int × AV)}(h:o=.map k es):Zm o b:=λ_ _ _ e=>by rw [h] at e;cases e
def Vl {e ty off:Nat}:iC<=grT e ty off:=by
 unfold grT;split <;> omega
structure Keeps(H H':ah):Prop where
 base:H'.base=H.base
 next:H.next<=H'.next
 get:∀r,r<H.base->r<H.next->H'.get r=H.get r
 types:∀r,r<H.next->Zm (H.get r) (H'.get r)
def Keeps.refl(H:ah):Keeps H H:=⟨rfl,zac _,λ_ _ _=>rfl,λ_ _=>.refl _⟩
def Keeps.trans {H H' H'':ah}(a:Keeps H H')(b:Keeps H' H''):Keeps H H'':=
 ⟨b.base.trans a.base,zaz a.next b.next,λr h1 h2=>(b.get r (by rw [a.base];exact h1) (zay h2 a.next)).trans (a.get r h1 h2),λr h=>(a.types r h).trans (b.types r (zay h a.next))⟩
def Keeps.new(H:ah)(o:gu):Keeps H (H.new o):=⟨rfl,by simp [ah.new],λr _ h=>by simp [ah.new];intro e;omega,λr h=>by
 have:(H.new o).get r=H.get r:=by simp [ah.new];intro e;omega
 rw [this];exact .refl _⟩
def Keeps.put {H:ah}{r:Nat}(o:gu)(h:H.base<=r)(b:Zm (H.get r) o):Keeps H (H.put r o):=⟨rfl,zac _,λx d _=>by simp [ah.put];intro e;omega,λx _=>by
 by_cases e:x=r
 ·subst e;simp only [ah.put,if_true];exact b
 ·simp only [ah.put,e,if_false];exact .refl _⟩
def kV(C:aF):Prop:=∀f b H v H',C f b H=some (v,H')->Keeps H H'
def TF(H H':ah):Prop:=H'.base=H.base/\H.next<=H'.next/\∀r,r<H.next->H'.get r=H.get r
section
variable {P:Program}{C:aF}{t:gB}{o:Oper}{H H':ah}{v:AV}
def uy {e:TypeId}{m b n:Nat}{x:AV}{new:List AV}(h:dZ e m b x n new H=some (v,H')):Keeps H H':=by
 unfold dZ at h;split at h <;> first|(cases h;done)|skip
 split at h <;> first|(cases h;done)|skip
 ·split at h
  ·simp only [zaa,zad] at h;rw [<-h.2];exact .refl _
  ·split at h <;> first|(cases h;done)|skip
   simp only [zaa,zad] at h;rw [<-h.2];exact .new _ _
 ·split at h <;> first|(cases h;done)|skip
  split at h <;> first|(cases h;done)|skip
  split at h
  ·simp only [zaa,zad] at h;rw [<-h.2];exact .refl _
  ·split at h
   ·split at h <;> first|(cases h;done)|skip
    rename_i hc;simp only [zaa,zad] at h;rw [<-h.2];exact .put _ hc.1 (by first|exact Vj Vl|exact Az (by assumption))
   ·split at h <;> first|(cases h;done)|skip
    split at h
    ·simp only [zaa,zad] at h;rw [<-h.2];exact .new _ _
    ·split at h <;> first|(cases h;done)|skip
     rename_i hc;simp only [zaa,zad] at h;rw [<-h.2];exact .put _ hc (by first|exact Vj Vl|exact Az (by assumption))
def XB(hf:rZ o.op=true):∃F:Option gu->Option AV,(Me o.op=false->∀a b,F a=F b)/\∀H:ah,opA P C t o H=(F ((lV t o.op).map H.get)).map λv=>(v,H):=by
 obtain⟨dst,op,type,pos,after,guard⟩:=o;have lift:∀{x:Option AV},opA P C t ⟨dst,op,type,pos,after,guard⟩=fU x->∃F:Option gu->Option AV,(Me op=false->∀a b,F a=F b)/\∀H:ah,opA P C t ⟨dst,op,type,pos,after,guard⟩ H=(F ((lV t op).map H.get)).map λv=>(v,H):=
  λ{x} he=>⟨λ_=>x,λ_ _ _=>rfl,λH=>by rw [he];rfl⟩
 cases op with
 |move x=>exact lift rfl
 |assign x=>exact lift rfl
 |pick c a b=>exact lift rfl
 |build ty ps=>exact lift rfl
 |nilCheck x=>exact lift rfl
 |binOp b ty x y ty'=>exact lift rfl
 |unOp b ty x=>exact lift rfl
 |makeFunc f a c=>exact lift rfl
 |slice ty x lo hi mx=>exact lift rfl
 |fieldAddr ty x i=>exact lift rfl
 |field ty x i=>exact lift rfl
 |index ty x i=>exact lift rfl
 |extract x i=>exact lift rfl
 |load ty x=>exact⟨_,(λh=>by cases h),λH=>rfl⟩
 |lookup ty x i ok=>exact⟨_,(λh=>by cases h),λH=>rfl⟩
 |indexAddr ty x i=>exact⟨_,(λh=>by cases h),λH=>rfl⟩
 |convert src dst x=>exact⟨_,(λh=>by cases h),λH=>rfl⟩
 |call c=>
  have akT:∀H,opA P C t ⟨dst,.call c,type,pos,after,guard⟩ H=wX P C t c type H:=λ_=>rfl;simp only [rZ] at hf;cases TB:c.callee with
  |value f=>simp [TB] at hf
  |invoke r m=>simp [TB] at hf
  |builtin b=>
   have hb:∀H,wX P C t c type H=iU P b c.argTypes type (c.args.toList.map (dU t)) H:=λH=>by simp only [wX,TB]
   have none':(∀H,iU P b c.argTypes type (c.args.toList.map (dU t)) H=none)->∃F:Option gu->Option AV,(Me (.call c)=false->∀a b,F a=F b)/\∀H:ah,opA P C t ⟨dst,.call c,type,pos,after,guard⟩ H=(F ((lV t (.call c)).map H.get)).map λv=>(v,H):=
    λhn=>⟨λ_=>none,λ_ _ _=>rfl,λH=>by rw [akT,hb,hn];rfl⟩
   have lift':∀x,(∀H,iU P b c.argTypes type (c.args.toList.map (dU t)) H=fU x H)->∃F:Option gu->Option AV,(Me (.call c)=false->∀a b,F a=F b)/\∀H:ah,opA P C t ⟨dst,.call c,type,pos,after,guard⟩ H=(F ((lV t (.call c)).map H.get)).map λv=>(v,H):=
    λx hn=>⟨λ_=>x,λ_ _ _=>rfl,λH=>by rw [akT,hb,hn];rfl⟩
   cases b with
   |len=>
    cases hts:c.argTypes.toList with
    |nil=>exact none' λH=>by simp only [iU,hts]
    |cons u us=>
     cases us with
     |cons u2 us=>exact none' λH=>by simp only [iU,hts]
     |nil=>
      cases hcl:c.args.toList with
      |nil=>exact none' λH=>by simp only [iU,hts,hcl,zbJ]
      |cons y ys=>
       cases ys with
       |cons z zs=>exact none' λH=>by simp only [iU,hts,hcl,zax]
       |nil=>
        refine⟨apU P u (dU t y),(λh=>by simp [Me,TB] at h),λH=>?_⟩;rw [akT,hb];simp only [iU,hts,hcl,zax,zbJ,akJ,kS,lV]
   |cap=>
    cases hts:c.argTypes.toList with
    |nil=>exact none' λH=>by simp only [iU,hts]
    |cons u us=>
     cases us with
     |cons u2 us=>exact none' λH=>by simp only [iU,hts]
     |nil=>
      cases hcl:c.args.toList with
      |nil=>exact none' λH=>by simp only [iU,hts,hcl,zbJ]
      |cons y ys=>
       cases ys with
       |cons z zs=>exact none' λH=>by simp only [iU,hts,hcl,zax]
       |nil=>exact lift' (afJ P u (dU t y)) λH=>by simp only [iU,hts,hcl,zax,zbJ]
   |max=>exact lift' (kG P true c.argTypes type (c.args.toList.map (dU t))) λH=>rfl
   |min=>exact lift' (kG P false c.argTypes type (c.args.toList.map (dU t))) λH=>rfl
   |_=>simp [TB] at hf
 |_=>cases hf
def MR(hf:rZ o.op=true)(h:opA P C t o H=some (v,H')):H'=H/\∀H2:ah,(Me o.op=true->∀r,lV t o.op=some r->H2.get r=H.get r)->opA P C t o H2=some (v,H2):=by
 obtain⟨F,h1,h2⟩:=XB (P:=P) (C:=C) (t:=t) hf;rw [h2] at h;cases hF:F ((lV t o.op).map H.get) with
 |none=>rw [hF] at h;cases h
 |some u=>
  rw [hF] at h;simp only [zak,zaa,zad] at h;refine⟨h.2.symm,λH2 hw=>?_⟩;rw [h2];have:F ((lV t o.op).map H2.get)=F ((lV t o.op).map H.get):=by
   cases hl:Me o.op with
   |false=>exact h1 hl _ _
   |true=>
    cases hwa:lV t o.op with
    |none=>rfl
    |some r=>simp only [zak,hw hl r hwa]
  rw [this,hF,h.1];rfl
def TG(b:kV C){f:AV}{args:List AV}(h:tJ P C f args H=some (v,H')):Keeps H H':=by
 unfold tJ at h;split at h <;> first|(cases h;done)|skip
 ·split at h <;> first|(cases h;done)|skip
  exact b _ _ _ _ _ h
 ·split at h <;> first|(cases h;done)|skip
  exact b _ _ _ _ _ h
def E8(p:kV C)(h:opA P C t o H=some (v,H')):Keeps H H':=by
 by_cases j:rZ o.op=true
 ·rw [(MR j h).1];exact .refl _
 obtain⟨dst,op,b,g,after,guard⟩:=o;cases op with
 |alloc e=>
  simp only [opA,JV] at h;split at h <;> first|(cases h;done)|skip
  split at h <;> first|(cases h;done)|skip
  simp only [zaa,zad] at h;rw [<-h.2];exact .new _ _
 |box e x=>
  simp only [opA,gV] at h;split at h <;> first|(cases h;done)|skip
  simp only [zaa,zad] at h;rw [<-h.2];exact .new _ _
 |buildSlice d n q=>
  simp only [opA,dK] at h;split at h <;> first|(cases h;done)|skip
  split at h <;> first|(cases h;done)|skip
  split at h <;> first|(cases h;done)|skip
  split at h <;> first|(cases h;done)|skip
  split at h <;> first|(cases h;done)|skip
  simp only [zaa,zad] at h;rw [<-h.2];exact .new _ _
 |store d x y=>
  simp only [opA,PY] at h;split at h <;> first|(cases h;done)|skip
  split at h <;> first|(cases h;done)|skip
  split at h <;> first|(cases h;done)|skip
  rename_i hc;simp only [zaa,zad] at h;rw [<-h.2];exact .put _ hc.2.1 (Az (by assumption))
 |makeMap d r=>
  cases r with
  |none=>
   simp only [opA,yh] at h;split at h <;> first|(cases h;done)|skip
   simp only [zaa,zad] at h;rw [<-h.2];exact .new _ _
  |some r=>cases h
 |makeSlice d l c=>
  simp only [opA,qP] at h;split at h <;> first|(cases h;done)|skip
  split at h <;> first|(cases h;done)|skip
  split at h <;> first|(cases h;done)|skip
  simp only [zaa,zad] at h;rw [<-h.2];exact .new _ _
 |mapUpdate d m k x=>
  simp only [opA,uo] at h;split at h <;> first|(cases h;done)|skip
  split at h <;> first|(cases h;done)|skip
  split at h <;> first|(cases h;done)|skip
  rename_i hc;simp only [zaa,zad] at h;rw [<-h.2];exact .put _ hc.2.2 (Vk (by assumption))
 |call c=>
  have i:opA P C t ⟨dst,.call c,b,g,after,guard⟩=wX P C t c b:=rfl;rw [i] at h;unfold wX at h;split at h <;> first|(cases h;done)|skip
  ·exact TG p h
  ·unfold iU at h;split at h <;> first|(cases h;done)|skip
   ·unfold L8 at h;split at h <;> first|(cases h;done)|skip
    split at h <;> first|(cases h;done)|skip
    split at h <;> first|(cases h;done)|skip
    split at h
    ·split at h <;> first|(cases h;done)|skip
     split at h <;> first|(cases h;done)|skip
     exact uy h
    ·split at h <;> first|(cases h;done)|skip
     exact uy h
   ·rw [(vw h).2];exact .refl _
   ·rw [(vF h).2];exact .refl _
   ·unfold adg at h;split at h <;> first|(cases h;done)|skip
    split at h <;> first|(cases h;done)|skip
    simp only at h;split at h <;> first|(cases h;done)|skip
    split at h
    ·split at h <;> first|(cases h;done)|skip
     simp only [zaa,zad] at h;rw [<-h.2];exact .refl _
    ·split at h <;> first|(cases h;done)|skip
     split at h <;> first|(cases h;done)|skip
     split at h <;> first|(cases h;done)|skip
     rename_i hc;simp only [zaa,zad] at h;rw [<-h.2];exact .put _ hc.2.2.1 (Az (by assumption))
   ·unfold Ve at h;split at h <;> first|(cases h;done)|skip
    split at h <;> first|(cases h;done)|skip
    ·split at h
     ·simp only [zaa,zad] at h;rw [<-h.2];exact .refl _
     ·split at h <;> first|(cases h;done)|skip
      split at h <;> first|(cases h;done)|skip
      rename_i hc;simp only [zaa,zad] at h;rw [<-h.2];exact .put _ hc.2.2.1 (Az (by assumption))
    ·simp only [zaa,zad] at h;rw [<-h.2];exact .refl _
   ·unfold L9 at h;split at h <;> first|(cases h;done)|skip
    split at h <;> first|(cases h;done)|skip
    split at h <;> first|(cases h;done)|skip
    rename_i hc;simp only [zaa,zad] at h;rw [<-h.2];exact .put _ hc.2.2 (Vk (by assumption))
   ·rw [(vF h).2];exact .refl _
   ·rw [(vF h).2];exact .refl _
 |_=>first|(cases h;done)|exact absurd rfl j
def TF.new(H:ah)(o:gu):TF H (H.new o):=⟨rfl,by simp [ah.new],λr h=>by simp [ah.new];intro e;omega⟩
def TJ(b:uY o.op=true)(hc:nI o.op=false)(h:opA P C t o H=some (v,H')):TF H H':=by
 obtain⟨dst,op,d,i,after,guard⟩:=o;cases op with
 |box e x=>
  simp only [opA,gV] at h;split at h <;> first|(cases h;done)|skip
  simp only [zaa,zad] at h;rw [<-h.2];exact .new _ _
 |buildSlice g n j=>
  simp only [opA,dK] at h;split at h <;> first|(cases h;done)|skip
  split at h <;> first|(cases h;done)|skip
  split at h <;> first|(cases h;done)|skip
  split at h <;> first|(cases h;done)|skip
  split at h <;> first|(cases h;done)|skip
  simp only [zaa,zad] at h;rw [<-h.2];exact .new _ _
 |makeMap g r=>
  cases r with
  |none=>
   simp only [opA,yh] at h;split at h <;> first|(cases h;done)|skip
   simp only [zaa,zad] at h;rw [<-h.2];exact .new _ _
  |some r=>cases h
 |makeSlice g l c=>
  simp only [opA,qP] at h;split at h <;> first|(cases h;done)|skip
  split at h <;> first|(cases h;done)|skip
  split at h <;> first|(cases h;done)|skip
  simp only [zaa,zad] at h;rw [<-h.2];exact .new _ _
 |call c=>
  simp only [uY] at b;simp only [nI] at hc;cases k:c.callee <;> simp_all
 |_=>cases b
def GN(hC:kV C)(h:opG P C t o H=some (v,H')):TF H H'/\∃H1,opA P C t o H.guard=some (v,H1)/\H'={ H1 with base:=H.base }:=by
 unfold opG at h;split at h <;> first|(cases h;done)|skip
 rename_i u H1 h1;simp only [zaa,zad] at h;obtain⟨rfl,rfl⟩:=h;have hk:=E8 hC h1;exact⟨⟨rfl,hk.next,λr hr=>hk.get r hr hr⟩,H1,h1,rfl⟩
def ady(hc:ET o.op=true)(h:opA P C t o H=some (v,H')):
  ∃(ty:TypeId) (z:List AV) (mk:Nat->AV),v=mk H.next/\H'=H.new (.blk 0 ty z)/\
   ∀(ρ:Ren) (G:Nat->Nat) (w:World) (a:Act),∃(cs:Array Value) (cv:Value),(execOp a.eval o).run P w=.ok (.value cv) (w.alloc (.cells cs ty))/\(RVs ρ G w z cs.toList/\ty<iC)/\
    ∀(ρ':Ren) (G':Nat->Nat) (r:Nat),G' r=0->ρ' r=some (w.heap.size,0)->RV ρ' G' (w.alloc (.cells cs ty)) (mk r) cv:=by
 obtain⟨dst,op,aa,ad,after,guard⟩:=o;cases op with
 |alloc e=>
  simp only [opA,JV,yR] at h;cases j:Ap P e with
  |none=>simp [j] at h
  |some z=>
   simp only [j,zak] at h;split at h <;> first|(cases h;done)|skip
   simp only [zaa,zad] at h;refine⟨e,_,λr=>.ref r 0 0,h.1.symm,h.2.symm,fun ρ G w a=>⟨z.cells,.pointer (some ⟨w.heap.size,0,none⟩),?_,⟨iw _,vg j⟩,fun ρ' G' r hg hr=>?_⟩⟩
   ·simp [execOp,Instr.alloc,gU j,newVar,newRow]
   ·simp only [RV];exact⟨_,rfl,V,λ_=>⟨_,0,hr,O⟩⟩
 |buildSlice ty n F=>
  simp only [ET] at hc;simp only [opA] at h;have g:∀(a:Act) (p:Nat × Operand),p∈F.toList->∃u,p.2=.const u:=by
   intro a p A;have:=zcN.1 hc p (by simpa using A);cases K:p.2 with
   |const u=>exact⟨u,rfl⟩
   |_=>rw [K] at this;cases this
  have L:∀(ρ:Ren) (G:Nat->Nat) (w:World) (a:Act),∀x∈(F.toList.map (·.2)).toArray,RV ρ G w (dU t x) (a.eval x):=by
   intro ρ G w a x hx;simp only [List.mem_toArray,zaI] at hx;obtain⟨p,A,rfl⟩:=hx;obtain⟨u,hu⟩:=g a p A;rw [hu];simp only [dU,Act.eval,RV]
  unfold dK at h;cases M:Am P ty with
  |none=>simp [M] at h
  |some e=>
   simp only [M] at h;cases hs:szT P e with
   |none=>simp [hs] at h
   |some m=>
    cases j:yR P e with
    |none=>simp [hs,j] at h
    |some z=>
     simp only [hs,j] at h;obtain⟨zv,D,rfl⟩:=Aw j;split at h <;> first|(cases h;done)|skip
     rename_i q;obtain⟨y,ab⟩:=q;simp at y;split at h <;> first|(cases h;done)|skip
     rename_i cells hf;split at h <;> first|(cases h;done)|skip
     simp only [zaa,zad] at h;refine⟨e,cells,λr=>.sl r 0 0 m n n true,h.1.symm,h.2.symm,fun ρ G w a=>?_⟩;obtain⟨hi,A⟩:=MP (ρ:=ρ) (w:=w) (G:=G) (t:=t) (a:=a) F (L ρ G w a);obtain⟨E,Q,R⟩:∃E:Array Value,RVs ρ G w (dN (zv.cells.toList.map .s) n) ((Array.range (n*m)).map (E[· % E.size]!)).toList/\((n*m=0/\E=#[])∨(¬n*m=0/\E=zv.cells)):=by
      by_cases k:n*m=0
      ·refine⟨#[],?_,.inl ⟨k,rfl⟩⟩;rw [k];have:dN (zv.cells.toList.map .s) n=[]:=zat (by rw [jm];simp [y,k]);rw [this];simp [RVs]
      ·refine⟨zv.cells,?_,.inr ⟨k,rfl⟩⟩;have:=xg (ρ:=ρ) (G:=G) (w:=w) zv n;rw [y] at this ⊢;exact this
     obtain⟨cs,T,h2⟩:=GI _ _ _ _ cells hi A Q hf;have W:cs.size=n*m:=by
      have hsz:∀(d:Nat->Option (Nat × Nat)) (l:List (Nat × Value)) (a b:Array Value),Instr.fill d a l=some b->b.size=a.size:=by
       intro d l
       induction l with
       |nil=>intro a b h;simp [Instr.fill] at h;rw [h]
       |cons p l ih=>
        intro a b h;obtain⟨i,x⟩:=p;simp only [Instr.fill] at h;split at h
        ·cases h
        ·split at h
         ·cases h
         ·rw [ih _ _ h,<-zcM,zdD,yj,fB]
      rw [hsz _ _ _ _ T];simp
     refine⟨cs,.slice (some ⟨w.heap.size,0,none⟩) n n,?_,⟨h2,vg D⟩,fun ρ' G' r hg hr=>?_⟩
     ·have X:¬n*m > 2 ^ 24:=V
      simp only [execOp,Instr.buildSlice,Sem.run_bind,run_underlying (pW M),Result.andThen_ok,fC hs,X,if_false];rcases R with⟨k,rfl⟩|⟨k,rfl⟩
      ·rw [if_pos k];simp only [Result.andThen_ok,T,Sem.run_bind,newRow,run_newObj,Sem.run_pure];rfl
      ·rw [if_neg k];simp only [Result.andThen_ok,T,Sem.run_bind,newRow,run_newObj,Sem.run_pure,gU D];rfl
     ·simp only [RV];refine⟨w.heap.size,0,n,rfl,zac _,zac _,λ_=>rfl,V,λ_=>⟨0,e,cs.size,hr,λ_=>rfl,?_,by rw [W];omega⟩⟩;rw [fG,kD];rfl
 |_=>cases hc
end
def vG {ops:List Oper}{L:Nat->Prop}(hdown:∀j o,ops[j]?=some o->L j->∀e∈o.after,Region.binds .any e=true->L e.on):
  ∀i j,nP ops i j=true->L j->L i:=by
 have key:∀(l pre:List Oper) (acc:Array Nat),pre.length=acc.size->(∀i j,(acc.getD j 0).testBit i=true->(pre++l=ops)->L j->L i)->pre++l=ops->
   ∀i j,((l.foldl (init:=acc) λacc o=>acc.push (o.after.foldl (λs e=>if Region.binds .any e then s ||| 2 ^ e.on ||| acc.getD e.on 0 else s) 0)).getD j 0).testBit i=true->L j->L i:=by
  intro l
  induction l with
  |nil=>
   intro pre acc _ h he i j hb hl;exact h i j hb he hl
  |cons o l ih=>
   intro pre acc hsz h he i j hb hl;simp only [zbT] at hb;refine ih (pre++[o]) _ (by simp [hsz]) ?_ (by simpa using he) i j hb hl;intro i j hb he' hl;by_cases hj:j<acc.size
   ·refine h i j ?_ he hl
    simpa [Array.getD,hj,Nat.lt_succ_of_lt hj,Array.getElem_push_lt hj] using hb
   ·by_cases hj':j=acc.size
    ·subst hj';have hoj:ops[acc.size]?=some o:=by rw [<-he,<-hsz];simp
     have hs:((acc.push (o.after.foldl (λs e=>if Region.binds .any e then s ||| 2 ^ e.on ||| acc.getD e.on 0 else s) 0)).getD acc.size 0)=o.after.foldl (λs e=>if Region.binds .any e then s ||| 2 ^ e.on ||| acc.getD e.on 0 else s) 0:=O
     rw [hs] at hb;have inner:∀(es:List Edge) (s:Nat),(∀e∈es,e∈o.after)->(s.testBit i=true->L i)->(es.foldl (λs e=>if Region.binds .any e then s ||| 2 ^ e.on ||| acc.getD e.on 0 else s) s).testBit i=true->L i:=by
      intro es
      induction es with
      |nil=>intro s _ hs hb;exact hs hb
      |cons e es ih2=>
       intro s hin hs hb;simp only [zbT] at hb;refine ih2 _ (λe' h'=>hin e' (by simp [h'])) ?_ hb;intro hb2;split at hb2
       ·rename_i hbi;simp only [zcF,zbk,zc8] at hb2;have hle:=hdown _ o hoj hl e (hin e O) hbi;rcases hb2 with(hb2|hb2)|hb2
        ·exact hs hb2
        ·simp at hb2;rw [<-hb2];exact hle
        ·exact h i e.on hb2 he hle
       ·exact hs hb2
     refine inner o.after.toList 0 (λe he=>by simpa using he) (λhz=>by simp at hz) ?_;rw [zcM];exact hb
    ·have:(acc.push (o.after.foldl (λs e=>if Region.binds .any e then s ||| 2 ^ e.on ||| acc.getD e.on 0 else s) 0)).getD j 0=0:=by
      simp [Array.getD,show¬j<acc.size+1 by omega]
     rw [this] at hb;simp at hb
 intro i j hb hl;refine key ops [] #[] rfl (λi j hb=>by simp at hb) rfl i j ?_ hl;unfold nP Region.before at hb;rw [<-zcM] at hb;exact hb
def kF {n:Nat}{f:Nat->Bool}(h:EK n f=true){i:Nat}(hi:i<n):f i=true:=by
 unfold EK at h;exact zaZ.1 h i (zaW.2 hi)
structure GR(ops:List Oper):Prop where
 edges:∀j o,ops[j]?=some o->∀e∈o.after,Region.binds .any e=true->e.on<ops.length/\Gu ops e.on j=true
 apV:∀(i j:Nat) (oi oj:Oper) (d:Tmp),ops[i]?=some oi->ops[j]?=some oj->oi.dst=some d->oj.dst=some d->i=j
 uses:∀(i j:Nat) (oi oj:Oper) (d:Tmp),i≠j->ops[i]?=some oi->ops[j]?=some oj->oi.dst=some d->d∈oj.looksAt ops.toArray->(nP ops i j=true/\Gu ops i j=true)∨(nP ops j i=true/\Gu ops j i=true)
 chain:∀i j,i<j->j<ops.length->chn ops i=true->chn ops j=true->nP ops i j=true
 const:∀j o,ops[j]?=some o->cst ops j=true->o.guard=none/\o.dst.isSome=true
 loose:∀j e,j<ops.length->e<ops.length->cst ops j=true->chn ops e=true->nP ops j e=false->(uY (qZ ops e)=true∨ah8 (qZ ops e)=true)/\nP ops e j=false
def dS {α:Type}{l:List α}{i:Nat}{x:α}(h:l[i]?=some x):i<l.length:=(zae.1 h).1
def vH {ops:List Oper}{j:Nat}{o:Oper}(h:ops[j]?=some o):qZ ops j=o.op:=by simp [qZ,h]
def GU {ops:List Oper}{j:Nat}{o:Oper}(h:ops[j]?=some o):JW ops j=o.dst:=by simp [JW,h]
def Eb {ops:List Oper}(h:Vf ops=true):GR ops:=by
 unfold Vf at h;simp only [zah] at h;obtain⟨⟨⟨⟨⟨C,D⟩,E⟩,F⟩,G⟩,H⟩:=h;refine⟨λj o p e w hb=>?_,λi j k g d hi b m v=>?_,λi j k g d y hi b m hd=>?_,λi j q b K L=>?_,λj o p hc=>?_,λj e b w hc z hb=>?_⟩
 ·have:=kF C (dS p);simp only [p,zak,zav] at this;have:=zcN.1 this e w
  simpa [hb] using this
 ·have u:∀(i j:Nat) (k g:Oper),ops[i]?=some k->ops[j]?=some g->k.dst=some d->g.dst=some d->¬i<j:=by
   intro i j k g hi b m v A;have:=kF (kF D (dS hi)) (dS b);rw [GU hi,GU b,m,v] at this;simp [A] at this
  have M:=u i j k g hi b m v;have Q:=u j i g k b hi v m;omega
 ·have:=kF (kF E (dS hi)) (dS b);rw [GU hi,m,b] at this;simp only [zbk,beq_iff_eq,za4,zah] at this;rcases this with h|(h|h)|h
  ·exact absurd h y
  ·have hc:(g.looksAt ops.toArray).contains d=true:=List.contains_iff_mem.2 hd;rw [hc] at h;cases h
  ·exact .inl h
  ·exact .inr h
 ·have:=kF (kF F (Nat.lt_trans q b)) b
  simpa [K,L,q] using this
 ·have:=kF G (dS p);simp only [hc,zaf,zbI,p,zak,zav,zah] at this;exact⟨Option.isNone_iff_eq_none.1 this.1,this.2⟩
 ·have:=kF (kF H b) w;simp only [hc,z,hb,zam,zcj,zaf,zbI,zah,za4,zbk] at this;exact this
def y8 {P:Program}{C:aF}{ops:List Oper}:∀(l m:List Nat) (t:gB) (H:ah),
  fV P C ops (l++m) t H=(fV P C ops l t H).bind λs=>fV P C ops m s.1 s.2
 |[],m,t,H=>rfl
 |i::l,m,t,H=>by
  simp only [zbq,fV];cases ops[i]? with
  |none=>rfl
  |some o=>
   simp only;cases nM P C ops (loose ops i && nI o.op) o t H with
   |none=>rfl
   |some r=>exact y8 l m _ _
def CJ(f:Nat->Bool)(p:Nat):(List.range (p+1)).filter f=(List.range p).filter f++(if f p then [p] else []):=by
 rw [zcd,zcq]
 congr 1
 simp only [zbX,List.filter_nil]
def xu {P:Program}{C:aF}{ops:List Oper}{p:Nat}{t:gB}{H:ah}:Gv P C ops (p+1) t H=
  (Gv P C ops p t H).bind λs=>if cst ops p then some s else fV P C ops [p] s.1 s.2:=by
 unfold Gv;rw [CJ,y8]
 congr 1
 funext s
 cases cst ops p <;> rfl
def Zn {P:Program}{C:aF}{ops:List Oper}{t:gB}{H:ah}{n:Nat}{s:gB × ah}(h:Gv P C ops n t H=some s):∀k p,p+k=n->∃d,Gv P C ops p t H=some d:=by
 intro k
 induction k generalizing n s with
 |zero=>intro p b;simp at b;subst b;exact⟨s,h⟩
 |succ k g=>
  intro p b;cases n with
  |zero=>omega
  |succ n=>
   rw [xu] at h;cases e:Gv P C ops n t H with
   |none=>rw [e] at h;cases h
   |some d=>exact g e p V
structure CO(P:Program)(C:aF)(ops:List Oper)(t0:gB)(H0:ah)(T:Nat->gB)(Hp:Nat->ah)(val:Nat->AV):Prop where
 zero:T 0=t0/\Hp 0=H0
 at_:∀p,p<=ops.length->Gv P C ops p t0 H0=some (T p,Hp p)
 skip:∀p,p<ops.length->cst ops p=true->T (p+1)=T p/\Hp (p+1)=Hp p
 step:∀p o,ops[p]?=some o->cst ops p=false->nM P C ops (loose ops p && nI o.op) o (T p) (Hp p)=some (val p,Hp (p+1))/\T (p+1)=wV (T p) o.dst (val p)
def J3 {P:Program}{C:aF}{ops:List Oper}{t0:gB}{H0:ah}{s:gB × ah}(h:fV P C ops (nR ops) t0 H0=some s)(m:Nat->AV):
  ∃T Hp val,CO P C ops t0 H0 T Hp val/\(T ops.length,Hp ops.length)=s/\∀p,cst ops p=true->val p=m p:=by
 have q:Gv P C ops ops.length t0 H0=some s:=h;let S:Nat->gB × ah:=λp=>(Gv P C ops p t0 H0).getD (t0,H0)
 have e:∀p,p<=ops.length->Gv P C ops p t0 H0=some (S p):=λp j=>by
  obtain⟨w,k⟩:=Zn q (ops.length-p) p V;simp only [S,k,zav]
 have d:∀p o,ops[p]?=some o->cst ops p=false->∃v,nM P C ops (loose ops p && nI o.op) o (S p).1 (S p).2=some (v,(S (p+1)).2)/\(S (p+1)).1=wV (S p).1 o.dst v:=by
  intro p o g hc;have j:=dS g;have b:=e (p+1) j;rw [xu,e p V] at b;simp only [za7,hc,zai,if_false,fV,g] at b;cases i:nM P C ops (loose ops p && nI o.op) o (S p).1 (S p).2 with
  |none=>rw [i] at b;cases b
  |some r=>
   rw [i] at b;simp only [zaa] at b;exact⟨r.1,by rw [<-b],by rw [<-b]⟩
 refine⟨λp=>(S p).1,λp=>(S p).2,λp=>if cst ops p then m p else match ops[p]? with
  |some o=>(match nM P C ops (loose ops p && nI o.op) o (S p).1 (S p).2 with|some r=>r.1|none=>bg)
  |none=>bg,⟨⟨rfl,rfl⟩,e,λp j hc=>?_,λp o g hc=>?_⟩,?_,λp hc=>by simp [hc]⟩
 ·have b:=e (p+1) j;rw [xu,e p V] at b;simp only [za7,hc,if_true,zaa] at b;rw [<-b];exact⟨rfl,rfl⟩
 ·obtain⟨v,b,u⟩:=d p o g hc;simp only [hc,zai,if_false,g,b,u,and_self]
 ·have:=e ops.length (zac _);rw [q] at this;cases this;rfl
structure Qi(P:Program)(o:Oper)(v:AV)(r:Nat)(ob:gu):Prop where
 ex:∃(ty:TypeId) (z:List AV) (mk:Nat->AV),v=mk r/\ob=.blk 0 ty z/\
   ∀(ρ:Ren) (G:Nat->Nat) (w:World) (a:Act),∃(cs:Array Value) (cv:Value),(execOp a.eval o).run P w=.ok (.value cv) (w.alloc (.cells cs ty))/\(RVs ρ G w z cs.toList/\ty<iC)/\
    ∀(ρ':Ren) (G':Nat->Nat) (r:Nat),G' r=0->ρ' r=some (w.heap.size,0)->RV ρ' G' (w.alloc (.cells cs ty)) (mk r) cv
def ng(t:gB)(d:Option Tmp)(v:AV):(wV t d v).length=t.length:=by cases d <;> simp [wV]
def MS(t:gB)(d:Option Tmp)(v:AV)(i:Nat):(wV t d v)[i]?=if d=some i/\i<t.length then some v else t[i]?:=by
 cases d with
 |none=>simp [wV]
 |some d=>
  simp only [wV,zcW,zaa];by_cases h:d=i
  ·subst h;by_cases b:d<t.length
   ·simp [b]
   ·simp [b]
  ·simp [h]
def vI {P:Program}{C:aF}{ops:List Oper}:∀(is:List Nat) (t:gB) (H:ah) (t0:gB) (H0:ah),is.Nodup->(∀j∈is,cst ops j=true)->
  (∀i∈is,∀j∈is,∀(oi oj:Oper) (d:Tmp),ops[i]?=some oi->ops[j]?=some oj->oi.dst=some d->oj.dst=some d->i=j)->iV P C ops is t H=some (t0,H0)->
  TF H H0/\(∀r,H.next<=r->H.gen r=0->H0.gen r=0)/\t0.length=t.length/\∃(nm:Nat->Nat) (vl:Nat->AV),(∀j∈is,∃o,ops[j]?=some o/\H.next<=nm j/\nm j<H0.next/\Qi P o (vl j) (nm j) (H0.get (nm j))/\∀d,o.dst=some d->d<t.length->t0[d]?=some (vl j))/\
   (∀i∈is,∀j∈is,nm i=nm j->i=j)/\∀d,(∀j∈is,∀o,ops[j]?=some o->o.dst≠some d)->t0[d]?=t[d]?
 |[],t,H,t0,H0,_,_,_,h=>by
  simp only [iV,zaa,zad] at h;obtain⟨rfl,rfl⟩:=h;exact⟨⟨rfl,zac _,λ_ _=>rfl⟩,λ_ _ h=>h,rfl,λ_=>0,λ_=>bg,by simp,by simp,λ_ _=>rfl⟩
 |i::is,t,H,t0,H0,hnd,as9,hdst,h=>by
  simp only [iV] at h;cases ho:ops[i]? with
  |none=>rw [ho] at h;cases h
  |some o=>
   rw [ho] at h;simp only at h;cases hop:opA P C t o H with
   |none=>rw [hop] at h;cases h
   |some r=>
    obtain⟨v,H1⟩:=r;rw [hop] at h;simp only at h;have hco:ET o.op=true:=by have:=as9 i (by simp);simpa [cst,vH ho] using this
    obtain⟨ty,z,mk,rfl,rfl,hrun⟩:=ady hco hop;obtain⟨hf,hg,hlen,nm,vl,h1,h2,h3⟩:=vI is _ _ t0 H0 (za1.1 hnd).2 (λj hj=>as9 j (by simp [hj])) (λa ha b hb=>hdst a (by simp [ha]) b (by simp [hb])) h;have hni:i∉is:=(za1.1 hnd).1;have hget:H0.get H.next=.blk 0 ty z:=by
     rw [hf.2.2 H.next (by simp [ah.new])];simp [ah.new]
    refine⟨⟨hf.1,zaz (by simp [ah.new]) hf.2.1,λr hr=>?_⟩,λr hr hgr=>?_,by rw [hlen,ng],λj=>if j=i then H.next else nm j,λj=>if j=i then mk H.next else vl j,λj hj=>?_,λa ha b hb hab=>?_,λd hd=>?_⟩
    ·rw [hf.2.2 r (by simp [ah.new];omega)];simp [ah.new,show r≠H.next by omega]
    ·rcases zaQ H.next r with hlt|hge
     ·refine hg r (by simp [ah.new];omega) ?_;rw [Tq,if_neg (by omega)];exact hgr
     ·have:r=H.next:=by omega
      subst this;simp [ah.gen,hget,gu.gen]
    ·by_cases hji:j=i
     ·subst hji;simp only [if_true];refine⟨o,ho,zac _,zay (by simp [ah.new]) hf.2.1,⟨ty,z,mk,rfl,hget,hrun⟩,λd hd hlt=>?_⟩;rw [h3 d (λk hk ok hok hkd=>hni (by
       have:=hdst j (by simp) k (by simp [hk]) o ok d ho hok hd hkd;rw [this];exact hk)),MS,if_pos ⟨hd,hlt⟩]
     ·simp only [if_neg hji];obtain⟨oj,hoj,q1,q2,q3,q4⟩:=h1 j (by
       rcases zaj.1 hj with e|e
       ·exact absurd e hji
       ·exact e)
      refine⟨oj,hoj,zaz (by simp [ah.new]) q1,q2,q3,λd hd hlt=>q4 d hd (by rw [ng];exact hlt)⟩
    ·by_cases ha':a=i <;> by_cases hb':b=i
     ·rw [ha',hb']
     ·simp only [ha',if_true,if_neg hb'] at hab;obtain⟨_,_,q1,_⟩:=h1 b (by exact(zaj.1 hb).resolve_left hb');simp [ah.new] at q1;omega
     ·simp only [hb',if_true,if_neg ha'] at hab;obtain⟨_,_,q1,_⟩:=h1 a (by exact(zaj.1 ha).resolve_left ha');simp [ah.new] at q1;omega
     ·simp only [if_neg ha',if_neg hb'] at hab;exact h2 a (by exact(zaj.1 ha).resolve_left ha') b (by exact(zaj.1 hb).resolve_left hb') hab
    ·rw [h3 d (λj hj=>hd j (by simp [hj])),MS,if_neg (λhc=>hd i (by simp) o ho hc.1)]
structure TOn(ρ:Ren)(G:Nat->Nat)(w:World)(D:Tmp->Prop)(t:gB)(a:Act):Prop where
 size:a.tmps.size=t.length
 get:∀d,D d->d<t.length->RV ρ G w (t.getD d bg) (a.tmps.getD d undef)
section
variable {P:Program}{C:aF}{ops:List Oper}{H H':ah}{t:gB}{a:Act}{w:World}{ρ:Ren}{G:Nat->Nat}{o:Oper}{v:AV}
def TOn.any {D:Tmp->Prop}(h:TOn ρ G w D t a)(d:Tmp)(hd:D d):RV ρ G w (t.getD d bg) (a.tmps.getD d undef):=by
 by_cases b:d<t.length
 ·exact h.get d hd b
 ·have e:t.getD d bg=bg:=by simp [List.getD,zaG (zdQ.1 b)]
  have g:a.tmps.getD d undef=undef:=by
   have:¬d<a.tmps.size:=by rw [h.size];exact b
   simp [Array.getD,this]
  rw [e,g];exact EZ
def TOn.eval(h:TOn ρ G w (· ∈o.looksAt ops.toArray) t a):∀x∈o.op.operands,RV ρ G w (dU t x) (a.eval x):=by
 intro x b;cases x with
 |tmp d=>
  exact h.any d (zcC _ (List.mem_filterMap.2 ⟨.tmp d,by simpa using b,rfl⟩))
 |const v=>simp [dU,Act.eval,RV]
 |global g=>simp [dU,Act.eval,RV]
 |func f=>simp [dU,Act.eval,RV,RVs]
def TOn.wanted {b:Bool}(h:TOn ρ G w (· ∈o.looksAt ops.toArray) t a)(hw:uX ops t o=some b):Region.wanted o (yielded ops.toArray a.tmps)=b:=by
 unfold uX at hw;unfold Region.wanted;cases y:o.guard with
 |none=>rw [y] at hw;simpa using hw
 |some D=>
  obtain⟨j,k⟩:=D;rw [y] at hw;simp only at hw;cases v:ops[j]? with
  |none=>rw [v] at hw;cases hw
  |some p=>
   rw [v] at hw;simp only at hw;cases hd:p.dst with
   |none=>rw [hd] at hw;cases hw
   |some d=>
    rw [hd] at hw;simp only at hw;have m:d∈o.looksAt ops.toArray:=by
     unfold Oper.looksAt;refine zc0 _ ?_;simp [y,v,hd]
    cases g:t[d]? with
    |none=>rw [g] at hw;cases hw
    |some x=>
     have q:d<t.length:=(zae.1 g).1;have e:=h.get d m q;have E:t.getD d bg=x:=by simp [List.getD,g]
     have u:d<a.tmps.size:=by rw [h.size];exact q
     have z:a.tmps[d]?=some (a.tmps.getD d undef):=by simp [Array.getD,u]
     rw [E] at e;rw [g] at hw;have C:yielded ops.toArray a.tmps j=(match a.tmps.getD d undef with|.bool b=>some b|_=>none):=by
      unfold yielded;have:(ops.toArray[j]?).bind (·.dst)=some d:=by simp [v,hd]
      rw [this,za7,z];cases a.tmps.getD d undef <;> rfl
     simp only;split at hw <;> first|(cases hw;done)|skip
     ·rename_i i;cases i;simp only [RV] at e;rw [C,e];simp only [zaa] at hw;rw [<-hw];rename_i F;cases F <;> cases k <;> rfl
     ·rename_i i;cases i;simp only [RV,RVs] at e;obtain⟨cs,A,_⟩:=e;rw [C,A]
      simpa using hw
def TOn.put {D:Tmp->Prop}(h:TOn ρ G w D t a)(d:Option Tmp){cv:Value}(hv:RV ρ G w v cv):TOn ρ G w D (wV t d v) (a.put d cv):=by
 refine⟨?_,λx k b=>?_⟩
 ·rw [ng,<-h.size];cases d <;> simp [Act.put]
 ·rw [ng] at b;have g:x<a.tmps.size:=by rw [h.size];exact b
  cases d with
  |none=>exact h.get x k b
  |some d=>
   by_cases e:d=x
   ·subst e;have i:(wV t (some d) v).getD d bg=v:=by simp [wV,List.getD,b]
    have j:(a.put (some d) cv).tmps.getD d undef=cv:=by simp [Act.put,Array.getD,g]
    rw [i,j];exact hv
   ·have i:(wV t (some d) v).getD x bg=t.getD x bg:=by simp [wV,List.getD,e]
    have j:(a.put (some d) cv).tmps.getD x undef=a.tmps.getD x undef:=by
     simp [Act.put,zbA e]
    rw [i,j];exact h.get x k b
def TOn.keep {ρ':Ren}{w':World}{D:Tmp->Prop}(h:TOn ρ H.gen w D t a)(E:Ext ρ H w ρ' H' w'):TOn ρ' H'.gen w' D t a:=
 ⟨h.size,λd hd b=>RV.mono E.toMono _ _ (h.get d hd b)⟩
def TOn.sub {D D':Tmp->Prop}(h:TOn ρ G w D t a)(hs:∀d,D' d->D d):TOn ρ G w D' t a:=⟨h.size,λd hd=>h.get d (hs d hd)⟩
def MV(g:rW P C){lo:Bool}(h:nM P C ops lo o t H=some (v,H'))(R:Rel ρ H w)(T:TOn ρ H.gen w (· ∈o.looksAt ops.toArray) t a){i:Nat}(j:ops[i]?=some o)
  {K:Act->World->Prop} {Q:Exit->Act->World->Prop} (b:∀cv ρ' w',Rel ρ' H' w'->RV ρ' H'.gen w' v cv->Ext ρ H w ρ' H' w'->K (a.put o.dst cv) w'):wpOp P ops.toArray Q i K a w:=by
 unfold wpOp;have d:ops.toArray[i]?=some o:=by simpa using j
 simp only [d];unfold nM at h;split at h <;> first|(cases h;done)|skip
 ·rename_i hw;rw [T.wanted hw,if_pos rfl];left;split at h
  ·unfold opG at h;split at h <;> first|(cases h;done)|skip
   rename_i u H1 k;simp only [zaa,zad] at h;obtain⟨rfl,rfl⟩:=h;exact MQ g k (H:=H.guard) ⟨R.out,R.obj,R.inj,R.gl⟩ T.eval λcv ρ' w' r e x=>
    b cv ρ' w' ⟨r.out,r.obj,r.inj,r.gl⟩ e ⟨x.next,x.mono,x.same,x.kept,x.range,x.size,x.frame,x.shape,x.os,x.tape,x.output⟩
  ·exact MQ g h R T.eval b
 ·rename_i hw;rw [T.wanted hw];simp only [zaa,zad] at h;obtain⟨rfl,rfl⟩:=h;simp only [zai,if_false];exact b undef ρ w R EZ (Ext.refl _ _ _)
def Qj {X:Prop}(h:o.wp P a w (λ_ _=>X) (λ_ _ _=>False)):X:=by
 unfold Oper.wp at h;generalize (execOp a.eval o).run P w=r at h;cases r with
 |ok n w'=>
  cases n <;> simp only [Oper.upon] at h <;> first|exact h|skip
  ·obtain⟨e,w',d,b,_⟩:=h [];cases e <;> simp only [LetsOut,exists_false] at b;exact b
  ·obtain⟨_,_,b,_⟩:=h (Frame.ofRow P "" #[] .normal) []
   exact b
 |halt x w'=>cases x <;> exact False.elim h
def TK {X:Prop}{i:Nat}{arr:Array Oper}(h:wpOp P arr (λ_ _ _=>False) i (λ_ _=>X) a w):X:=by
 unfold wpOp at h;split at h
 ·exact h
 ·split at h
  ·rcases h with h|⟨_,a,w,h⟩
   ·exact Qj h
   ·exact h.elim
  ·exact h
def zG(g:rW P C):∀(is:List Nat) (t:gB) (H:ah) (t0:gB) (H0:ah) (ρ:Ren) (w:World) (a:Act),iV P C ops is t H=some (t0,H0)->Rel ρ H w->TOn ρ H.gen w (λ_=>True) t a->
  ∃ρ' w' a',Rel ρ' H0 w'/\TOn ρ' H0.gen w' (λ_=>True) t0 a'
 |[],t,H,t0,H0,ρ,w,a,h,R,T=>by
  simp only [iV,zaa,zad] at h;obtain⟨rfl,rfl⟩:=h;exact⟨ρ,w,a,R,T⟩
 |i::is,t,H,t0,H0,ρ,w,a,h,R,T=>by
  simp only [iV] at h;cases j:ops[i]? with
  |none=>rw [j] at h;cases h
  |some o=>
   rw [j] at h;simp only at h;cases b:opA P C t o H with
   |none=>rw [b] at h;cases h
   |some r=>
    rw [b] at h;simp only at h;obtain⟨ρ',w',cv,d,e⟩:∃ρ' w' cv,Rel ρ' r.2 w'/\TOn ρ' r.2.gen w' (λ_=>True) (wV t o.dst r.1) (a.put o.dst cv):=
     Qj (MQ g b R ((T.sub (D':=(· ∈o.looksAt ops.toArray)) λ_ _=>trivial).eval) (Q:=λ_ _ _=>False)
      λcv ρ' w' d e k=>⟨ρ',w',cv,d,(T.keep k).put _ e⟩)
    exact zG g is _ _ t0 H0 ρ' w' _ h d e
def J4(i:rW P C){t0:gB}{H0:ah}{T:Nat->gB}{Hp:Nat->ah}{val:Nat->AV}(S:CO P C ops t0 H0 T Hp val)(R:Rel ρ H0 w)(j:TOn ρ H0.gen w (λ_=>True) t0 a):
  ∀p,p<=ops.length->∃ρ' w' a',Rel ρ' (Hp p) w'/\TOn ρ' (Hp p).gen w' (λ_=>True) (T p) a':=by
 intro p
 induction p with
 |zero=>intro _;rw [S.zero.1,S.zero.2];exact⟨ρ,w,a,R,j⟩
 |succ p k=>
  intro v;obtain⟨ρ1,w1,m,g,b⟩:=k V;cases hc:cst ops p with
  |true=>obtain⟨d,e⟩:=S.skip p V hc;rw [d,e];exact⟨ρ1,w1,m,g,b⟩
  |false=>
   have h:ops[p]?=some (ops[p]' V):=zab _;obtain⟨d,e⟩:=S.step p _ h hc;rw [e];exact TK (MV i d g (b.sub λ_ _=>trivial) h (Q:=λ_ _ _=>False) λcv ρ' w' o q u=>⟨ρ',w',_,o,(b.keep u).put _ q⟩)
def Qk {x:AV}{n r:Nat}(h:NV n x)(hw:bT x=some r):r<n:=by
 cases x <;> simp only [bT] at hw <;> first|(cases hw;done)|(cases hw;simpa only [NV] using h)
def Vm {n r:Nat}(h:∀x∈o.op.operands,NV n (dU t x))(hw:lV t o.op=some r):r<n:=by
 obtain⟨dst,op,b,d,after,guard⟩:=o;cases op <;> simp only [lV] at hw <;> first|(cases hw;done)|skip
 case call c=>
  split at hw
  ·rename_i x e;refine Qk (h x ?_) hw;have:x∈c.args:=by
    have:x∈c.args.toList:=by rw [e];simp
    simpa using this
   simp [Op.operands,Call.operands,this]
  ·cases hw
 all_goals exact Qk (h _ (by simp [Op.operands])) hw
def adz {n:Nat}(h:∀d,NV n (t.getD d bg))(x:Operand):NV n (dU t x):=by
 cases x with
 |tmp d=>exact h d
 |_=>simp [dU,NV,NVs]
end
end
end Go.Proofs.YtljogojaihgdlaaGreat
