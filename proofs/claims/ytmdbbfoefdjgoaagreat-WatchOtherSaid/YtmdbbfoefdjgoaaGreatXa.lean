/-
  Own work: an interpreter over named blocks, its soundness, and what the functions of this seat compute (part 1 of 11).
  Conditions: those of the statement alone.
-/
import Derived.Calls
import Derived.Orders
import Derived.Laws.World
import Derived.Laws.Entries
import Derived.Laws.Slices
import Derived.Laws.Append
import Derived.Laws.MakeOwn
import Derived.Laws.BytesString
set_option linter.all false
set_option linter.unusedSectionVars false
set_option linter.unusedVariables false
set_option linter.unusedSimpArgs false
namespace Go.Proofs.YtmdbbfoefdjgoaaGreat
noncomputable section
def zaa:=@Option.some.injEq.{0}
def zab:=@List.getElem?_eq_getElem.{0}
def zac:=@Nat.le_refl
def zad:=@Bool.not_true
def zae:=@Prod.mk.injEq.{0,0}
def zaf:=@Bool.not_false
def zah:=@List.length_cons.{0}
def zai:=@Option.map_some.{0,0}
def zaj:=@Bool.and_eq_true
def zak:=@List.getElem?_eq_some_iff.{0}
def zal:=@Bool.false_eq_true
def zam:=@List.length_nil.{0}
def zan:=@List.eq_nil_of_length_eq_zero.{0}
def zao:=@Int.toNat_natCast
def zaq:=@List.length_append.{0}
def zar:=@List.mem_cons.{0}
def zas:=@Nat.le_trans
def zat:=@Option.getD_some.{0}
def zau:=@Nat.lt_of_lt_of_le
def zav:=@List.length_take.{0}
def zaw:=@List.mem_of_getElem?.{0}
def zax:=@List.length_map.{0,0}
def zay:=@List.getElem?_take.{0}
def zaz:=@Nat.mul_le_mul_right
def zaA:=@List.getElem?_drop.{0}
def zaB:=@Option.isSome_none.{0}
def zaC:=@List.map_cons.{0,0}
def zaD:=@List.getElem?_map.{0,0}
def zaE:=@List.take_of_length_le.{0}
def zaF:=@List.drop_of_length_le.{0}
def zaG:=@Option.isSome_some.{0}
def zaH:=@List.not_mem_nil.{0}
def zaI:=@Bool.true_and
def zaJ:=@List.getD_eq_getElem?_getD.{0}
def zaK:=@List.getElem?_eq_none.{0}
def zaL:=@Bool.false_and
def zaM:=@List.mem_singleton.{0}
def zaN:=@List.length_drop.{0}
def zaO:=@List.drop_zero.{0}
def zaP:=@List.getElem?_append_left.{0}
def zaQ:=@List.flatMap_cons.{0,0}
def zaR:=@List.drop_eq_getElem_cons.{0}
def zaS:=@List.mem_map.{0,0}
def zaT:=@Option.getD_none.{0}
def zaU:=@List.nil_append.{0}
def zaV:=@Nat.zero_le
def zaW:=@Nat.lt_or_ge
def zaX:=@Option.some.inj.{0}
def zaY:=@List.mem_range
def zaZ:=@List.all_eq_true.{0}
def za0:=@Option.bind_some.{0,0}
def za1:=@List.getElem?_mapIdx.{0,0}
def za2:=@List.getElem?_cons_zero.{0}
def za3:=@List.mem_append.{0}
def za4:=@List.getElem?_append_right.{0}
def za5:=@Nat.zero_add
def za6:=@List.length_replicate.{0}
def za7:=@Array.getElem?_eq_some_iff.{0}
def za8:=@Nat.le_succ
def za9:=@Array.getElem?_push.{0}
def zba:=@List.getElem?_range
def zbb:=@List.append_nil.{0}
def zbc:=@List.cons_append.{0}
def zbd:=@List.mem_flatMap.{0,0}
def zbe:=@Nat.zero_mul
def zbf:=@Bool.not_eq_true'
def zbg:=@List.ext_getElem?.{0}
def zbh:=@List.mem_of_find?_eq_some.{0}
def zbi:=@Nat.mul_one
def zbj:=@BitVec.xor_assoc
def zbk:=@List.map_congr_left.{0,0}
def zbl:=@Int.toNat_of_nonneg
def zbm:=@Nat.one_mul
def zbn:=@Array.getElem?_setIfInBounds_ne.{0}
def zbo:=@List.getElem?_cons_succ.{0}
def zbp:=@Nat.add_zero
def zbq:=@Nat.min_eq_left
def zbr:=@List.map_append.{0,0}
def zbs:=@Bool.or_eq_true
def zbt:=@List.mem_filter.{0}
def zbu:=@List.findIdx?_eq_some_iff_findIdx_eq.{0}
def zbv:=@List.mapM_cons.{0,0,0}
def zbw:=@Nat.eq_of_beq_eq_true
def zbx:=@Nat.add_mul
def zby:=@Int.le_refl
def zbz:=@Nat.succ_mul
def zbA:=@Nat.eq_of_mul_eq_mul_right
def zbB:=@Int.tmod_eq_emod_of_nonneg
def zbC:=@List.drop_drop.{0}
def zbD:=@Nat.le_succ_of_le
def zbE:=@List.flatMap_append.{0,0}
def zbF:=@List.all_append.{0}
def zbG:=@List.map_nil.{0,0}
def zbH:=@List.mem_cons_of_mem.{0}
def zbI:=@List.foldl_cons.{0,0}
def zbJ:=@List.cons.injEq.{0}
def zbK:=@Option.bind_eq_bind.{0}
def zbL:=@Nat.ne_of_lt
def zbM:=@Option.map_eq_some_iff.{0,0}
def zbN:=@Bool.false_or
def zbO:=@Int.fdiv_eq_ediv_of_nonneg
def zbP:=@List.filter_cons.{0}
def zbQ:=@Bool.and_false
def zbR:=@List.pairwise_cons.{0}
def zbS:=@List.length_filter_le.{0}
def zbT:=@Bool.true_or
def zbU:=@Nat.add_right_cancel_iff
def zbV:=@List.length_set.{0}
def zbW:=@BitVec.getLsbD_shiftLeft
def zbX:=@Array.replicate_succ.{0}
def zbY:=@Array.replicate_zero.{0}
def zbZ:=@List.forall_mem_cons.{0}
def zb0:=@List.size_toArray.{0}
def zb1:=@List.pairwise_map.{0,0}
def zb2:=@List.all_cons.{0}
def zb3:=@List.take_append_of_le_length.{0}
def zb4:=@BitVec.eq_of_getLsbD_eq
def zb5:=@Array.toList_append.{0}
def zb6:=@List.append_toArray.{0}
def zb7:=@Array.toList_inj.{0}
def zb8:=@List.any_eq_true.{0}
def zb9:=@List.take_take.{0}
def zca:=@Int.mul_le_mul
def zcb:=@List.getElem?_set_self.{0}
def zcc:=@List.filter_append.{0}
def zcd:=@Array.getD_eq_getD_getElem?.{0}
def zce:=@BitVec.toNat_ofNat
def zcf:=@List.findIdx?_cons.{0}
def zcg:=@List.length_mapIdx.{0,0}
def zch:=@List.range_succ
def zci:=@Option.pure_def.{0}
def zcj:=@Int.tdiv_eq_ediv_of_nonneg
def zck:=@List.push_toArray.{0}
def zcl:=@Array.getElem?_eq_getElem.{0}
def zcm:=@List.getElem?_set_ne.{0}
def zcn:=@List.mem_or_eq_of_mem_set.{0}
def zco:=@Nat.shiftRight_eq_div_pow
def zcp:=@List.findIdx?_isSome.{0}
def zcq:=@Nat.testBit_or
def zcr:=@List.drop_take.{0}
def zcs:=@Int.mul_nonneg
def zct:=@Nat.mod_eq_of_lt
def zcu:=@Nat.lt_succ_self
def zcv:=@List.all_nil.{0}
def zcw:=@List.getElem?_replicate.{0}
def zcx:=@List.not_all_eq_any_not.{0}
def zcy:=@Nat.add_assoc
def zcz:=@List.map_take.{0,0}
def zcA:=@Bool.and_self
def zcB:=@Array.foldl_toList.{0,0}
def zcC:=@Array.all_eq_true'.{0}
def zcD:=@List.set_cons_zero.{0}
def zcE:=@BitVec.xor_self
def zcF:=@Int.emod_nonneg
def zcG:=@Bool.true_eq_false
def zcH:=@Int.natCast_mul
def zcI:=@List.nodup_append.{0}
def zcJ:=@List.getElem?_set.{0}
def zcK:=@List.length_range
def zcL:=@Array.getElem?_toList.{0}
def zcM:=@List.eraseIdx_sublist.{0}
def zcN:=@List.map_map.{0,0,0}
def zcO:=@Bool.or_true
def zcP:=@List.take_append_drop.{0}
def zcQ:=@Bool.and_eq_false_iff
def zcR:=@List.getElem?_append.{0}
def zcS:=@List.range_eq_range'
def zcT:=@List.mem_iff_getElem.{0}
def zcU:=@BitVec.getLsbD_ushiftRight
def zcV:=@List.sum_cons.{0}
def zcW:=@Nat.testBit_two_pow
def zcX:=@Option.map_none.{0,0}
def zcY:=@Nat.mul_eq_zero
def zcZ:=@Option.isNone_none.{0}
def zc0:=@List.set_cons_succ.{0}
def zc1:=@Option.toList_some.{0}
def zc2:=@Int.emod_lt_of_pos
def zc3:=@List.length_erase_of_mem.{0}
def zc4:=@Option.isSome_iff_exists.{0}
def zc5:=@Array.size_append.{0}
def zc6:=@Bool.not_eq_false
def zc7:=@List.filter_congr.{0}
def zc8:=@List.foldl_append.{0,0}
def zc9:=@List.take_add_one.{0}
def zda:=@Array.getElem?_eq_none.{0}
def zdb:=@List.set_eq_take_append_cons_drop.{0}
def zdc:=@Bool.or_false
def zdd:=@List.map_drop.{0,0}
def zde:=@Bool.and_true
def zdf:=@List.getElem_mem.{0}
def zdg:=@Array.toList_map.{0,0}
def zdh:=@List.range'_succ
def zdi:=@Nat.testBit_eq_decide_div_mod_eq
def zdj:=@Nat.shiftLeft_eq
def zdk:=@List.mem_append_right.{0}
def zdl:=@List.mem_of_mem_take.{0}
def zdm:=@List.mem_append_left.{0}
def zdn:=@BitVec.xor_zero
def zdo:=@BitVec.ofInt_natCast
def zdp:=@Int.ediv_nonneg
def zdq:=@List.getElem_of_mem.{0}
def zdr:=@Array.toList_zipIdx.{0}
def zds:=@List.take_zero.{0}
def zdu:=@Nat.mul_le_mul
def zdv:=@Bool.false_ne_true
def zdw:=@List.find?_eq_none.{0}
def zdx:=@List.filter_filter.{0}
def zdy:=@BitVec.ofNat_toNat
def zdz:=@List.mem_replicate.{0}
def zdA:=@Bool.eq_false_iff
def zdB:=@List.flatten_cons.{0}
def zdC:=@List.append_assoc.{0}
def zdD:=@Nat.not_lt
structure Fix where
 blocks:List Nat
 ok:World->Prop
 frame:∀w w':World,(∀b∈blocks,w'.heap[b]?=w.heap[b]?)->ok w->ok w'
def fx:Fix:=⟨[],λ_=> True,λ_ _ _ h=> h⟩
inductive AV where
 | s (v:Value)
 | ref (r g off:Nat)
 | sl (r g off esz len cap:Nat) (ex:Bool)
 | ip (cells:List AV)
 | vs (n esz:Nat) (cells:List AV)
 | mp (r:Nat)
 | fn (f:Fn) (first captured:List AV)
 | agg (cells:List AV)
 | tup (cells:List AV)
 deriving Inhabited
inductive fD where
 | blk (g:Nat) (ty:TypeId) (cells:List AV)
 | map (k:IntKind) (es:List (Int × AV))
 deriving Inhabited
def fD.gen:fD->Nat
 | .blk g _ _=> g
 | .map _ _=> 0
structure ah where
 next:Nat
 base:Nat
 get:Nat->fD
def ah.gen(H:ah)(r:Nat):Nat:=(H.get r).gen
def ah.put(H:ah)(r:Nat)(o:fD):ah:={ H with get:=λx=> if x=r then o else H.get x }
def ah.new(H:ah)(o:fD):ah:={ next:=H.next+1,base:=H.base,get:=λx=> if x=H.next then o else H.get x }
def ah.guard(H:ah):ah:={ H with base:=H.next }
def ah.empty:ah:={ next:=0,base:=0,get:=λ_=> .blk 0 0 [] }
abbrev Ren:=Nat->Option (Nat × Nat)
def Imm(ρ:Ren)(b:Nat):Prop:=∀r sh,ρ r≠some (b,sh)
mutual
def RV(ρ:Ren)(G:Nat->Nat)(w:World):AV->Value->Prop
 | .s v,cv=> cv=v
 | .ref r g off,cv=>∃a,cv=.pointer (some a)/\g<=G r/\(G r=g->∃b sh,ρ r=some (b,sh)/\a=⟨b,sh+off,none⟩)
 | .sl r g off esz len cap ex,cv=>∃b o c,cv=.slice (some ⟨b,o,none⟩) len c/\len<=cap/\cap<=c/\(ex=true->c=cap)/\g<=G r/\
   (G r=g->∃sh e n,ρ r=some (b,sh)/\(0 < c->o=sh+off)/\w.shape? b=some (e,n)/\o+c*esz<=n)
 | .ip cells,cv=>∃b o,cv=.pointer (some ⟨b,o,none⟩)/\b < w.heap.size/\Imm ρ b/\RVc ρ G w cells b o
 | .vs n esz cells,cv=>∃b o c,cv=.slice (some ⟨b,o,none⟩) n c/\n<=c/\cells.length=n*esz/\b < w.heap.size/\Imm ρ b/\RVc ρ G w cells b o
 | .mp r,cv=>∃b,cv=.map (some b)/\(G r=0->ρ r=some (b,0))
 | .fn f first captured,cv=>∃a c,cv=.func f a c/\RVs ρ G w first a.toList/\RVs ρ G w captured c.toList
 | .agg cells,cv=>∃cs,cv=.agg cs/\RVs ρ G w cells cs.toList
 | .tup cells,cv=>∃cs,cv=.tuple cs/\RVs ρ G w cells cs.toList
def RVs(ρ:Ren)(G:Nat->Nat)(w:World):List AV->List Value->Prop
 | [],l=> l=[]
 | x::xs,l=>∃y ys,l=y::ys/\RV ρ G w x y/\RVs ρ G w xs ys
def RVc(ρ:Ren)(G:Nat->Nat)(w:World):List AV->Nat->Nat->Prop
 | [],_,_=> True
 | x::xs,b,o=> (∃v,w.cell? ⟨b,o,none⟩=some v/\RV ρ G w x v)/\RVc ρ G w xs b (o+1)
end
def RVm(ρ:Ren)(G:Nat->Nat)(w:World)(k:IntKind):List (Int × AV)->List MapEntry->Prop
 | [],l=> l=[]
 | (n,x)::xs,l=>∃e es,l=e::es/\e.key=.int k n/\RV ρ G w x e.val/\RVm ρ G w k xs es
def Born(es:List MapEntry)(dD:Nat):Prop:=(∀x∈es,x.born < dD)/\(es.map (·.born)).Nodup
def fQ:Nat:=1000000000
def Xct(ty e sh n l:Nat):Prop:=(ty < fQ->e=ty/\sh=0/\n=l)/\(fQ<=ty->ty < fQ+fQ->ty=e+fQ/\sh=0)
theorem Xct.low {e n l:Nat}(h:e < fQ)(hn:n=l):Xct e e 0 n l:=⟨λ_=> ⟨rfl,rfl,hn⟩,λh1=> absurd h1 (Nat.not_le.2 h)⟩
theorem Xct.grown {e n l:Nat}:Xct (e+fQ) e 0 n l:=⟨λh=> absurd h (zdD.2 (Nat.le_add_left _ _)),λ_ _=> ⟨rfl,rfl⟩⟩
theorem Xct.void {e sh n l:Nat}:Xct (fQ+fQ) e sh n l:=⟨λh=> absurd h (zdD.2 (Nat.le_add_left _ _)),λ_ h=> absurd h (Nat.lt_irrefl _)⟩
def grT(e ty off:Nat):Nat:=if(ty=e∨ty=e+fQ)/\off=0 then e+fQ else fQ+fQ
theorem aeJ {e ty off n l:Nat}:Xct (grT e ty off) e 0 n l:=by
 unfold grT;split
 ·exact Xct.grown
 ·exact Xct.void
theorem aeK {e e' ty sh off n l n' l':Nat}(he:e < fQ)(h:Xct ty e' sh n l):Xct (grT e ty off) e' (sh+off) n' l':=by
 unfold grT;split
 ·rename_i hh;obtain⟨h1,rfl⟩:=hh;rcases h1 with rfl | rfl
  ·obtain⟨rfl,rfl,_⟩:=h.1 he;exact Xct.grown
  ·obtain⟨h2,rfl⟩:=h.2 (Nat.le_add_left _ _) (by omega);have:e'=e:=by omega
   subst this;exact Xct.grown
 ·exact Xct.void
def wH(ρ:Ren)(G:Nat->Nat)(w:World)(o:fD)(b sh:Nat):Prop:=
 match o with
 | .blk _ ty cells=>∃cs e,w.heap[b]?=some (.cells cs e (0,0))/\sh+cells.length<=cs.size/\RVc ρ G w cells b sh/\Xct ty e sh cs.size cells.length
 | .map k es=>∃ces dD,w.heap[b]?=some (.map ces dD)/\sh=0/\RVm ρ G w k es ces.toList/\Born ces.toList dD
def Z8(ρ:Ren)(w:World):Prop:=(∀b∈fx.blocks,b < w.heap.size/\Imm ρ b)/\fx.ok w
structure Rel(ρ:Ren)(H:ah)(w:World):Prop where
 out:∀r,H.next<=r->ρ r=none/\H.gen r=0
 obj:∀r b sh,ρ r=some (b,sh)->wH ρ H.gen w (H.get r) b sh
 inj:∀r r' b sh sh',ρ r=some (b,sh)->ρ r'=some (b,sh')->r=r'
 gl:Z8 ρ w
structure Ext(ρ:Ren)(H:ah)(w:World)(ρ':Ren)(H':ah)(w':World):Prop where
 next:H.next<=H'.next
 mono:∀r,H.gen r<=H'.gen r
 same:∀r x,ρ r=some x->H'.gen r=H.gen r->ρ' r=some x
 kept:∀r,r < H.next->ρ r=none->ρ' r=none
 range:∀r b sh,ρ' r=some (b,sh)->w.heap.size<=b∨∃sh',ρ r=some (b,sh')
 size:w.heap.size<=w'.heap.size
 frame:∀b,b < w.heap.size->Imm ρ b->w'.heap[b]?=w.heap[b]?
 shape:∀b,b < w.heap.size->w'.shape? b=w.shape? b
 os:w'.os=w.os
 tape:w'.tape=w.tape
 output:w'.output=w.output
theorem Z8.of {ρ ρ':Ren}{w w':World}(h:Z8 ρ w)(hs:w.heap.size<=w'.heap.size)(hr:∀r b sh,ρ' r=some (b,sh)->w.heap.size<=b∨∃r' sh',ρ r'=some (b,sh'))(hf:∀b,b < w.heap.size->Imm ρ b->w'.heap[b]?=w.heap[b]?):Z8 ρ' w':=by
 refine⟨λb hb=> ?_,fx.frame w w' (λb hb=> hf b (h.1 b hb).1 (h.1 b hb).2) h.2⟩;obtain⟨h1,h2⟩:=h.1 b hb;refine⟨zau h1 hs,λr sh e=> ?_⟩;rcases hr r b sh e with h | ⟨r',sh',h⟩
 ·omega
 ·exact h2 r' sh' h
theorem Z8.ext {ρ ρ':Ren}{H H':ah}{w w':World}(h:Z8 ρ w)(E:Ext ρ H w ρ' H' w'):Z8 ρ' w':=
 h.of E.size (λr b sh e=> (E.range r b sh e).imp id λ⟨sh',h⟩=> ⟨r,sh',h⟩) E.frame
mutual
def AV.val?:AV->Option Value
 | .s v=> some v
 | .agg l=> (vals? l).map λvs=> .agg vs.toArray
 | .tup l=> (vals? l).map λvs=> .tuple vs.toArray
 | .ref ..=> none
 | .sl ..=> none
 | .ip ..=> none
 | .vs ..=> none
 | .mp ..=> none
 | .fn ..=> none
def vals?:List AV->Option (List Value)
 | []=> some []
 | x::xs=> match x.val?,vals? xs with
  | some v,some vs=> some (v::vs)
  | _,_=> none
end
def AV.cells:AV->List AV
 | .agg l=> l
 | .s v=> v.cells.toList.map .s
 | x=> [x]
def AV.aU:AV->Bool
 | .agg _=> false
 | .tup _=> false
 | .s (.agg _)=> false
 | .s (.tuple _)=> false
 | _=> true
def aO:AV:=.tup []
def aG(cells:List AV)(off:Nat)(xs:List AV):List AV:=cells.take off++(xs++cells.drop (off+xs.length))
def iE {α:Type}(P:Program):Sem α->Option α
 | .pure a=> some a
 | .program k=> iE P (k P)
 | _=> none
def szT(P:Program)(t:TypeId):Option Nat:=(P.info? t).map (·.size)
def wI(P:Program)(t:TypeId):Option Nat:=(P.info? t).map (·.bytes)
def ahf(P:Program)(t:TypeId):Option Bool:=
 match P.underlying t with
 | some (.struct _)=> some true
 | some (.array _ _)=> some true
 | some _=> some false
 | none=> none
def Fp(P:Program)(t:TypeId):Option TypeId:=
 match P.underlying t with
 | some (.slice e)=> some e
 | _=> none
def xR(P:Program)(t:TypeId):Option Value:=if t < fQ then(P.info? t).bind (·.zero) else none
def wo(P:Program)(t:TypeId):Option (List AV):=(xR P t).map λv=> v.cells.toList.map .s
def QK(P:Program)(t:TypeId)(i:Nat):Option Field:=
 match P.underlying t with
 | some (.struct fs)=> fs[i]?
 | _=> none
def Fq(P:Program)(t:TypeId)(cells:List AV)(off:Nat):Option AV:=
 match ahf P t,szT P t with
 | some true,some n=> if off+n<=cells.length then some (.agg ((cells.drop off).take n)) else none
 | some false,some _=> cells[off]?
 | _,_=> none
def fJ(place:Nat->Option (Nat × Nat))(cells:List AV):List (Nat × AV)->Option (List AV)
 | []=> some cells
 | (i,v)::rest=>
  match place i with
  | none=> none
  | some (off,size)=>
   if v.cells.length=size/\off+v.cells.length<=cells.length then fJ place (aG cells off v.cells) rest else none
def J8(P:Program)(fs:Array Field)(i:Nat):Option (Nat × Nat):=
 match fs[i]? with
 | some f=> (szT P f.type).map λn=> (f.offset,n)
 | none=> none
def gG(P:Program)(t:TypeId)(parts:List (Nat × AV)):Option AV:=
 match wo P t,P.underlying t with
 | some z,some (.struct fs)=> if fs.all (λf=> (szT P f.type).isSome) then(fJ (J8 P fs) z parts).map .agg else none
 | some z,some (.array _ e)=> match szT P e with
  | some n=> (fJ (λi=> some (i*n,n)) z parts).map .agg
  | none=> none
 | _,_=> none
def J9(P:Program)(t:TypeId)(x y:AV):Option Bool:=
 match P.underlying t with
 | some (.slice _)=> match x,y with
  | .sl ..,.s (.slice none _ _)=> some false
  | .vs ..,.s (.slice none _ _)=> some false
  | .s (.slice none _ _),.sl ..=> some false
  | .s (.slice none _ _),.vs ..=> some false
  | _,_=> none
 | some (.pointer _)=> match x,y with
  | .ref ..,.s (.pointer none)=> some false
  | .ip ..,.s (.pointer none)=> some false
  | .s (.pointer none),.ref ..=> some false
  | .s (.pointer none),.ip ..=> some false
  | _,_=> none
 | some (.map _ _)=> match x,y with
  | .mp ..,.s (.map none)=> some false
  | .s (.map none),.mp ..=> some false
  | _,_=> none
 | some (.func _ _ _)=> match x,y with
  | .fn ..,.s .nilFunc=> some false
  | .s .nilFunc,.fn ..=> some false
  | _,_=> none
 | _=> none
def nV(P:Program)(op:BinOp)(t:TypeId)(x y:AV):Option AV:=
 match x.val?,y.val? with
 | some a,some b=> (iE P (do eqGuard op t (.tmp 0) (.tmp 0) a b;binOp op t a b)).map .s
 | _,_=> match op with
  | .eql=> (J9 P t x y).map λb=> .s (.bool b)
  | .neq=> (J9 P t x y).map λb=> .s (.bool !b)
  | _=> none
def aoH(P:Program)(op:BinOp)(t:TypeId)(x:AV):Option AV:=
 match x.val? with
 | some a=> (iE P (do eqGuard op t (.tmp 0) (.const .nilIface) a .nilIface;binOp op t a .nilIface)).map .s
 | none=> none
def QL:Operand->Bool
 | .const .nilIface=> true
 | _=> false
def ahg(P:Program)(op:BinOp)(t:TypeId)(yo:Operand)(x y:AV):Option AV:=
 match QL yo with
 | true=> aoH P op t x
 | false=> nV P op t x y
def unA(P:Program)(op:UnOp)(x:AV):Option AV:=
 match x.val? with
 | some a=> (iE P (Op.unary op a)).map .s
 | none=> none
def qJ(P:Program)(t:TypeId)(x:AV)(i:Nat):Option AV:=
 match QK P t i with
 | some f=> match szT P f.type with
  | some (_+1)=> match x with
   | .ref r g off=> some (.ref r g (off+f.offset))
   | .ip cells=> some (.ip (cells.drop f.offset))
   | _=> none
  | _=> none
 | none=> none
def Ko(P:Program)(t:TypeId)(x:AV)(i:Nat):Option AV:=
 match QK P t i,x with
 | some f,.agg cells=> Fq P f.type cells f.offset
 | some f,.s (.agg cs)=> Fq P f.type (cs.toList.map .s) f.offset
 | _,_=> none
def Kq(P:Program)(t:TypeId)(x i:AV):Option AV:=
 match P.underlying t,x,i with
 | some .string,.s (.string s),.s (.int _ n)=> match(if 0<=n then s[n.toNat]? else none) with
  | some b=> some (.s (.int .u8 b.toNat))
  | none=> none
 | some (.array len e),.agg cells,.s (.int _ n)=> match szT P e with
  | some m=> if 0<=n/\n < len then Fq P e cells (n.toNat*m) else none
  | none=> none
 | some (.array len e),.s (.agg cs),.s (.int _ n)=> match szT P e with
  | some m=> if 0<=n/\n < len then Fq P e (cs.toList.map .s) (n.toNat*m) else none
  | none=> none
 | _,_,_=> none
def aF(x:AV)(i:Nat):Option AV:=
 match x with
 | .tup l=> l[i]?
 | .s (.tuple vs)=> (vs[i]?).map .s
 | _=> none
def iO:Option AV->Nat->Option Nat
 | none,d=> some d
 | some (.s (.int _ n)),_=> if 0<=n then some n.toNat else none
 | _,_=> none
def isNone {α:Type}:Option α->Bool
 | none=> true
 | some _=> false
def Kr(P:Program)(t:TypeId)(x:AV)(lo hi mx:Option AV):Option AV:=
 match P.underlying t with
 | some (.slice e)=> match x,szT P e with
  | .s (.slice none 0 0),some _=> match iO lo 0,iO hi 0,iO mx 0 with
   | some 0,some 0,some 0=> if hi=none->mx=none then some (.s (.slice none 0 0)) else none
   | _,_,_=> none
  | .sl r g off esz len cap ex,some m=> match iO lo 0,iO hi len,iO mx cap with
   | some l,some h,some k=>
    if esz=m/\l<=h/\h<=k/\k<=cap/\(hi=none->mx=none) then some (.sl r g (off+l*esz) esz (h - l) (k - l) (ex || !isNone mx)) else none
   | _,_,_=> none
  | .vs n esz cells,some m=> match iO lo 0,iO hi n,mx with
   | some l,some h,none=> if esz=m/\l<=h/\h<=n then some (.vs (h - l) esz ((cells.drop (l*esz)).take ((h - l)*esz))) else none
   | _,_,_=> none
  | _,_=> none
 | some .string=> match x,iO lo 0,mx with
  | .s (.string s),some l,none=> match iO hi s.size with
   | some h=> if l<=h/\h<=s.size then some (.s (.string (s.extract l h))) else none
   | none=> none
  | _,_,_=> none
 | _=> none
abbrev AM(α:Type):=ah->Option (α × ah)
def fE {α:Type}(x:Option α):AM α:=λH=> x.map λv=> (v,H)
def bD:AV->Option Nat
 | .ref r _ _=> some r
 | .sl r _ _ _ _ _ _=> some r
 | .mp r=> some r
 | _=> none
def jT(f:Option fD->Option AV)(x:AV):AM AV:=λH=> (f ((bD x).map H.get)).map λv=> (v,H)
def aeL(P:Program)(t:TypeId)(x:AV)(ob:Option fD):Option AV:=
 match x with
 | .ref _ g off=> match ob with
  | some (.blk g' _ cells)=> if g'=g then Fq P t cells off else none
  | _=> none
 | .ip cells=> Fq P t cells 0
 | _=> none
def OL(P:Program)(t:TypeId)(x:AV):AM AV:=jT (aeL P t x) x
def Kt(P:Program)(t:TypeId)(x v:AV):AM AV:=λH=>
 match x with
 | .ref r g off=> match H.get r with
  | .blk g' ty cells=>
   if g'=g/\H.base<=r/\szT P t=some v.cells.length/\v.cells.all AV.aU=true/\off+v.cells.length<=cells.length then
    some (aO,H.put r (.blk g ty (aG cells off v.cells)))
   else none
  | .map ..=> none
 | _=> none
def FK(P:Program)(t:TypeId):AM AV:=λH=>
 match wo P t with
 | some z=> if z.all AV.aU=true then some (.ref H.next 0 0,H.new (.blk 0 t z)) else none
 | none=> none
def fM(t:TypeId)(v:AV):AM AV:=λH=>
 if v.cells.all AV.aU=true/\t < fQ then some (.ref H.next 0 0,H.new (.blk 0 t v.cells)) else none
def dI(z:List AV):Nat->List AV
 | 0=> []
 | n+1=> z++dI z n
def dn(P:Program)(t:TypeId)(len:Nat)(parts:List (Nat × AV)):AM AV:=λH=>
 match Fp P t with
 | some e=> match szT P e,wo P e with
  | some m,some z=>
   if z.length=m/\len*m<=16777216 then
    match fJ (λi=> some (i*m,m)) (dI z len) parts with
    | some cells=> if cells.all AV.aU=true then some (.sl H.next 0 0 m len len true,H.new (.blk 0 e cells)) else none
    | none=> none
   else none
  | _,_=> none
 | none=> none
def oq(P:Program)(t:TypeId)(len cap:AV):AM AV:=λH=>
 match Fp P t,len,cap with
 | some e,.s (.int _ l),.s (.int _ c)=> match szT P e,wI P e,wo P e with
  | some m,some by_,some z=>
   if z.length=m/\z.all AV.aU=true/\0<=l/\l<=c/\c<=140737488355328/\by_*c<=140737488355328 then
    some (.sl H.next 0 0 m l.toNat c.toNat true,H.new (.blk 0 e (dI z c.toNat)))
   else none
  | _,_,_=> none
 | _,_,_=> none
def al1:Option fD->Nat
 | some o=> o.gen
 | none=> 0
def FM(P:Program)(t:TypeId)(x i:AV)(ob:Option fD):Option AV:=
 match P.underlying t with
 | some (.slice e)=> match x with
  | .sl r g off esz len _ _=> match i with
   | .s (.int _ n)=> if szT P e=some esz/\al1 ob=g/\0<=n/\n < len then some (.ref r g (off+n.toNat*esz)) else none
   | _=> none
  | .vs len esz cells=> match i with
   | .s (.int _ n)=> if szT P e=some esz/\0<=n/\n < len then some (.ip (cells.drop (n.toNat*esz))) else none
   | _=> none
  | _=> none
 | some (.array len e)=> match szT P e with
  | some m=> match x with
   | .ref r g off=> match i with
    | .s (.int _ n)=> if 0<=n/\n < len then some (.ref r g (off+n.toNat*m)) else none
    | _=> none
   | .ip cells=> match i with
    | .s (.int _ n)=> if 0<=n/\n < len then some (.ip (cells.drop (n.toNat*m))) else none
    | _=> none
   | _=> none
  | none=> none
 | _=> none
def zA(P:Program)(t:TypeId)(x i:AV):AM AV:=jT (FM P t x i) x
def ag7(P:Program)(t:TypeId):Option (IntKind × TypeId):=
 match P.underlying t with
 | some (.map k e)=> match P.underlying k with
  | some (.int ik)=> some (ik,e)
  | _=> none
 | _=> none
def vw(P:Program)(t:TypeId):AM AV:=λH=>
 match ag7 P t with
 | some (k,_)=> some (.mp H.next,H.new (.map k []))
 | none=> none
def oD:List (Int × AV)->Int->Option AV
 | [],_=> none
 | (k,v)::es,n=> if k=n then some v else oD es n
def Io:List (Int × AV)->Int->AV->List (Int × AV)
 | [],n,x=> [(n,x)]
 | (k,v)::es,n,x=> if k=n then(n,x)::es else(k,v)::Io es n x
def xU:List (Int × AV)->Int->List (Int × AV)
 | [],_=> []
 | (k,v)::es,n=> if k=n then es else(k,v)::xU es n
def VO(P:Program)(t:TypeId)(x i:AV)(ok:Bool)(ob:Option fD):Option AV:=
 match ag7 P t with
 | some (k,e)=> match xR P e with
  | some z=> match x with
   | .mp _=> match i with
    | .s (.int k' n)=> match ob with
     | some (.map k'' es)=>
      if k'=k/\k''=k then
       match oD es n with
       | some v=> some (if ok then .tup [v,.s (.bool true)] else v)
       | none=> some (if ok then .tup [.s z,.s (.bool false)] else .s z)
      else none
     | _=> none
    | _=> none
   | _=> none
  | none=> none
 | none=> none
def OO(P:Program)(t:TypeId)(x i:AV)(ok:Bool):AM AV:=jT (VO P t x i ok) x
def qK(P:Program)(t:TypeId)(x i v:AV):AM AV:=λH=>
 match ag7 P t,x,i with
 | some (k,_),.mp r,.s (.int k' n)=> match H.get r with
  | .map k'' es=> if k'=k/\k''=k/\H.base<=r then some (aO,H.put r (.map k (Io es n v))) else none
  | _=> none
 | _,_,_=> none
def bM(H:ah):AV->Option (List AV)
 | .sl r g off esz len _ _=> match H.get r with
  | .blk g' _ cells=> if g'=g/\off+len*esz<=cells.length then some ((cells.drop off).take (len*esz)) else none
  | .map ..=> none
 | .vs _ _ cells=> some cells
 | .s (.slice none _ _)=> some []
 | .s (.string s)=> some (s.data.toList.map λb=> .s (.int .u8 b.toNat))
 | _=> none
def jG:AV->Option Nat
 | .sl _ _ _ _ len _ _=> some len
 | .vs n _ _=> some n
 | .s (.slice none n _)=> some n
 | .s (.string s)=> some s.size
 | _=> none
def most:Nat:=140737488355328
def dJ(e:TypeId)(m by_:Nat)(x:AV)(n:Nat)(new:List AV):AM AV:=λH=>
 if new.length=n*m/\new.all AV.aU=true then
  match x with
  | .s (.slice none 0 0)=>
   if n=0 then some (x,H)
   else if n<=most/\n*by_<=most then some (.sl H.next 0 0 m n n false,H.new (.blk 0 (e+fQ) new))
   else none
  | .sl r g off esz len cap ex=> match H.get r with
   | .blk g' ty cells=>
    if esz=m/\g'=g/\off+len*m<=cells.length then
     if n=0 then some (x,H)
     else if len+n<=cap then
      (if H.base<=r/\off+(len+n)*m<=cells.length then some (.sl r g off m (len+n) cap ex,H.put r (.blk g ty (aG cells (off+len*m) new))) else none)
     else if len+n<=most/\(len+n)*by_<=most then
      if ex then some (.sl H.next 0 0 m (len+n) (len+n) false,H.new (.blk 0 (e+fQ) ((cells.drop off).take (len*m)++new)))
      else if H.base<=r then some (.sl r (g+1) 0 m (len+n) (len+n) false,H.put r (.blk (g+1) (grT e ty off) ((cells.drop off).take (len*m)++new)))
      else none
     else none
    else none
   | .map ..=> none
  | _=> none
 else none
def Ip(P:Program)(t u:TypeId)(x y:AV):AM AV:=λH=>
 match Fp P t,P.underlying u with
 | some e,some d=> match szT P e,wI P e,wo P e with
  | some m,some by_,some z=>
   if z.length=m then
    match d with
    | .int _=> match y with
     | .s (.int _ n)=> if 0<=n/\n<=most/\n*by_<=most then dJ e m by_ x n.toNat (dI z n.toNat) H else none
     | _=> none
    | _=> match jG y,bM H y with
     | some n,some new=> dJ e m by_ x n new H
     | _,_=> none
   else none
  | _,_,_=> none
 | _,_=> none
def aae(P:Program)(t:TypeId)(x y:AV):AM AV:=λH=>
 match Fp P t with
 | some e=> match szT P e,jG x,jG y,bM H y with
  | some m,some d,some n,some new=>
   let k:=min n d
   if new.length=n*m/\new.all AV.aU=true then
    if k=0 then(match x with | .s (.string _)=> none | _=> some (.s (.int .i64 0),H)) else
    match x with
    | .sl r g off esz len _ _=> match H.get r with
     | .blk g' ty cells=>
      if esz=m/\g'=g/\H.base<=r/\off+len*m<=cells.length then
       some (.s (.int .i64 k),H.put r (.blk g ty (aG cells off (new.take (k*m)))))
      else none
     | .map ..=> none
    | _=> none
   else none
  | _,_,_,_=> none
 | none=> none
def QM(P:Program)(t:TypeId)(x:AV):AM AV:=λH=>
 match Fp P t with
 | some e=> match szT P e,wo P e,x with
  | some m,some z,.sl r g off esz len _ _=>
   if len=0 then some (.tup [],H) else
   match H.get r with
   | .blk g' ty cells=>
    if esz=m/\g'=g/\H.base<=r/\z.length=m/\z.all AV.aU=true/\off+len*m<=cells.length then
     some (.tup [],H.put r (.blk g ty (aG cells off (dI z len))))
    else none
   | .map ..=> none
  | some _,some _,.s (.slice none _ _)=> some (.tup [],H)
  | _,_,_=> none
 | none=> none
def Iq(P:Program)(t:TypeId)(x i:AV):AM AV:=λH=>
 match ag7 P t,x,i with
 | some (k,_),.mp r,.s (.int k' n)=> match H.get r with
  | .map k'' es=> if k'=k/\k''=k/\H.base<=r then some (.tup [],H.put r (.map k (xU es n))) else none
  | _=> none
 | _,_,_=> none
def amk(P:Program)(t:TypeId)(x:AV)(ob:Option fD):Option AV:=
 match P.underlying t with
 | some (.slice _)=> match x with
  | .sl _ _ _ _ len _ _=> some (.s (.int .i64 len))
  | .vs n _ _=> some (.s (.int .i64 n))
  | .s (.slice _ n _)=> some (.s (.int .i64 n))
  | _=> none
 | some .string=> match x with
  | .s (.string s)=> some (.s (.int .i64 s.size))
  | _=> none
 | some (.map _ _)=> match x with
  | .mp _=> match ob with
   | some (.map _ es)=> some (.s (.int .i64 es.length))
   | _=> none
  | .s (.map none)=> some (.s (.int .i64 0))
  | _=> none
 | _=> none
def aml(P:Program)(t:TypeId)(x:AV):AM AV:=jT (amk P t x) x
def acv(P:Program)(t:TypeId)(x:AV):Option AV:=
 match P.underlying t with
 | some (.slice _)=> match x with
  | .sl _ _ _ _ _ cap true=> some (.s (.int .i64 cap))
  | .s (.slice none _ c)=> some (.s (.int .i64 c))
  | _=> none
 | _=> none
def mO:List AV->Option (List Int)
 | []=> some []
 | x::xs=> match x with
  | .s (.int .u8 n)=> match mO xs with
   | some l=> some (n::l)
   | none=> none
  | _=> none
def Ku(ns:List Int):ByteArray:=ns.foldl (λs n=> s.push (UInt8.ofNat n.toNat)) ByteArray.empty
def ag8(x:AV)(ob:Option fD):Option ByteArray:=
 match x with
 | .sl _ g off esz len _ _=> if esz=1 then match ob with
   | some (.blk g' _ cells)=> if g'=g/\off+len*esz<=cells.length then(mO ((cells.drop off).take (len*esz))).map Ku else none
   | _=> none
  else none
 | .vs _ esz cells=> if esz=1 then(mO cells).map Ku else none
 | .s (.slice none _ _)=> some ByteArray.empty
 | _=> none
def Dp(P:Program)(src dst:TypeId):Bool:=
 match P.underlying src,P.underlying dst with
 | some (.slice e),some .string=> match P.underlying e with
  | some (.int .u8)=> true
  | _=> false
 | _,_=> false
def xW(P:Program)(src dst:TypeId)(x:AV)(ob:Option fD):Option AV:=
 if Dp P src dst=true then(ag8 x ob).map λs=> .s (.string s)
 else match x.val? with
  | some v=> (iE P (convert src dst v)).map .s
  | none=> none
def jH(P:Program)(src dst:TypeId)(x:AV):AM AV:=jT (xW P src dst x) x
def bF(H:ah)(n:Nat):Nat->AV->Option AV
 | 0,_=> none
 | d+1,x=> match x with
  | .s v=> some (.s v)
  | .ref r g off=> if r < n then some (.ref r g off) else none
  | .mp r=> if r < n then some (.mp r) else none
  | .sl r g off esz len cap ex=>
   if r < n then some (.sl r g off esz len cap ex)
   else match bM H (.sl r g off esz len cap ex) with
    | some cells=> (cells.mapM (bF H n d)).map λl=> .vs len esz l
    | none=> none
  | .ip cells=> (cells.mapM (bF H n d)).map .ip
  | .vs k esz cells=> (cells.mapM (bF H n d)).map (.vs k esz)
  | .fn f a c=> match a.mapM (bF H n d),c.mapM (bF H n d) with
   | some a,some c=> some (.fn f a c)
   | _,_=> none
  | .agg cells=> (cells.mapM (bF H n d)).map .agg
  | .tup cells=> (cells.mapM (bF H n d)).map .tup
abbrev aA:=FuncId->List AV->AM AV
abbrev fC:=List AV
def cZ(t:fC):Operand->AV
 | .tmp i=> t.getD i aO
 | .const v=> .s v
 | .global g=> .s (.pointer (some ⟨g,0,none⟩))
 | .func f=> .fn (.func f) [] []
def tY(t:fC)(dst:Option Tmp)(v:AV):fC:=
 match dst with
 | some d=> t.set d v
 | none=> t
def oG(P:Program)(f:FuncId):Bool:=
 match P.funcs[f]? with
 | some fn=> !(fn.name=="runtime.NumGoroutine") && fn.body.isSome
 | none=> false
def oH(P:Program)(C:aA)(f:AV)(args:List AV):AM AV:=
 match f with
 | .fn (.func f) first captured=> if oG P f=true then C f (first++args++captured) else λ_=> none
 | .s (.func (.func f) first captured)=> if oG P f=true then C f (first.toList.map .s++args++captured.toList.map .s) else λ_=> none
 | _=> λ_=> none
def bG(c a b:AV):Option AV:=
 match c with
 | .s (.bool true)=> some a
 | .s (.bool false)=> some b
 | _=> none
def au(x:AV):Option AV:=
 match x with
 | .ref ..=> some x
 | .ip ..=> some x
 | .fn (.func _) _ _=> some x
 | .s (.pointer (some _))=> some x
 | _=> none
def kL(P:Program)(isMax:Bool)(argTypes:Array TypeId)(type:TypeId)(args:List AV):Option AV:=
 match vals? args with
 | some vs=> (iE P (if isMax then Builtin.max_ argTypes type vs.toArray else Builtin.min_ argTypes type vs.toArray)).map .s
 | none=> none
def iw(P:Program)(b:Builtin)(argTypes:Array TypeId)(type:TypeId)(args:List AV):AM AV:=λH=>
 match b,argTypes.toList,args with
 | .append,[t,u],[x,y]=> Ip P t u x y H
 | .len,[t],[x]=> aml P t x H
 | .cap,[t],[x]=> fE (acv P t x) H
 | .copy,t::_,[x,y]=> aae P t x y H
 | .clear,[t],[x]=> QM P t x H
 | .delete,t::_,[x,y]=> Iq P t x y H
 | .max,_,args=> fE (kL P true argTypes type args) H
 | .min,_,args=> fE (kL P false argTypes type args) H
 | _,_,_=> none
def ug(P:Program)(C:aA)(t:fC)(c:Call)(type:TypeId):AM AV:=λH=>
 match c.callee with
 | .value f=> oH P C (cZ t f) (c.args.toList.map (cZ t)) H
 | .builtin b=> iw P b c.argTypes type (c.args.toList.map (cZ t)) H
 | .invoke _ _=> none
def opA(P:Program)(C:aA)(t:fC)(o:Oper):AM AV:=
 match o.op with
 | .move x=> fE (some (cZ t x))
 | .assign x=> fE (some (cZ t x))
 | .pick c a b=> fE (bG (cZ t c) (cZ t a) (cZ t b))
 | .alloc e=> FK P e
 | .box e x=> fM e (cZ t x)
 | .build ty ps=> fE (gG P ty (ps.toList.map λp=> (p.1,cZ t p.2)))
 | .buildSlice ty n ps=> dn P ty n (ps.toList.map λp=> (p.1,cZ t p.2))
 | .load ty x=> OL P ty (cZ t x)
 | .store ty x v=> Kt P ty (cZ t x) (cZ t v)
 | .nilCheck x=> fE (au (cZ t x))
 | .binOp op ty x y _=> fE (ahg P op ty y (cZ t x) (cZ t y))
 | .unOp op _ x=> fE (unA P op (cZ t x))
 | .convert src dst x=> jH P src dst (cZ t x)
 | .makeFunc f a c=> fE (some (.fn f (a.toList.map (cZ t)) (c.toList.map (cZ t))))
 | .makeMap ty none=> vw P ty
 | .makeSlice ty l c=> oq P ty (cZ t l) (cZ t c)
 | .slice ty x lo hi mx=> fE (Kr P ty (cZ t x) (lo.map (cZ t)) (hi.map (cZ t)) (mx.map (cZ t)))
 | .fieldAddr ty x i=> fE (qJ P ty (cZ t x) i)
 | .field ty x i=> fE (Ko P ty (cZ t x) i)
 | .indexAddr ty x i=> zA P ty (cZ t x) (cZ t i)
 | .index ty x i=> fE (Kq P ty (cZ t x) (cZ t i))
 | .lookup ty x i ok=> OO P ty (cZ t x) (cZ t i) ok
 | .mapUpdate ty m k v=> qK P ty (cZ t m) (cZ t k) (cZ t v)
 | .extract x i=> fE (aF (cZ t x) i)
 | .call c=> ug P C t c o.type
 | _=> λ_=> none
def rH(ops:List Oper)(t:fC)(o:Oper):Option Bool:=
 match o.guard with
 | none=> some true
 | some (j,want)=> match ops[j]? with
  | some p=> match p.dst with
   | some d=> match t[d]? with
    | some (.s (.bool b))=> some (b==want)
    | some (.tup [])=> some false
    | _=> none
   | none=> none
  | none=> none
def Kv(P:Program)(C:aA)(ops:List Oper):List Oper->fC->AM fC
 | [],t,H=> some (t,H)
 | o::rest,t,H=> match rH ops t o with
  | some true=> match opA P C t o H with
   | some (v,H')=> Kv P C ops rest (tY t o.dst v) H'
   | none=> none
  | some false=> Kv P C ops rest (tY t o.dst aO) H
  | none=> none
def ahh:List Nat:=[
 135,
 16,
 143,
 5,
 18,
 144,
 0]
def aaf:Operand->Bool
 | .const _=> true
 | _=> false
def BJ:Op->Bool
 | .alloc _=> true
 | .buildSlice _ _ ps=> ps.all λp=> aaf p.2
 | _=> false
def pz:Op->Bool
 | .move _=> true
 | .assign _=> true
 | .pick _ _ _=> true
 | .build _ _=> true
 | .nilCheck _=> true
 | .binOp _ _ _ _ _=> true
 | .unOp _ _ _=> true
 | .makeFunc _ _ _=> true
 | .slice _ _ _ _ _=> true
 | .fieldAddr _ _ _=> true
 | .field _ _ _=> true
 | .index _ _ _=> true
 | .extract _ _=> true
 | .load _ _=> true
 | .lookup _ _ _ _=> true
 | .indexAddr _ _ _=> true
 | .convert _ _ _=> true
 | .call c=> match c.callee with
  | .builtin .len=> true
  | .builtin .cap=> true
  | .builtin .max=> true
  | .builtin .min=> true
  | _=> false
 | _=> false
def amm:Operand->Bool
 | .func f=> ahh.contains f
 | _=> false
def rJ:Op->Bool
 | .box _ _=> true
 | .buildSlice _ _ _=> true
 | .makeMap _ _=> true
 | .makeSlice _ _ _=> true
 | .call c=> match c.callee with
  | .value x=> !amm x
  | _=> false
 | _=> false
def kU:Op->Bool
 | .call c=> match c.callee with
  | .value x=> !amm x
  | _=> false
 | _=> false
def aeM:Op->Bool
 | .call c=> match c.callee with
  | .value x=> amm x
  | _=> false
 | _=> false
def Ir:Op->Bool
 | .load _ _=> true
 | .lookup _ _ _ _=> true
 | .indexAddr _ _ _=> true
 | .convert _ _ _=> true
 | .call c=> match c.callee with
  | .builtin .len=> true
  | _=> false
 | _=> false
def kE(t:fC):Op->Option Nat
 | .load _ x=> bD (cZ t x)
 | .lookup _ x _ _=> bD (cZ t x)
 | .indexAddr _ x _=> bD (cZ t x)
 | .convert _ _ x=> bD (cZ t x)
 | .call c=> match c.args.toList with
  | [x]=> bD (cZ t x)
  | _=> none
 | _=> none
def lq(ops:List Oper)(i j:Nat):Bool:=((Region.before ops.toArray).getD j 0).testBit i
def oI(ops:List Oper)(i:Nat):Op:=(ops[i]?.map (·.op)).getD (.alloc 0)
def FN(ops:List Oper)(i:Nat):Option Tmp:=ops[i]?.bind (·.dst)
def cst(ops:List Oper)(i:Nat):Bool:=BJ (oI ops i)
def flo(ops:List Oper)(i:Nat):Bool:=pz (oI ops i)
def chn(ops:List Oper)(i:Nat):Bool:=!cst ops i && !flo ops i
def Dq(ops:List Oper)(i j:Nat):Bool:=if cst ops i==cst ops j then decide (i < j) else cst ops i
def BF(n:Nat)(f:Nat->Bool):Bool:=(List.range n).all f
def Ug(ops:List Oper)(j e:Nat):Bool:=chn ops e && flo ops j && Ir (oI ops j) && !lq ops j e && !lq ops e j
def loose(ops:List Oper)(e:Nat):Bool:=(List.range ops.length).any λj=> Ug ops j e || (cst ops j && chn ops e && !lq ops j e)
def kK(ops:List Oper):List (Nat × Nat):=
 (List.range ops.length).flatMap λj=> ((List.range ops.length).filter λe=> (Ug ops j e && !rJ (oI ops e)) || (cst ops j && chn ops e && !lq ops j e && aeM (oI ops e))).map λe=> (j,e)
def QN(ops:List Oper):Bool:=
 let n:=ops.length
 (BF n λj=> (ops[j]?.map λo=> o.after.all λe=> !Region.binds .any e || (decide (e.on < n) && Dq ops e.on j)).getD false) &&
 (BF n λi=> BF n λj=> !(decide (i < j)) || (FN ops i).isNone || !(FN ops i==FN ops j)) &&
 (BF n λi=> BF n λj=> i==j || (match FN ops i,ops[j]? with
  | some d,some o=> !(o.looksAt ops.toArray).contains d || (lq ops i j && Dq ops i j) || (lq ops j i && Dq ops j i)
  | _,_=> true)) &&
 (BF n λi=> BF n λj=> !(chn ops i && chn ops j && decide (i < j)) || lq ops i j) &&
 (BF n λj=> !cst ops j || ((ops[j]?.map λo=> o.guard.isNone && o.dst.isSome).getD false)) &&
 (BF n λj=> BF n λe=> !(cst ops j && chn ops e && !lq ops j e) || ((rJ (oI ops e) || aeM (oI ops e)) && !lq ops e j))
def opG(P:Program)(C:aA)(t:fC)(o:Oper):AM AV:=λH=>
 match opA P C t o H.guard with
 | some (v,H')=> some (v,{ H' with base:=H.base })
 | none=> none
def kY(P:Program)(C:aA)(ops:List Oper)(lo:Bool)(o:Oper)(t:fC):AM AV:=λH=>
 match rH ops t o with
 | some true=> if lo then opG P C t o H else opA P C t o H
 | some false=> some (aO,H)
 | none=> none
def iy(P:Program)(C:aA)(ops:List Oper):List Nat->fC->ah->Option (fC × ah)
 | [],t,H=> some (t,H)
 | i::is,t,H=> match ops[i]? with
  | some o=> match opA P C t o H with
   | some (v,H')=> iy P C ops is (tY t o.dst v) H'
   | none=> none
  | none=> none
def eX(P:Program)(C:aA)(ops:List Oper):List Nat->fC->ah->Option (fC × ah)
 | [],t,H=> some (t,H)
 | i::is,t,H=> match ops[i]? with
  | some o=> match kY P C ops (loose ops i && kU o.op) o t H with
   | some (v,H')=> eX P C ops is (tY t o.dst v) H'
   | none=> none
  | none=> none
def mP(ops:List Oper):List Nat:=(List.range ops.length).filter (cst ops)
def lu(ops:List Oper):List Nat:=(List.range ops.length).filter λi=> !cst ops i
def Dt(P:Program)(C:aA)(ops:List Oper)(p:Nat)(t:fC)(H:ah):Option (fC × ah):=
 eX P C ops ((List.range p).filter λi=> !cst ops i) t H
def agree(P:Program)(C:aA)(ops:List Oper)(s:Nat)(t:fC)(H:ah)(p:Nat × Nat):Prop:=
 if cst ops p.1=true then
  ∀te He te' He',Dt P C ops p.2 t H=some (te,He)->Dt P C ops (p.2+1) t H=some (te',He')->∀r,s<=r->r < H.next->He'.get r=He.get r
 else
 ∀tj Hj te He te' He',Dt P C ops p.1 t H=some (tj,Hj)->Dt P C ops p.2 t H=some (te,He)->Dt P C ops (p.2+1) t H=some (te',He')->
  ∀r,kE tj (oI ops p.1)=some r->He'.get r=He.get r
open Classical in
def wU(P:Program)(C:aA)(ops:List Oper)(t:fC)(H:ah):Option (fC × ah):=
 if QN ops=true then
  match iy P C ops (mP ops) t H with
  | some (t0,H0)=> match kK ops with
   | []=> eX P C ops (lu ops) t0 H0
   | ps=> if∀p∈ps,agree P C ops H.next t0 H0 p then eX P C ops (lu ops) t0 H0 else none
  | none=> none
 else none
mutual
def NV(n:Nat):AV->Prop
 | .s _=> True
 | .ref r _ _=> r < n
 | .sl r _ _ _ _ _ _=> r < n
 | .ip cells=> NVs n cells
 | .vs _ _ cells=> NVs n cells
 | .mp r=> r < n
 | .fn _ a c=> NVs n a/\NVs n c
 | .agg cells=> NVs n cells
 | .tup cells=> NVs n cells
def NVs(n:Nat):List AV->Prop
 | []=> True
 | x::xs=> NV n x/\NVs n xs
end
mutual
theorem RV.nv {ρ:Ren}{G:Nat->Nat}{w:World}{n:Nat}(out:∀r,n<=r->ρ r=none/\G r=0):∀(x:AV) (v:Value),RV ρ G w x v->NV n x
 | .s _,_,_=> by simp [NV]
 | .ref r g off,v,h=> by
  obtain⟨a,_,h1,h2⟩:=(by simpa only [RV] using h)
  simp only [NV];rcases zaW r n with hr | hr
  ·exact hr
  ·obtain⟨o1,o2⟩:=out r hr;obtain⟨b,sh,hb,_⟩:=h2 (by omega);rw [o1] at hb;cases hb
 | .sl r g off esz len cap ex,v,h=> by
  obtain⟨b,o,c,_,_,_,_,h1,h2⟩:=(by simpa only [RV] using h)
  simp only [NV];rcases zaW r n with hr | hr
  ·exact hr
  ·obtain⟨o1,o2⟩:=out r hr;obtain⟨sh,e,m,hb,_⟩:=h2 (by omega);rw [o1] at hb;cases hb
 | .ip cells,v,h=> by
  obtain⟨b,o,_,_,_,h1⟩:=(by simpa only [RV] using h)
  simp only [NV];exact RVc.nv out cells b o h1
 | .vs m esz cells,v,h=> by
  obtain⟨b,o,c,_,_,_,_,_,h1⟩:=(by simpa only [RV] using h)
  simp only [NV];exact RVc.nv out cells b o h1
 | .mp r,v,h=> by
  obtain⟨b,_,h1⟩:=(by simpa only [RV] using h)
  simp only [NV];rcases zaW r n with hr | hr
  ·exact hr
  ·obtain⟨o1,o2⟩:=out r hr;have:=h1 o2;rw [o1] at this;cases this
 | .fn f a c,v,h=> by
  obtain⟨a',c',_,h1,h2⟩:=(by simpa only [RV] using h)
  simp only [NV];exact⟨RVs.nv out a _ h1,RVs.nv out c _ h2⟩
 | .agg cells,v,h=> by
  obtain⟨cs,_,h1⟩:=(by simpa only [RV] using h)
  simp only [NV];exact RVs.nv out cells _ h1
 | .tup cells,v,h=> by
  obtain⟨cs,_,h1⟩:=(by simpa only [RV] using h)
  simp only [NV];exact RVs.nv out cells _ h1
theorem RVs.nv {ρ:Ren}{G:Nat->Nat}{w:World}{n:Nat}(out:∀r,n<=r->ρ r=none/\G r=0):∀(xs:List AV) (l:List Value),RVs ρ G w xs l->NVs n xs
 | [],_,_=> by simp [NVs]
 | x::xs,l,h=> by
  obtain⟨y,ys,_,h1,h2⟩:=(by simpa only [RVs] using h)
  simp only [NVs];exact⟨RV.nv out x y h1,RVs.nv out xs ys h2⟩
theorem RVc.nv {ρ:Ren}{G:Nat->Nat}{w:World}{n:Nat}(out:∀r,n<=r->ρ r=none/\G r=0):∀(xs:List AV) (b o:Nat),RVc ρ G w xs b o->NVs n xs
 | [],_,_,_=> by simp [NVs]
 | x::xs,b,o,h=> by
  obtain⟨⟨y,_,h1⟩,h2⟩:=(by simpa only [RVc] using h)
  simp only [NVs];exact⟨RV.nv out x y h1,RVc.nv out xs b (o+1) h2⟩
end
structure acw(ρ:Ren)(G:Nat->Nat)(w:World)(ρ':Ren)(G':Nat->Nat)(w':World):Prop where
 mono:∀r,G r<=G' r
 same:∀r x,ρ r=some x->G' r=G r->ρ' r=some x
 imm:∀b,b < w.heap.size->Imm ρ b->b < w'.heap.size/\Imm ρ' b/\∀o,w'.cell? ⟨b,o,none⟩=w.cell? ⟨b,o,none⟩
 shape:∀b e m,w.shape? b=some (e,m)->w'.shape? b=some (e,m)
mutual
theorem RV.mono {ρ ρ':Ren}{G G':Nat->Nat}{w w':World}(M:acw ρ G w ρ' G' w'):∀(x:AV) (v:Value),RV ρ G w x v->RV ρ' G' w' x v
 | .s _,_,h=> by simpa only [RV] using h
 | .ref r g off,v,h=> by
  obtain⟨a,e,h1,h2⟩:=(by simpa only [RV] using h)
  simp only [RV];have m:=M.mono r;refine⟨a,e,by omega,λhg=> ?_⟩;have he:G r=g:=by omega
  obtain⟨b,sh,hr,ha⟩:=h2 he;exact⟨b,sh,M.same r _ hr (by omega),ha⟩
 | .sl r g off esz len cap ex,v,h=> by
  obtain⟨b,o,c,e,k1,k2,k3,h1,h2⟩:=(by simpa only [RV] using h)
  simp only [RV];have m:=M.mono r;refine⟨b,o,c,e,k1,k2,k3,by omega,λhg=> ?_⟩;have he:G r=g:=by omega
  obtain⟨sh,ty,k,q1,q2,q3,q4⟩:=h2 he;exact⟨sh,ty,k,M.same r _ q1 (by omega),q2,M.shape _ _ _ q3,q4⟩
 | .ip cells,v,h=> by
  obtain⟨b,o,e,hb,hi,h1⟩:=(by simpa only [RV] using h)
  simp only [RV];obtain⟨hb',hi',hc⟩:=M.imm b hb hi;exact⟨b,o,e,hb',hi',RVc.mono M cells b o (λo v hv=> by rw [hc];exact hv) h1⟩
 | .vs m esz cells,v,h=> by
  obtain⟨b,o,c,e,k1,k2,hb,hi,h1⟩:=(by simpa only [RV] using h)
  simp only [RV];obtain⟨hb',hi',hc⟩:=M.imm b hb hi;exact⟨b,o,c,e,k1,k2,hb',hi',RVc.mono M cells b o (λo v hv=> by rw [hc];exact hv) h1⟩
 | .mp r,v,h=> by
  obtain⟨b,e,h1⟩:=(by simpa only [RV] using h)
  simp only [RV];have m:=M.mono r;refine⟨b,e,λhg=> ?_⟩;have he:G r=0:=by omega
  exact M.same r _ (h1 he) (by omega)
 | .fn f a c,v,h=> by
  obtain⟨a',c',e,h1,h2⟩:=(by simpa only [RV] using h)
  simp only [RV];exact⟨a',c',e,RVs.mono M a _ h1,RVs.mono M c _ h2⟩
 | .agg cells,v,h=> by
  obtain⟨cs,e,h1⟩:=(by simpa only [RV] using h)
  simp only [RV];exact⟨cs,e,RVs.mono M cells _ h1⟩
 | .tup cells,v,h=> by
  obtain⟨cs,e,h1⟩:=(by simpa only [RV] using h)
  simp only [RV];exact⟨cs,e,RVs.mono M cells _ h1⟩
theorem RVs.mono {ρ ρ':Ren}{G G':Nat->Nat}{w w':World}(M:acw ρ G w ρ' G' w'):∀(xs:List AV) (l:List Value),RVs ρ G w xs l->RVs ρ' G' w' xs l
 | [],_,h=> by simpa only [RVs] using h
 | x::xs,l,h=> by
  obtain⟨y,ys,e,h1,h2⟩:=(by simpa only [RVs] using h)
  simp only [RVs];exact⟨y,ys,e,RV.mono M x y h1,RVs.mono M xs ys h2⟩
theorem RVc.mono {ρ ρ':Ren}{G G':Nat->Nat}{w w':World}(M:acw ρ G w ρ' G' w'):∀(xs:List AV) (b o:Nat),(∀o v,w.cell? ⟨b,o,none⟩=some v->w'.cell? ⟨b,o,none⟩=some v)->RVc ρ G w xs b o->RVc ρ' G' w' xs b o
 | [],_,_,_,_=> by simp only [RVc]
 | x::xs,b,o,hc,h=> by
  obtain⟨⟨y,e,h1⟩,h2⟩:=(by simpa only [RVc] using h)
  simp only [RVc];exact⟨⟨y,hc _ _ e,RV.mono M x y h1⟩,RVc.mono M xs b (o+1) hc h2⟩
end
structure Back(n:Nat)(ρ:Ren)(G:Nat->Nat)(ρ':Ren)(G':Nat->Nat):Prop where
 gen:∀r,r < n->G' r=G r
 same:∀r,r < n->ρ' r=none∨ρ' r=ρ r
 sub:∀r x,ρ' r=some x->ρ r=some x
theorem Back.imm {n:Nat}{ρ ρ':Ren}{G G':Nat->Nat}(B:Back n ρ G ρ' G'){b:Nat}(h:Imm ρ b):Imm ρ' b:=λr sh hr=> h r sh (B.sub r _ hr)
mutual
theorem RV.back {n:Nat}{ρ ρ':Ren}{G G':Nat->Nat}{w w0:World}(B:Back n ρ G ρ' G')(out:∀r,n<=r->ρ' r=none/\G' r=0):∀(x:AV) (v v0:Value),RV ρ' G' w0 x v0->RV ρ G w x v->RV ρ' G' w x v
 | .s _,_,_,_,h=> by simpa only [RV] using h
 | .ref r g off,v,v0,h0,h=> by
  have hn:=RV.nv out _ _ h0;simp only [NV] at hn;obtain⟨a0,_,g1,g2⟩:=(by simpa only [RV] using h0)
  obtain⟨a,e,h1,h2⟩:=(by simpa only [RV] using h)
  simp only [RV];refine⟨a,e,by rw [B.gen r hn];exact h1,λhg=> ?_⟩;obtain⟨b0,sh0,hr0,_⟩:=g2 hg;obtain⟨b,sh,hr,ha⟩:=h2 (by rw [<-B.gen r hn];exact hg);refine⟨b,sh,?_,ha⟩;rcases B.same r hn with q | q
  ·rw [q] at hr0;cases hr0
  ·rw [q];exact hr
 | .sl r g off esz len cap ex,v,v0,h0,h=> by
  have hn:=RV.nv out _ _ h0;simp only [NV] at hn;obtain⟨_,_,_,_,_,_,_,_,g2⟩:=(by simpa only [RV] using h0)
  obtain⟨b,o,c,e,k1,k2,k3,h1,h2⟩:=(by simpa only [RV] using h)
  simp only [RV];refine⟨b,o,c,e,k1,k2,k3,by rw [B.gen r hn];exact h1,λhg=> ?_⟩;obtain⟨_,_,_,hr0,_⟩:=g2 hg;obtain⟨sh,ty,k,q1,q2,q3,q4⟩:=h2 (by rw [<-B.gen r hn];exact hg);refine⟨sh,ty,k,?_,q2,q3,q4⟩;rcases B.same r hn with q | q
  ·rw [q] at hr0;cases hr0
  ·rw [q];exact q1
 | .ip cells,v,v0,h0,h=> by
  obtain⟨b0,o0,_,_,_,g1⟩:=(by simpa only [RV] using h0)
  obtain⟨b,o,e,hb,hi,h1⟩:=(by simpa only [RV] using h)
  simp only [RV];exact⟨b,o,e,hb,B.imm hi,RVc.back B out cells b o b0 o0 g1 h1⟩
 | .vs m esz cells,v,v0,h0,h=> by
  obtain⟨b0,o0,_,_,_,_,_,_,g1⟩:=(by simpa only [RV] using h0)
  obtain⟨b,o,c,e,k1,k2,hb,hi,h1⟩:=(by simpa only [RV] using h)
  simp only [RV];exact⟨b,o,c,e,k1,k2,hb,B.imm hi,RVc.back B out cells b o b0 o0 g1 h1⟩
 | .mp r,v,v0,h0,h=> by
  have hn:=RV.nv out _ _ h0;simp only [NV] at hn;obtain⟨_,_,g1⟩:=(by simpa only [RV] using h0)
  obtain⟨b,e,h1⟩:=(by simpa only [RV] using h)
  simp only [RV];refine⟨b,e,λhg=> ?_⟩;have:=g1 hg;rcases B.same r hn with q | q
  ·rw [q] at this;cases this
  ·rw [q];exact h1 (by rw [<-B.gen r hn];exact hg)
 | .fn f a c,v,v0,h0,h=> by
  obtain⟨_,_,_,g1,g2⟩:=(by simpa only [RV] using h0)
  obtain⟨a',c',e,h1,h2⟩:=(by simpa only [RV] using h)
  simp only [RV];exact⟨a',c',e,RVs.back B out a _ _ g1 h1,RVs.back B out c _ _ g2 h2⟩
 | .agg cells,v,v0,h0,h=> by
  obtain⟨_,_,g1⟩:=(by simpa only [RV] using h0)
  obtain⟨cs,e,h1⟩:=(by simpa only [RV] using h)
  simp only [RV];exact⟨cs,e,RVs.back B out cells _ _ g1 h1⟩
 | .tup cells,v,v0,h0,h=> by
  obtain⟨_,_,g1⟩:=(by simpa only [RV] using h0)
  obtain⟨cs,e,h1⟩:=(by simpa only [RV] using h)
  simp only [RV];exact⟨cs,e,RVs.back B out cells _ _ g1 h1⟩
theorem RVs.back {n:Nat}{ρ ρ':Ren}{G G':Nat->Nat}{w w0:World}(B:Back n ρ G ρ' G')(out:∀r,n<=r->ρ' r=none/\G' r=0):∀(xs:List AV) (l l0:List Value),RVs ρ' G' w0 xs l0->RVs ρ G w xs l->RVs ρ' G' w xs l
 | [],_,_,_,h=> by simpa only [RVs] using h
 | x::xs,l,l0,h0,h=> by
  obtain⟨_,_,_,g1,g2⟩:=(by simpa only [RVs] using h0)
  obtain⟨y,ys,e,h1,h2⟩:=(by simpa only [RVs] using h)
  simp only [RVs];exact⟨y,ys,e,RV.back B out x y _ g1 h1,RVs.back B out xs ys _ g2 h2⟩
theorem RVc.back {n:Nat}{ρ ρ':Ren}{G G':Nat->Nat}{w w0:World}(B:Back n ρ G ρ' G')(out:∀r,n<=r->ρ' r=none/\G' r=0):∀(xs:List AV) (b o b0 o0:Nat),RVc ρ' G' w0 xs b0 o0->RVc ρ G w xs b o->RVc ρ' G' w xs b o
 | [],_,_,_,_,_,_=> by simp only [RVc]
 | x::xs,b,o,b0,o0,h0,h=> by
  obtain⟨⟨_,_,g1⟩,g2⟩:=(by simpa only [RVc] using h0)
  obtain⟨⟨y,e,h1⟩,h2⟩:=(by simpa only [RVc] using h)
  simp only [RVc];exact⟨⟨y,e,RV.back B out x y _ g1 h1⟩,RVc.back B out xs b (o+1) b0 (o0+1) g2 h2⟩
end
theorem RVm.mono {ρ ρ':Ren}{G G':Nat->Nat}{w w':World}(M:acw ρ G w ρ' G' w'){k:IntKind}:∀(xs:List (Int × AV)) (l:List MapEntry),RVm ρ G w k xs l->RVm ρ' G' w' k xs l
 | [],_,h=> by simpa only [RVm] using h
 | (m,x)::xs,l,h=> by
  obtain⟨e,es,e1,e2,h1,h2⟩:=(by simpa only [RVm] using h)
  simp only [RVm];exact⟨e,es,e1,e2,RV.mono M x _ h1,RVm.mono M xs es h2⟩
theorem RVm.back {n:Nat}{ρ ρ':Ren}{G G':Nat->Nat}{w w0:World}(B:Back n ρ G ρ' G')(out:∀r,n<=r->ρ' r=none/\G' r=0){k:IntKind}:∀(xs:List (Int × AV)) (l l0:List MapEntry),RVm ρ' G' w0 k xs l0->RVm ρ G w k xs l->RVm ρ' G' w k xs l
 | [],_,_,_,h=> by simpa only [RVm] using h
 | (m,x)::xs,l,l0,h0,h=> by
  obtain⟨_,_,_,_,g1,g2⟩:=(by simpa only [RVm] using h0)
  obtain⟨e,es,e1,e2,h1,h2⟩:=(by simpa only [RVm] using h)
  simp only [RVm];exact⟨e,es,e1,e2,RV.back B out x _ _ g1 h1,RVm.back B out xs es _ g2 h2⟩
theorem cell?_of_block {w w':World}{b o:Nat}(h:w'.heap[b]?=w.heap[b]?):w'.cell? ⟨b,o,none⟩=w.cell? ⟨b,o,none⟩:=by
 simp only [World.cell?,h]
theorem Kw {w:World}{b:Nat}{e:TypeId}{m:Nat}(h:w.shape? b=some (e,m)):b < w.heap.size:=by
 rcases zaW b w.heap.size with hb | hb
 ·exact hb
 ·simp [World.shape?,zda hb] at h
theorem Ext.toMono {ρ ρ':Ren}{H H':ah}{w w':World}(E:Ext ρ H w ρ' H' w'):acw ρ H.gen w ρ' H'.gen w' where
 mono:=E.mono
 same:=E.same
 imm:=λb hb hi=> ⟨zau hb E.size,λr sh hr=> by
   rcases E.range r b sh hr with h | ⟨sh',h⟩
   ·omega
   ·exact hi r sh' h,λo=> cell?_of_block (E.frame b hb hi)⟩
 shape:=λb e m h=> by rw [E.shape b (Kw h)];exact h
theorem Ext.refl(ρ:Ren)(H:ah)(w:World):Ext ρ H w ρ H w where
 next:=zac _
 mono:=λ_=> zac _
 same:=λ_ _ h _=> h
 kept:=λ_ _ h=> h
 range:=λ_ _ sh h=> .inr ⟨sh,h⟩
 size:=zac _
 frame:=λ_ _ _=> rfl
 shape:=λ_ _=> rfl
 os:=rfl
 tape:=rfl
 output:=rfl
theorem Ext.trans {ρ ρ' ρ'':Ren}{H H' H'':ah}{w w' w'':World}(E:Ext ρ H w ρ' H' w')(F:Ext ρ' H' w' ρ'' H'' w''):Ext ρ H w ρ'' H'' w'' where
 next:=zas E.next F.next
 mono:=λr=> zas (E.mono r) (F.mono r)
 same:=λr x hr h=> by
  have h1:=E.mono r;have h2:=F.mono r;exact F.same r x (E.same r x hr (by omega)) (by omega)
 kept:=λr hr h=> F.kept r (zau hr E.next) (E.kept r hr h)
 range:=λr b sh h=> by
  rcases F.range r b sh h with h | ⟨sh',h⟩
  ·exact .inl (zas E.size h)
  ·exact E.range r b sh' h
 size:=zas E.size F.size
 frame:=λb hb hi=> by
  rw [F.frame b (zau hb E.size) (E.toMono.imm b hb hi).2.1,E.frame b hb hi]
 shape:=λb hb=> by rw [F.shape b (zau hb E.size),E.shape b hb]
 os:=F.os.trans E.os
 tape:=F.tape.trans E.tape
 output:=F.output.trans E.output
theorem Rel.keep {ρ ρ':Ren}{H H':ah}{w w':World}(_R:Rel ρ H w)(E:Ext ρ H w ρ' H' w'){x:AV}{v:Value}(h:RV ρ H.gen w x v):RV ρ' H'.gen w' x v:=
 RV.mono E.toMono x v h
theorem iT {ρ:Ren}{G:Nat->Nat}{w:World}:RVs ρ G w [] []:=by simp only [RVs]
theorem iQ {ρ:Ren}{G:Nat->Nat}{w:World}{x:AV}{y:Value}{xs:List AV}{ys:List Value}(h:RV ρ G w x y)(t:RVs ρ G w xs ys):RVs ρ G w (x::xs) (y::ys):=by
 simp only [RVs];exact⟨y,ys,rfl,h,t⟩
theorem bW {ρ:Ren}{G:Nat->Nat}{w:World}:∀{xs:List AV} {l:List Value},RVs ρ G w xs l->l.length=xs.length
 | [],l,h=> by simp only [RVs] at h;subst h;rfl
 | x::xs,l,h=> by
  simp only [RVs] at h;obtain⟨y,ys,rfl,_,h2⟩:=h;simp [bW h2]
theorem jD {ρ:Ren}{G:Nat->Nat}{w:World}:∀{xs:List AV} {l:List Value},RVs ρ G w xs l->∀{i:Nat} {x:AV},xs[i]?=some x->∃v,l[i]?=some v/\RV ρ G w x v
 | [],l,h,i,x,hx=> by simp at hx
 | y::xs,l,h,i,x,hx=> by
  simp only [RVs] at h;obtain⟨z,zs,rfl,h1,h2⟩:=h;cases i with
  | zero=> simp at hx;subst hx;exact⟨z,rfl,h1⟩
  | succ i=> simp at hx;simpa using jD h2 hx
theorem qL {ρ:Ren}{G:Nat->Nat}{w:World}:∀{xs:List AV} {l:List Value},l.length=xs.length->(∀(i:Nat) (x:AV),xs[i]?=some x->∃v,l[i]?=some v/\RV ρ G w x v)->RVs ρ G w xs l
 | [],l,h,_=> by cases l with | nil=> exact iT | cons a l=> simp at h
 | x::xs,l,h,hg=> by
  cases l with
  | nil=> simp at h
  | cons y ys=>
   obtain⟨v,hv,h1⟩:=hg 0 x rfl;simp at hv;subst hv;exact iQ h1 (qL (by simpa using h) λi x hx=> by simpa using hg (i+1) x (by simpa using hx))
theorem oz {ρ:Ren}{G:Nat->Nat}{w:World}:∀{xs ys:List AV} {l m:List Value},RVs ρ G w xs l->RVs ρ G w ys m->RVs ρ G w (xs++ys) (l++m)
 | [],ys,l,m,h,h'=> by simp only [RVs] at h;subst h;simpa using h'
 | x::xs,ys,l,m,h,h'=> by
  simp only [RVs] at h;obtain⟨z,zs,rfl,h1,h2⟩:=h;exact iQ h1 (oz h2 h')
theorem aag {ρ:Ren}{G:Nat->Nat}{w:World}(n:Nat):∀{xs:List AV} {l:List Value},RVs ρ G w xs l->RVs ρ G w (xs.take n) (l.take n):=by
 intro xs l h;refine qL (by simp [bW h]) λi x hx=> ?_;rw [zay] at hx;split at hx
 ·obtain⟨v,hv,h1⟩:=jD h hx;exact⟨v,by rw [zay,if_pos ‹_›];exact hv,h1⟩
 ·cases hx
theorem aah {ρ:Ren}{G:Nat->Nat}{w:World}(n:Nat):∀{xs:List AV} {l:List Value},RVs ρ G w xs l->RVs ρ G w (xs.drop n) (l.drop n):=by
 intro xs l h;refine qL (by simp [bW h]) λi x hx=> ?_;rw [zaA] at hx;obtain⟨v,hv,h1⟩:=jD h hx;exact⟨v,by rw [zaA];exact hv,h1⟩
theorem gy {ρ:Ren}{G:Nat->Nat}{w:World}:∀(l:List Value),RVs ρ G w (l.map .s) l
 | []=> iT
 | v::l=> iQ (by simp only [RV]) (gy l)
theorem Du {ρ:Ren}{G:Nat->Nat}{w:World}:∀{xs:List AV} {b o:Nat},RVc ρ G w xs b o->∀{i:Nat} {x:AV},xs[i]?=some x->∃v,w.cell? ⟨b,o+i,none⟩=some v/\RV ρ G w x v
 | [],b,o,h,i,x,hx=> by simp at hx
 | y::xs,b,o,h,i,x,hx=> by
  simp only [RVc] at h;obtain⟨⟨v,hv,h1⟩,h2⟩:=h;cases i with
  | zero=> simp at hx;subst hx;exact⟨v,hv,h1⟩
  | succ i=> simp at hx;have:=Du h2 hx;rwa [show o+1+i=o+(i+1) from by omega] at this
theorem vC {ρ:Ren}{G:Nat->Nat}{w:World}:∀{xs:List AV} {b o:Nat},(∀(i:Nat) (x:AV),xs[i]?=some x->∃v,w.cell? ⟨b,o+i,none⟩=some v/\RV ρ G w x v)->RVc ρ G w xs b o
 | [],_,_,_=> by simp only [RVc]
 | x::xs,b,o,h=> by
  simp only [RVc];exact⟨h 0 x rfl,vC λi y hy=> by have:=h (i+1) y (by simpa using hy);rwa [show o+(i+1)=o+1+i from by omega] at this⟩
theorem pF {ρ:Ren}{G:Nat->Nat}{w:World}{xs:List AV}{b o:Nat}(n:Nat)(h:RVc ρ G w xs b o):RVc ρ G w (xs.drop n) b (o+n):=
 vC λi x hx=> by
  rw [zaA] at hx;have:=Du h hx
  rwa [show o+(n+i)=o+n+i from by omega] at this
theorem rM {ρ:Ren}{G:Nat->Nat}{w:World}{xs:List AV}{b o:Nat}(n:Nat)(h:RVc ρ G w xs b o):RVc ρ G w (xs.take n) b o:=
 vC λi x hx=> by
  rw [zay] at hx;split at hx
  ·exact Du h hx
  ·cases hx
theorem pG {ρ:Ren}{G:Nat->Nat}{w:World}{b o:Nat}{cs:Array Value}{e:TypeId}{fr:Nat × Nat}(hb:w.heap[b]?=some (.cells cs e fr)){xs:List AV}
  (h:∀(i:Nat) (x:AV),xs[i]?=some x->∃v,cs[o+i]?=some v/\RV ρ G w x v):RVc ρ G w xs b o:=
 vC λi x hx=> by
  obtain⟨v,hv,h1⟩:=h i x hx;exact⟨v,by simp [World.cell?,hb,hv],h1⟩
theorem uh {ρ:Ren}{G:Nat->Nat}{w:World}{b o:Nat}{cs:Array Value}{e:TypeId}{fr:Nat × Nat}(hb:w.heap[b]?=some (.cells cs e fr)){xs:List AV}
  (h:RVc ρ G w xs b o):∀{i:Nat} {x:AV},xs[i]?=some x->∃v,cs[o+i]?=some v/\RV ρ G w x v:=by
 intro i x hx;obtain⟨v,hv,h1⟩:=Du h hx;exact⟨v,by simpa [World.cell?,hb] using hv,h1⟩
theorem jq(b o n:Nat):Addr.add ⟨b,o,none⟩ n=⟨b,o+n,none⟩:=Addr.add_lit b o n
theorem OQ {P:Program}{w:World}{a:Addr}{v:Value}(h:w.cell? a=some v):(load a).run P w=.ok v w:=by simp [h]
theorem qM {P:Program}{ρ:Ren}{G:Nat->Nat}{w:World}{b o:Nat}:∀(xs:List AV) (i:Nat) (acc:Array Value),RVc ρ G w xs b (o+i)->
  ∃l:List Value,(loadCellsFrom ⟨b,o,none⟩ i xs.length acc).run P w=.ok (acc++l.toArray) w/\RVs ρ G w xs l
 | [],i,acc,_=> ⟨[],by simp [loadCellsFrom],iT⟩
 | x::xs,i,acc,h=> by
  simp only [RVc] at h;obtain⟨⟨v,hv,h1⟩,h2⟩:=h;obtain⟨l,hl,h3⟩:=qM (P:=P) xs (i+1) (acc.push v) (by rw [<-zcy];exact h2);refine⟨v::l,?_,iQ h1 h3⟩;simp only [zah,loadCellsFrom,Sem.run_bind,jq,OQ hv,Result.andThen_ok];rw [hl];simp
theorem lC {P:Program}{ρ:Ren}{G:Nat->Nat}{w:World}{b o:Nat}{xs:List AV}(h:RVc ρ G w xs b o):
  ∃l:List Value,(loadCells ⟨b,o,none⟩ xs.length).run P w=.ok l.toArray w/\RVs ρ G w xs l:=by
 obtain⟨l,hl,h1⟩:=qM (P:=P) xs 0 #[] (by simpa using h);exact⟨l,by simpa [loadCells] using hl,h1⟩
theorem BK {P:Program}{t:TypeId}{i:TypeInfo}(h:P.info? t=some i)(w:World):(typeInfo t).run P w=.ok i w:=by
 simp [typeInfo,h]
theorem dV {P:Program}{t:TypeId}{n:Nat}(h:szT P t=some n)(w:World):(sizeOf t).run P w=.ok n w:=by
 unfold szT at h;cases hi:P.info? t with
 | none=> simp [hi] at h
 | some i=> simp [hi] at h;subst h;simp [sizeOf,BK hi]
theorem Ky {P:Program}{t:TypeId}{z:Value}(h:(if t < fQ then(P.info? t).bind (·.zero) else none)=some z):t < fQ:=by
 split at h
 ·assumption
 ·cases h
theorem rO {P:Program}{t:TypeId}{z:Value}(h:xR P t=some z):t < fQ:=Ky h
theorem aai {P:Program}{t:TypeId}{z:Value}(h:xR P t=some z):(P.info? t).bind (·.zero)=some z:=by
 have:=rO h;unfold xR at h
 rwa [if_pos this] at h
theorem fK {P:Program}{t:TypeId}{z:Value}(h:xR P t=some z)(w:World):(zeroValue t).run P w=.ok z w:=by
 unfold xR at h;rw [if_pos (Ky h)] at h;cases hi:P.info? t with
 | none=> simp [hi] at h
 | some i=> simp [hi] at h;simp [zeroValue,BK hi,h]
theorem xX {P:Program}{t:TypeId}{b:Bool}(h:ahf P t=some b)(w:World):(isAgg t).run P w=.ok b w:=by
 unfold ahf at h;cases hu:P.underlying t with
 | none=> simp [hu] at h
 | some d=> cases d <;> simp [hu] at h <;> subst h <;> simp [isAgg,run_underlying hu]
theorem Dv {P:Program}{ρ:Ren}{G:Nat->Nat}{w:World}{b o:Nat}{cells:List AV}(h:RVc ρ G w cells b o){t:TypeId}{off:Nat}{v:AV}(hp:Fq P t cells off=some v):
  ∃cv,(loadVar t ⟨b,o+off,none⟩).run P w=.ok cv w/\RV ρ G w v cv:=by
 unfold Fq at hp;cases ha:ahf P t with
 | none=> simp [ha] at hp
 | some k=>
  cases hs:szT P t with
  | none=> simp [ha,hs] at hp
  | some n=>
   cases k with
   | true=>
    simp [ha,hs] at hp;obtain⟨hle,rfl⟩:=hp;obtain⟨l,hl,h1⟩:=lC (P:=P) (rM n (pF off h));refine⟨.agg l.toArray,?_,?_⟩
    ·have hlen:(List.take n (List.drop off cells)).length=n:=by simp;omega
     rw [hlen] at hl;simp [loadVar,xX ha,dV hs,hl]
    ·simp only [RV];exact⟨_,rfl,h1⟩
   | false=>
    simp [ha,hs] at hp;obtain⟨cv,hc,h1⟩:=Du h hp;exact⟨cv,by simp [loadVar,xX ha,hc],h1⟩
def jr(w:World)(b:Nat)(o:Obj):World:={ w with heap:=w.heap.setIfInBounds b o }
def updρ(ρ:Ren)(r:Nat)(x:Nat × Nat):Ren:=λy=> if y=r then some x else ρ y
theorem kM {w:World}{b:Nat}{o:Obj}(h:b < w.heap.size):(jr w b o).heap[b]?=some o:=by
 simp [jr,h]
theorem Dw {w:World}{b b':Nat}{o:Obj}(h:b'≠b):(jr w b o).heap[b']?=w.heap[b']?:=by
 simp [jr,zbn (Ne.symm h)]
theorem Iu(w:World)(b:Nat)(o o':Obj):jr (jr w b o) b o'=jr w b o':=by
 simp [jr]
theorem OT {w:World}{b:Nat}{o:Obj}(h:w.heap[b]?=some o):jr w b o=w:=by
 have hb:b < w.heap.size:=by
  rcases zaW b w.heap.size with hb | hb
  ·exact hb
  ·simp [zda hb] at h
 have:w.heap.setIfInBounds b o=w.heap:=by
  apply Array.ext_getElem?
  intro i;by_cases hi:b=i
  ·subst hi;rw [zcl hb] at h;simp only [Array.getElem?_setIfInBounds_self_of_lt hb,zcl hb,h]
  ·simp [zbn hi]
 simp [jr,this]
theorem lV {w:World}{b:Nat}{o:Obj}(h:w.heap[b]?=some o):b < w.heap.size:=by
 rcases zaW b w.heap.size with hb | hb
 ·exact hb
 ·simp [zda hb] at h
theorem Rel.lt {ρ:Ren}{H:ah}{w:World}(R:Rel ρ H w){r b sh:Nat}(h:ρ r=some (b,sh)):r < H.next:=by
 rcases zaW r H.next with hr | hr
 ·exact hr
 ·rw [(R.out r hr).1] at h;cases h
theorem Rel.block {ρ:Ren}{H:ah}{w:World}(R:Rel ρ H w){r b sh:Nat}(h:ρ r=some (b,sh)):b < w.heap.size:=by
 have:=R.obj r b sh h;unfold wH at this;split at this
 ·obtain⟨cs,e,hb,_⟩:=this;exact lV hb
 ·obtain⟨cs,e,hb,_⟩:=this;exact lV hb
def AB:Obj->Option (TypeId × Nat)
 | .cells c e _=> some (e,c.size)
 | _=> none
theorem dY(w:World)(b:Nat):w.shape? b=(w.heap[b]?).bind AB:=by
 unfold World.shape? AB;cases w.heap[b]? with
 | none=> rfl
 | some o=> cases o <;> rfl
theorem rP(H:ah)(r x:Nat)(o:fD):(H.put r o).gen x=if x=r then o.gen else H.gen x:=by
 simp only [ah.gen,ah.put];split <;> rfl
theorem OU(H:ah)(x:Nat)(o:fD):(H.new o).gen x=if x=H.next then o.gen else H.gen x:=by
 simp only [ah.gen,ah.new];split <;> rfl
theorem VP {ρ:Ren}{H:ah}{w:World}{r b sh sh':Nat}{co co':Obj}{o:fD}(hr:ρ r=some (b,sh))(hb:w.heap[b]?=some co)
  (hs:AB co'=AB co) (hg:H.gen r<=o.gen) (hsh:o.gen=H.gen r->sh'=sh):Ext ρ H w (updρ ρ r (b,sh')) (H.put r o) (jr w b co') where
 next:=zac _
 mono:=λx=> by rw [rP];split <;> simp_all
 same:=λx y hx h=> by
  rw [rP] at h;unfold updρ
  split
  ·rename_i e;subst e;simp at h;rw [hsh h,<-hr,hx]
  ·exact hx
 kept:=λx _ h=> by
  unfold updρ
  split
  ·rename_i e;subst e;rw [hr] at h;cases h
  ·exact h
 range:=λx b' s h=> by
  unfold updρ at h;split at h
  ·cases h;rename_i e;subst e;exact .inr ⟨_,hr⟩
  ·exact .inr ⟨_,h⟩
 size:=by simp [jr]
 frame:=λb' hb' hi=> Dw λe=> hi r sh (e ▸ hr)
 shape:=λb' hb'=> by
  rw [dY,dY];by_cases e:b'=b
  ·subst e;rw [kM hb',hb];exact hs
  ·rw [Dw e]
 os:=rfl
 tape:=rfl
 output:=rfl
theorem wH.mono {ρ ρ':Ren}{G G':Nat->Nat}{w w':World}(M:acw ρ G w ρ' G' w'){o:fD}{b sh:Nat}(hb:w'.heap[b]?=w.heap[b]?)(h:wH ρ G w o b sh):wH ρ' G' w' o b sh:=by
 unfold wH at*;split at h
 ·obtain⟨cs,e,h1,h2,h3⟩:=h;exact⟨cs,e,by rw [hb];exact h1,h2,RVc.mono M _ _ _ (λo v hv=> by rw [cell?_of_block hb];exact hv) h3.1,h3.2⟩
 ·obtain⟨cs,e,h1,h2,h3⟩:=h;exact⟨cs,e,by rw [hb];exact h1,h2,RVm.mono M _ _ h3.1,h3.2⟩
theorem VQ {ρ:Ren}{H:ah}{w:World}(R:Rel ρ H w){r b sh sh':Nat}{co':Obj}{o:fD}(hr:ρ r=some (b,sh))
  (E:Ext ρ H w (updρ ρ r (b,sh')) (H.put r o) (jr w b co'))
  (ho:wH (updρ ρ r (b,sh')) (H.put r o).gen (jr w b co') o b sh'):Rel (updρ ρ r (b,sh')) (H.put r o) (jr w b co') where
 out:=λx hx=> by
  have hne:x≠r:=λe=> by have:=R.lt hr;subst e;exact absurd hx (by simpa [ah.put] using this)
  rw [rP,if_neg hne];unfold updρ;rw [if_neg hne];exact R.out x hx
 obj:=λx b' s h=> by
  unfold updρ at h;by_cases e:x=r
  ·subst e;simp at h;obtain⟨rfl,rfl⟩:=h
   simpa [ah.put] using ho
  ·rw [if_neg e] at h;have hne:b'≠b:=λe'=> e (R.inj x r b' s sh h (e' ▸ hr));have:(H.put r o).get x=H.get x:=by simp [ah.put,e]
   rw [this];exact wH.mono E.toMono (Dw hne) (R.obj x b' s h)
 inj:=λx y b' s s' h h'=> by
  unfold updρ at h h';split at h <;> split at h'
  ·simp_all
  ·cases h;rename_i e _;subst e;exact(R.inj _ _ _ _ _ h' hr).symm
  ·cases h';rename_i _ e;subst e;exact R.inj _ _ _ _ _ h hr
  ·exact R.inj _ _ _ _ _ h h'
 gl:=R.gl.ext E
theorem Iw {ρ:Ren}{H:ah}{w:World}(R:Rel ρ H w){co:Obj}{o:fD}:Ext ρ H w (updρ ρ H.next (w.heap.size,0)) (H.new o) (w.alloc co) where
 next:=by simp [ah.new]
 mono:=λx=> by
  rw [OU];split
  ·rename_i e;subst e;rw [(R.out _ (zac _)).2];exact zaV _
  ·exact zac _
 same:=λx y hx _=> by
  have hne:x≠H.next:=λe=> by subst e;rw [(R.out _ (zac _)).1] at hx;cases hx
  unfold updρ;rw [if_neg hne];exact hx
 kept:=λx hx h=> by
  unfold updρ
  rw [if_neg (by omega)];exact h
 range:=λx b' s h=> by
  unfold updρ at h;split at h
  ·cases h;exact .inl (zac _)
  ·exact .inr ⟨_,h⟩
 size:=by simp
 frame:=λb hb _=> by simp only [World.alloc,za9,if_neg (zbL hb)]
 shape:=λb hb=> by
  rw [dY,dY];simp only [World.alloc,za9,if_neg (zbL hb)]
 os:=rfl
 tape:=rfl
 output:=rfl
theorem VR {ρ:Ren}{H:ah}{w:World}(R:Rel ρ H w){co:Obj}{o:fD}
  (ho:wH (updρ ρ H.next (w.heap.size,0)) (H.new o).gen (w.alloc co) o w.heap.size 0):Rel (updρ ρ H.next (w.heap.size,0)) (H.new o) (w.alloc co) where
 out:=λx hx=> by
  have hx1:H.next+1<=x:=hx
  have hne:x≠H.next:=by omega
  have hx':H.next<=x:=by omega
  rw [OU,if_neg hne];unfold updρ;rw [if_neg hne];exact R.out x hx'
 obj:=λx b' s h=> by
  unfold updρ at h;by_cases e:x=H.next
  ·subst e;simp at h;obtain⟨rfl,rfl⟩:=h
   simpa [ah.new] using ho
  ·rw [if_neg e] at h;have:(H.new o).get x=H.get x:=by simp [ah.new,e]
   rw [this];have hb:=R.block h;exact wH.mono (Iw R (o:=o) (co:=co)).toMono (by simp only [World.alloc,za9,if_neg (zbL hb)]) (R.obj x b' s h)
 inj:=λx y b' s s' h h'=> by
  unfold updρ at h h';split at h <;> split at h'
  ·simp_all
  ·cases h;have:=R.block h';omega
  ·cases h';have:=R.block h;omega
  ·exact R.inj _ _ _ _ _ h h'
 gl:=R.gl.ext (Iw R (o:=o) (co:=co))
theorem jA(w:World)(o:Obj):(w.alloc o).heap[w.heap.size]?=some o:=by
 show(w.heap.push o)[w.heap.size]?=some o;simp
theorem VT {ρ:Ren}{H:ah}{w:World}(R:Rel ρ H w){e ty:TypeId}{cells:List AV}{cs:Array Value}(hl:cells.length<=cs.size)
  (hc:∀(i:Nat) (x:AV),cells[i]?=some x->∃v,cs[i]?=some v/\RV ρ H.gen w x v) (hX:Xct ty e 0 cs.size cells.length):
  Rel (updρ ρ H.next (w.heap.size,0)) (H.new (.blk 0 ty cells)) (w.alloc (.cells cs e))/\Ext ρ H w (updρ ρ H.next (w.heap.size,0)) (H.new (.blk 0 ty cells)) (w.alloc (.cells cs e)):=by
 have E:=Iw R (o:=.blk 0 ty cells) (co:=.cells cs e);refine⟨VR R ⟨cs,e,jA w _,by omega,?_,hX⟩,E⟩;refine pG (jA w _) λi x hx=> ?_;obtain⟨v,hv,h1⟩:=hc i x hx;exact⟨v,by simpa using hv,R.keep E h1⟩
theorem Dx {ρ:Ren}{H:ah}{w:World}(R:Rel ρ H w){r b sh sh' g':Nat}{ty':TypeId}{cells':List AV}{cs cs':Array Value}{e:TypeId}(hr:ρ r=some (b,sh))
  (hb:w.heap[b]?=some (.cells cs e (0,0))) (hz:cs'.size=cs.size) (hg:H.gen r<=g') (hsh:g'=H.gen r->sh'=sh) (hl:sh'+cells'.length<=cs.size)
  (hc:∀(i:Nat) (x:AV),cells'[i]?=some x->∃v,cs'[sh'+i]?=some v/\RV ρ H.gen w x v) (hX:Xct ty' e sh' cs'.size cells'.length):
  Rel (updρ ρ r (b,sh')) (H.put r (.blk g' ty' cells')) (jr w b (.cells cs' e (0,0)))/\Ext ρ H w (updρ ρ r (b,sh')) (H.put r (.blk g' ty' cells')) (jr w b (.cells cs' e (0,0))):=by
 have E:=VP (ρ:=ρ) (H:=H) (w:=w) (r:=r) (b:=b) (sh:=sh) (sh':=sh') (co:=.cells cs e (0,0)) (co':=.cells cs' e (0,0)) (o:=.blk g' ty' cells') hr hb (by simp [AB,hz]) hg hsh;refine⟨VQ R hr E ⟨cs',e,kM (R.block hr),by omega,?_,hX⟩,E⟩;refine pG (kM (R.block hr)) λi x hx=> ?_;obtain⟨v,hv,h1⟩:=hc i x hx;exact⟨v,hv,R.keep E h1⟩
theorem Iy {ρ:Ren}{H:ah}{w:World}(R:Rel ρ H w){r b:Nat}{k:IntKind}{es es':List (Int × AV)}{ces Z9:Array MapEntry}{cl cl':Nat}(hr:ρ r=some (b,0))(hget:H.get r=.map k es)
  (hb:w.heap[b]?=some (.map ces cl)) (hc:RVm ρ H.gen w k es' Z9.toList) (hbn:Born Z9.toList cl'):
  Rel ρ (H.put r (.map k es')) (jr w b (.map Z9 cl'))/\Ext ρ H w ρ (H.put r (.map k es')) (jr w b (.map Z9 cl')):=by
 have hρ:updρ ρ r (b,0)=ρ:=by
  funext x;unfold updρ;split
  ·rename_i e;subst e;exact hr.symm
  ·rfl
 have hg0:H.gen r=0:=by simp [ah.gen,hget,fD.gen]
 have E:=VP (ρ:=ρ) (H:=H) (w:=w) (r:=r) (b:=b) (sh:=0) (sh':=0) (co:=.map ces cl) (co':=.map Z9 cl') (o:=.map k es') hr hb rfl (by simp [hg0]) (λ_=> rfl);have:=VQ R hr E ⟨Z9,cl',kM (R.block hr),rfl,RVm.mono E.toMono _ _ hc,hbn⟩;rw [hρ] at this E;exact⟨this,E⟩
def jY(cs:Array Value)(o:Nat):List Value->Array Value
 | []=> cs
 | v::vs=> jY (cs.setIfInBounds o v) (o+1) vs
theorem dU:∀(vs:List Value) (cs:Array Value) (o:Nat),(jY cs o vs).size=cs.size
 | [],_,_=> rfl
 | v::vs,cs,o=> by simp [jY,dU vs]
theorem kN:∀(vs:List Value) (cs:Array Value) (o i:Nat),o+vs.length<=cs.size->(jY cs o vs)[i]?=if o<=i/\i < o+vs.length then vs[i - o]? else cs[i]?
 | [],cs,o,i,h=> by
  simp only [jY,zam,zbp];rw [if_neg (by omega)]
 | v::vs,cs,o,i,h=> by
  simp only [zah] at h;simp only [jY,zah];rw [kN vs _ (o+1) i (by simp;omega)];by_cases h1:o=i
  ·subst h1;rw [if_neg (by omega),if_pos (by omega)];simp [show o < cs.size from by omega]
  ·by_cases h2:o+1<=i/\i < o+1+vs.length
   ·rw [if_pos h2,if_pos (by omega),show i - o=(i - (o+1))+1 from by omega];rfl
   ·rw [if_neg h2,if_neg (by omega),zbn h1]
theorem Dy {P:Program}{w:World}{b o:Nat}{cs:Array Value}{e:TypeId}{v:Value}(hb:w.heap[b]?=some (.cells cs e (0,0)))(ho:o < cs.size)(hv:v.oneCell'=true):
  (store ⟨b,o,none⟩ v).run P w=.ok () (jr w b (.cells (cs.setIfInBounds o v) e (0,0))):=by
 have hc:w.cell? ⟨b,o,none⟩=some cs[o]:=by simp [World.cell?,hb,ho]
 have hf:w.frozen? ⟨b,o,none⟩=false:=by simp [World.frozen?,hb]
 rw [run_store P w _ v _ hv,hc];simp only [hf,if_false,zal];have hlt:=lV hb;have:w.setCell ⟨b,o,none⟩ v=jr w b (.cells (cs.setIfInBounds o v) e (0,0)):=by
  simp only [World.setCell,jr]
  congr 1
  apply Array.ext_getElem?
  intro i;rw [Array.getElem?_modify];by_cases hi:b=i
  ·subst hi;rw [hb];simp [hlt]
  ·simp [hi,zbn hi]
 rw [this]
theorem jB {P:Program}{b o:Nat}{e:TypeId}:∀(vs:List Value) (w:World) (cs:Array Value) (i:Nat),w.heap[b]?=some (.cells cs e (0,0))->o+i+vs.length<=cs.size->(∀v∈vs,v.oneCell'=true)->
  (storeCells ⟨b,o,none⟩ vs i).run P w=.ok () (jr w b (.cells (jY cs (o+i) vs) e (0,0)))
 | [],w,cs,i,hb,_,_=> by simp [storeCells,jY,OT hb]
 | v::vs,w,cs,i,hb,hl,hv=> by
  simp only [zah] at hl;simp only [storeCells,Sem.run_bind,jq,Dy hb (show o+i < cs.size by omega) (hv v (by simp)),Result.andThen_ok];rw [jB vs _ (cs.setIfInBounds (o+i) v) (i+1) (kM (lV hb)) (by simp;omega) (λu hu=> hv u (by simp [hu])),Iu];rfl
theorem Uh {ρ:Ren}{G:Nat->Nat}{w:World}{x:AV}{v:Value}(hx:x.aU=true)(h:RV ρ G w x v):v.oneCell'=true:=by
 cases x with
 | s u=>
  simp only [RV] at h;subst h;cases v <;> simp_all [AV.aU,Value.oneCell']
 | ref r g off=> simp only [RV] at h;obtain⟨a,rfl,_⟩:=h;rfl
 | sl r g off esz len cap ex=> simp only [RV] at h;obtain⟨b,o,c,rfl,_⟩:=h;rfl
 | ip cells=> simp only [RV] at h;obtain⟨b,o,rfl,_⟩:=h;rfl
 | vs n esz cells=> simp only [RV] at h;obtain⟨b,o,c,rfl,_⟩:=h;rfl
 | mp r=> simp only [RV] at h;obtain⟨b,rfl,_⟩:=h;rfl
 | fn f a c=> simp only [RV] at h;obtain⟨a,c,rfl,_⟩:=h;rfl
 | agg l=> simp [AV.aU] at hx
 | tup l=> simp [AV.aU] at hx
theorem oJ {ρ:Ren}{G:Nat->Nat}{w:World}{xs:List AV}{l:List Value}(hx:xs.all AV.aU=true)(h:RVs ρ G w xs l):∀v∈l,v.oneCell'=true:=by
 intro v hv;obtain⟨i,hi,rfl⟩:=zdq hv;have hl:=bW h;have hxi:xs[i]?=some (xs[i]'(by omega)):=zab _;obtain⟨u,hu,h1⟩:=jD h hxi;rw [zab hi] at hu;cases hu;exact Uh (zaZ.1 hx _ (zdf _)) h1
theorem Iz {ρ:Ren}{G:Nat->Nat}{w:World}{x:AV}{v:Value}(h:RV ρ G w x v):RVs ρ G w x.cells v.cells.toList:=by
 cases x with
 | s u=> simp only [RV] at h;subst h;exact gy _
 | agg l=> simp only [RV] at h;obtain⟨cs,rfl,h1⟩:=h;exact h1
 | ref r g off=>
  have h':=h;simp only [RV] at h;obtain⟨a,rfl,_⟩:=h;exact iQ h' iT
 | sl r g off esz len cap ex=> have h':=h;simp only [RV] at h;obtain⟨b,o,c,rfl,_⟩:=h;exact iQ h' iT
 | ip cells=> have h':=h;simp only [RV] at h;obtain⟨b,o,rfl,_⟩:=h;exact iQ h' iT
 | vs n esz cells=> have h':=h;simp only [RV] at h;obtain⟨b,o,c,rfl,_⟩:=h;exact iQ h' iT
 | mp r=> have h':=h;simp only [RV] at h;obtain⟨b,rfl,_⟩:=h;exact iQ h' iT
 | fn f a c=> have h':=h;simp only [RV] at h;obtain⟨a,c,rfl,_⟩:=h;exact iQ h' iT
 | tup l=> have h':=h;simp only [RV] at h;obtain⟨cs,rfl,_⟩:=h;exact iQ h' iT
theorem uj(cells:List AV)(off:Nat)(xs:List AV)(h:off+xs.length<=cells.length)(i:Nat):(aG cells off xs)[i]?=if off<=i/\i < off+xs.length then xs[i - off]? else cells[i]?:=by
 unfold aG;rw [zcR];simp only [zav];rw [zbq (by omega)];by_cases h1:i < off
 ·rw [if_pos h1,if_neg (by omega),zay,if_pos h1]
 ·rw [if_neg h1,zcR];by_cases h2:i - off < xs.length
  ·rw [if_pos h2,if_pos (by omega)]
  ·rw [if_neg h2,if_neg (by omega),zaA]
   congr 1;omega
theorem iI(cells:List AV)(off:Nat)(xs:List AV)(h:off+xs.length<=cells.length):(aG cells off xs).length=cells.length:=by
 simp [aG];omega
def Ok(P:Program)(ρ:Ren)(H:ah)(w:World)(s:Sem Value)(v:AV)(H':ah):Prop:=
 ∃cv ρ' w',s.run P w=.ok cv w'/\Rel ρ' H' w'/\RV ρ' H'.gen w' v cv/\Ext ρ H w ρ' H' w'
def OkP(P:Program)(ρ:Ren)(G:Nat->Nat)(w:World)(s:Sem Value)(v:AV):Prop:=∃cv,s.run P w=.ok cv w/\RV ρ G w v cv
theorem OkP.ok {P:Program}{ρ:Ren}{H:ah}{w:World}{s:Sem Value}{v:AV}(h:OkP P ρ H.gen w s v)(R:Rel ρ H w):Ok P ρ H w s v H:=
 let⟨cv,h1,h2⟩:=h;⟨cv,ρ,w,h1,R,h2,Ext.refl _ _ _⟩
theorem kP {α:Type}{P:Program}{s:Sem α}{a:α}(h:iE P s=some a)(w:World):s.run P w=.ok a w:=by
 induction s with
 | pure b=> simp [iE] at h;subst h;rfl
 | program k ih=> exact ih P h
 | _=> simp [iE] at h
mutual
theorem FP {ρ:Ren}{G:Nat->Nat}{w:World}:∀(x:AV) (v u:Value),RV ρ G w x v->x.val?=some u->v=u
 | .s _,v,u,h,hu=> by simp only [RV] at h;simp only [AV.val?,zaa] at hu;rw [h,hu]
 | .agg l,v,u,h,hu=> by
  obtain⟨cs,rfl,h1⟩:=(by simpa only [RV] using h)
  simp only [AV.val?] at hu;cases hv:vals? l with
  | none=> simp [hv] at hu
  | some vs=> simp [hv] at hu;subst hu;rw [<-IB l _ _ h1 hv]
 | .tup l,v,u,h,hu=> by
  obtain⟨cs,rfl,h1⟩:=(by simpa only [RV] using h)
  simp only [AV.val?] at hu;cases hv:vals? l with
  | none=> simp [hv] at hu
  | some vs=> simp [hv] at hu;subst hu;rw [<-IB l _ _ h1 hv]
 | .ref ..,_,_,_,hu=> by simp [AV.val?] at hu
 | .sl ..,_,_,_,hu=> by simp [AV.val?] at hu
 | .ip ..,_,_,_,hu=> by simp [AV.val?] at hu
 | .vs ..,_,_,_,hu=> by simp [AV.val?] at hu
 | .mp ..,_,_,_,hu=> by simp [AV.val?] at hu
 | .fn ..,_,_,_,hu=> by simp [AV.val?] at hu
theorem IB {ρ:Ren}{G:Nat->Nat}{w:World}:∀(xs:List AV) (l us:List Value),RVs ρ G w xs l->vals? xs=some us->l=us
 | [],l,us,h,hu=> by simp only [RVs] at h;simp only [vals?,zaa] at hu;rw [h,hu]
 | x::xs,l,us,h,hu=> by
  obtain⟨y,ys,rfl,h1,h2⟩:=(by simpa only [RVs] using h)
  simp only [vals?] at hu;cases hx:x.val? with
  | none=> simp [hx] at hu
  | some v=>
   cases hxs:vals? xs with
   | none=> simp [hx,hxs] at hu
   | some vs=> simp [hx,hxs] at hu;subst hu;rw [FP x y v h1 hx,IB xs ys vs h2 hxs]
end
section
variable {P:Program}{ρ:Ren}{H H':ah}{w:World}{v:AV}
theorem rQ {f:Option fD->Option AV}{x:AV}(h:jT f x H=some (v,H')):f ((bD x).map H.get)=some v/\H'=H:=by
 unfold jT at h;cases hf:f ((bD x).map H.get) with
 | none=> rw [hf] at h;cases h
 | some u=> rw [hf] at h;simp only [zai,zaa,zae] at h;exact⟨by rw [h.1],h.2.symm⟩
theorem VU(R:Rel ρ H w){t:TypeId}{x:AV}{cx:Value}(hx:RV ρ H.gen w x cx)(h:OL P t x H=some (v,H')):H'=H/\OkP P ρ H.gen w (Instr.loadAt t cx) v:=by
 obtain⟨h',hh⟩:=rQ h
 clear h
 subst hh;have h:=h'
 clear h'
 refine⟨rfl,?_⟩;unfold aeL at h;cases x with
 | ref r g off=>
  simp only [bD,zai] at h;cases ho:H'.get r with
  | map k es=> simp [ho] at h
  | blk g' ty cells=>
   simp only [ho] at h;by_cases hg:g'=g
   ·rw [if_pos hg] at h;simp only [RV] at hx;obtain⟨a,rfl,_,h2⟩:=hx;obtain⟨b,sh,hr,rfl⟩:=h2 (by simp [ah.gen,ho,fD.gen,hg]);have qN:=R.obj r b sh hr;simp only [wH,ho] at qN;obtain⟨cs,e,_,_,hc,_⟩:=qN;obtain⟨cv,h3,h4⟩:=Dv (P:=P) hc h;exact⟨cv,by simp [Instr.loadAt,Instr.sureAddr,h3],h4⟩
   ·rw [if_neg hg] at h;cases h
 | ip cells=>
  simp only at h;simp only [RV] at hx;obtain⟨b,o,rfl,_,_,hc⟩:=hx;obtain⟨cv,h3,h4⟩:=Dv (P:=P) hc h;exact⟨cv,by simp [Instr.loadAt,Instr.sureAddr] at h3 ⊢;simp [h3],h4⟩
 | _=> simp at h
theorem bC {α:Type}(a:Array α):a.toList.length=a.size:=rfl
theorem aaj(R:Rel ρ H w){t:TypeId}{x y:AV}{cx cy:Value}(hx:RV ρ H.gen w x cx)(hy:RV ρ H.gen w y cy)(h:Kt P t x y H=some (v,H')):
  v=aO/\∃ρ' w',(Instr.storeAt t cx cy).run P w=.ok () w'/\Rel ρ' H' w'/\Ext ρ H w ρ' H' w':=by
 unfold Kt at h;cases x with
 | ref r g off=>
  simp only at h;cases ho:H.get r with
  | map k es=> simp [ho] at h
  | blk g' ty cells=>
   simp only [ho] at h;split at h
   ·rename_i hc;obtain⟨rfl,_,hs,hcell,hle⟩:=hc;simp only [zaa,zae] at h;obtain⟨rfl,rfl⟩:=h;simp only [RV] at hx;obtain⟨a,rfl,_,h2⟩:=hx;obtain⟨b,sh,hr,rfl⟩:=h2 (by simp [ah.gen,ho,fD.gen]);have qN:=R.obj r b sh hr;simp only [wH,ho] at qN;obtain⟨cs,e,hb,hz,hcc,hX⟩:=qN;have hyc:=Iz hy;have hlen:=bW hyc;rw [bC] at hlen;have hrun:=jB (P:=P) (o:=sh+off) cy.cells.toList w cs 0 hb (by rw [bC];omega) (oJ hcell hyc);have hgen:H.gen r=g':=by simp [ah.gen,ho,fD.gen]
    have hput:=Dx (ty':=ty) (cells':=aG cells off y.cells) (cs':=jY cs (sh+off) cy.cells.toList) (g':=g') (sh':=sh) R hr hb (dU _ _ _) (by omega) (λ_=> rfl)
     (by rw [iI _ _ _ hle];exact hz) (by
      intro i u hu;rw [uj _ _ _ hle] at hu;rw [kN _ _ _ _ (by rw [bC];omega),bC];by_cases hi:off<=i/\i < off+y.cells.length
      ·rw [if_pos hi] at hu;rw [if_pos (by omega),show sh+i - (sh+off)=i - off from by omega];exact jD hyc hu
      ·rw [if_neg hi] at hu;rw [if_neg (by omega)];exact uh hb hcc hu) (by rw [dU,iI _ _ _ hle];exact hX)
    refine⟨rfl,_,_,?_,hput.1,hput.2⟩;simp only [Instr.storeAt,Instr.sureAddr,storeVar,Sem.run_bind,Sem.run_pure,Result.andThen_ok,dV hs,hlen,ne_eq,not_true,if_false]
    simpa using hrun
   ·cases h
 | _=> simp at h
theorem KA(R:Rel ρ H w)(t:TypeId)(ht:t < fQ){cells:List AV}{cv:Value}(hc:RVs ρ H.gen w cells cv.cells.toList):
  Ok P ρ H w (do pure (.pointer (some (<-newVar t cv)))) (.ref H.next 0 0) (H.new (.blk 0 t cells)):=by
 have hn:=VT (e:=t) (ty:=t) (cells:=cells) (cs:=cv.cells) R (by rw [<-bC,bW hc];exact zac _) (λi x hx=> by
  obtain⟨u,hu,h1⟩:=jD hc hx;exact⟨u,by simpa using hu,h1⟩) (Xct.low ht (by have:=bW hc;rw [bC] at this;omega))
 refine⟨.pointer (some ⟨w.heap.size,0,none⟩),_,_,?_,hn.1,?_,hn.2⟩
 ·simp [newVar,newRow]
 ·simp only [RV];exact⟨_,rfl,by omega,λ_=> ⟨w.heap.size,0,by simp [updρ],by simp⟩⟩
theorem ahi(R:Rel ρ H w){t:TypeId}{x:AV}{cx:Value}(hx:RV ρ H.gen w x cx)(h:fM t x H=some (v,H')):Ok P ρ H w (Instr.box t cx) v H':=by
 unfold fM at h;split at h
 ·rename_i hh;simp only [zaa,zae] at h;obtain⟨rfl,rfl⟩:=h;exact KA R t hh.2 (Iz hx)
 ·cases h
theorem aak(R:Rel ρ H w){t:TypeId}(h:FK P t H=some (v,H')):Ok P ρ H w (Instr.alloc t true (.tuple #[])) v H':=by
 unfold FK wo at h;cases hz:xR P t with
 | none=> simp [hz] at h
 | some z=>
  simp only [hz,zai] at h;split at h
  ·simp only [zaa,zae] at h;obtain⟨rfl,rfl⟩:=h;obtain⟨cv,ρ',w',h1,h2,h3,h4⟩:=KA (P:=P) R t (rO hz) (cells:=z.cells.toList.map .s) (cv:=z) (gy _);exact⟨cv,ρ',w',by simpa [Instr.alloc,fK hz] using h1,h2,h3,h4⟩
  ·cases h
theorem Fv {f:Field}{n:Nat}{a:Addr}(h:szT P f.type=some (n+1)):(fieldPlace a f).run P w=.ok (a.add f.offset) w:=by
 simp [fieldPlace,dV h]
theorem KC {t:TypeId}{i:Nat}{x:AV}{cx:Value}(hx:RV ρ H.gen w x cx)(h:qJ P t x i=some v):OkP P ρ H.gen w (Instr.fieldAt t cx i) v:=by
 unfold qJ QK at h;cases hu:P.underlying t with
 | none=> simp [hu] at h
 | some d=>
  cases d with
  | struct fs=>
   simp only [hu] at h;cases hf:fs[i]? with
   | none=> simp [hf] at h
   | some f=>
    simp only [hf] at h;cases hs:szT P f.type with
    | none=> simp [hs] at h
    | some n=>
     cases n with
     | zero=> simp [hs] at h
     | succ n=>
      simp only [hs] at h;have hrun:∀a,(Instr.fieldAt t (.pointer (some a)) i).run P w=.ok (.pointer (some (a.add f.offset))) w:=λa=> by
       simp [Instr.fieldAt,run_underlying hu,hf,Instr.sureAddr,Fv hs]
      cases x with
      | ref r g off=>
       simp only [zaa] at h;subst h;simp only [RV] at hx;obtain⟨a,rfl,h1,h2⟩:=hx;refine⟨_,hrun a,?_⟩;simp only [RV];refine⟨_,rfl,h1,λhg=> ?_⟩;obtain⟨b,sh,hr,rfl⟩:=h2 hg;exact⟨b,sh,hr,by rw [jq,zcy]⟩
      | ip cells=>
       simp only [zaa] at h;subst h;simp only [RV] at hx;obtain⟨b,o,rfl,h1,h2,h3⟩:=hx;refine⟨_,hrun _,?_⟩;simp only [RV];exact⟨b,o+f.offset,by rw [jq],h1,h2,pF _ h3⟩
      | _=> simp at h
  | _=> simp [hu] at h
theorem KD(_R:Rel ρ H w){t:TypeId}{x i:AV}{cx ci:Value}(hx:RV ρ H.gen w x cx)(hi:RV ρ H.gen w i ci)(h:zA P t x i H=some (v,H')):
  H'=H/\OkP P ρ H.gen w (Instr.indexAt t cx ci) v:=by
 obtain⟨h',hh⟩:=rQ h
 clear h
 subst hh;have h:=h'
 clear h'
 refine⟨rfl,?_⟩;unfold FM at h;split at h
 ·rename_i e hu;split at h
  ·rename_i r g off esz len cap ex;split at h <;> first | (cases h;done) | skip
   rename_i k n;split at h <;> first | (cases h;done) | skip
   rename_i hc;obtain⟨hs,hg,h0,h1⟩:=hc;simp only [zaa] at h;subst h;simp only [RV] at hi hx;subst hi;obtain⟨b,o,c,rfl,q1,q2,q3,q4,q5⟩:=hx;obtain⟨sh,ty,m,hr,ho,hsh,hle⟩:=q5 hg;have ho':=ho (by omega);refine⟨.pointer (some ⟨b,o+n.toNat*esz,none⟩),?_,?_⟩
   ·simp [Instr.indexAt,asIntOf,run_underlying hu,dV hs,jq,h0,h1]
   ·simp only [RV];exact⟨_,rfl,q4,λ_=> ⟨b,sh,hr,by rw [ho',zcy]⟩⟩
  ·rename_i len esz cells;split at h <;> first | (cases h;done) | skip
   rename_i k n;split at h <;> first | (cases h;done) | skip
   rename_i hc;obtain⟨hs,h0,h1⟩:=hc;simp only [zaa] at h;subst h;simp only [RV] at hi hx;subst hi;obtain⟨b,o,c,rfl,q1,q2,q3,q4,q5⟩:=hx;refine⟨.pointer (some ⟨b,o+n.toNat*esz,none⟩),?_,?_⟩
   ·simp [Instr.indexAt,asIntOf,run_underlying hu,dV hs,jq,h0,h1]
   ·simp only [RV];exact⟨b,_,rfl,q3,q4,pF _ q5⟩
  ·cases h
 ·rename_i len e hu;split at h <;> first | (cases h;done) | skip
  rename_i m hs;split at h
  ·rename_i r g off;split at h <;> first | (cases h;done) | skip
   rename_i k n;split at h <;> first | (cases h;done) | skip
   rename_i hc;obtain⟨h0,h1⟩:=hc;simp only [zaa] at h;subst h;simp only [RV] at hi hx;subst hi;obtain⟨a,rfl,q1,q2⟩:=hx;refine⟨.pointer (some (a.add (n.toNat*m))),?_,?_⟩
   ·simp [Instr.indexAt,asIntOf,run_underlying hu,dV hs,h0,h1,Instr.sureAddr]
   ·simp only [RV];refine⟨_,rfl,q1,λhg=> ?_⟩;obtain⟨b,sh,hr,rfl⟩:=q2 hg;exact⟨b,sh,hr,by rw [jq,zcy]⟩
  ·rename_i cells;split at h <;> first | (cases h;done) | skip
   rename_i k n;split at h <;> first | (cases h;done) | skip
   rename_i hc;obtain⟨h0,h1⟩:=hc;simp only [zaa] at h;subst h;simp only [RV] at hi hx;subst hi;obtain⟨b,o,rfl,q1,q2,q3⟩:=hx;refine⟨.pointer (some ⟨b,o+n.toNat*m,none⟩),?_,?_⟩
   ·simp [Instr.indexAt,asIntOf,run_underlying hu,dV hs,h0,h1,Instr.sureAddr,jq]
   ·simp only [RV];exact⟨b,_,rfl,q1,q2,pF _ q3⟩
  ·cases h
 ·cases h
end
section
variable {P:Program}{ρ:Ren}{G:Nat->Nat}{w:World}{v:AV}
theorem BL {t:TypeId}{cells:List AV}{cs:Array Value}{off:Nat}(hc:RVs ρ G w cells cs.toList)(h:Fq P t cells off=some v):OkP P ρ G w (part t cs off) v:=by
 unfold Fq at h;cases ha:ahf P t with
 | none=> simp [ha] at h
 | some k=>
  cases hs:szT P t with
  | none=> simp [ha,hs] at h
  | some n=>
   cases k with
   | true=>
    simp [ha,hs] at h;obtain⟨hle,rfl⟩:=h;refine⟨.agg (cs.extract off (off+n)),by simp [part,xX ha,dV hs],?_⟩;simp only [RV];refine⟨_,rfl,?_⟩;have:=aag n (aah off hc);rw [Array.toList_extract]
    simpa [List.extract] using this
   | false=>
    simp [ha,hs] at h;obtain⟨cv,hcv,h1⟩:=jD hc h;refine⟨cv,?_,h1⟩;have:cs[off]?=some cv:=by simpa using hcv
    simp [part,xX ha,this]
theorem aal {t:TypeId}{i:Nat}{x:AV}{cx:Value}(hx:RV ρ G w x cx)(h:Ko P t x i=some v):OkP P ρ G w (Instr.field t cx i) v:=by
 unfold Ko QK at h;cases hu:P.underlying t with
 | none=> simp [hu] at h
 | some d=>
  cases d with
  | struct fs=>
   simp only [hu] at h;cases hf:fs[i]? with
   | none=> simp [hf] at h
   | some f=>
    simp only [hf] at h;split at h
    ·rename_i g cells hg;cases hg;simp only [RV] at hx;obtain⟨cs,rfl,h1⟩:=hx;obtain⟨cv,h2,h3⟩:=BL (P:=P) h1 h;exact⟨cv,by simp [Instr.field,run_underlying hu,hf,asAgg,h2],h3⟩
    ·rename_i g cs hg;cases hg;simp only [RV] at hx;subst hx;obtain⟨cv,h2,h3⟩:=BL (P:=P) (gy (ρ:=ρ) (G:=G) (w:=w) cs.toList) h;exact⟨cv,by simp [Instr.field,run_underlying hu,hf,asAgg,h2],h3⟩
    ·cases h
  | _=> simp [hu] at h
theorem aam {t:TypeId}{x i:AV}{cx ci:Value}(hx:RV ρ G w x cx)(hi:RV ρ G w i ci)(h:Kq P t x i=some v):OkP P ρ G w (Instr.index t cx ci) v:=by
 unfold Kq at h;split at h
 ·rename_i s k n hu;simp only [RV] at hx hi;subst hx hi;split at h
  ·rename_i b hb;simp only [zaa] at h;subst h;exact⟨.int .u8 b.toNat,by simp [Instr.index,asIntOf,run_underlying hu,hb],by simp only [RV]⟩
  ·cases h
 ·rename_i len e cells k n hu;simp only [RV] at hx hi;subst hi;obtain⟨cs,rfl,h1⟩:=hx;cases hs:szT P e with
  | none=> simp [hs] at h
  | some m=>
   simp only [hs] at h;split at h
   ·rename_i hc;obtain⟨cv,h2,h3⟩:=BL (P:=P) h1 h;exact⟨cv,by simp [Instr.index,asIntOf,run_underlying hu,dV hs,hc,h2],h3⟩
   ·cases h
 ·rename_i len e cs k n hu;simp only [RV] at hx hi;subst hx hi;cases hs:szT P e with
  | none=> simp [hs] at h
  | some m=>
   simp only [hs] at h;split at h
   ·rename_i hc;obtain⟨cv,h2,h3⟩:=BL (P:=P) (gy (ρ:=ρ) (G:=G) (w:=w) cs.toList) h;exact⟨cv,by simp [Instr.index,asIntOf,run_underlying hu,dV hs,hc,h2],h3⟩
   ·cases h
 ·cases h
theorem Ui {x:AV}{i:Nat}{cx:Value}(hx:RV ρ G w x cx)(h:aF x i=some v):OkP P ρ G w (Instr.extract cx i) v:=by
 unfold aF at h;split at h
 ·rename_i l;simp only [RV] at hx;obtain⟨cs,rfl,h1⟩:=hx;obtain⟨cv,hcv,h2⟩:=jD h1 h;have:cs[i]?=some cv:=by simpa using hcv
  exact⟨cv,by simp [Instr.extract,this],h2⟩
 ·rename_i vs;simp only [RV] at hx;subst hx;cases hv:vs[i]? with
  | none=> simp [hv] at h
  | some u=> simp [hv] at h;subst h;exact⟨u,by simp [Instr.extract,hv],by simp only [RV]⟩
 ·cases h
theorem aeN {c a b:AV}{cc ca cb:Value}(hc:RV ρ G w c cc)(ha:RV ρ G w a ca)(hb:RV ρ G w b cb)(h:bG c a b=some v):
  OkP P ρ G w (do pure (if<-asBool cc then ca else cb)) v:=by
 unfold bG at h;split at h
 ·simp only [RV] at hc;subst hc;simp only [zaa] at h;subst h;exact⟨ca,by simp [asBool],ha⟩
 ·simp only [RV] at hc;subst hc;simp only [zaa] at h;subst h;exact⟨cb,by simp [asBool],hb⟩
 ·cases h
theorem amn {op:UnOp}{x:AV}{cx:Value}(hx:RV ρ G w x cx)(h:unA P op x=some v):OkP P ρ G w (Op.unary op cx) v:=by
 unfold unA at h;cases hv:x.val? with
 | none=> simp [hv] at h
 | some a=>
  simp only [hv] at h;rw [FP x cx a hx hv];cases hp:iE P (Op.unary op a) with
  | none=> simp [hp] at h
  | some u=> simp [hp] at h;subst h;exact⟨u,kP hp w,by simp only [RV]⟩
theorem kF {t:TypeId}{cx cy:Value}{b:Bool}(h:∀d,(Op.equalIn (d+1) t cx cy).run P w=.ok b w):(Op.equal t cx cy).run P w=.ok b w:=h 9999
theorem QO {t:TypeId}{x y:AV}{cx cy:Value}{b:Bool}(hx:RV ρ G w x cx)(hy:RV ρ G w y cy)(h:J9 P t x y=some b):
  (Op.equal t cx cy).run P w=.ok b w/\(∀op u z,eqGuard op t u z cx cy=pure ())/\(binOp .eql t cx cy=(do pure (.bool (<-Op.equal t cx cy))))/\(binOp .neq t cx cy=(do pure (.bool (!(<-Op.equal t cx cy))))):=by
 unfold J9 at h;cases hu:P.underlying t with
 | none=> simp [hu] at h
 | some d=>
  cases d with
  | slice e=>
   simp only [hu] at h;split at h <;> first
    | (cases h;done)
    | (simp only [zaa] at h;subst h
       simp only [RV] at hx hy
       first
          | (obtain⟨_,_,_,rfl,_⟩:=hx;subst hy;exact⟨kF λd=> by simp [Op.equalIn,run_underlying hu],λop _ _=> by cases op <;> rfl,rfl,rfl⟩)
          | (obtain⟨_,_,_,rfl,_⟩:=hy;subst hx;exact⟨kF λd=> by simp [Op.equalIn,run_underlying hu],λop _ _=> by cases op <;> rfl,rfl,rfl⟩))
  | pointer e=>
   simp only [hu] at h;split at h <;> first
    | (cases h;done)
    | (simp only [zaa] at h;subst h
       simp only [RV] at hx hy
       first
          | (obtain⟨_,rfl,_⟩:=hx;subst hy;exact⟨kF λd=> by simp [Op.equalIn,run_underlying hu],λop _ _=> by cases op <;> rfl,rfl,rfl⟩)
          | (obtain⟨_,rfl,_⟩:=hy;subst hx;exact⟨kF λd=> by simp [Op.equalIn,run_underlying hu],λop _ _=> by cases op <;> rfl,rfl,rfl⟩)
          | (obtain⟨_,_,rfl,_⟩:=hx;subst hy;exact⟨kF λd=> by simp [Op.equalIn,run_underlying hu],λop _ _=> by cases op <;> rfl,rfl,rfl⟩)
          | (obtain⟨_,_,rfl,_⟩:=hy;subst hx;exact⟨kF λd=> by simp [Op.equalIn,run_underlying hu],λop _ _=> by cases op <;> rfl,rfl,rfl⟩))
  | map k e=>
   simp only [hu] at h;split at h <;> first
    | (cases h;done)
    | (simp only [zaa] at h;subst h
       simp only [RV] at hx hy
       first
          | (obtain⟨_,rfl,_⟩:=hx;subst hy;exact⟨kF λd=> by simp [Op.equalIn,run_underlying hu],λop _ _=> by cases op <;> rfl,rfl,rfl⟩)
          | (obtain⟨_,rfl,_⟩:=hy;subst hx;exact⟨kF λd=> by simp [Op.equalIn,run_underlying hu],λop _ _=> by cases op <;> rfl,rfl,rfl⟩))
  | func ps rs vd=>
   simp only [hu] at h;split at h <;> first
    | (cases h;done)
    | (simp only [zaa] at h;subst h
       simp only [RV] at hx hy
       first
          | (obtain⟨_,_,rfl,_⟩:=hx;subst hy;exact⟨kF λd=> by simp [Op.equalIn,run_underlying hu],λop _ _=> by cases op <;> rfl,rfl,rfl⟩)
          | (obtain⟨_,_,rfl,_⟩:=hy;subst hx;exact⟨kF λd=> by simp [Op.equalIn,run_underlying hu],λop _ _=> by cases op <;> rfl,rfl,rfl⟩))
  | _=> simp [hu] at h
theorem OV {op:BinOp}{t:TypeId}{a b:Value}{x y:Operand}(h:(eqGuard op t (.tmp 0) (.tmp 0) a b).run P w=.ok () w):(eqGuard op t x y a b).run P w=.ok () w:=by
 cases op <;> first
  | rfl
  | (cases a <;> first
    | rfl
    | (cases b <;> first
      | rfl
      | exact h
      | (cases x <;> cases y <;> first | rfl | exact h)))
theorem KG {z:Operand}(h:QL z=true):z=.const .nilIface:=by
 unfold QL at h;split at h
 ·rfl
 ·cases h
theorem OW {op:BinOp}{t:TypeId}{a:Value}{x:Operand}:eqGuard op t x (.const .nilIface) a .nilIface=eqGuard op t (.tmp 0) (.const .nilIface) a .nilIface:=by
 cases op <;> first
  | rfl
  | (cases a <;> first
    | rfl
    | (cases x <;> rfl))
theorem ahj {op:BinOp}{t:TypeId}{x y:AV}{cx cy:Value}{u z:Operand}(hx:RV ρ G w x cx)(hy:RV ρ G w y cy)(h:nV P op t x y=some v):
  OkP P ρ G w (do eqGuard op t u z cx cy;binOp op t cx cy) v:=by
 unfold nV at h;split at h
 ·rename_i a b ha hb;rw [FP x cx a hx ha,FP y cy b hy hb];cases hp:iE P (do eqGuard op t (.tmp 0) (.tmp 0) a b;binOp op t a b) with
  | none=> simp [hp] at h
  | some r=>
   simp [hp] at h;subst h;have hr:=kP hp w;rw [Sem.run_bind] at hr;cases hg:(eqGuard op t (.tmp 0) (.tmp 0) a b).run P w with
   | halt e w'=> rw [hg] at hr;cases hr
   | ok c w'=>
    have hgp:∀w,(eqGuard op t (.tmp 0) (.tmp 0) a b).run P w=.ok c w:=by
     have hb':∀{α β:Type} (s:Sem α) (f:α->Sem β) (r:β),iE P (s.bind f)=some r->∃a,iE P s=some a:=by
      intro α β s f r
      induction s with
      | pure a=> intro _;exact⟨a,rfl⟩
      | program k ih=> intro h;exact ih P h
      | _=> intro h;simp [Sem.bind,iE] at h
     obtain⟨c',hc'⟩:=hb' _ _ _ hp;intro w0;have h1:=kP hc' w0;have h2:=kP hc' w;rw [hg] at h2;cases h2;exact h1
    have hg':=OV (x:=u) (y:=z) (by simpa using hgp w);refine⟨r,?_,by simp only [RV]⟩;rw [Sem.run_bind,hg'];rw [hgp w] at hr;exact hr
 ·split at h
  ·cases hn:J9 P t x y with
   | none=> simp [hn] at h
   | some b=>
    simp [hn] at h;subst h;obtain⟨h1,h2,h3,h4⟩:=QO hx hy hn;exact⟨.bool b,by rw [h2,h3];simp [h1],by simp only [RV]⟩
  ·cases hn:J9 P t x y with
   | none=> simp [hn] at h
   | some b=>
    simp [hn] at h;subst h;obtain⟨h1,h2,h3,h4⟩:=QO hx hy hn;exact⟨.bool !b,by rw [h2,h4];simp [h1],by simp only [RV]⟩
  ·cases h
theorem aeO {op:BinOp}{t:TypeId}{x y:AV}{cx cy:Value}{u z:Operand}(hx:RV ρ G w x cx)(hy:RV ρ G w y cy)(hz:QL z=true->cy=.nilIface)(h:ahg P op t z x y=some v):
  OkP P ρ G w (do eqGuard op t u z cx cy;binOp op t cx cy) v:=by
 unfold ahg at h;split at h
 ·rename_i hn;have e:=hz hn;have ez:=KG hn;subst e ez;unfold aoH at h;split at h
  ·rename_i a ha;rw [FP x cx a hx ha,OW];cases hp:iE P (do eqGuard op t (.tmp 0) (.const .nilIface) a .nilIface;binOp op t a .nilIface) with
   | none=> simp [hp] at h
   | some r=>
    simp [hp] at h;subst h;exact⟨r,kP hp w,by simp only [RV]⟩
  ·cases h
 ·exact ahj hx hy h
theorem mQ {x:Option AV}{cx:Option Value}{d n:Nat}(hx:match x,cx with | some a,some c=> RV ρ G w a c | none,none=> True | _,_=> False)(h:iO x d=some n):
  (x=none/\cx=none/\n=d)∨∃k i,x=some (.s (.int k i))/\cx=some (.int k i)/\0<=i/\n=i.toNat:=by
 unfold iO at h;split at h
 ·cases cx with
  | none=> cases h;exact .inl ⟨rfl,rfl,rfl⟩
  | some c=> exact hx.elim
 ·rename_i k i;split at h
  ·cases cx with
   | none=> exact hx.elim
   | some c=>
    simp only [RV] at hx;subst hx;cases h;exact .inr ⟨k,i,rfl,rfl,‹_›,rfl⟩
  ·cases h
 ·cases h
theorem lD {k:IntKind}{i:Int}{y:Nat}{code:BoundsCode}(h0:0<=i)(h1:i<=y):(Instr.sliceBound (.int k i) y code).run P w=.ok i.toNat w:=
 run_sliceBound w k i y code h0 h1
end
section
variable {P:Program}{ρ:Ren}{H H':ah}{w:World}{v:AV}
def OX(ρ:Ren)(G:Nat->Nat)(w:World)(x:Option AV)(cx:Option Value):Prop:=match x,cx with | some a,some c=> RV ρ G w a c | none,none=> True | _,_=> False
theorem lF {s:Bool}{len c l h m:Nat}{clo chi cmx:Option Value}
  (hm:(cmx=none/\m=c)∨∃k i,cmx=some (.int k i)/\0<=i/\m=i.toNat/\m<=c)
  (hh:(chi=none/\cmx=none/\h=len)∨∃k i,chi=some (.int k i)/\0<=i/\h=i.toNat/\h<=m)
  (hl:(clo=none/\l=0)∨∃k i,clo=some (.int k i)/\0<=i/\l=i.toNat/\l<=h):(Instr.sliceBounds s len c clo chi cmx).run P w=.ok (l,h,m) w:=by
 rcases hm with⟨rfl,rfl⟩ | ⟨km,im,rfl,hm0,rfl,hm1⟩
 ·rcases hh with⟨rfl,_,rfl⟩ | ⟨kh,ih,rfl,hh0,rfl,hh1⟩
  ·rcases hl with⟨rfl,rfl⟩ | ⟨kl,il,rfl,hl0,rfl,hl1⟩
   ·simp [Instr.sliceBounds]
   ·have a1:il<=(h:Int):=by omega
    simp [Instr.sliceBounds,lD hl0 a1]
  ·have a2:ih<=(m:Int):=by omega
   rcases hl with⟨rfl,rfl⟩ | ⟨kl,il,rfl,hl0,rfl,hl1⟩
   ·simp [Instr.sliceBounds,lD hh0 a2]
   ·have a1:il<=(ih.toNat:Int):=by omega
    simp only [Instr.sliceBounds,Sem.run_bind,Sem.run_pure,Result.andThen_ok,lD hh0 a2];simp [lD hl0 a1]
 ·rcases hh with⟨_,h2,_⟩ | ⟨kh,ih,rfl,hh0,rfl,hh1⟩
  ·cases h2
  ·rcases hl with⟨rfl,rfl⟩ | ⟨kl,il,rfl,hl0,rfl,hl1⟩
   ·have a3:im<=(c:Int):=by omega
    have a2:ih<=(im.toNat:Int):=by omega
    simp only [Instr.sliceBounds,Sem.run_bind,Sem.run_pure,Result.andThen_ok,lD hm0 a3,lD hh0 a2]
   ·have a3:im<=(c:Int):=by omega
    have a2:ih<=(im.toNat:Int):=by omega
    have a1:il<=(ih.toNat:Int):=by omega
    simp only [Instr.sliceBounds,Sem.run_bind,Sem.run_pure,Result.andThen_ok,lD hm0 a3,lD hh0 a2,lD hl0 a1]
theorem lG {t e:TypeId}{len c l h m n:Nat}{a:Option Addr}{clo chi cmx:Option Value}(hu:P.underlying t=some (.slice e))(hs:szT P e=some n)
  (hb:(Instr.sliceBounds true len c clo chi cmx).run P w=.ok (l,h,m) w):
  (Instr.sliceAt t (.slice a len c) clo chi cmx).run P w=.ok (.slice (if m=l then a else a.map (·.add (l*n))) (h - l) (m - l)) w:=by
 simp only [Instr.sliceAt,Sem.run_bind,run_underlying hu,Result.andThen_ok,Instr.slice,hb,dV hs,Sem.run_pure]
theorem aan {t:TypeId}{x:AV}{lo hi mx:Option AV}{cx:Value}{clo chi cmx:Option Value}(hx:RV ρ H.gen w x cx)(hlo:OX ρ H.gen w lo clo)(hhi:OX ρ H.gen w hi chi)(hmx:OX ρ H.gen w mx cmx)
  (h:Kr P t x lo hi mx=some v):OkP P ρ H.gen w (Instr.sliceAt t cx clo chi cmx) v:=by
 unfold Kr at h;cases hu:P.underlying t with
 | none=> simp [hu] at h
 | some d=>
  cases d with
  | slice e=>
   simp only [hu] at h;split at h
   ·rename_i n hs;split at h <;> first | (cases h;done) | skip
    rename_i h1 h2 h3;split at h <;> first | (cases h;done) | skip
    rename_i hcond;simp only [zaa] at h;subst h;simp only [RV] at hx;subst hx;have b1:=mQ (x:=lo) hlo h1;have b2:=mQ (x:=hi) hhi h2;have b3:=mQ (x:=mx) hmx h3;refine⟨.slice none 0 0,?_,by simp only [RV]⟩;rw [lG hu hs (lF (l:=0) (h:=0) (m:=0) (by
       rcases b3 with⟨_,q,_⟩ | ⟨k,i,_,q,q0,q1⟩
       ·exact .inl ⟨q,rfl⟩
       ·exact .inr ⟨k,i,q,q0,q1,by omega⟩) (by
       rcases b2 with⟨p,q,_⟩ | ⟨k,i,_,q,q0,q1⟩
       ·refine .inl ⟨q,?_,rfl⟩;have:=hcond p;rcases b3 with⟨_,q',_⟩ | ⟨k,i,p',_⟩
        ·exact q'
        ·rw [this] at p';cases p'
       ·exact .inr ⟨k,i,q,q0,q1,by omega⟩) (by
       rcases b1 with⟨_,q,_⟩ | ⟨k,i,_,q,q0,q1⟩
       ·exact .inl ⟨q,rfl⟩
       ·exact .inr ⟨k,i,q,q0,q1,by omega⟩))]
    simp
   ·rename_i r g off esz len cap ex m hs;split at h <;> first | (cases h;done) | skip
    rename_i l hh k h1 h2 h3;split at h <;> first | (cases h;done) | skip
    rename_i hcond;obtain⟨rfl,c1,c2,c3,c4⟩:=hcond;simp only [zaa] at h;subst h;simp only [RV] at hx;obtain⟨b,o,c,rfl,q1,q2,q3,q4,q5⟩:=hx;have b1:=mQ (x:=lo) hlo h1;have b2:=mQ (x:=hi) hhi h2;have b3:=mQ (x:=mx) hmx h3
    -- the capacity then
    obtain⟨m,hm,hkm,hmc,hex⟩:∃m,((cmx=none/\m=c)∨∃k i,cmx=some (.int k i)/\0<=i/\m=i.toNat/\m<=c)/\k<=m/\m<=c/\((ex || !isNone mx)=true->m=k):=by
     rcases b3 with⟨p,q,r⟩ | ⟨k',i,p,q,q0,r⟩
     ·refine⟨c,.inl ⟨q,rfl⟩,by omega,zac _,λhx=> ?_⟩;subst p;simp [isNone] at hx;rw [q3 hx,r]
     ·exact⟨k,.inr ⟨k',i,q,q0,r,by omega⟩,zac _,by omega,λ_=> rfl⟩
    have hb:=lF (P:=P) (w:=w) (s:=true) (len:=len) (c:=c) (l:=l) (h:=hh) (m:=m) hm (by
       rcases b2 with⟨p,q,r⟩ | ⟨k',i,_,q,q0,r⟩
       ·refine .inl ⟨q,?_,r⟩;have:=c4 p;rcases b3 with⟨_,q',_⟩ | ⟨_,_,p',_⟩
        ·exact q'
        ·rw [this] at p';cases p'
       ·exact .inr ⟨k',i,q,q0,r,by omega⟩) (by
       rcases b1 with⟨_,q,r⟩ | ⟨k',i,_,q,q0,r⟩
       ·exact .inl ⟨q,r⟩
       ·exact .inr ⟨k',i,q,q0,r,by omega⟩)
    refine⟨_,lG hu hs hb,?_⟩;simp only [RV];by_cases hml:m=l
    ·refine⟨b,o,m - l,by simp [hml],by omega,by omega,λhx=> by rw [hex hx],q4,λhg=> ?_⟩;obtain⟨sh,ty,n,p1,p2,p3,p4⟩:=q5 hg;refine⟨sh,ty,n,p1,λhc=> by omega,p3,?_⟩;have:(m - l)*esz<=c*esz:=zaz _ (by omega);omega
    ·refine⟨b,o+l*esz,m - l,by simp [hml,jq],by omega,by omega,λhx=> by rw [hex hx],q4,λhg=> ?_⟩;obtain⟨sh,ty,n,p1,p2,p3,p4⟩:=q5 hg;refine⟨sh,ty,n,p1,λ_=> by rw [p2 (by omega)];omega,p3,?_⟩;have:l*esz+(m - l)*esz<=c*esz:=by rw [<-zbx];exact zaz _ (by omega)
     omega
   ·rename_i n esz cells m hs;split at h <;> first | (cases h;done) | skip
    rename_i l hh h1 h2;split at h <;> first | (cases h;done) | skip
    rename_i hcond;obtain⟨rfl,c1,c2⟩:=hcond;simp only [zaa] at h;subst h;simp only [RV] at hx;obtain⟨b,o,c,rfl,q1,q2,q3,q4,q5⟩:=hx;have b1:=mQ (x:=lo) hlo h1;have b2:=mQ (x:=hi) hhi h2;have hmn:cmx=none:=by
     cases cmx with
     | none=> rfl
     | some c=> exact hmx.elim
    have hb:=lF (P:=P) (w:=w) (s:=true) (len:=n) (c:=c) (l:=l) (h:=hh) (m:=c) (.inl ⟨hmn,rfl⟩) (by
       rcases b2 with⟨p,q,r⟩ | ⟨k',i,_,q,q0,r⟩
       ·exact .inl ⟨q,hmn,r⟩
       ·exact .inr ⟨k',i,q,q0,r,by omega⟩) (by
       rcases b1 with⟨_,q,r⟩ | ⟨k',i,_,q,q0,r⟩
       ·exact .inl ⟨q,r⟩
       ·exact .inr ⟨k',i,q,q0,r,by omega⟩)
    refine⟨_,lG hu hs hb,?_⟩;simp only [RV];have hlen:(List.take ((hh - l)*esz) (List.drop (l*esz) cells)).length=(hh - l)*esz:=by
     simp only [zav,zaN,q2];have:(hh - l)*esz+l*esz<=n*esz:=by rw [<-zbx];exact zaz _ (by omega)
     omega
    by_cases hml:c=l
    ·have:hh - l=0:=by omega
     refine⟨b,o,c - l,by simp [hml],by omega,hlen,q3,q4,?_⟩;rw [this];simp [RVc]
    ·exact⟨b,o+l*esz,c - l,by simp [hml,jq],by omega,hlen,q3,q4,rM _ (pF _ q5)⟩
   ·cases h
  | string=>
   simp only [hu] at h;split at h
   ·rename_i s l h1;split at h <;> first | (cases h;done) | skip
    rename_i hh h2;split at h <;> first | (cases h;done) | skip
    rename_i hcond;simp only [zaa] at h;subst h;simp only [RV] at hx;subst hx;have b1:=mQ (x:=lo) hlo h1;have b2:=mQ (x:=hi) hhi h2;have hmn:cmx=none:=by
     cases cmx with
     | none=> rfl
     | some c=> exact hmx.elim
    subst hmn;have hb:=lF (P:=P) (w:=w) (s:=false) (len:=s.size) (c:=s.size) (l:=l) (h:=hh) (m:=s.size) (.inl ⟨rfl,rfl⟩) (by
       rcases b2 with⟨p,q,r⟩ | ⟨k',i,_,q,q0,r⟩
       ·exact .inl ⟨q,rfl,r⟩
       ·exact .inr ⟨k',i,q,q0,r,by omega⟩) (by
       rcases b1 with⟨_,q,r⟩ | ⟨k',i,_,q,q0,r⟩
       ·exact .inl ⟨q,r⟩
       ·exact .inr ⟨k',i,q,q0,r,by omega⟩)
    refine⟨.string (s.extract l hh),?_,by simp only [RV]⟩;simp only [Instr.sliceAt,Sem.run_bind,run_underlying hu,Result.andThen_ok,Instr.slice,zaB,zal,if_false,hb,Sem.run_pure]
   ·cases h
  | _=> simp [hu] at h
end
theorem vF(off:Nat):∀(l:List Value) (k:Nat) (cs:Array Value),(l.zipIdx k).foldl (λcs (p:Value × Nat)=> cs.setIfInBounds (off+p.2) p.1) cs=jY cs (off+k) l
 | [],_,_=> rfl
 | v::l,k,cs=> by
  simp only [List.zipIdx_cons,zbI,jY];exact vF off l (k+1) _
section
variable {P:Program}{ρ:Ren}{G:Nat->Nat}{H H':ah}{w:World}{v:AV}
theorem VW {cells xs:List AV}{cs vs:List Value}{off:Nat}(hc:RVs ρ G w cells cs)(hx:RVs ρ G w xs vs)(hle:off+xs.length<=cells.length):RVs ρ G w (aG cells off xs) (jY cs.toArray off vs).toList:=by
 have h1:=bW hc;have h2:=bW hx;refine qL (by rw [iI _ _ _ hle,bC,dU];simp [h1]) λi x hi=> ?_;rw [uj _ _ _ hle] at hi;have hset:=kN vs cs.toArray off i (by simp;omega);rw [h2] at hset;by_cases hlt:off<=i/\i < off+xs.length
 ·rw [if_pos hlt] at hi hset;obtain⟨u,hu,h3⟩:=jD hx hi;exact⟨u,by rw [zcL,hset,hu],h3⟩
 ·rw [if_neg hlt] at hi hset;obtain⟨u,hu,h3⟩:=jD hc hi;exact⟨u,by rw [zcL,hset];simpa using hu,h3⟩
theorem Dz {place:Nat->Option (Nat × Nat)}:∀(parts:List (Nat × AV)) (nS:List (Nat × Value)) (cells:List AV) (cs:Array Value) (cells':List AV),
  parts.map (·.1)=nS.map (·.1)->RVs ρ G w (parts.map (·.2)) (nS.map (·.2))->RVs ρ G w cells cs.toList->fJ place cells parts=some cells'->
  ∃cs',Instr.fill place cs nS=some cs'/\RVs ρ G w cells' cs'.toList
 | [],[],cells,cs,cells',_,_,hc,h=> by
  simp only [fJ,zaa] at h;subst h;exact⟨cs,rfl,hc⟩
 | [],_::_,_,_,_,hi,_,_,_=> by simp at hi
 | _::_,[],_,_,_,hi,_,_,_=> by simp at hi
 | (i,x)::parts,(j,y)::nS,cells,cs,cells',hi,hp,hc,h=> by
  simp only [zaC,zbJ] at hi;obtain⟨rfl,hi⟩:=hi;simp only [zaC,RVs] at hp;obtain⟨_,_,e,h1,h2⟩:=hp;cases e;simp only [fJ] at h;cases hpl:place i with
  | none=> simp [hpl] at h
  | some os=>
   obtain⟨off,size⟩:=os;simp only [hpl] at h;split at h
   ·rename_i hcond;obtain⟨hs,hle⟩:=hcond;have hcells:=Iz h1;have hlen:=bW hcells;rw [bC] at hlen;have amo:=bW hc;rw [bC] at amo;have hset:=VW hc hcells hle;obtain⟨cs',h3,h4⟩:=Dz parts nS _ _ cells' hi h2 hset h;refine⟨cs',?_,h4⟩;simp only [Instr.fill,hpl];rw [if_neg (by simp;omega)];rw [<-h3]
    congr 1
    rw [<-zcB,zdr];exact vF off y.cells.toList 0 _
   ·cases h
theorem Uj {fs:Array Field}(h:fs.all (λf=> (szT P f.type).isSome)=true):
  (fs.mapM λf=> do pure (f.offset,<-sizeOf f.type):Sem (Array (Nat × Nat))).run P w=.ok (fs.map λf=> (f.offset,(szT P f.type).getD 0)) w:=by
 rw [Array.mapM_eq_mapM_toList];have key:∀l:List Field,(∀f∈l,(szT P f.type).isSome=true)->(l.mapM λf=> do pure (f.offset,<-sizeOf f.type):Sem (List (Nat × Nat))).run P w=.ok (l.map λf=> (f.offset,(szT P f.type).getD 0)) w:=by
  intro l
  induction l with
  | nil=> intro _;simp
  | cons f l ih=>
   intro hl;have h0:=hl f (by simp);cases hs:szT P f.type with
   | none=> simp [hs] at h0
   | some n=>
    rw [zbv];simp only [Sem.run_bind,dV hs,Sem.run_pure,Result.andThen_ok,ih (λg hg=> hl g (by simp [hg])),zaC,hs,zat]
 rw [Sem.run_map,key fs.toList (λf hf=> by
  have:=zcC.1 h f (by simpa using hf);exact this)]
 simp only [Result.andThen_ok]
 congr 1
 exact(zb7.1 (by simp))
theorem aao {t:TypeId}{parts:List (Nat × AV)}{nS:Array (Nat × Value)}(hi:parts.map (·.1)=nS.toList.map (·.1))(hp:RVs ρ G w (parts.map (·.2)) (nS.toList.map (·.2)))
  (h:gG P t parts=some v):OkP P ρ G w (Instr.build t nS) v:=by
 unfold gG wo at h;cases hz:xR P t with
 | none=> simp [hz] at h
 | some z=>
  cases hu:P.underlying t with
  | none=> simp [hz,hu] at h
  | some d=>
   cases d with
   | struct fs=>
    simp only [hz,hu,zai] at h;split at h
    ·rename_i hall;cases hf:fJ (J8 P fs) (z.cells.toList.map .s) parts with
     | none=> simp [hf] at h
     | some cells=>
      simp only [hf,zai,zaa] at h;subst h;obtain⟨cs,h1,h2⟩:=Dz (ρ:=ρ) (G:=G) (w:=w) parts nS.toList _ z.cells cells hi hp (gy _) hf;refine⟨.agg cs,?_,by simp only [RV];exact⟨cs,rfl,h2⟩⟩;have ahk:(λi=> (fs.map λf=> (f.offset,(szT P f.type).getD 0))[i]?)=J8 P fs:=by
       funext i
       simp only [J8,Array.getElem?_map];cases hfi:fs[i]? with
       | none=> simp
       | some f=>
        have h0:=zcC.1 hall f (Array.mem_of_getElem? hfi);cases hs:szT P f.type with
        | none=> simp [hs] at h0
        | some n=> simp [hs]
      simp only [Instr.build,Sem.run_bind,fK hz,run_underlying hu,Result.andThen_ok,Uj hall];rw [ahk,h1];simp
    ·cases h
   | array n e=>
    simp only [hz,hu,zai] at h;cases hs:szT P e with
    | none=> simp [hs] at h
    | some m=>
     simp only [hs] at h;cases hf:fJ (λi=> some (i*m,m)) (z.cells.toList.map .s) parts with
     | none=> simp [hf] at h
     | some cells=>
      simp only [hf,zai,zaa] at h;subst h;obtain⟨cs,h1,h2⟩:=Dz (ρ:=ρ) (G:=G) (w:=w) parts nS.toList _ z.cells cells hi hp (gy _) hf;refine⟨.agg cs,?_,by simp only [RV];exact⟨cs,rfl,h2⟩⟩;simp only [Instr.build,Sem.run_bind,fK hz,run_underlying hu,Result.andThen_ok,dV hs,h1,Sem.run_pure]
   | _=> simp [hz,hu] at h
theorem FQ(z:List AV)(hz:0 < z.length):∀(n i:Nat),i < n*z.length->(dI z n)[i]?=z[i % z.length]?
 | 0,i,h=> by simp at h
 | n+1,i,h=> by
  simp only [dI];rw [zcR];by_cases hi:i < z.length
  ·rw [if_pos hi,zct hi]
  ·have hmod:(i - z.length) % z.length=i % z.length:=by rw [Nat.mod_eq_sub_mod (a:=i) (by omega)]
   rw [if_neg hi,FQ z hz n (i - z.length) (by rw [zbx,zbm] at h;omega),hmod]
theorem iJ(z:List AV):∀n,(dI z n).length=n*z.length
 | 0=> by simp [dI]
 | n+1=> by simp [dI,iJ z n,zbx];omega
theorem um(z:Value)(n:Nat):RVs ρ G w (dI (z.cells.toList.map .s) n) ((Array.range (n*z.cells.size)).map (z.cells[· % z.cells.size]!)).toList:=by
 have hl:(z.cells.toList.map AV.s).length=z.cells.size:=by simp
 refine qL (by rw [iJ,hl];simp) λi x hx=> ?_;have hi:i < n*z.cells.size:=by
  rcases zaW i (n*z.cells.size) with h | h
  ·exact h
  ·rw [zaK (by rw [iJ,hl];exact h)] at hx;cases hx
 have hpos:0 < z.cells.size:=by
  rcases Nat.eq_zero_or_pos z.cells.size with h | h
  ·rw [h,Nat.mul_zero] at hi;omega
  ·exact h
 rw [FQ _ (by rw [hl];exact hpos) n i (by rw [hl];exact hi),hl] at hx;have hm:i % z.cells.size < z.cells.size:=Nat.mod_lt _ hpos;refine⟨z.cells[i % z.cells.size],?_,?_⟩
 ·simp [hi,hm]
 ·have:x=.s z.cells[i % z.cells.size]:=by
   simp [hm] at hx;exact hx.symm
  subst this;simp only [RV]
theorem mV {t e:TypeId}(h:Fp P t=some e):P.underlying t=some (.slice e):=by
 unfold Fp at h;split at h
 ·rename_i hu;cases h;exact hu
 ·cases h
theorem xY {t:TypeId}{z:List AV}(h:wo P t=some z):∃v,xR P t=some v/\z=v.cells.toList.map .s:=by
 unfold wo at h;cases hz:xR P t with
 | none=> simp [hz] at h
 | some v=> simp [hz] at h;exact⟨v,rfl,h.symm⟩
theorem rU(R:Rel ρ H w){e:TypeId}{cells:List AV}{cs:Array Value}{m len cap c:Nat}{ex:Bool}(hc:RVs ρ H.gen w cells (cs.toList.take cells.length))(hle:cells.length<=cs.size)(h1:len<=cap)(h2:cap<=c)(h3:ex=true->c=cap)(h4:c*m<=cs.size){ty:TypeId}(hX:Xct ty e 0 cs.size cells.length):
  ∃ρ',Rel ρ' (H.new (.blk 0 ty cells)) (w.alloc (.cells cs e))/\RV ρ' (H.new (.blk 0 ty cells)).gen (w.alloc (.cells cs e)) (.sl H.next 0 0 m len cap ex) (.slice (some ⟨w.heap.size,0,none⟩) len c)/\Ext ρ H w ρ' (H.new (.blk 0 ty cells)) (w.alloc (.cells cs e)):=by
 have hn:=VT (e:=e) (ty:=ty) (cells:=cells) (cs:=cs) R hle (λi x hx=> by
  obtain⟨u,hu,h5⟩:=jD hc hx;rw [zay] at hu;split at hu
  ·exact⟨u,by simpa using hu,h5⟩
  ·cases hu) hX
 refine⟨_,hn.1,?_,hn.2⟩;simp only [RV];refine⟨w.heap.size,0,c,rfl,h1,h2,h3,by omega,λ_=> ⟨0,e,cs.size,by simp [updρ],λ_=> rfl,?_,by omega⟩⟩;rw [dY,jA];rfl
theorem VX {xs:List AV}{l:List Value}(h:RVs ρ G w xs l):RVs ρ G w xs (l.take xs.length):=by
 rw [zaE (by rw [bW h];exact zac _)];exact h
theorem IC(R:Rel ρ H w){t:TypeId}{len:Nat}{parts:List (Nat × AV)}{nS:Array (Nat × Value)}(hi:parts.map (·.1)=nS.toList.map (·.1))(hp:RVs ρ H.gen w (parts.map (·.2)) (nS.toList.map (·.2)))
  (h:dn P t len parts H=some (v,H')):Ok P ρ H w (Instr.buildSlice t len nS) v H':=by
 unfold dn at h;cases he:Fp P t with
 | none=> simp [he] at h
 | some e=>
  simp only [he] at h;cases hs:szT P e with
  | none=> simp [hs] at h
  | some m=>
   cases hz:wo P e with
   | none=> simp [hs,hz] at h
   | some z=>
    simp only [hs,hz] at h;obtain⟨zv,hzv,rfl⟩:=xY hz;split at h <;> first | (cases h;done) | skip
    rename_i hcond;obtain⟨hzl,hbig⟩:=hcond;simp at hzl;split at h <;> first | (cases h;done) | skip
    rename_i cells hf;split at h <;> first | (cases h;done) | skip
    simp only [zaa,zae] at h;obtain⟨rfl,rfl⟩:=h
    -- the zero cells
    obtain⟨zc,hzr,hz0⟩:∃zc:Array Value,RVs ρ H.gen w (dI (zv.cells.toList.map .s) len) ((Array.range (len*m)).map (zc[· % zc.size]!)).toList/\((len*m=0/\zc=#[])∨(¬len*m=0/\zc=zv.cells)):=by
     by_cases h0:len*m=0
     ·refine⟨#[],?_,.inl ⟨h0,rfl⟩⟩;rw [h0];have:dI (zv.cells.toList.map .s) len=[]:=zan (by rw [iJ];simp [hzl,h0]);rw [this];simp [RVs]
     ·refine⟨zv.cells,?_,.inr ⟨h0,rfl⟩⟩;have:=um (ρ:=ρ) (G:=H.gen) (w:=w) zv len;rw [hzl] at this ⊢;exact this
    obtain⟨cs,h1,h2⟩:=Dz parts nS.toList _ _ cells hi hp hzr hf;have hlen:=bW h2;have hfl:cs.size=len*m:=by
     have hsz:∀(place:Nat->Option (Nat × Nat)) (l:List (Nat × Value)) (a b:Array Value),Instr.fill place a l=some b->b.size=a.size:=by
      intro place l
      induction l with
      | nil=> intro a b h;simp [Instr.fill] at h;rw [h]
      | cons p l ih=>
       intro a b h;obtain⟨i,x⟩:=p;simp only [Instr.fill] at h;split at h
       ·cases h
       ·split at h
        ·cases h
        ·rw [ih _ _ h,<-zcB,zdr,vF,dU]
     rw [hsz _ _ _ _ h1];simp
    obtain⟨ρ',q1,q2,q3⟩:=rU (ty:=e) (hX:=Xct.low (rO hzv) (by have:=hlen;rw [bC] at this;omega)) (e:=e) (cells:=cells) (cs:=cs) (m:=m) (len:=len) (cap:=len) (c:=len) (ex:=true) R (VX h2) (by rw [<-hlen,bC];exact zac _) (zac _) (zac _) (λ_=> rfl) (by rw [hfl];exact zac _);refine⟨_,ρ',_,?_,q1,q2,q3⟩;have hnb:¬len*m > 2 ^ 24:=by omega
    simp only [Instr.buildSlice,Sem.run_bind,run_underlying (mV he),Result.andThen_ok,dV hs,hnb,if_false];rcases hz0 with⟨h0,rfl⟩ | ⟨h0,rfl⟩
    ·rw [if_pos h0];simp only [Result.andThen_ok,h1,Sem.run_bind,newRow,run_newObj,Sem.run_pure];rfl
    ·rw [if_neg h0];simp only [Result.andThen_ok,h1,Sem.run_bind,newRow,run_newObj,Sem.run_pure,fK hzv];rfl
theorem KI(R:Rel ρ H w){t:TypeId}{x y:AV}{cx cy:Value}(hx:RV ρ H.gen w x cx)(hy:RV ρ H.gen w y cy)(h:oq P t x y H=some (v,H')):Ok P ρ H w (Instr.makeSlice t cx cy) v H':=by
 unfold oq at h;split at h <;> first | (cases h;done) | skip
 rename_i e k1 l k2 c he;simp only [RV] at hx hy;subst hx hy;cases hs:szT P e with
 | none=> simp [hs] at h
 | some m=>
  cases hb:wI P e with
  | none=> simp [hs,hb] at h
  | some by_=>
   cases hz:wo P e with
   | none=> simp [hs,hb,hz] at h
   | some z=>
    simp only [hs,hb,hz] at h;obtain⟨zv,hzv,rfl⟩:=xY hz;split at h <;> first | (cases h;done) | skip
    rename_i hcond;obtain⟨hzl,hcell,h0,h1,h2,h3⟩:=hcond;simp at hzl;simp only [zaa,zae] at h;obtain⟨rfl,rfl⟩:=h;cases aeP:P.info? e with
    | none=> simp [szT,aeP] at hs
    | some inf=>
     simp [szT,aeP] at hs;simp [wI,aeP] at hb;have hzi:inf.zero=some zv:=by simpa [aeP] using aai hzv
     have hrun:=run_make (P:=P) (w:=w) t e inf zv (mV he) aeP hzi k1 k2 l c h0 h1 (by rw [hb];omega) (by omega);have acy:=um (ρ:=ρ) (G:=H.gen) (w:=w) zv c.toNat;have heq:((Array.range (c.toNat*zv.cells.size)).map (zv.cells[· % zv.cells.size]!))=madeCells zv.cells (c.toNat*inf.size):=by
      rw [madeCells,hs,hzl]
     have hml:(madeCells zv.cells (c.toNat*inf.size)).size=c.toNat*m:=by rw [size_madeCells,hs]
     have hzz:(dI (zv.cells.toList.map .s) c.toNat).length=c.toNat*m:=by rw [iJ];simp [hzl]
     obtain⟨ρ',q1,q2,q3⟩:=rU (ty:=e) (hX:=Xct.low (rO hzv) (by rw [hml,hzz])) (e:=e) (cells:=dI (zv.cells.toList.map .s) c.toNat) (cs:=madeCells zv.cells (c.toNat*inf.size)) (m:=m) (len:=l.toNat) (cap:=c.toNat) (c:=c.toNat) (ex:=true) R
      (VX (by rw [heq] at acy;exact acy)) (by rw [hml,hzz];exact zac _) (by omega) (zac _) (λ_=> rfl) (by rw [hml];exact zac _)
     exact⟨_,ρ',_,hrun,q1,q2,q3⟩
end
section
variable {P:Program}{ρ:Ren}{G:Nat->Nat}{H H':ah}{w:World}{v:AV}
theorem OY {t:TypeId}{k:IntKind}{e:TypeId}(h:ag7 P t=some (k,e)):∃kt,P.underlying t=some (.map kt e)/\P.underlying kt=some (.int k):=by
 unfold ag7 at h;split at h
 ·rename_i kt e' hu;split at h
  ·rename_i ik hk;simp only [zaa,zae] at h;obtain⟨rfl,rfl⟩:=h;exact⟨kt,hu,hk⟩
  ·cases h
 ·cases h
theorem lW {b:Nat}{ces:Array MapEntry}{cl:Nat}(h:w.heap[b]?=some (.map ces cl)):(getObj b).run P w=.ok (.map ces cl) w:=by
 simp [getObj,Sem.run,h]
theorem vG {b:Nat}{ces:Array MapEntry}{cl:Nat}{o:Obj}(h:w.heap[b]?=some (.map ces cl)):(setObj b o).run P w=.ok () (jr w b o):=by
 simp [setObj,Sem.run,h,jr]
theorem uo {kt:TypeId}{k:IntKind}{n:Int}(hk:P.underlying kt=some (.int k))(e:Bool)(d:Nat):(Instr.checkKey e (d+1) kt (.int k n)).run P w=.ok () w:=by
 simp [Instr.checkKey,run_underlying hk]
theorem pI {k:IntKind}{n:Int}:∀(es:List (Int × AV)) (l:List MapEntry) (i:Nat),RVm ρ G w k es l->oD es n=none->Instr.findNow (.int k) (.int k n) l i=some none
 | [],l,i,h,_=> by simp only [RVm] at h;subst h;rfl
 | (m,x)::es,l,i,h,hf=> by
  obtain⟨e,l',rfl,hk,_,h2⟩:=(by simpa only [RVm] using h)
  simp only [oD] at hf;split at hf
  ·cases hf
  ·rename_i hne;simp only [Instr.findNow,hk,Instr.sameNow];have:(n==m)=false:=by simp;omega
   simp [this,pI es l' (i+1) h2 hf]
theorem pJ {k:IntKind}{n:Int}{x:AV}:∀(es:List (Int × AV)) (l:List MapEntry) (i:Nat),RVm ρ G w k es l->oD es n=some x->
  ∃j e,Instr.findNow (.int k) (.int k n) l i=some (some (i+j,e.val))/\l[j]?=some e/\e.key=.int k n/\RV ρ G w x e.val/\
   (∀y cy,RV ρ G w y cy->RVm ρ G w k (Io es n y) (l.modify j λe=> { e with key:=.int k n,val:=cy }))/\RVm ρ G w k (xU es n) (l.eraseIdx j)
 | [],l,i,h,hf=> by simp [oD] at hf
 | (m,z)::es,l,i,h,hf=> by
  obtain⟨e,l',rfl,hk,h1,h2⟩:=(by simpa only [RVm] using h)
  simp only [oD] at hf;split at hf
  ·rename_i heq;cases hf;subst heq;refine⟨0,e,?_,rfl,hk,h1,λy cy hy=> ?_,?_⟩
   ·simp [Instr.findNow,hk,Instr.sameNow]
   ·simp only [Io,if_true,List.modify_zero_cons,RVm];exact⟨_,_,rfl,rfl,hy,h2⟩
   ·simpa only [xU,if_true,List.eraseIdx_zero,List.tail_cons] using h2
  ·rename_i hne;obtain⟨j,e',p1,p2,p3,p4,p5,p6⟩:=pJ es l' (i+1) h2 hf;refine⟨j+1,e',?_,by simpa using p2,p3,p4,λy cy hy=> ?_,?_⟩
   ·have:(n==m)=false:=by simp;omega
    simp only [Instr.findNow,hk,Instr.sameNow,if_true,this];rw [p1,show i+1+j=i+(j+1) from by omega]
   ·simp only [Io,if_neg hne,List.modify_succ_cons,RVm];exact⟨_,_,rfl,hk,h1,p5 y cy hy⟩
   ·simp only [xU,if_neg hne,List.eraseIdx_cons_succ,RVm];exact⟨_,_,rfl,hk,h1,p6⟩
theorem KJ {k:IntKind}{n:Int}{y:AV}{cy:Value}{born:Nat}(hy:RV ρ G w y cy):∀(es:List (Int × AV)) (l:List MapEntry),RVm ρ G w k es l->oD es n=none->RVm ρ G w k (Io es n y) (l++[{ key:=.int k n,val:=cy,born }])
 | [],l,h,_=> by
  simp only [RVm] at h;subst h;simp only [Io,zaU,RVm];exact⟨_,_,rfl,rfl,hy,rfl⟩
 | (m,z)::es,l,h,hf=> by
  obtain⟨e,l',rfl,hk,h1,h2⟩:=(by simpa only [RVm] using h)
  simp only [oD] at hf;split at hf
  ·cases hf
  ·rename_i hne;simp only [Io,if_neg hne,zbc,RVm];exact⟨_,_,rfl,hk,h1,KJ hy es l' h2 hf⟩
theorem FT {n:Int}:∀(es:List (Int × AV)),oD es n=none->xU es n=es
 | [],_=> rfl
 | (m,z)::es,hf=> by
  simp only [oD] at hf;split at hf
  ·cases hf
  ·rename_i hne;simp only [xU,if_neg hne,FT es hf]
theorem lX {kt:TypeId}{k:IntKind}{n:Int}{l:List MapEntry}{r:Option (Nat × Value)}(hk:P.underlying kt=some (.int k))(h:Instr.findNow (.int k) (.int k n) l 0=some r):
  (Instr.findKey kt (.int k n) l).run P w=.ok r w:=by
 simp [Instr.findKey,run_underlying hk,h]
theorem Born.push {es:List MapEntry}{cl:Nat}(h:Born es cl){key val:Value}:Born (es++[{ key,val,born:=cl }]) (cl+1):=by
 obtain⟨h1,h2⟩:=h;refine⟨λx hx=> ?_,?_⟩
 ·rcases za3.1 hx with hx | hx
  ·exact Nat.lt_succ_of_lt (h1 x hx)
  ·rw [zaM] at hx;subst hx;exact zcu _
 ·rw [zbr];refine zcI.2 ⟨h2,by simp,λa ha c hc=> ?_⟩;simp only [zaC,zbG,zaM] at hc;subst hc;obtain⟨x,hx,rfl⟩:=zaS.1 ha;exact zbL (h1 x hx)
theorem uq {g:MapEntry->MapEntry}(hg:∀e,(g e).born=e.born):∀(es:List MapEntry) (j:Nat),(es.modify j g).map (·.born)=es.map (·.born)
 | [],j=> by simp
 | e::es,0=> by simp [hg]
 | e::es,j+1=> by simp [uq hg es j]
theorem Born.modify {es:List MapEntry}{cl:Nat}(h:Born es cl){j:Nat}{g:MapEntry->MapEntry}(hg:∀e,(g e).born=e.born):Born (es.modify j g) cl:=by
 have hm:=uq hg es j;refine⟨λx hx=> ?_,by rw [hm];exact h.2⟩;have:x.born∈es.map (·.born):=by rw [<-hm];exact zaS.2 ⟨x,hx,rfl⟩
 obtain⟨y,hy,e⟩:=zaS.1 this;have:=h.1 y hy;rw [<-e];exact this
theorem Born.erase {es:List MapEntry}{cl:Nat}(h:Born es cl){j:Nat}:Born (es.eraseIdx j) cl:=
 ⟨λx hx=> h.1 x ((zcM _ _).mem hx),h.2.sublist ((zcM _ _).map _)⟩
theorem IE(R:Rel ρ H w){r:Nat}{k:IntKind}{es:List (Int × AV)}{cx:Value}(hx:RV ρ H.gen w (.mp r) cx)(ho:H.get r=.map k es):
  ∃b ces cl,cx=.map (some b)/\ρ r=some (b,0)/\w.heap[b]?=some (.map ces cl)/\RVm ρ H.gen w k es ces.toList/\Born ces.toList cl:=by
 simp only [RV] at hx;obtain⟨b,rfl,hr⟩:=hx;have hr:=hr (by simp [ah.gen,ho,fD.gen]);have qN:=R.obj r b 0 hr;simp only [wH,ho] at qN;obtain⟨ces,cl,h1,_,h2,h3⟩:=qN;exact⟨b,ces,cl,rfl,hr,h1,h2,h3⟩
theorem VY(R:Rel ρ H w){t:TypeId}{x i:AV}{ok:Bool}{cx ci:Value}(hx:RV ρ H.gen w x cx)(hi:RV ρ H.gen w i ci)(h:OO P t x i ok H=some (v,H')):H'=H/\OkP P ρ H.gen w (Instr.lookup t cx ci ok) v:=by
 obtain⟨h',hh⟩:=rQ h
 clear h
 subst hh;have h:=h'
 clear h'
 refine⟨rfl,?_⟩;unfold VO at h;split at h <;> first | (cases h;done) | skip
 rename_i k e hm;obtain⟨kt,hu,hk⟩:=OY hm;split at h <;> first | (cases h;done) | skip
 rename_i z hz;split at h <;> first | (cases h;done) | skip
 rename_i r;split at h <;> first | (cases h;done) | skip
 rename_i k' n;split at h <;> first | (cases h;done) | skip
 rename_i k'' es ho;simp only [bD,zai,zaa] at ho;split at h <;> first | (cases h;done) | skip
 rename_i hkk;obtain⟨rfl,rfl⟩:=hkk;obtain⟨b,ces,cl,rfl,hr,hb,hes,hbn⟩:=IE R hx ho;simp only [RV] at hi;subst hi;have hck:∀e',(Instr.checkKey e' 10000 kt (.int k'' n)).run P w=.ok () w:=λe'=> uo hk e' 9999;cases hf:oD es n with
 | none=>
  simp only [hf,zaa] at h;subst h;have hfind:=lX (P:=P) (w:=w) hk (pI es ces.toList 0 hes hf);refine⟨if ok then .tuple #[z,.bool false] else z,?_,?_⟩
  ·simp only [Instr.lookup,Sem.run_bind,run_underlying hu,Result.andThen_ok,lW hb,Sem.run_pure,hck,hfind,fK hz]
  ·cases ok
   ·simp only [RV,zal,if_false]
   ·simp only [RV,if_true];exact⟨_,rfl,iQ (by simp only [RV]) (iQ (by simp only [RV]) iT)⟩
 | some y=>
  simp only [hf,zaa] at h;subst h;obtain⟨j,en,p1,p2,p3,p4,_⟩:=pJ es ces.toList 0 hes hf;have hfind:=lX (P:=P) (w:=w) hk p1;refine⟨if ok then .tuple #[en.val,.bool true] else en.val,?_,?_⟩
  ·simp only [Instr.lookup,Sem.run_bind,run_underlying hu,Result.andThen_ok,lW hb,Sem.run_pure,hck,hfind]
  ·cases ok
   ·simpa only [zal,if_false] using p4
   ·simp only [RV,if_true];exact⟨_,rfl,iQ p4 (iQ (by simp only [RV]) iT)⟩
theorem KL(R:Rel ρ H w){t:TypeId}{x i y:AV}{cx ci cy:Value}(hx:RV ρ H.gen w x cx)(hi:RV ρ H.gen w i ci)(hy:RV ρ H.gen w y cy)(h:qK P t x i y H=some (v,H')):
  v=aO/\∃ρ' w',(Instr.mapUpdate t cx ci cy).run P w=.ok () w'/\Rel ρ' H' w'/\Ext ρ H w ρ' H' w':=by
 unfold qK at h;split at h <;> first | (cases h;done) | skip
 rename_i k e r k' n hm;obtain⟨kt,hu,hk⟩:=OY hm;split at h <;> first | (cases h;done) | skip
 rename_i k'' es ho;split at h <;> first | (cases h;done) | skip
 rename_i hkk;obtain⟨rfl,rfl,_⟩:=hkk;simp only [zaa,zae] at h;obtain⟨rfl,rfl⟩:=h;obtain⟨b,ces,cl,rfl,hr,hb,hes,hbn⟩:=IE R hx ho;simp only [RV] at hi;subst hi;have hck:(Instr.checkKey false 10000 kt (.int k'' n)).run P w=.ok () w:=uo hk false 9999;cases hf:oD es n with
 | none=>
  have hfind:=lX (P:=P) (w:=w) hk (pI es ces.toList 0 hes hf);have hput:=Iy (es':=Io es n y) (Z9:=ces.push { key:=.int k'' n,val:=cy,born:=cl }) (cl':=cl+1) R hr ho hb (by rw [Array.toList_push];exact KJ hy es _ hes hf) (by rw [Array.toList_push];exact hbn.push);refine⟨rfl,ρ,_,?_,hput.1,hput.2⟩;simp only [Instr.mapUpdate,Sem.run_bind,run_underlying hu,Result.andThen_ok,lW hb,hck,hfind,vG hb]
 | some z=>
  obtain⟨j,en,p1,p2,p3,p4,p5,_⟩:=pJ es ces.toList 0 hes hf;rw [za5] at p1;have hfind:=lX (P:=P) (w:=w) hk p1;have hput:=Iy (es':=Io es n y) (Z9:=ces.modify j λe=> { e with key:=.int k'' n,val:=cy }) (cl':=cl) R hr ho hb (by rw [Array.toList_modify];exact p5 y cy hy) (by rw [Array.toList_modify];exact hbn.modify λ_=> rfl);refine⟨rfl,ρ,_,?_,hput.1,hput.2⟩;have hg:ces[j]?=some en:=by simpa using p2
  have amq:Instr.keyThatStays en.key (.int k'' n)=pure (.int k'' n):=by
   rw [p3];simp [Instr.keyThatStays,Instr.sameBits]
  simp only [Instr.mapUpdate,Sem.run_bind,run_underlying hu,Result.andThen_ok,lW hb,hck,hfind,hg,zai,zat,amq,Sem.run_pure,vG hb]
theorem VZ(R:Rel ρ H w){t ty:TypeId}{ts:Array TypeId}{x i:AV}{cx ci:Value}(ht:ts[0]?=some t)(hx:RV ρ H.gen w x cx)(hi:RV ρ H.gen w i ci)(h:Iq P t x i H=some (v,H')):
  Ok P ρ H w (Builtin.delete_ ts ty #[cx,ci]) v H':=by
 unfold Iq at h;split at h <;> first | (cases h;done) | skip
 rename_i k e r k' n hm;obtain⟨kt,hu,hk⟩:=OY hm;split at h <;> first | (cases h;done) | skip
 rename_i k'' es ho;split at h <;> first | (cases h;done) | skip
 rename_i hkk;obtain⟨rfl,rfl,_⟩:=hkk;simp only [zaa,zae] at h;obtain⟨rfl,rfl⟩:=h;obtain⟨b,ces,cl,rfl,hr,hb,hes,hbn⟩:=IE R hx ho;simp only [RV] at hi;subst hi;have hck:∀e',(Instr.checkKey e' 10000 kt (.int k'' n)).run P w=.ok () w:=λe'=> uo hk e' 9999;have a0:(#[Value.map (some b),Value.int k'' n]:Array Value)[0]?=some (.map (some b)):=rfl;have a1:(#[Value.map (some b),Value.int k'' n]:Array Value)[1]?=some (.int k'' n):=rfl;cases hf:oD es n with
 | none=>
  have hfind:=lX (P:=P) (w:=w) hk (pI es ces.toList 0 hes hf);have hput:=Iy (es':=xU es n) (Z9:=ces) (cl':=cl) R hr ho hb (by rw [FT es hf];exact hes) hbn;refine⟨.tuple #[],ρ,_,?_,hput.1,by simp only [RV];exact⟨_,rfl,iT⟩,hput.2⟩;simp only [Builtin.delete_,ht,a0,a1,Sem.run_bind,run_underlying hu,Result.andThen_ok,lW hb,hck,hfind,vG hb,Sem.run_pure]
 | some z=>
  obtain⟨j,en,p1,p2,p3,p4,_,p6⟩:=pJ es ces.toList 0 hes hf;rw [za5] at p1;have hfind:=lX (P:=P) (w:=w) hk p1;have hput:=Iy (es':=xU es n) (Z9:=ces.eraseIdxIfInBounds j) (cl':=cl) R hr ho hb (by
   have:(ces.eraseIdxIfInBounds j).toList=ces.toList.eraseIdx j:=by simp
   rw [this];exact p6) (by
   have:(ces.eraseIdxIfInBounds j).toList=ces.toList.eraseIdx j:=by simp
   rw [this];exact hbn.erase)
  refine⟨.tuple #[],ρ,_,?_,hput.1,by simp only [RV];exact⟨_,rfl,iT⟩,hput.2⟩;simp only [Builtin.delete_,ht,a0,a1,Sem.run_bind,run_underlying hu,Result.andThen_ok,lW hb,hck,hfind,vG hb,Sem.run_pure]
theorem Uk(R:Rel ρ H w){t:TypeId}(h:vw P t H=some (v,H')):Ok P ρ H w (Instr.makeMap t none) v H':=by
 unfold vw at h;split at h <;> first | (cases h;done) | skip
 rename_i k e hm;simp only [zaa,zae] at h;obtain⟨rfl,rfl⟩:=h;have E:=Iw R (o:=.map k []) (co:=.map #[] 0);refine⟨.map (some w.heap.size),_,_,by simp [Instr.makeMap],VR R ⟨#[],0,jA w _,rfl,by simp [RVm],by simp [Born]⟩,?_,E⟩;simp only [RV];exact⟨_,rfl,λ_=> by simp [updρ]⟩
theorem ahl(R:Rel ρ H w){t ty:TypeId}{x:AV}{cx:Value}(hx:RV ρ H.gen w x cx)(h:aml P t x H=some (v,H')):H'=H/\OkP P ρ H.gen w (Builtin.len_ #[t] ty #[cx]) v:=by
 have a0:(#[t]:Array TypeId)[0]?=some t:=rfl;have a1:(#[cx]:Array Value)[0]?=some cx:=rfl;obtain⟨h',hh⟩:=rQ h
 clear h
 subst hh;have h:=h'
 clear h'
 refine⟨rfl,?_⟩;unfold amk at h;cases hu:P.underlying t with
 | none=> simp [hu] at h
 | some d=>
  cases d with
  | slice e=>
   simp only [hu] at h;split at h <;> first | (cases h;done) | skip
   all_goals
    simp only [zaa] at h;subst h;simp only [RV] at hx
   ·obtain⟨_,_,_,rfl,_⟩:=hx;exact⟨_,by simp [Builtin.len_,run_underlying hu];rfl,by simp only [RV,goInt]⟩
   ·obtain⟨_,_,_,rfl,_⟩:=hx;exact⟨_,by simp [Builtin.len_,run_underlying hu];rfl,by simp only [RV,goInt]⟩
   ·subst hx;exact⟨_,by simp [Builtin.len_,run_underlying hu];rfl,by simp only [RV,goInt]⟩
  | string=>
   simp only [hu] at h;split at h <;> first | (cases h;done) | skip
   simp only [zaa] at h;subst h;simp only [RV] at hx;subst hx;exact⟨_,by simp [Builtin.len_,run_underlying hu];rfl,by simp only [RV,goInt]⟩
  | map kt e=>
   simp only [hu] at h;split at h <;> first | (cases h;done) | skip
   ·split at h <;> first | (cases h;done) | skip
    rename_i k es ho;simp only [bD,zai,zaa] at ho;simp only [zaa] at h;subst h;obtain⟨b,ces,cl,rfl,hr,hb,hes,hbn⟩:=IE R hx ho;have hl:ces.size=es.length:=by
     have:∀(es:List (Int × AV)) (l:List MapEntry),RVm ρ H'.gen w k es l->l.length=es.length:=by
      intro es
      induction es with
      | nil=> intro l h;simp only [RVm] at h;subst h;rfl
      | cons p es ih=>
       intro l h;obtain⟨m,z⟩:=p;obtain⟨e,l',rfl,_,_,h2⟩:=(by simpa only [RVm] using h)
       simp [ih l' h2]
     rw [<-this es _ hes,bC]
    refine⟨.int .i64 es.length,?_,by simp only [RV]⟩;simp only [Builtin.len_,a0,a1,Sem.run_bind,run_underlying hu,Result.andThen_ok,lW hb,Sem.run_pure,goInt,hl]
   ·simp only [zaa] at h;subst h;simp only [RV] at hx;subst hx;exact⟨.int .i64 0,by simp [Builtin.len_,run_underlying hu,goInt],by simp only [RV]⟩
  | _=> simp [hu] at h
theorem ahm {t ty:TypeId}{x:AV}{cx:Value}(hx:RV ρ G w x cx)(h:acv P t x=some v):OkP P ρ G w (Builtin.cap_ #[t] ty #[cx]) v:=by
 unfold acv at h;cases hu:P.underlying t with
 | none=> simp [hu] at h
 | some d=>
  cases d with
  | slice e=>
   simp only [hu] at h;split at h <;> first | (cases h;done) | skip
   all_goals
    simp only [zaa] at h;subst h;simp only [RV] at hx
   ·obtain⟨_,_,c,rfl,_,_,h3,_⟩:=hx;rw [h3 trivial];exact⟨_,by simp [Builtin.cap_,run_underlying hu];rfl,by simp only [RV,goInt]⟩
   ·subst hx;exact⟨_,by simp [Builtin.cap_,run_underlying hu];rfl,by simp only [RV,goInt]⟩
  | _=> simp [hu] at h
theorem KN {mx:Bool}{ts:Array TypeId}{ty:TypeId}{xs:List AV}{cs:Array Value}(hx:RVs ρ G w xs cs.toList)(h:kL P mx ts ty xs=some v):
  OkP P ρ G w (if mx then Builtin.max_ ts ty cs else Builtin.min_ ts ty cs) v:=by
 unfold kL at h;cases hv:vals? xs with
 | none=> simp [hv] at h
 | some vs=>
  simp only [hv] at h;have he:=IB xs _ vs hx hv;have:cs=vs.toArray:=by rw [<-he]
  rw [this];cases hp:iE P (if mx=true then Builtin.max_ ts ty vs.toArray else Builtin.min_ ts ty vs.toArray) with
  | none=> simp [hp] at h
  | some u=> simp [hp] at h;subst h;exact⟨u,kP hp w,by simp only [RV]⟩
end
theorem Ext.drew(ρ:Ren)(H:ah)(w:World):Ext ρ H w ρ H w.drew where
 next:=zac _
 mono:=λ_=> zac _
 same:=λ_ _ h _=> h
 kept:=λ_ _ h=> h
 range:=λ_ _ sh h=> .inr ⟨sh,h⟩
 size:=zac _
 frame:=λ_ _ _=> rfl
 shape:=λ_ _=> rfl
 os:=rfl
 tape:=rfl
 output:=rfl
theorem Rel.drew {ρ:Ren}{H:ah}{w:World}(R:Rel ρ H w):Rel ρ H w.drew where
 out:=R.out
 obj:=λr b sh h=> wH.mono (Ext.drew ρ H w).toMono rfl (R.obj r b sh h)
 inj:=R.inj
 gl:=R.gl.ext (Ext.drew ρ H w)
theorem IG {ρ:Ren}{H:ah}{w:World}{r:Nat}{y:Nat × Nat}(hx:ρ r=some y){co:Obj}{o:fD}(hg:H.gen r < o.gen):Ext ρ H w (updρ ρ r (w.heap.size,0)) (H.put r o) (w.alloc co) where
 next:=zac _
 mono:=λx=> by rw [rP];split <;> simp_all;omega
 same:=λx y hx h=> by
  rw [rP] at h;unfold updρ
  split
  ·rename_i e;subst e;simp at h;omega
  ·exact hx
 kept:=λx _ h=> by
  unfold updρ
  split
  ·rename_i e;subst e;rw [hx] at h;cases h
  ·exact h
 range:=λx b' s h=> by
  unfold updρ at h;split at h
  ·cases h;exact .inl (zac _)
  ·exact .inr ⟨_,h⟩
 size:=by simp
 frame:=λb hb _=> by simp only [World.alloc,za9,if_neg (zbL hb)]
 shape:=λb hb=> by
  rw [dY,dY];simp only [World.alloc,za9,if_neg (zbL hb)]
 os:=rfl
 tape:=rfl
 output:=rfl
theorem aap {ρ:Ren}{H:ah}{w:World}(R:Rel ρ H w){r:Nat}(hr:r < H.next){y:Nat × Nat}(hy:ρ r=some y){co:Obj}{o:fD}(hg:H.gen r < o.gen)
  (ho:wH (updρ ρ r (w.heap.size,0)) (H.put r o).gen (w.alloc co) o w.heap.size 0):Rel (updρ ρ r (w.heap.size,0)) (H.put r o) (w.alloc co) where
 out:=λx hx=> by
  have hx':H.next<=x:=hx
  have hne:x≠r:=by omega
  rw [rP,if_neg hne];unfold updρ;rw [if_neg hne];exact R.out x hx'
 obj:=λx b' s h=> by
  unfold updρ at h;by_cases e:x=r
  ·subst e;simp at h;obtain⟨rfl,rfl⟩:=h
   simpa [ah.put] using ho
  ·rw [if_neg e] at h;have:(H.put r o).get x=H.get x:=by simp [ah.put,e]
   rw [this];have hb:=R.block h;exact wH.mono (IG (ρ:=ρ) (w:=w) (co:=co) hy hg).toMono (by simp only [World.alloc,za9,if_neg (zbL hb)]) (R.obj x b' s h)
 inj:=λx y b' s s' h h'=> by
  unfold updρ at h h';split at h <;> split at h'
  ·simp_all
  ·cases h;have:=R.block h';omega
  ·cases h';have:=R.block h;omega
  ·exact R.inj _ _ _ _ _ h h'
 gl:=R.gl.ext (IG (ρ:=ρ) (w:=w) (co:=co) hy hg)
theorem aaq {ρ:Ren}{H:ah}{w:World}(R:Rel ρ H w){r g':Nat}(hr:r < H.next){y:Nat × Nat}(hy:ρ r=some y)(hg:H.gen r < g'){ty e:TypeId}{cells:List AV}{cs:Array Value}(hl:cells.length<=cs.size)
  (hc:∀(i:Nat) (x:AV),cells[i]?=some x->∃v,cs[i]?=some v/\RV ρ H.gen w x v) (hX:Xct ty e 0 cs.size cells.length):
  Rel (updρ ρ r (w.heap.size,0)) (H.put r (.blk g' ty cells)) (w.alloc (.cells cs e))/\Ext ρ H w (updρ ρ r (w.heap.size,0)) (H.put r (.blk g' ty cells)) (w.alloc (.cells cs e)):=by
 have E:=IG (ρ:=ρ) (H:=H) (w:=w) (r:=r) (o:=.blk g' ty cells) (co:=.cells cs e) hy hg;refine⟨aap R hr hy hg ⟨cs,e,jA w _,by omega,?_,hX⟩,E⟩;refine pG (jA w _) λi x hx=> ?_;obtain⟨v,hv,h1⟩:=hc i x hx;exact⟨v,by simpa using hv,R.keep E h1⟩
section
variable {P:Program}{ρ:Ren}{H H':ah}{w:World}{v:AV}
theorem je(R:Rel ρ H w){y:AV}{cy:Value}{n m:Nat}{new:List AV}(hy:RV ρ H.gen w y cy)(hl:jG y=some n)(hc:bM H y=some new)(hn:new.length=n*m):
  (Builtin.lenOf cy).run P w=.ok n w/\∃arr:Array Value,(Builtin.firstCells m n cy).run P w=.ok arr w/\RVs ρ H.gen w new arr.toList:=by
 unfold jG at hl;split at hl <;> first | (cases hl;done) | skip
 ·simp only [zaa] at hl;subst hl;rename_i r g off esz len cap ex;simp only [RV] at hy;obtain⟨b,o,c,rfl,q1,q2,q3,q4,q5⟩:=hy;simp only [bM] at hc;split at hc <;> first | (cases hc;done) | skip
  rename_i g' ty cells ho;split at hc <;> first | (cases hc;done) | skip
  rename_i hcond;obtain⟨rfl,hle⟩:=hcond;simp only [zaa] at hc;subst hc;obtain⟨sh,e,k,hr,hoo,hsh,hcap⟩:=q5 (by simp [ah.gen,ho,fD.gen]);have qN:=R.obj r b sh hr;simp only [wH,ho] at qN;obtain⟨cs,e',hb,hz,hcc,_⟩:=qN;refine⟨by simp [Builtin.lenOf],?_⟩;by_cases h0:len=0
  ·subst h0;refine⟨#[],?_,by simp [RVs]⟩;simp [Builtin.firstCells,loadCells,loadCellsFrom]
  ·have ho':=hoo (by omega);have hcells:RVc ρ H.gen w ((cells.drop off).take (len*esz)) b (sh+off):=rM _ (pF _ hcc);obtain⟨l,hl',h1⟩:=lC (P:=P) hcells;rw [hn] at hl';exact⟨l.toArray,by simp only [Builtin.firstCells,ho'];exact hl',by simpa using h1⟩
 ·simp only [zaa] at hl;subst hl;simp only [RV] at hy;obtain⟨b,o,c,rfl,q1,q2,q3,q4,q5⟩:=hy;simp only [bM,zaa] at hc;subst hc;refine⟨by simp [Builtin.lenOf],?_⟩;obtain⟨l,hl',h1⟩:=lC (P:=P) q5;rw [hn] at hl';exact⟨l.toArray,by simp only [Builtin.firstCells];exact hl',by simpa using h1⟩
 ·simp only [zaa] at hl;subst hl;simp only [RV] at hy;subst hy;simp only [bM,zaa] at hc;subst hc;exact⟨by simp [Builtin.lenOf],#[],by simp [Builtin.firstCells],by simp [RVs]⟩
 ·simp only [zaa] at hl;subst hl;simp only [RV] at hy;subst hy;simp only [bM,zaa] at hc;subst hc;rename_i s;refine⟨by simp [Builtin.lenOf],(s.data.map λb=> .int .u8 b.toNat),?_,?_⟩
  ·have:s.extract 0 s.size=s:=by
    apply ByteArray.ext
    simp
   simp [Builtin.firstCells,this]
  ·have:(s.data.map λb=> Value.int .u8 b.toNat).toList=s.data.toList.map λb=> .int .u8 b.toNat:=by simp
   rw [this];have h2:(s.data.toList.map λb=> AV.s (.int .u8 b.toNat))=(s.data.toList.map λb=> Value.int .u8 b.toNat).map .s:=by simp
   rw [h2];exact gy _
def qw(elem:TypeId)(size:Nat)(zeros:Bool)(n:Nat)(appended:Sem (Array Value))(base:Option Addr)(sLen sCap:Nat)(s x:Value):Sem Value:=do
 let need:=sLen+n
 if need<=sCap then
  let new<-appended
  if let some a:=base then storeCells (a.add (sLen*size)) new.toList
  pure (.slice base need sCap)
 else
  if(need:Int) > IntKind.i64.max∧(zeros∨(←typeInfo elem).bytes=0) then runtimePanic (.error "growslice: len out of range")
  if Builtin.nextslicecap need sCap*(←typeInfo elem).bytes > 2 ^ 48 then(if zeros then runtimePanic (.error "growslice: len out of range") else do
   if !(<-Builtin.mayShare size sLen n base x) then mark .noRoom
   unsupported (.resourceLimit "append: a slice or a string whose bytes no memory bears"))
  let newCap<-choose (.appendCap need sCap elem)
  askRoom (newCap*(<-typeInfo elem).bytes)
  let old<-Builtin.firstCells size sLen s;let new<-appended;let rest:=Builtin.zeroCells (<-zeroValue elem).cells (newCap - need)
  pure (.slice (some (<-newRow elem (old++new++rest))) need newCap)
theorem acz {α:Type}(a b:α):(if false=true then a else b)=b:=rfl
theorem ahn {α:Type}(a b:α):(if true=true then a else b)=a:=rfl
theorem DC {t u ty e:TypeId}{d:TypeDesc}{m n sLen sCap:Nat}{base:Option Addr}{cy:Value}(hu:P.underlying t=some (.slice e))(hs:szT P e=some m)(hd:P.underlying u=some d)(hnd:∀k,d≠.int k)
  (hl:(Builtin.lenOf cy).run P w=.ok n w):
  (Builtin.append_ #[t,u] ty #[.slice base sLen sCap,cy]).run P w=(qw e m false n (Builtin.firstCells m n cy) base sLen sCap (.slice base sLen sCap) cy).run P w:=by
 have a0:(#[t,u]:Array TypeId)[0]?=some t:=rfl;have a1:(#[t,u]:Array TypeId)[1]?=some u:=rfl;have a2:(#[Value.slice base sLen sCap,cy]:Array Value)[0]?=some (.slice base sLen sCap):=rfl;have a3:(#[Value.slice base sLen sCap,cy]:Array Value)[1]?=some cy:=rfl;cases d
 case int k=> exact absurd rfl (hnd k)
 all_goals
  simp only [Builtin.append_,a0,a1,a2,a3,Sem.run_bind,run_underlying hu,Result.andThen_ok,dV hs,run_underlying hd,Sem.run_pure,acz,hl];rfl
theorem BG {t u ty e:TypeId}{k:IntKind}{m by_ sLen sCap:Nat}{base:Option Addr}{k':IntKind}{n:Int}(hu:P.underlying t=some (.slice e))(hs:szT P e=some m)(hb:wI P e=some by_)(hd:P.underlying u=some (.int k))
  (h0:0<=n) (h1:n<=most) (h2:n*by_<=most):
  (Builtin.append_ #[t,u] ty #[.slice base sLen sCap,.int k' n]).run P w=
   (qw e m true n.toNat (if n.toNat*m=0 then pure #[] else do pure (Builtin.zeroCells (<-zeroValue e).cells n.toNat)) base sLen sCap (.slice base sLen sCap) (.int k' n)).run P w:=by
 have a0:(#[t,u]:Array TypeId)[0]?=some t:=rfl;have a1:(#[t,u]:Array TypeId)[1]?=some u:=rfl;have a2:(#[Value.slice base sLen sCap,.int k' n]:Array Value)[0]?=some (.slice base sLen sCap):=rfl;have a3:(#[Value.slice base sLen sCap,.int k' n]:Array Value)[1]?=some (.int k' n):=rfl;have hw:IntKind.i64.wrap n=n:=by rw [IntKind.wrap_i64];unfold most at h1;omega
 have aeP:∃i,P.info? e=some i/\i.bytes=by_:=by
  unfold wI at hb;cases hi:P.info? e with
  | none=> simp [hi] at hb
  | some i=> simp [hi] at hb;exact⟨i,rfl,hb⟩
 obtain⟨i,hi,rfl⟩:=aeP;have hn:¬n < 0:=by omega
 have hnb:¬n*(i.bytes:Int) > 2 ^ 48:=by unfold most at h2;omega
 simp only [-eq_self,Builtin.append_,a0,a1,a2,a3,Sem.run_bind,run_underlying hu,Result.andThen_ok,dV hs,run_underlying hd,Sem.run_pure,ahn,asInt,asIntOf,hw,hn,if_false,BK hi,hnb];rfl
end
section
variable {P:Program}{ρ:Ren}{H H':ah}{w:World}{v:AV}
theorem V3 {e:TypeId}{b:Nat}(h:wI P e=some b):∃i,P.info? e=some i/\i.bytes=b:=by
 unfold wI at h;cases hi:P.info? e with
 | none=> simp [hi] at h
 | some i=> simp [hi] at h;exact⟨i,rfl,h⟩
theorem QS {e:TypeId}{m n by_ sLen sCap:Nat}{zeros:Bool}{appended:Sem (Array Value)}{base:Option Addr}{s x zv:Value}{old arr:Array Value}(hb:wI P e=some by_)(hz:xR P e=some zv)
  (amr:¬sLen+n<=sCap) (hmax:sLen+n<=most) (hbig:(sLen+n)*by_<=most) (hold:(Builtin.firstCells m sLen s).run P w.drew=.ok old w.drew) (happ:appended.run P w.drew=.ok arr w.drew):
  ∃c,sLen+n<=c/\(qw e m zeros n appended base sLen sCap s x).run P w=
   .ok (.slice (some ⟨w.heap.size,0,none⟩) (sLen+n) c) (w.drew.alloc (.cells (old++arr++Builtin.zeroCells zv.cells (c - (sLen+n))) e)):=by
 obtain⟨i,hi,rfl⟩:=V3 hb;unfold most at hmax hbig;have h1:¬(((sLen+n:Nat):Int) > IntKind.i64.max/\((zeros:Prop)∨i.bytes=0)):=by
  rintro⟨h,_⟩;rw [IntKind.max_i64] at h;omega
 have h2:¬Builtin.nextslicecap (sLen+n) sCap*i.bytes > 2 ^ 48:=by
  have:=growslice_fits (need:=sLen+n) (old:=sCap) (bytes:=i.bytes) (by omega) hbig;omega
 have hf:(Question.appendCap (sLen+n) sCap e).forced=false:=rfl;refine⟨(Question.appendCap (sLen+n) sCap e).cut (w.tape w.drawn (Question.appendCap (sLen+n) sCap e)),by simp [Question.cut],?_⟩;simp only [qw,if_neg amr,Sem.run_bind,BK hi,Result.andThen_ok,if_neg h1,if_neg h2,Sem.run_pure,run_choose,hf,acz,run_askRoom,World.drew_eq,hold,happ,fK hz,newRow,run_newObj,World.alloc_eq];rfl
theorem BM(R:Rel ρ H w){r g off esz len cap:Nat}{ex:Bool}{ty:TypeId}{cells:List AV}{cx:Value}(hx:RV ρ H.gen w (.sl r g off esz len cap ex) cx)(ho:H.get r=.blk g ty cells):
  ∃b o c sh cs e,cx=.slice (some ⟨b,o,none⟩) len c/\len<=cap/\cap<=c/\(ex=true->c=cap)/\ρ r=some (b,sh)/\(0 < c->o=sh+off)/\w.heap[b]?=some (.cells cs e (0,0))/\o+c*esz<=cs.size/\
   sh+cells.length<=cs.size/\RVc ρ H.gen w cells b sh:=by
 simp only [RV] at hx;obtain⟨b,o,c,rfl,q1,q2,q3,q4,q5⟩:=hx;obtain⟨sh,ty',k,hr,hoo,hsh,hcap⟩:=q5 (by simp [ah.gen,ho,fD.gen]);have qN:=R.obj r b sh hr;simp only [wH,ho] at qN;obtain⟨cs,e,hb,hz,hcc,_⟩:=qN;have:cs.size=k:=by
  rw [dY,hb] at hsh;simp [AB] at hsh;exact hsh.2
 exact⟨b,o,c,sh,cs,e,rfl,q1,q2,q3,hr,hoo,hb,by omega,hz,hcc⟩
theorem wJ(R:Rel ρ H w){e:TypeId}{m n by_:Nat}{zeros:Bool}{appended:Sem (Array Value)}{x:AV}{cx cy zv:Value}{new:List AV}(hs:szT P e=some m)(hb:wI P e=some by_)(hz:xR P e=some zv)(hzl:zv.cells.size=m)
  (hx:RV ρ H.gen w x cx) (happ:∀w',w'=w∨w'=w.drew->∃arr:Array Value,appended.run P w'=.ok arr w'/\RVs ρ H.gen w' new arr.toList)
  (h:dJ e m by_ x n new H=some (v,H')):
  ∃base sLen sCap,cx=.slice base sLen sCap/\Ok P ρ H w (qw e m zeros n appended base sLen sCap cx cy) v H':=by
 unfold dJ at h;split at h <;> first | (cases h;done) | skip
 rename_i hnew;obtain⟨hlen,hcell⟩:=hnew;split at h
 ·-- nil
  simp only [RV] at hx;subst hx;refine⟨none,0,0,rfl,?_⟩;by_cases h0:n=0
  ·subst h0;simp only [if_true,zaa,zae] at h;obtain⟨rfl,rfl⟩:=h;obtain⟨arr,ha,_⟩:=happ w (.inl rfl);refine OkP.ok ⟨.slice none 0 0,?_,by simp only [RV]⟩ R;simp [qw,ha]
  ·rw [if_neg h0] at h;split at h <;> first | (cases h;done) | skip
   rename_i hcond;simp only [zaa,zae] at h;obtain⟨rfl,rfl⟩:=h;obtain⟨arr,ha,hr⟩:=happ w.drew (.inr rfl);obtain⟨c,hc,hrun⟩:=QS (P:=P) (w:=w) (e:=e) (m:=m) (n:=n) (by_:=by_) (sLen:=0) (sCap:=0) (zeros:=zeros) (appended:=appended) (base:=none) (s:=.slice none 0 0) (x:=cy) (zv:=zv) (old:=#[]) (arr:=arr) hb hz (by omega) (by omega) (by simpa using hcond.2) (by simp [Builtin.firstCells]) ha;have hal:=bW hr;rw [bC,hlen] at hal;obtain⟨ρ',q1,q2,q3⟩:=rU (ty:=e+fQ) (hX:=Xct.grown) (e:=e) (cells:=new) (cs:=#[]++arr++Builtin.zeroCells zv.cells (c - (0+n))) (m:=m) (len:=n) (cap:=n) (c:=c) (ex:=false) R.drew
    (by
     have:(#[]++arr++Builtin.zeroCells zv.cells (c - (0+n))).toList.take new.length=arr.toList:=by
      rw [hlen,<-hal];simp
     rw [this];exact hr) (by rw [hlen];simp [hal]) (zac _) (by omega) (by simp) (by
     have h3:(Builtin.zeroCells zv.cells (c - (0+n))).size=(c - n)*m:=by simp [Builtin.zeroCells,hzl]
     rw [zc5,h3];simp only [zc5,zb0,zam,hal];rw [za5,<-zbx];have:n+(c - n)=c:=by omega
     rw [this];exact zac _)
   refine⟨_,ρ',_,hrun,q1,?_,(Ext.drew ρ H w).trans q3⟩
   simpa using q2
 ·rename_i r g off esz len cap ex;split at h <;> first | (cases h;done) | skip
  rename_i g' ty cells ho;split at h <;> first | (cases h;done) | skip
  rename_i hcond;obtain⟨rfl,rfl,hle⟩:=hcond;have hpl:=BM R hx ho;obtain⟨b,o,c,sh,cs,e',hcx,q1,q2,q3,hr,hoo,hbk,hcs,hz',hcc⟩:=hpl;subst hcx;refine⟨some ⟨b,o,none⟩,len,c,rfl,?_⟩;have hgen:H.gen r=g':=by simp [ah.gen,ho,fD.gen]
  have hfirst:∀w',(w'=w∨w'=w.drew)->∃arr:Array Value,(Builtin.firstCells esz len (.slice (some ⟨b,o,none⟩) len c)).run P w'=.ok arr w'/\RVs ρ H.gen w' ((cells.drop off).take (len*esz)) arr.toList:=by
   intro w' hw';have R':Rel ρ H w':=by
    rcases hw' with rfl | rfl
    ·exact R
    ·exact R.drew
   have hx':RV ρ H.gen w' (.sl r g' off esz len cap ex) (.slice (some ⟨b,o,none⟩) len c):=by
    rcases hw' with rfl | rfl
    ·exact hx
    ·exact R.keep (Ext.drew ρ H w) hx
   exact(je (P:=P) (m:=esz) R' hx' rfl (by simp [bM,ho,hle]) (by simp;omega)).2
  by_cases h0:n=0
  ·subst h0;simp only [if_true,zaa,zae] at h;obtain⟨rfl,rfl⟩:=h;obtain⟨arr,ha,hra⟩:=happ w (.inl rfl);have harr:arr.toList=[]:=by
    have:=bW hra;rw [hlen] at this
    simpa using this
   refine OkP.ok ⟨.slice (some ⟨b,o,none⟩) len c,?_,hx⟩ R;simp [qw,ha,harr,storeCells,show len<=c by omega]
  ·rw [if_neg h0] at h;by_cases hin:len+n<=cap
   ·rw [if_pos hin] at h;split at h <;> first | (cases h;done) | skip
    rename_i hc2;simp only [zaa,zae] at h;obtain⟨rfl,rfl⟩:=h;obtain⟨arr,ha,hra⟩:=happ w (.inl rfl);have hal:=bW hra;rw [hlen] at hal;have hoff:o=sh+off:=hoo (by omega);have hmul:(len+n)*esz=len*esz+n*esz:=zbx _ _ _;have hst:=jB (P:=P) (o:=o+len*esz) arr.toList w cs 0 hbk (by
     rw [hal];have:(len+n)*esz<=c*esz:=zaz _ (by omega);omega) (oJ hcell hra)
    have kX:Xct ty e' sh cs.size cells.length:=by
     have qN:=R.obj r b sh hr;simp only [wH,ho] at qN;obtain⟨cs2,e2,k1,_,_,k4⟩:=qN;rw [hbk] at k1;cases k1;exact k4
    have hput:=Dx (hX:=by rw [dU,iI _ _ _ (by rw [hlen];omega)];exact kX) (ty':=ty) (cells':=aG cells (off+len*esz) new) (cs':=jY cs (o+len*esz) arr.toList) (g':=g') (sh':=sh) R hr hbk (dU _ _ _) (by omega) (λ_=> rfl)
     (by rw [iI _ _ _ (by rw [hlen];omega)];exact hz') (by
      intro i u hu;rw [uj _ _ _ (by rw [hlen];omega)] at hu;rw [kN _ _ _ _ (by rw [hal];omega),hal];by_cases hi:off+len*esz<=i/\i < off+len*esz+new.length
      ·rw [if_pos hi] at hu;rw [hlen] at hi;rw [if_pos (by omega),show sh+i - (o+len*esz)=i - (off+len*esz) from by omega];exact jD hra hu
      ·rw [if_neg hi] at hu;rw [hlen] at hi;rw [if_neg (by omega)];exact uh hbk hcc hu)
    refine⟨.slice (some ⟨b,o,none⟩) (len+n) c,_,_,?_,hput.1,?_,hput.2⟩
    ·simp only [qw,if_pos (show len+n<=c by omega),Sem.run_bind,ha,Result.andThen_ok,jq];simp only [zbp] at hst;simp [hst]
    ·simp only [RV];refine⟨b,o,c,rfl,hin,q2,q3,?_,λ_=> ⟨sh,e',cs.size,by simp [updρ],λ_=> hoff,?_,hcs⟩⟩
     ·rw [rP];simp [fD.gen]
     ·rw [dY,kM (lV hbk)];simp [AB,dU]
   ·rw [if_neg hin] at h;split at h <;> first | (cases h;done) | skip
    rename_i hc2;obtain⟨ams,hby⟩:=hc2;have hmul:(len+n)*esz=len*esz+n*esz:=zbx _ _ _;have hpre:((cells.drop off).take (len*esz)).length=len*esz:=by simp;omega
    -- the way that makes a new row
    have grow:¬len+n<=c->∃c' old arr,len+n<=c'/\(qw e esz zeros n appended (some ⟨b,o,none⟩) len c (.slice (some ⟨b,o,none⟩) len c) cy).run P w=
      .ok (.slice (some ⟨w.heap.size,0,none⟩) (len+n) c') (w.drew.alloc (.cells (old++arr++Builtin.zeroCells zv.cells (c' - (len+n))) e))/\RVs ρ H.gen w.drew ((cells.drop off).take (len*esz)) old.toList/\RVs ρ H.gen w.drew new arr.toList:=by
     intro hno;obtain⟨old,hold,hro⟩:=hfirst w.drew (.inr rfl);obtain⟨arr,ha,hra⟩:=happ w.drew (.inr rfl);obtain⟨c',hc',hrun⟩:=QS (P:=P) (w:=w) (e:=e) (m:=esz) (n:=n) (by_:=by_) (sLen:=len) (sCap:=c) (zeros:=zeros) (appended:=appended) (base:=some ⟨b,o,none⟩) (s:=.slice (some ⟨b,o,none⟩) len c) (x:=cy) (zv:=zv) (old:=old) (arr:=arr) hb hz hno ams hby hold ha;exact⟨c',old,arr,hc',hrun,hro,hra⟩
    have whole:∀(c':Nat) (old arr:Array Value),len+n<=c'->RVs ρ H.gen w.drew ((cells.drop off).take (len*esz)) old.toList->RVs ρ H.gen w.drew new arr.toList->
      RVs ρ H.gen w.drew ((cells.drop off).take (len*esz)++new) ((old++arr++Builtin.zeroCells zv.cells (c' - (len+n))).toList.take ((cells.drop off).take (len*esz)++new).length)/\
      ((cells.drop off).take (len*esz)++new).length<=(old++arr++Builtin.zeroCells zv.cells (c' - (len+n))).size/\c'*esz<=(old++arr++Builtin.zeroCells zv.cells (c' - (len+n))).size:=by
     intro c' old arr hc' hro hra;have l1:=bW hro;have l2:=bW hra;rw [hpre] at l1;rw [hlen] at l2;have h3:(Builtin.zeroCells zv.cells (c' - (len+n))).size=(c' - (len+n))*esz:=by simp [Builtin.zeroCells,hzl]
     have hsz:(old++arr++Builtin.zeroCells zv.cells (c' - (len+n))).size=c'*esz:=by
      rw [zc5,zc5,h3,<-bC old,<-bC arr,l1,l2,<-zbx,<-zbx]
      congr 1;omega
     refine⟨?_,?_,by rw [hsz];exact zac _⟩
     ·have:(old++arr++Builtin.zeroCells zv.cells (c' - (len+n))).toList.take ((cells.drop off).take (len*esz)++new).length=old.toList++arr.toList:=by
       have hll:((cells.drop off).take (len*esz)++new).length=(old.toList++arr.toList).length:=by
        rw [zaq,zaq,l1,l2,hpre,hlen]
       rw [hll,zb5,zb5,List.take_left]
      rw [this];exact oz hro hra
     ·rw [hsz,zaq,hpre,hlen,<-hmul];exact zaz _ hc'
    by_cases hex:ex=true
    ·rw [if_pos hex] at h;simp only [zaa,zae] at h;obtain⟨rfl,rfl⟩:=h;obtain⟨c',old,arr,hc',hrun,hro,hra⟩:=grow (by rw [q3 hex];exact hin);obtain⟨w1,w2,w3⟩:=whole c' old arr hc' hro hra;obtain⟨ρ',p1,p2,p3⟩:=rU (ty:=e+fQ) (hX:=Xct.grown) (e:=e) (m:=esz) (len:=len+n) (cap:=len+n) (c:=c') (ex:=false) R.drew w1 w2 (zac _) hc' (by simp) w3;refine⟨_,ρ',_,hrun,p1,?_,(Ext.drew ρ H w).trans p3⟩
     simpa using p2
    ·rw [if_neg hex] at h;split at h <;> first | (cases h;done) | skip
     simp only [zaa,zae] at h;obtain⟨rfl,rfl⟩:=h;by_cases hc:len+n<=c
     ·-- in place
      obtain⟨arr,ha,hra⟩:=happ w (.inl rfl);have hal:=bW hra;rw [hlen] at hal;have hoff:o=sh+off:=hoo (by omega);have hmc:(len+n)*esz<=c*esz:=zaz _ hc;have hst:=jB (P:=P) (o:=o+len*esz) arr.toList w cs 0 hbk (by rw [hal];omega) (oJ hcell hra);have kX:Xct ty e' sh cs.size cells.length:=by
       have qN:=R.obj r b sh hr;simp only [wH,ho] at qN;obtain⟨cs2,e2,k1,_,_,k4⟩:=qN;rw [hbk] at k1;cases k1;exact k4
      have hput:=Dx (hX:=by rw [hoff];exact aeK (rO hz) kX) (ty':=grT e ty off) (cells':=(cells.drop off).take (len*esz)++new) (cs':=jY cs (o+len*esz) arr.toList) (g':=g'+1) (sh':=o) R hr hbk (dU _ _ _) (by omega) (λhh=> by omega)
       (by rw [zaq,hpre,hlen];omega) (by
        intro i u hu;rw [zcR,hpre] at hu;rw [kN _ _ _ _ (by rw [hal];omega),hal];by_cases hi:i < len*esz
        ·rw [if_pos hi,zay,if_pos hi,zaA] at hu;rw [if_neg (by omega),hoff,zcy];exact uh hbk hcc hu
        ·rw [if_neg hi] at hu;have ap0:i - len*esz < n*esz:=by
          rw [<-hlen];exact(zak.1 hu).1
         rw [if_pos (by omega),show o+i - (o+len*esz)=i - len*esz from by omega];exact jD hra hu)
      refine⟨.slice (some ⟨b,o,none⟩) (len+n) c,_,_,?_,hput.1,?_,hput.2⟩
      ·simp only [qw,if_pos hc,Sem.run_bind,ha,Result.andThen_ok,jq];simp only [zbp] at hst;simp [hst]
      ·simp only [RV];refine⟨b,o,c,rfl,zac _,hc,by simp,?_,λ_=> ⟨o,e',cs.size,by simp [updρ],λ_=> rfl,?_,hcs⟩⟩
       ·rw [rP];simp [fD.gen]
       ·rw [dY,kM (lV hbk)];simp [AB,dU]
     ·-- a new row
      obtain⟨c',old,arr,hc',hrun,hro,hra⟩:=grow hc;obtain⟨w1,w2,w3⟩:=whole c' old arr hc' hro hra;have hmv:=aaq (hX:=aeJ) (r:=r) (g':=g'+1) (ty:=grT e ty off) (e:=e) (cells:=(cells.drop off).take (len*esz)++new) R.drew (R.lt hr) hr (by omega) w2 (by
       intro i u hu;obtain⟨cv,hcv,h1⟩:=jD w1 hu;rw [zay] at hcv;split at hcv
       ·exact⟨cv,by rw [<-zcL];exact hcv,h1⟩
       ·cases hcv)
      refine⟨_,_,_,hrun,hmv.1,?_,(Ext.drew ρ H w).trans hmv.2⟩;simp only [RV];refine⟨w.heap.size,0,c',rfl,zac _,hc',by simp,?_,λ_=> ⟨0,e,_,by simp [updρ],λ_=> rfl,?_,by rw [za5];exact w3⟩⟩
      ·rw [rP];simp [fD.gen]
      ·rw [dY];have:(w.drew.alloc (.cells (old++arr++Builtin.zeroCells zv.cells (c' - (len+n))) e)).heap[w.heap.size]?=some (.cells (old++arr++Builtin.zeroCells zv.cells (c' - (len+n))) e):=jA w.drew _;rw [this];rfl
 ·cases h
end
section
variable {P:Program}{ρ:Ren}{H H':ah}{w:World}{v:AV}
theorem V4(R:Rel ρ H w){t u ty:TypeId}{x y:AV}{cx cy:Value}(hx:RV ρ H.gen w x cx)(hy:RV ρ H.gen w y cy)(h:Ip P t u x y H=some (v,H')):Ok P ρ H w (Builtin.append_ #[t,u] ty #[cx,cy]) v H':=by
 unfold Ip at h;split at h <;> first | (cases h;done) | skip
 rename_i e d he hd;split at h <;> first | (cases h;done) | skip
 rename_i m by_ z hs hb hz;split at h <;> first | (cases h;done) | skip
 rename_i hzl;obtain⟨zv,hzv,rfl⟩:=xY hz;simp at hzl;split at h
 ·rename_i k;split at h <;> first | (cases h;done) | skip
  rename_i k' n;split at h <;> first | (cases h;done) | skip
  rename_i hcond;obtain⟨h0,h1,h2⟩:=hcond;simp only [RV] at hy;subst hy;have happ:∀w',w'=w∨w'=w.drew->∃arr:Array Value,(if n.toNat*m=0 then pure #[] else do pure (Builtin.zeroCells (<-zeroValue e).cells n.toNat):Sem (Array Value)).run P w'=.ok arr w'/\RVs ρ H.gen w' (dI (zv.cells.toList.map .s) n.toNat) arr.toList:=by
   intro w' _;by_cases h3:n.toNat*m=0
   ·rw [if_pos h3];have:dI (zv.cells.toList.map .s) n.toNat=[]:=zan (by rw [iJ];simp [hzl,h3]);exact⟨#[],rfl,by rw [this];exact iT⟩
   ·rw [if_neg h3];exact⟨Builtin.zeroCells zv.cells n.toNat,by simp [fK hzv],um zv n.toNat⟩
  obtain⟨base,sLen,sCap,rfl,hok⟩:=wJ (P:=P) (zeros:=true) (cy:=.int k' n) R hs hb hzv hzl hx happ h;obtain⟨cv,ρ',w',p1,p2,p3,p4⟩:=hok;exact⟨cv,ρ',w',by rw [BG (mV he) hs hb hd h0 h1 h2];exact p1,p2,p3,p4⟩
 ·rename_i hnd;split at h <;> first | (cases h;done) | skip
  rename_i n new hn hnew;have hnl:new.length=n*m:=by
   unfold dJ at h;split at h
   ·rename_i hc;exact hc.1
   ·cases h
  have hl:=(je (P:=P) R hy hn hnew hnl).1;have happ:∀w',w'=w∨w'=w.drew->∃arr:Array Value,(Builtin.firstCells m n cy).run P w'=.ok arr w'/\RVs ρ H.gen w' new arr.toList:=by
   rintro w' (rfl | rfl)
   ·exact(je (P:=P) R hy hn hnew hnl).2
   ·exact(je (P:=P) R.drew (R.keep (Ext.drew ρ H w) hy) hn hnew hnl).2
  obtain⟨base,sLen,sCap,rfl,hok⟩:=wJ (P:=P) (zeros:=false) (cy:=cy) R hs hb hzv hzl hx happ h;obtain⟨cv,ρ',w',p1,p2,p3,p4⟩:=hok;exact⟨cv,ρ',w',by rw [DC (mV he) hs hd (λk hk=> hnd k hk) hl];exact p1,p2,p3,p4⟩
theorem aeQ(R:Rel ρ H w){ts:Array TypeId}{t ty:TypeId}{x y:AV}{cx cy:Value}(ht:ts[0]?=some t)(hx:RV ρ H.gen w x cx)(hy:RV ρ H.gen w y cy)(h:aae P t x y H=some (v,H')):Ok P ρ H w (Builtin.copy_ ts ty #[cx,cy]) v H':=by
 have a0:(#[cx,cy]:Array Value)[0]?=some cx:=rfl;have a1:(#[cx,cy]:Array Value)[1]?=some cy:=rfl;unfold aae at h;split at h <;> first | (cases h;done) | skip
 rename_i e he;split at h <;> first | (cases h;done) | skip
 rename_i m d n new hs hd hn hnew;simp only at h;split at h <;> first | (cases h;done) | skip
 rename_i hcond;obtain⟨hnl,hcell⟩:=hcond;obtain⟨hl,_⟩:=je (P:=P) R hy hn hnew hnl
 -- the aar length
 have hdst:∀{base:Option Addr} {dl dc:Nat},cx=.slice base dl dc->dl=d:=by
  intro base dl dc hcx;subst hcx;unfold jG at hd;split at hd <;> first | (cases hd;done) | skip
  ·simp only [RV] at hx;obtain⟨_,_,_,h1,_⟩:=hx;cases h1;cases hd;rfl
  ·simp only [RV] at hx;obtain⟨_,_,_,h1,_⟩:=hx;cases h1;cases hd;rfl
  ·simp only [RV] at hx;cases hx;cases hd;rfl
  ·simp only [RV] at hx;cases hx
 have first:∃arr:Array Value,(Builtin.firstCells m (min n d) cy).run P w=.ok arr w/\RVs ρ H.gen w (new.take (min n d*m)) arr.toList:=by
  -- the first cells of the source
  unfold jG at hn;split at hn <;> first | (cases hn;done) | skip
  ·rename_i r g off esz len cap ex;simp only [zaa] at hn;subst hn;simp only [bM] at hnew;split at hnew <;> first | (cases hnew;done) | skip
   rename_i g' ty' cells ho;split at hnew <;> first | (cases hnew;done) | skip
   rename_i hc2;obtain⟨rfl,hle⟩:=hc2;simp only [zaa] at hnew;subst hnew;obtain⟨b,o,c,sh,cs,e',rfl,q1,q2,q3,hr,hoo,hbk,hcs,hz',hcc⟩:=BM R hy ho;have hlen:((cells.drop off).take (len*esz)).length=len*esz:=by simp;omega
   by_cases h0:min len d*m=0
   ·refine⟨#[],?_,by rw [h0];simp [RVs]⟩;simp [Builtin.firstCells,h0,loadCells,loadCellsFrom]
   ·have hpos:0 < min len d:=Nat.pos_of_ne_zero λhh=> h0 (by rw [hh,zbe]);have ho':=hoo (by omega);have hcells:RVc ρ H.gen w (((cells.drop off).take (len*esz)).take (min len d*m)) b (sh+off):=rM _ (rM _ (pF _ hcc));obtain⟨l,hl',h1⟩:=lC (P:=P) hcells;have hll:(((cells.drop off).take (len*esz)).take (min len d*m)).length=min len d*m:=by
     rw [zav,hnl];have:min len d*m<=len*m:=zaz _ (Nat.min_le_left _ _);omega
    rw [hll] at hl';exact⟨l.toArray,by simp only [Builtin.firstCells,ho'];exact hl',by simpa using h1⟩
  ·rename_i n' esz cells;simp only [zaa] at hn;subst hn;simp only [bM,zaa] at hnew;subst hnew;simp only [RV] at hy;obtain⟨b,o,c,rfl,q1,q2,q3,q4,q5⟩:=hy;obtain⟨l,hl',h1⟩:=lC (P:=P) (rM (min n' d*m) q5);have hll:(cells.take (min n' d*m)).length=min n' d*m:=by
    rw [zav,hnl];have:min n' d*m<=n'*m:=zaz _ (Nat.min_le_left _ _);omega
   rw [hll] at hl';exact⟨l.toArray,by simp only [Builtin.firstCells];exact hl',by simpa using h1⟩
  ·simp only [RV] at hy;subst hy;simp only [bM,zaa] at hnew;subst hnew;exact⟨#[],by simp [Builtin.firstCells],by simp [RVs]⟩
  ·rename_i s;simp only [zaa] at hn;subst hn;simp only [RV] at hy;subst hy;simp only [bM,zaa] at hnew;subst hnew;refine⟨((s.extract 0 (min s.size d)).data.map λb=> .int .u8 b.toNat),by simp [Builtin.firstCells],?_⟩;have hm:m=1∨s.size=0:=by
    have h3:s.data.toList.length=s.size:=rfl;rw [zax,h3] at hnl;rcases Nat.eq_zero_or_pos s.size with h | h
    ·exact .inr h
    ·left;rcases m with _ | _ | m
     ·rw [Nat.mul_zero] at hnl;omega
     ·rfl
     ·have:s.size*2<=s.size*(m+1+1):=Nat.mul_le_mul_left _ (by omega);omega
   have h2:((s.data.toList.map λb=> AV.s (.int .u8 b.toNat)).take (min s.size d*m))=(((s.extract 0 (min s.size d)).data.map λb=> Value.int .u8 b.toNat).toList).map .s:=by
    rcases hm with rfl | h0
    ·simp [ByteArray.data_extract,zcz];rfl
    ·have h3:s.data.toList=[]:=zan h0;have h4:s.data=#[]:=by simpa using h3
     simp [ByteArray.data_extract,h4]
   rw [h2];exact gy _
 obtain⟨arr,ha,hra⟩:=first
 by_cases hk:min n d=0
 ·rw [if_pos hk] at h;split at h <;> first | (cases h;done) | skip
  rename_i hns;simp only [zaa,zae] at h;obtain⟨rfl,rfl⟩:=h;have harr:arr.toList=[]:=by
   have:=bW hra;rw [hk,zbe] at this
   simpa using this
  obtain⟨base,dl,dc,rfl⟩:∃base dl dc,cx=.slice base dl dc:=by
   unfold jG at hd;split at hd <;> first | (cases hd;done) | skip
   ·simp only [RV] at hx;obtain⟨_,_,_,rfl,_⟩:=hx;exact⟨_,_,_,rfl⟩
   ·simp only [RV] at hx;obtain⟨_,_,_,rfl,_⟩:=hx;exact⟨_,_,_,rfl⟩
   ·simp only [RV] at hx;subst hx;exact⟨_,_,_,rfl⟩
   ·exact(hns _ rfl).elim
  obtain rfl:=hdst rfl;refine OkP.ok ⟨.int .i64 0,?_,by simp only [RV]⟩ R;have hmin:Nat.min n dl=min n dl:=rfl;simp only [Builtin.copy_,ht,a0,a1,Sem.run_bind,run_underlying (mV he),Result.andThen_ok,hl,dV hs,hmin,ha];cases base with
  | none=> simp [goInt,hk]
  | some a=> simp [goInt,hk,harr,storeCells]
 ·rw [if_neg hk] at h;split at h <;> first | (cases h;done) | skip
  rename_i r g off esz len cap ex;split at h <;> first | (cases h;done) | skip
  rename_i g' ty' cells ho;split at h <;> first | (cases h;done) | skip
  rename_i hc2;obtain⟨rfl,rfl,hbase,hle⟩:=hc2;simp only [zaa,zae] at h;obtain⟨rfl,rfl⟩:=h;obtain⟨b,o,c,sh,cs,e',rfl,q1,q2,q3,hr,hoo,hbk,hcs,hz',hcc⟩:=BM R hx ho;obtain rfl:=hdst rfl;have hgen:H.gen r=g':=by simp [ah.gen,ho,fD.gen]
  have hoff:o=sh+off:=hoo (by omega);have hal:=bW hra;have htl:(new.take (min n len*esz)).length=min n len*esz:=by
   rw [zav,hnl];have:min n len*esz<=n*esz:=zaz _ (Nat.min_le_left _ _);omega
  rw [htl] at hal;have hml:min n len*esz<=len*esz:=zaz _ (Nat.min_le_right _ _);have hlc:len*esz<=c*esz:=zaz _ (by omega);have hcell':(new.take (min n len*esz)).all AV.aU=true:=by
   rw [zaZ] at hcell ⊢;intro a ha';exact hcell a (zdl ha')
  have hst:=jB (P:=P) (o:=o) arr.toList w cs 0 hbk (by rw [hal];omega) (oJ hcell' hra);have kX:Xct ty' e' sh cs.size cells.length:=by
   have qN:=R.obj r b sh hr;simp only [wH,ho] at qN;obtain⟨cs2,e2,k1,_,_,k4⟩:=qN;rw [hbk] at k1;cases k1;exact k4
  have hput:=Dx (hX:=by rw [dU,iI _ _ _ (by rw [htl];omega)];exact kX) (ty':=ty') (cells':=aG cells off (new.take (min n len*esz))) (cs':=jY cs o arr.toList) (g':=g') (sh':=sh) R hr hbk (dU _ _ _) (by omega) (λ_=> rfl)
   (by rw [iI _ _ _ (by rw [htl];omega)];exact hz') (by
    intro i u hu;rw [uj _ _ _ (by rw [htl];omega),htl] at hu;rw [kN _ _ _ _ (by rw [hal];omega),hal];by_cases hi:off<=i/\i < off+min n len*esz
    ·rw [if_pos hi] at hu;rw [if_pos (by omega),show sh+i - o=i - off from by omega];exact jD hra hu
    ·rw [if_neg hi] at hu;rw [if_neg (by omega)];exact uh hbk hcc hu)
  refine⟨.int .i64 ((min n len:Nat):Int),_,_,?_,hput.1,by simp only [RV],hput.2⟩;have hmin:Nat.min n len=min n len:=rfl;simp only [zbp] at hst;simp only [Builtin.copy_,ht,a0,a1,Sem.run_bind,run_underlying (mV he),Result.andThen_ok,hl,dV hs,hmin,ha,hst,Sem.run_pure,goInt]
theorem aas(R:Rel ρ H w){t ty:TypeId}{x:AV}{cx:Value}(hx:RV ρ H.gen w x cx)(h:QM P t x H=some (v,H')):Ok P ρ H w (Builtin.clear_ #[t] ty #[cx]) v H':=by
 have a0:(#[t]:Array TypeId)[0]?=some t:=rfl;have a1:(#[cx]:Array Value)[0]?=some cx:=rfl;unfold QM at h;split at h <;> first | (cases h;done) | skip
 rename_i e he;split at h <;> first | (cases h;done) | skip
 ·rename_i m z r g off esz len cap ex hs hz;obtain⟨zv,hzv,rfl⟩:=xY hz;by_cases h0:len=0
  ·subst h0;simp only [if_true,zaa,zae] at h;obtain⟨rfl,rfl⟩:=h;simp only [RV] at hx;obtain⟨b,o,c,rfl,_⟩:=hx;refine OkP.ok ⟨.tuple #[],?_,by simp only [RV];exact⟨_,rfl,iT⟩⟩ R;simp [Builtin.clear_,run_underlying (mV he)]
  ·rw [if_neg h0] at h;split at h <;> first | (cases h;done) | skip
   rename_i g' ty' cells ho;split at h <;> first | (cases h;done) | skip
   rename_i hc2;obtain⟨rfl,rfl,hbase,hzl,hcell,hle⟩:=hc2;simp only [zaa,zae] at h;obtain⟨rfl,rfl⟩:=h;simp at hzl;obtain⟨b,o,c,sh,cs,e',rfl,q1,q2,q3,hr,hoo,hbk,hcs,hz',hcc⟩:=BM R hx ho;have hgen:H.gen r=g':=by simp [ah.gen,ho,fD.gen]
   have hoff:o=sh+off:=hoo (by omega);have hlc:len*esz<=c*esz:=zaz _ (by omega);have hzr:=um (ρ:=ρ) (G:=H.gen) (w:=w) zv len;have heq:((Array.range (len*zv.cells.size)).map (zv.cells[· % zv.cells.size]!))=Builtin.zeroCells zv.cells len:=rfl;rw [heq] at hzr;have V5:(dI (zv.cells.toList.map .s) len).length=len*esz:=by rw [iJ];simp [hzl]
   have hal:=bW hzr;rw [V5] at hal;have hcz:(dI (zv.cells.toList.map .s) len).all AV.aU=true:=by
    have key:∀n,(dI (zv.cells.toList.map .s) n).all AV.aU=true:=by
     intro n
     induction n with
     | zero=> rfl
     | succ n ih=> simp only [dI,zbF,ih,hcell,zcA]
    exact key len
   have hst:=jB (P:=P) (o:=o) (Builtin.zeroCells zv.cells len).toList w cs 0 hbk (by rw [hal];omega) (oJ hcz hzr);have kX:Xct ty' e' sh cs.size cells.length:=by
    have qN:=R.obj r b sh hr;simp only [wH,ho] at qN;obtain⟨cs2,e2,k1,_,_,k4⟩:=qN;rw [hbk] at k1;cases k1;exact k4
   have hput:=Dx (hX:=by rw [dU,iI _ _ _ (by rw [V5];omega)];exact kX) (ty':=ty') (cells':=aG cells off (dI (zv.cells.toList.map .s) len)) (cs':=jY cs o (Builtin.zeroCells zv.cells len).toList) (g':=g') (sh':=sh) R hr hbk (dU _ _ _) (by omega) (λ_=> rfl)
    (by rw [iI _ _ _ (by rw [V5];omega)];exact hz') (by
     intro i u hu;rw [uj _ _ _ (by rw [V5];omega),V5] at hu;rw [kN _ _ _ _ (by rw [hal];omega),hal];by_cases hi:off<=i/\i < off+len*esz
     ·rw [if_pos hi] at hu;rw [if_pos (by omega),show sh+i - o=i - off from by omega];exact jD hzr hu
     ·rw [if_neg hi] at hu;rw [if_neg (by omega)];exact uh hbk hcc hu)
   refine⟨.tuple #[],_,_,?_,hput.1,by simp only [RV];exact⟨_,rfl,iT⟩,hput.2⟩;simp only [zbp] at hst;obtain⟨len,rfl⟩:∃k,len=k+1:=⟨len - 1,by omega⟩
   simp only [Builtin.clear_,a0,a1,Sem.run_bind,run_underlying (mV he),Result.andThen_ok,fK hzv,hst,Sem.run_pure]
 ·simp only [zaa,zae] at h;obtain⟨rfl,rfl⟩:=h;simp only [RV] at hx;subst hx;refine OkP.ok ⟨.tuple #[],?_,by simp only [RV];exact⟨_,rfl,iT⟩⟩ R;simp [Builtin.clear_,run_underlying (mV he)]
end
section
variable {P:Program}{ρ:Ren}{H H':ah}{w:World}{v:AV}
theorem wV {G:Nat->Nat}:∀(xs:List AV) (l:List Value) (ns:List Int),RVs ρ G w xs l->mO xs=some ns->l=ns.map (Value.int .u8)
 | [],l,ns,h,hn=> by
  simp only [RVs] at h;subst h;simp only [mO,zaa] at hn;subst hn;rfl
 | x::xs,l,ns,h,hn=> by
  obtain⟨y,ys,rfl,h1,h2⟩:=(by simpa only [RVs] using h)
  simp only [mO] at hn;split at hn <;> first | (cases hn;done) | skip
  split at hn <;> first | (cases hn;done) | skip
  rename_i l' hl';simp only [zaa] at hn;subst hn;simp only [RV] at h1;subst h1;rw [wV xs ys l' h2 hl'];rfl
theorem aho(R:Rel ρ H w){x:AV}{cx:Value}{s:ByteArray}(hx:RV ρ H.gen w x cx)(h:ag8 x ((bD x).map H.get)=some s):(Conv.bytesToString cx).run P w=.ok (.string s) w/\∃a l c,cx=.slice a l c:=by
 unfold ag8 at h;split at h <;> first | (cases h;done) | skip
 ·rename_i r g off esz len cap ex;split at h <;> first | (cases h;done) | skip
  rename_i h1;subst h1;split at h <;> first | (cases h;done) | skip
  rename_i g' ty cells ho;simp only [bD,zai,zaa] at ho;split at h <;> first | (cases h;done) | skip
  rename_i hcond;obtain⟨rfl,hle⟩:=hcond;cases hb:mO ((cells.drop off).take (len*1)) with
  | none=> rw [hb] at h;cases h
  | some ns=>
   simp only [hb,zai,zaa] at h;subst h;have hc:bM H (.sl r g' off 1 len cap ex)=some ((cells.drop off).take (len*1)):=by simp only [bM,ho];rw [if_pos ⟨trivial,hle⟩]
   have hlen:((cells.drop off).take (len*1)).length=len*1:=by simp;omega
   obtain⟨_,arr,ha,hra⟩:=je (P:=P) (m:=1) R hx rfl hc hlen;have harr:=wV _ _ ns hra hb;simp only [RV] at hx;obtain⟨b,o,c,rfl,_⟩:=hx;have hl:(loadCells ⟨b,o,none⟩ len).run P w=.ok (ns.map (Value.int .u8)).toArray w:=by
    simp only [Builtin.firstCells,zbi] at ha;rw [ha,<-harr]
   exact⟨run_bytesToString w ⟨b,o,none⟩ len c ns hl,_,_,_,rfl⟩
 ·rename_i n esz cells;split at h <;> first | (cases h;done) | skip
  rename_i h1;subst h1;cases hb:mO cells with
  | none=> simp [hb] at h
  | some ns=>
   simp only [hb,zai,zaa] at h;subst h;have hx':=hx;simp only [RV] at hx;obtain⟨b,o,c,rfl,q1,q2,_⟩:=hx;obtain⟨_,arr,ha,hra⟩:=je (P:=P) (m:=1) R hx' rfl rfl q2;have harr:=wV _ _ ns hra hb;have hl:(loadCells ⟨b,o,none⟩ n).run P w=.ok (ns.map (Value.int .u8)).toArray w:=by
    simp only [Builtin.firstCells,zbi] at ha;rw [ha,<-harr]
   exact⟨run_bytesToString w ⟨b,o,none⟩ n c ns hl,_,_,_,rfl⟩
 ·simp only [zaa] at h;subst h;simp only [RV] at hx;subst hx;exact⟨by simp [Conv.bytesToString],_,_,_,rfl⟩
theorem Ul {src dst:TypeId}(h:Dp P src dst=true):∃e,P.underlying src=some (.slice e)/\P.underlying dst=some .string/\P.underlying e=some (.int .u8):=by
 unfold Dp at h;split at h <;> first | (cases h;done) | skip
 rename_i e hs hd;split at h <;> first | (cases h;done) | skip
 rename_i he;exact⟨e,hs,hd,he⟩
theorem Um(R:Rel ρ H w){src dst:TypeId}{x:AV}{cx:Value}(hx:RV ρ H.gen w x cx)(h:jH P src dst x H=some (v,H')):H'=H/\OkP P ρ H.gen w (convert src dst cx) v:=by
 obtain⟨h',hh⟩:=rQ h
 clear h
 subst hh;have h:=h'
 clear h'
 refine⟨rfl,?_⟩;unfold xW at h;split at h
 ·rename_i hb;obtain⟨e,hs,hd,he⟩:=Ul hb;cases hst:ag8 x ((bD x).map H'.get) with
  | none=> simp [hst] at h
  | some s=>
   simp only [hst,zai,zaa] at h;subst h;obtain⟨hrun,a,l,c,rfl⟩:=aho (P:=P) R hx hst;exact⟨.string s,by rw [run_convert_bytes_string w src dst e _ _ _ hs he hd];exact hrun,by simp only [RV]⟩
 ·split at h <;> first | (cases h;done) | skip
  rename_i u hu;rw [FP x cx u hx hu];cases hp:iE P (convert src dst u) with
  | none=> simp [hp] at h
  | some r=>
   simp only [hp,zai,zaa] at h;subst h;exact⟨r,kP hp w,by simp only [RV]⟩
theorem KP {G:Nat->Nat}{x:AV}{cx:Value}(hx:RV ρ G w x cx)(h:au x=some v):v=x/\(match cx with
  | .pointer none | .nilIface | .nilFunc=> (runtimePanic .nilDeref:Sem Next)
  | .func (.method name) first captured=>
   match(first[0]?:Option Value) with
   | some .nilIface=> runtimePanic .nilDeref
   | some (.iface t w)=> do
    if(<-nilAhead ((<-program).types.size+Made.depth) t w name) !=some false then
     unsupported (.noEntry "op/nilCheck.the method's receiver behind this interface value is a nil pointer, or cannot be seen to be none, and the arguments act or may panic (ledger 612)")
    pure (.value (.func (.method name) first captured))
   | _=> pure (.value (.func (.method name) first captured))
  | x=> pure (.value x)).run P w=.ok (.value cx) w:=by
 unfold au at h;split at h <;> first | (cases h;done) | skip
 all_goals
  simp only [zaa] at h;subst h;refine⟨rfl,?_⟩;simp only [RV] at hx
 ·obtain⟨a,rfl,_⟩:=hx;rfl
 ·obtain⟨b,o,rfl,_⟩:=hx;rfl
 ·obtain⟨a,c,rfl,_⟩:=hx;rfl
 ·subst hx;rfl
end
def oZ(P:Program)(C:aA):Prop:=
 ∀f args H v H',C f args H=some (v,H')->∀(ρ:Ren) (w:World) (jZ:Array Value),Rel ρ H w->RVs ρ H.gen w args jZ.toList->
  Calls P f jZ w λe w'=>∃cv ρ',e=.returned cv/\Rel ρ' H' w'/\RV ρ' H'.gen w' v cv/\Ext ρ H w ρ' H' w'
section
variable {P:Program}{ρ:Ren}{H H':ah}{w:World}{v:AV}
theorem aat {o:Oper}{a:Act}{K:Act->World->Prop}{Q:Exit->Act->World->Prop}{s:Sem Value}{cv:Value}{w':World}(he:execOp a.eval o=(do pure (.value (<-s))))(hr:s.run P w=.ok cv w')(hk:K (a.put o.dst cv) w'):
  o.wp P a w K Q:=by
 unfold Oper.wp;rw [he,Sem.run_bind,hr];exact hk
theorem aeR {o:Oper}{a:Act}{K:Act->World->Prop}{Q:Exit->Act->World->Prop}{s:Sem Unit}{w':World}(he:execOp a.eval o=(do s;pure .skip))(hr:s.run P w=.ok () w')(hk:K (a.put o.dst undef) w'):
  o.wp P a w K Q:=by
 unfold Oper.wp;rw [he,Sem.run_bind,hr];exact hk
theorem aeS {o:Oper}{a:Act}{K:Act->World->Prop}{Q:Exit->Act->World->Prop}{s:Sem Next}{cv:Value}{w':World}(he:execOp a.eval o=s)(hr:s.run P w=.ok (.value cv) w')(hk:K (a.put o.dst cv) w'):
  o.wp P a w K Q:=by
 unfold Oper.wp;rw [he,hr];exact hk
theorem BN {G:Nat->Nat}:RV ρ G w aO undef:=by
 unfold aO undef;simp only [RV];exact⟨_,rfl,iT⟩
theorem zC {G:Nat->Nat}{t:fC}{a:Act}:∀(xs:List Operand),(∀x∈xs,RV ρ G w (cZ t x) (a.eval x))->RVs ρ G w (xs.map (cZ t)) (xs.map a.eval)
 | [],_=> iT
 | x::xs,h=> iQ (h x (by simp)) (zC xs λy hy=> h y (by simp [hy]))
theorem DF {G:Nat->Nat}{t:fC}{a:Act}{x:Option Operand}(h:∀y∈x.toArray,RV ρ G w (cZ t y) (a.eval y)):OX ρ G w (x.map (cZ t)) (x.map a.eval):=by
 cases x with
 | none=> trivial
 | some y=> exact h y (by simp)
theorem KQ {f:FuncId}{args:Array Value}(h:oG P f=true):(callFunc f args).run P w=.ok (.enter f args) w:=by
 unfold oG at h;cases hf:P.funcs[f]? with
 | none=> simp [hf] at h
 | some fn=>
  simp only [hf,zaj,zbf] at h;have hb:fn.body.isNone=false:=by
   cases hbd:fn.body with
   | none=> simp [hbd] at h
   | some b=> rfl
  simp only [callFunc,Sem.run_bind,run_program,Result.andThen_ok,hf,h.1,zal,if_false,hb,Sem.run_pure]
theorem aeT {C:aA}(hC:oZ P C){o:Oper}{c:Call}{f:Operand}(hop:o.op=.call c)(OZ:c.callee=.value f){a:Act}{K:Act->World->Prop}{Q:Exit->Act->World->Prop}{x:AV}{args:List AV}(R:Rel ρ H w)
  (hf:RV ρ H.gen w x (a.eval f)) (hargs:RVs ρ H.gen w args (c.args.map a.eval).toList) (h:oH P C x args H=some (v,H'))
  (hK:∀cv ρ' w',Rel ρ' H' w'->RV ρ' H'.gen w' v cv->Ext ρ H w ρ' H' w'->K (a.put o.dst cv) w'):o.wp P a w K Q:=by
 have key:∀(fid:FuncId) (first captured:Array Value) (xs:List AV),a.eval f=.func (.func fid) first captured->oG P fid=true->C fid xs H=some (v,H')->RVs ρ H.gen w xs (first++c.args.map a.eval++captured).toList->o.wp P a w K Q:=by
  intro fid first captured xs hev hen hc hxs
  have hrun:(execOp a.eval o).run P w=.ok (.enter fid (first++c.args.map a.eval++captured)) w:=by
   unfold execOp;rw [hop];simp only [resolve,OZ,hev,Deferred.ofValue,Sem.run_bind,Sem.run_pure,Result.andThen_ok,invoke];exact KQ hen
  unfold Oper.wp;rw [hrun];refine(hC fid xs H v H' hc ρ w _ R hxs).mono λe w' he=> ?_;obtain⟨cv,ρ',rfl,h1,h2,h3⟩:=he;exact hK cv ρ' w' h1 h2 h3
 unfold oH at h;split at h <;> first | (cases h;done) | skip
 ·rename_i fid first captured
  split at h <;> first | (cases h;done) | skip
  rename_i hen;simp only [RV] at hf;obtain⟨fa,ca,hev,h1,h2⟩:=hf;refine key fid fa ca _ hev hen h ?_;rw [zb5,zb5];exact oz (oz h1 hargs) h2
 ·rename_i fid first captured
  split at h <;> first | (cases h;done) | skip
  rename_i hen;simp only [RV] at hf;refine key fid first captured _ hf hen h ?_
  rw [zb5,zb5];exact oz (oz (gy _) hargs) (gy _)
theorem rV {α:Type}{x:Option α}{u:α}(h:fE x H=some (u,H')):x=some u/\H'=H:=by
 unfold fE at h;cases x with
 | none=> cases h
 | some y=> simp only [zai,zaa,zae] at h;exact⟨by rw [h.1],h.2.symm⟩
theorem Un(R:Rel ρ H w){b:Builtin}{ts:Array TypeId}{ty:TypeId}{consts:Array Bool}{args:List AV}{jZ:Array Value}(hargs:RVs ρ H.gen w args jZ.toList)(h:iw P b ts ty args H=some (v,H')):
  ∃s:Sem Value,builtin b ts ty consts jZ=(do pure (.value (<-s)))/\Ok P ρ H w s v H':=by
 have two:∀{x y:AV},args=[x,y]->∃cx cy,jZ=#[cx,cy]/\RV ρ H.gen w x cx/\RV ρ H.gen w y cy:=by
  intro x y hxy;subst hxy;obtain⟨cx,l,e,h1,h2⟩:=(by simpa only [RVs] using hargs)
  obtain⟨cy,l',e',h3,h4⟩:=(by simpa only [RVs] using h2)
  subst e' h4;exact⟨cx,cy,zb7.1 (by simpa using e),h1,h3⟩
 have one:∀{x:AV},args=[x]->∃cx,jZ=#[cx]/\RV ρ H.gen w x cx:=by
  intro x hxy;subst hxy;obtain⟨cx,l,e,h1,h2⟩:=(by simpa only [RVs] using hargs)
  subst h2;exact⟨cx,zb7.1 (by simpa using e),h1⟩
 have tys:∀{l:List TypeId},ts.toList=l->ts=l.toArray:=λh=> by rw [<-h]
 unfold iw at h;split at h
 ·rename_i t u x y hts;obtain⟨cx,cy,rfl,h1,h2⟩:=two rfl;rw [tys hts];exact⟨_,rfl,V4 R h1 h2 h⟩
 ·rename_i t x hts;obtain⟨cx,rfl,h1⟩:=one rfl;rw [tys hts];obtain⟨rfl,h2⟩:=ahl (ty:=ty) R h1 h;exact⟨_,rfl,h2.ok R⟩
 ·rename_i t x hts;obtain⟨cx,rfl,h1⟩:=one rfl;rw [tys hts];unfold fE at h;cases hc:acv P t x with
  | none=> simp [hc] at h
  | some u=>
   simp only [hc,zai,zaa,zae] at h;obtain⟨rfl,rfl⟩:=h;exact⟨_,rfl,(ahm (ty:=ty) h1 hc).ok R⟩
 ·rename_i t ts' x y hts;obtain⟨cx,cy,rfl,h1,h2⟩:=two rfl;exact⟨_,rfl,aeQ R (by rw [tys hts];rfl) h1 h2 h⟩
 ·rename_i t x hts;obtain⟨cx,rfl,h1⟩:=one rfl;rw [tys hts];exact⟨_,rfl,aas R h1 h⟩
 ·rename_i t ts' x y hts;obtain⟨cx,cy,rfl,h1,h2⟩:=two rfl;exact⟨_,rfl,VZ R (by rw [tys hts];rfl) h1 h2 h⟩
 ·obtain⟨hc,rfl⟩:=rV h;have:=KN hargs hc;simp only [if_true] at this;exact⟨_,rfl,this.ok R⟩
 ·obtain⟨hc,rfl⟩:=rV h;have:=KN hargs hc;simp only [zal,if_false] at this;exact⟨_,rfl,this.ok R⟩
 ·cases h
theorem II {G:Nat->Nat}{t:fC}{a:Act}(ps:Array (Nat × Operand))(h:∀x∈(ps.toList.map (·.2)).toArray,RV ρ G w (cZ t x) (a.eval x)):
  (ps.toList.map λp=> (p.1,cZ t p.2)).map (·.1)=((ps.map λ(i,x)=> (i,a.eval x)).toList).map (·.1)/\RVs ρ G w ((ps.toList.map λp=> (p.1,cZ t p.2)).map (·.2)) (((ps.map λ(i,x)=> (i,a.eval x)).toList).map (·.2)):=by
 refine⟨by simp [Function.comp_def],?_⟩;have h1:(ps.toList.map λp=> (p.1,cZ t p.2)).map (·.2)=(ps.toList.map (·.2)).map (cZ t):=by simp [Function.comp_def]
 have h2:((ps.map λ(i,x)=> (i,a.eval x)).toList).map (·.2)=(ps.toList.map (·.2)).map a.eval:=by simp [Function.comp_def]
 rw [h1,h2];exact zC _ λx hx=> h x (by simpa using hx)
theorem IJ {C:aA}(hC:oZ P C){t:fC}{o:Oper}(h:opA P C t o H=some (v,H'))(R:Rel ρ H w){a:Act}(hop:∀x∈o.op.operands,RV ρ H.gen w (cZ t x) (a.eval x)){K:Act->World->Prop}{Q:Exit->Act->World->Prop}
  (hK:∀cv ρ' w',Rel ρ' H' w'->RV ρ' H'.gen w' v cv->Ext ρ H w ρ' H' w'->K (a.put o.dst cv) w'):o.wp P a w K Q:=by
 obtain⟨dst,op,type,pos,after,guard⟩:=o;simp only at hop hK;have O4:∀{s:Sem Value},execOp a.eval ⟨dst,op,type,pos,after,guard⟩=(do pure (.value (<-s)))->Ok P ρ H w s v H'->(⟨dst,op,type,pos,after,guard⟩:Oper).wp P a w K Q:=by
  intro s he hok;obtain⟨cv,ρ',w',h1,h2,h3,h4⟩:=hok;exact aat he h1 (hK cv ρ' w' h2 h3 h4)
 have ahp:∀{s:Sem Value},execOp a.eval ⟨dst,op,type,pos,after,guard⟩=(do pure (.value (<-s)))->H'=H->OkP P ρ H.gen w s v->(⟨dst,op,type,pos,after,guard⟩:Oper).wp P a w K Q:=by
  intro s he hh hok;subst hh;exact O4 he (hok.ok R)
 have aoI:∀{s:Sem Unit},execOp a.eval ⟨dst,op,type,pos,after,guard⟩=(do s;pure .skip)->(v=aO/\∃ρ' w',s.run P w=.ok () w'/\Rel ρ' H' w'/\Ext ρ H w ρ' H' w')->(⟨dst,op,type,pos,after,guard⟩:Oper).wp P a w K Q:=by
  intro s he hok;obtain⟨rfl,ρ',w',h1,h2,h3⟩:=hok;exact aeR he h1 (hK undef ρ' w' h2 BN h3)
 have VG:∀{s:Sem Value} {x:Option AV},execOp a.eval ⟨dst,op,type,pos,after,guard⟩=(do pure (.value (<-s)))->fE x H=some (v,H')->(x=some v->OkP P ρ H.gen w s v)->(⟨dst,op,type,pos,after,guard⟩:Oper).wp P a w K Q:=by
  intro s x he hl hok;obtain⟨h1,h2⟩:=rV hl;exact ahp he h2 (hok h1)
 have i1:∀{x:Operand},op.operands=#[x]->RV ρ H.gen w (cZ t x) (a.eval x):=λhe=> hop _ (by rw [he];simp);have i2:∀{x y:Operand},op.operands=#[x,y]->RV ρ H.gen w (cZ t x) (a.eval x)/\RV ρ H.gen w (cZ t y) (a.eval y):=λhe=> ⟨hop _ (by rw [he];simp),hop _ (by rw [he];simp)⟩
 have i3:∀{x y z:Operand},op.operands=#[x,y,z]->RV ρ H.gen w (cZ t x) (a.eval x)/\RV ρ H.gen w (cZ t y) (a.eval y)/\RV ρ H.gen w (cZ t z) (a.eval z):=λhe=> ⟨hop _ (by rw [he];simp),hop _ (by rw [he];simp),hop _ (by rw [he];simp)⟩
 cases op with
 | move x=>
  refine VG (s:=pure (a.eval x)) rfl h λhx=> ?_;cases hx;exact⟨_,rfl,i1 rfl⟩
 | assign x=>
  refine VG (s:=pure (a.eval x)) rfl h λhx=> ?_;cases hx;exact⟨_,rfl,i1 rfl⟩
 | pick c x y=>
  obtain⟨h1,h2,h3⟩:=i3 rfl;refine VG (s:=do pure (if<-asBool (a.eval c) then a.eval x else a.eval y)) ?_ h λhx=> aeN h1 h2 h3 hx;simp [execOp]
 | alloc e=> exact O4 rfl (aak R h)
 | box e x=> exact O4 rfl (ahi R (i1 rfl) h)
 | build ty ps=>
  obtain⟨h1,h2⟩:=II (ρ:=ρ) (w:=w) (G:=H.gen) (t:=t) (a:=a) ps hop;exact VG rfl h λhx=> aao h1 h2 hx
 | buildSlice ty n ps=>
  obtain⟨h1,h2⟩:=II (ρ:=ρ) (w:=w) (G:=H.gen) (t:=t) (a:=a) ps hop;exact O4 rfl (IC R h1 h2 h)
 | load ty x=>
  obtain⟨h1,h2⟩:=VU R (i1 rfl) h;exact ahp rfl h1 h2
 | store ty x y=>
  obtain⟨h1,h2⟩:=i2 rfl;exact aoI rfl (aaj R h1 h2 h)
 | nilCheck x=>
  obtain⟨h1,h2⟩:=rV h;subst h2;obtain⟨rfl,h3⟩:=KP (P:=P) (i1 rfl) h1;exact aeS rfl h3 (hK _ ρ w R (i1 rfl) (Ext.refl _ _ _))
 | binOp b ty x y ty'=>
  obtain⟨h1,h2⟩:=i2 rfl;exact VG rfl h λhx=> aeO h1 h2 (λhn=> by rw [KG hn];rfl) hx
 | unOp b ty x=> exact VG rfl h λhx=> amn (i1 rfl) hx
 | convert src dst x=>
  obtain⟨h1,h2⟩:=Um R (i1 rfl) h;exact ahp rfl h1 h2
 | makeFunc f fs cs=>
  refine VG (s:=Instr.makeFunc f (fs.map a.eval) (cs.map a.eval)) rfl h λhx=> ?_;cases hx;refine⟨_,rfl,?_⟩;simp only [RV];refine⟨_,_,rfl,?_,?_⟩
  ·rw [zdg];exact zC _ λx hx=> hop x (by simp [Op.operands];exact .inl (by simpa using hx))
  ·rw [zdg];exact zC _ λx hx=> hop x (by simp [Op.operands];exact .inr (by simpa using hx))
 | makeMap ty r=>
  cases r with
  | none=> exact O4 rfl (Uk R h)
  | some r=> cases h
 | makeSlice ty l c=>
  obtain⟨h1,h2⟩:=i2 rfl;exact O4 rfl (KI R h1 h2 h)
 | slice ty x lo hi mx=>
  have hx0:RV ρ H.gen w (cZ t x) (a.eval x):=hop x (by simp [Op.operands]);have hlo:OX ρ H.gen w (lo.map (cZ t)) (lo.map a.eval):=DF λy hy=> hop y (by simp [Op.operands] at hy ⊢;simp [hy]);have hhi:OX ρ H.gen w (hi.map (cZ t)) (hi.map a.eval):=DF λy hy=> hop y (by simp [Op.operands] at hy ⊢;simp [hy]);have hmx:OX ρ H.gen w (mx.map (cZ t)) (mx.map a.eval):=DF λy hy=> hop y (by simp [Op.operands] at hy ⊢;simp [hy]);exact VG rfl h λhh=> aan hx0 hlo hhi hmx hh
 | fieldAddr ty x i=> exact VG rfl h λhx=> KC (i1 rfl) hx
 | field ty x i=> exact VG rfl h λhx=> aal (i1 rfl) hx
 | indexAddr ty x i=>
  obtain⟨h1,h2⟩:=i2 rfl;obtain⟨h3,h4⟩:=KD R h1 h2 h;exact ahp rfl h3 h4
 | index ty x i=>
  obtain⟨h1,h2⟩:=i2 rfl;exact VG rfl h λhx=> aam h1 h2 hx
 | lookup ty x i ok=>
  obtain⟨h1,h2⟩:=i2 rfl;obtain⟨h3,h4⟩:=VY R h1 h2 h;exact ahp rfl h3 h4
 | mapUpdate ty m k x=>
  obtain⟨h1,h2,h3⟩:=i3 rfl;exact aoI rfl (KL R h1 h2 h3 h)
 | extract x i=> exact VG rfl h λhx=> Ui (i1 rfl) hx
 | call c=>
  simp only [opA,ug] at h;split at h
  ·rename_i f OZ;have hargs:RVs ρ H.gen w (c.args.toList.map (cZ t)) (c.args.map a.eval).toList:=by
    rw [zdg];exact zC _ λx hx=> hop x (by simp [Op.operands,Call.operands,OZ];exact .inr (by simpa using hx))
   exact aeT hC rfl OZ R (hop f (by simp [Op.operands,Call.operands,OZ])) hargs h hK
  ·rename_i b OZ;have hargs:RVs ρ H.gen w (c.args.toList.map (cZ t)) (c.args.map a.eval).toList:=by
    rw [zdg];exact zC _ λx hx=> hop x (by simp [Op.operands,Call.operands,OZ];simpa using hx)
   obtain⟨s,h1,h2⟩:=Un (P:=P) (consts:=c.args.map fun | .const _=> true | _=> false) R hargs h;refine O4 (s:=s) ?_ h2;rw [<-h1];simp only [execOp,resolve,OZ];rfl
  ·cases h
 | _=> cases h
end
def V6(o o':fD):Prop:=∀g ty c,o=.blk g ty c->∃g' ty' c',o'=.blk g' ty' c'/\(ty'=ty∨fQ<=ty')
theorem V6.refl(o:fD):V6 o o:=λg ty c h=> ⟨g,ty,c,h,.inl rfl⟩
theorem V6.trans {a b c:fD}(h:V6 a b)(h':V6 b c):V6 a c:=λg ty cs e=> by
 obtain⟨g1,t1,c1,e1,k1⟩:=h g ty cs e;obtain⟨g2,t2,c2,e2,k2⟩:=h' g1 t1 c1 e1;refine⟨g2,t2,c2,e2,?_⟩;rcases k2 with rfl | k2
 ·exact k1
 ·exact .inr k2
theorem xZ {o:fD}{g g' ty:Nat}{c c':List AV}(h:o=.blk g ty c):V6 o (.blk g' ty c'):=λ_ _ _ e=> by
 rw [h] at e;cases e;exact⟨_,_,_,rfl,.inl rfl⟩
theorem QT {o:fD}{g' ty':Nat}{c':List AV}(h:fQ<=ty'):V6 o (.blk g' ty' c'):=λ_ _ _ _=> ⟨_,_,_,rfl,.inr h⟩
theorem QU {o o':fD}{k:IntKind}{es:List (Int × AV)}(h:o=.map k es):V6 o o':=λ_ _ _ e=> by rw [h] at e;cases e
theorem QV {e ty off:Nat}:fQ<=grT e ty off:=by
 unfold grT;split <;> omega
structure Keeps(H H':ah):Prop where
 base:H'.base=H.base
 next:H.next<=H'.next
 get:∀r,r < H.base->r < H.next->H'.get r=H.get r
 types:∀r,r < H.next->V6 (H.get r) (H'.get r)
theorem Keeps.refl(H:ah):Keeps H H:=⟨rfl,zac _,λ_ _ _=> rfl,λ_ _=> .refl _⟩
theorem Keeps.trans {H H' H'':ah}(a:Keeps H H')(b:Keeps H' H''):Keeps H H'':=
 ⟨b.base.trans a.base,zas a.next b.next,λr h1 h2=> (b.get r (by rw [a.base];exact h1) (zau h2 a.next)).trans (a.get r h1 h2),λr h=> (a.types r h).trans (b.types r (zau h a.next))⟩
theorem Keeps.new(H:ah)(o:fD):Keeps H (H.new o):=⟨rfl,by simp [ah.new],λr _ h=> by simp [ah.new];intro e;omega,λr h=> by
 have:(H.new o).get r=H.get r:=by simp [ah.new];intro e;omega
 rw [this];exact .refl _⟩
theorem Keeps.put {H:ah}{r:Nat}(o:fD)(h:H.base<=r)(ho:V6 (H.get r) o):Keeps H (H.put r o):=⟨rfl,zac _,λx h1 _=> by simp [ah.put];intro e;omega,λx _=> by
 by_cases e:x=r
 ·subst e;simp only [ah.put,if_true];exact ho
 ·simp only [ah.put,e,if_false];exact .refl _⟩
def jO(C:aA):Prop:=∀f args H v H',C f args H=some (v,H')->Keeps H H'
def O5(H H':ah):Prop:=H'.base=H.base/\H.next<=H'.next/\∀r,r < H.next->H'.get r=H.get r
section
variable {P:Program}{C:aA}{t:fC}{o:Oper}{H H':ah}{v:AV}
theorem qO {e:TypeId}{m b n:Nat}{x:AV}{new:List AV}(h:dJ e m b x n new H=some (v,H')):Keeps H H':=by
 unfold dJ at h;split at h <;> first | (cases h;done) | skip
 split at h <;> first | (cases h;done) | skip
 ·split at h
  ·simp only [zaa,zae] at h;rw [<-h.2];exact .refl _
  ·split at h <;> first | (cases h;done) | skip
   simp only [zaa,zae] at h;rw [<-h.2];exact .new _ _
 ·split at h <;> first | (cases h;done) | skip
  split at h <;> first | (cases h;done) | skip
  split at h
  ·simp only [zaa,zae] at h;rw [<-h.2];exact .refl _
  ·split at h
   ·split at h <;> first | (cases h;done) | skip
    rename_i hc;simp only [zaa,zae] at h;rw [<-h.2];exact .put _ hc.1 (by first | exact QT QV | exact xZ (by assumption))
   ·split at h <;> first | (cases h;done) | skip
    split at h
    ·simp only [zaa,zae] at h;rw [<-h.2];exact .new _ _
    ·split at h <;> first | (cases h;done) | skip
     rename_i hc;simp only [zaa,zae] at h;rw [<-h.2];exact .put _ hc (by first | exact QT QV | exact xZ (by assumption))
theorem Uo(hf:pz o.op=true):∃F:Option fD->Option AV,(Ir o.op=false->∀a b,F a=F b)/\∀H:ah,opA P C t o H=(F ((kE t o.op).map H.get)).map λv=> (v,H):=by
 obtain⟨dst,op,type,pos,after,guard⟩:=o;have lift:∀{x:Option AV},opA P C t ⟨dst,op,type,pos,after,guard⟩=fE x->∃F:Option fD->Option AV,(Ir op=false->∀a b,F a=F b)/\∀H:ah,opA P C t ⟨dst,op,type,pos,after,guard⟩ H=(F ((kE t op).map H.get)).map λv=> (v,H):=
  λ{x} he=> ⟨λ_=> x,λ_ _ _=> rfl,λH=> by rw [he];rfl⟩
 cases op with
 | move x=> exact lift rfl
 | assign x=> exact lift rfl
 | pick c a b=> exact lift rfl
 | build ty ps=> exact lift rfl
 | nilCheck x=> exact lift rfl
 | binOp b ty x y ty'=> exact lift rfl
 | unOp b ty x=> exact lift rfl
 | makeFunc f a c=> exact lift rfl
 | slice ty x lo hi mx=> exact lift rfl
 | fieldAddr ty x i=> exact lift rfl
 | field ty x i=> exact lift rfl
 | index ty x i=> exact lift rfl
 | extract x i=> exact lift rfl
 | load ty x=> exact⟨_,(λh=> by cases h),λH=> rfl⟩
 | lookup ty x i ok=> exact⟨_,(λh=> by cases h),λH=> rfl⟩
 | indexAddr ty x i=> exact⟨_,(λh=> by cases h),λH=> rfl⟩
 | convert src dst x=> exact⟨_,(λh=> by cases h),λH=> rfl⟩
 | call c=>
  have ahq:∀H,opA P C t ⟨dst,.call c,type,pos,after,guard⟩ H=ug P C t c type H:=λ_=> rfl;simp only [pz] at hf;cases OZ:c.callee with
  | value f=> simp [OZ] at hf
  | invoke r m=> simp [OZ] at hf
  | builtin b=>
   have hb:∀H,ug P C t c type H=iw P b c.argTypes type (c.args.toList.map (cZ t)) H:=λH=> by simp only [ug,OZ]
   have none':(∀H,iw P b c.argTypes type (c.args.toList.map (cZ t)) H=none)->∃F:Option fD->Option AV,(Ir (.call c)=false->∀a b,F a=F b)/\∀H:ah,opA P C t ⟨dst,.call c,type,pos,after,guard⟩ H=(F ((kE t (.call c)).map H.get)).map λv=> (v,H):=
    λhn=> ⟨λ_=> none,λ_ _ _=> rfl,λH=> by rw [ahq,hb,hn];rfl⟩
   have lift':∀x,(∀H,iw P b c.argTypes type (c.args.toList.map (cZ t)) H=fE x H)->∃F:Option fD->Option AV,(Ir (.call c)=false->∀a b,F a=F b)/\∀H:ah,opA P C t ⟨dst,.call c,type,pos,after,guard⟩ H=(F ((kE t (.call c)).map H.get)).map λv=> (v,H):=
    λx hn=> ⟨λ_=> x,λ_ _ _=> rfl,λH=> by rw [ahq,hb,hn];rfl⟩
   cases b with
   | len=>
    cases hts:c.argTypes.toList with
    | nil=> exact none' λH=> by simp only [iw,hts]
    | cons u us=>
     cases us with
     | cons u2 us=> exact none' λH=> by simp only [iw,hts]
     | nil=>
      cases hcl:c.args.toList with
      | nil=> exact none' λH=> by simp only [iw,hts,hcl,zbG]
      | cons y ys=>
       cases ys with
       | cons z zs=> exact none' λH=> by simp only [iw,hts,hcl,zaC]
       | nil=>
        refine⟨amk P u (cZ t y),(λh=> by simp [Ir,OZ] at h),λH=> ?_⟩;rw [ahq,hb];simp only [iw,hts,hcl,zaC,zbG,aml,jT,kE]
   | cap=>
    cases hts:c.argTypes.toList with
    | nil=> exact none' λH=> by simp only [iw,hts]
    | cons u us=>
     cases us with
     | cons u2 us=> exact none' λH=> by simp only [iw,hts]
     | nil=>
      cases hcl:c.args.toList with
      | nil=> exact none' λH=> by simp only [iw,hts,hcl,zbG]
      | cons y ys=>
       cases ys with
       | cons z zs=> exact none' λH=> by simp only [iw,hts,hcl,zaC]
       | nil=> exact lift' (acv P u (cZ t y)) λH=> by simp only [iw,hts,hcl,zaC,zbG]
   | max=> exact lift' (kL P true c.argTypes type (c.args.toList.map (cZ t))) λH=> rfl
   | min=> exact lift' (kL P false c.argTypes type (c.args.toList.map (cZ t))) λH=> rfl
   | _=> simp [OZ] at hf
 | _=> cases hf
theorem IK(hf:pz o.op=true)(h:opA P C t o H=some (v,H')):H'=H/\∀H2:ah,(Ir o.op=true->∀r,kE t o.op=some r->H2.get r=H.get r)->opA P C t o H2=some (v,H2):=by
 obtain⟨F,h1,h2⟩:=Uo (P:=P) (C:=C) (t:=t) hf;rw [h2] at h;cases hF:F ((kE t o.op).map H.get) with
 | none=> rw [hF] at h;cases h
 | some u=>
  rw [hF] at h;simp only [zai,zaa,zae] at h;refine⟨h.2.symm,λH2 hw=> ?_⟩;rw [h2];have:F ((kE t o.op).map H2.get)=F ((kE t o.op).map H.get):=by
   cases hl:Ir o.op with
   | false=> exact h1 hl _ _
   | true=>
    cases hwa:kE t o.op with
    | none=> rfl
    | some r=> simp only [zai,hw hl r hwa]
  rw [this,hF,h.1];rfl
theorem O6(hC:jO C){f:AV}{args:List AV}(h:oH P C f args H=some (v,H')):Keeps H H':=by
 unfold oH at h;split at h <;> first | (cases h;done) | skip
 ·split at h <;> first | (cases h;done) | skip
  exact hC _ _ _ _ _ h
 ·split at h <;> first | (cases h;done) | skip
  exact hC _ _ _ _ _ h
theorem BO(hC:jO C)(h:opA P C t o H=some (v,H')):Keeps H H':=by
 by_cases hf:pz o.op=true
 ·rw [(IK hf h).1];exact .refl _
 obtain⟨dst,op,type,pos,after,guard⟩:=o;cases op with
 | alloc e=>
  simp only [opA,FK] at h;split at h <;> first | (cases h;done) | skip
  split at h <;> first | (cases h;done) | skip
  simp only [zaa,zae] at h;rw [<-h.2];exact .new _ _
 | box e x=>
  simp only [opA,fM] at h;split at h <;> first | (cases h;done) | skip
  simp only [zaa,zae] at h;rw [<-h.2];exact .new _ _
 | buildSlice ty n ps=>
  simp only [opA,dn] at h;split at h <;> first | (cases h;done) | skip
  split at h <;> first | (cases h;done) | skip
  split at h <;> first | (cases h;done) | skip
  split at h <;> first | (cases h;done) | skip
  split at h <;> first | (cases h;done) | skip
  simp only [zaa,zae] at h;rw [<-h.2];exact .new _ _
 | store ty x y=>
  simp only [opA,Kt] at h;split at h <;> first | (cases h;done) | skip
  split at h <;> first | (cases h;done) | skip
  split at h <;> first | (cases h;done) | skip
  rename_i hc;simp only [zaa,zae] at h;rw [<-h.2];exact .put _ hc.2.1 (xZ (by assumption))
 | makeMap ty r=>
  cases r with
  | none=>
   simp only [opA,vw] at h;split at h <;> first | (cases h;done) | skip
   simp only [zaa,zae] at h;rw [<-h.2];exact .new _ _
  | some r=> cases h
 | makeSlice ty l c=>
  simp only [opA,oq] at h;split at h <;> first | (cases h;done) | skip
  split at h <;> first | (cases h;done) | skip
  split at h <;> first | (cases h;done) | skip
  simp only [zaa,zae] at h;rw [<-h.2];exact .new _ _
 | mapUpdate ty m k x=>
  simp only [opA,qK] at h;split at h <;> first | (cases h;done) | skip
  split at h <;> first | (cases h;done) | skip
  split at h <;> first | (cases h;done) | skip
  rename_i hc;simp only [zaa,zae] at h;rw [<-h.2];exact .put _ hc.2.2 (QU (by assumption))
 | call c=>
  have ahq:opA P C t ⟨dst,.call c,type,pos,after,guard⟩=ug P C t c type:=rfl;rw [ahq] at h;unfold ug at h;split at h <;> first | (cases h;done) | skip
  ·exact O6 hC h
  ·unfold iw at h;split at h <;> first | (cases h;done) | skip
   ·unfold Ip at h;split at h <;> first | (cases h;done) | skip
    split at h <;> first | (cases h;done) | skip
    split at h <;> first | (cases h;done) | skip
    split at h
    ·split at h <;> first | (cases h;done) | skip
     split at h <;> first | (cases h;done) | skip
     exact qO h
    ·split at h <;> first | (cases h;done) | skip
     exact qO h
   ·rw [(rQ h).2];exact .refl _
   ·rw [(rV h).2];exact .refl _
   ·unfold aae at h;split at h <;> first | (cases h;done) | skip
    split at h <;> first | (cases h;done) | skip
    simp only at h;split at h <;> first | (cases h;done) | skip
    split at h
    ·split at h <;> first | (cases h;done) | skip
     simp only [zaa,zae] at h;rw [<-h.2];exact .refl _
    ·split at h <;> first | (cases h;done) | skip
     split at h <;> first | (cases h;done) | skip
     split at h <;> first | (cases h;done) | skip
     rename_i hc;simp only [zaa,zae] at h;rw [<-h.2];exact .put _ hc.2.2.1 (xZ (by assumption))
   ·unfold QM at h;split at h <;> first | (cases h;done) | skip
    split at h <;> first | (cases h;done) | skip
    ·split at h
     ·simp only [zaa,zae] at h;rw [<-h.2];exact .refl _
     ·split at h <;> first | (cases h;done) | skip
      split at h <;> first | (cases h;done) | skip
      rename_i hc;simp only [zaa,zae] at h;rw [<-h.2];exact .put _ hc.2.2.1 (xZ (by assumption))
    ·simp only [zaa,zae] at h;rw [<-h.2];exact .refl _
   ·unfold Iq at h;split at h <;> first | (cases h;done) | skip
    split at h <;> first | (cases h;done) | skip
    split at h <;> first | (cases h;done) | skip
    rename_i hc;simp only [zaa,zae] at h;rw [<-h.2];exact .put _ hc.2.2 (QU (by assumption))
   ·rw [(rV h).2];exact .refl _
   ·rw [(rV h).2];exact .refl _
 | _=> first | (cases h;done) | exact absurd rfl hf
theorem O5.new(H:ah)(o:fD):O5 H (H.new o):=⟨rfl,by simp [ah.new],λr h=> by simp [ah.new];intro e;omega⟩
theorem O7(hq:rJ o.op=true)(hc:kU o.op=false)(h:opA P C t o H=some (v,H')):O5 H H':=by
 obtain⟨dst,op,type,pos,after,guard⟩:=o;cases op with
 | box e x=>
  simp only [opA,fM] at h;split at h <;> first | (cases h;done) | skip
  simp only [zaa,zae] at h;rw [<-h.2];exact .new _ _
 | buildSlice ty n ps=>
  simp only [opA,dn] at h;split at h <;> first | (cases h;done) | skip
  split at h <;> first | (cases h;done) | skip
  split at h <;> first | (cases h;done) | skip
  split at h <;> first | (cases h;done) | skip
  split at h <;> first | (cases h;done) | skip
  simp only [zaa,zae] at h;rw [<-h.2];exact .new _ _
 | makeMap ty r=>
  cases r with
  | none=>
   simp only [opA,vw] at h;split at h <;> first | (cases h;done) | skip
   simp only [zaa,zae] at h;rw [<-h.2];exact .new _ _
  | some r=> cases h
 | makeSlice ty l c=>
  simp only [opA,oq] at h;split at h <;> first | (cases h;done) | skip
  split at h <;> first | (cases h;done) | skip
  split at h <;> first | (cases h;done) | skip
  simp only [zaa,zae] at h;rw [<-h.2];exact .new _ _
 | call c=>
  simp only [rJ] at hq;simp only [kU] at hc;cases OZ:c.callee <;> simp_all
 | _=> cases hq
theorem DI(hC:jO C)(h:opG P C t o H=some (v,H')):O5 H H'/\∃H1,opA P C t o H.guard=some (v,H1)/\H'={ H1 with base:=H.base }:=by
 unfold opG at h;split at h <;> first | (cases h;done) | skip
 rename_i u H1 h1;simp only [zaa,zae] at h;obtain⟨rfl,rfl⟩:=h;have hk:=BO hC h1;exact⟨⟨rfl,hk.next,λr hr=> hk.get r hr hr⟩,H1,h1,rfl⟩
theorem aau(hc:BJ o.op=true)(h:opA P C t o H=some (v,H')):
  ∃(ty:TypeId) (z:List AV) (mk:Nat->AV),v=mk H.next/\H'=H.new (.blk 0 ty z)/\
   ∀(ρ:Ren) (G:Nat->Nat) (w:World) (a:Act),∃(cs:Array Value) (cv:Value),(execOp a.eval o).run P w=.ok (.value cv) (w.alloc (.cells cs ty))/\(RVs ρ G w z cs.toList/\ty < fQ)/\
    ∀(ρ':Ren) (G':Nat->Nat) (r:Nat),G' r=0->ρ' r=some (w.heap.size,0)->RV ρ' G' (w.alloc (.cells cs ty)) (mk r) cv:=by
 obtain⟨dst,op,type,pos,after,guard⟩:=o;cases op with
 | alloc e=>
  simp only [opA,FK,wo] at h;cases hz:xR P e with
  | none=> simp [hz] at h
  | some z=>
   simp only [hz,zai] at h;split at h <;> first | (cases h;done) | skip
   simp only [zaa,zae] at h;refine⟨e,_,λr=> .ref r 0 0,h.1.symm,h.2.symm,fun ρ G w a=> ⟨z.cells,.pointer (some ⟨w.heap.size,0,none⟩),?_,⟨gy _,rO hz⟩,fun ρ' G' r hg hr=> ?_⟩⟩
   ·simp [execOp,Instr.alloc,fK hz,newVar,newRow]
   ·simp only [RV];exact⟨_,rfl,by omega,λ_=> ⟨_,0,hr,by simp⟩⟩
 | buildSlice ty n ps=>
  simp only [BJ] at hc;simp only [opA] at h;have hparts:∀(a:Act) (p:Nat × Operand),p∈ps.toList->∃u,p.2=.const u:=by
   intro a p hp;have:=zcC.1 hc p (by simpa using hp);cases hp2:p.2 with
   | const u=> exact⟨u,rfl⟩
   | _=> rw [hp2] at this;cases this
  have hev:∀(ρ:Ren) (G:Nat->Nat) (w:World) (a:Act),∀x∈(ps.toList.map (·.2)).toArray,RV ρ G w (cZ t x) (a.eval x):=by
   intro ρ G w a x hx;simp only [List.mem_toArray,zaS] at hx;obtain⟨p,hp,rfl⟩:=hx;obtain⟨u,hu⟩:=hparts a p hp;rw [hu];simp only [cZ,Act.eval,RV]
  unfold dn at h;cases he:Fp P ty with
  | none=> simp [he] at h
  | some e=>
   simp only [he] at h;cases hs:szT P e with
   | none=> simp [hs] at h
   | some m=>
    cases hz:wo P e with
    | none=> simp [hs,hz] at h
    | some z=>
     simp only [hs,hz] at h;obtain⟨zv,hzv,rfl⟩:=xY hz;split at h <;> first | (cases h;done) | skip
     rename_i hcond;obtain⟨hzl,hbig⟩:=hcond;simp at hzl;split at h <;> first | (cases h;done) | skip
     rename_i cells hf;split at h <;> first | (cases h;done) | skip
     simp only [zaa,zae] at h;refine⟨e,cells,λr=> .sl r 0 0 m n n true,h.1.symm,h.2.symm,fun ρ G w a=> ?_⟩;obtain⟨hi,hp⟩:=II (ρ:=ρ) (w:=w) (G:=G) (t:=t) (a:=a) ps (hev ρ G w a);obtain⟨zc,hzr,hz0⟩:∃zc:Array Value,RVs ρ G w (dI (zv.cells.toList.map .s) n) ((Array.range (n*m)).map (zc[· % zc.size]!)).toList/\((n*m=0/\zc=#[])∨(¬n*m=0/\zc=zv.cells)):=by
      by_cases h0:n*m=0
      ·refine⟨#[],?_,.inl ⟨h0,rfl⟩⟩;rw [h0];have:dI (zv.cells.toList.map .s) n=[]:=zan (by rw [iJ];simp [hzl,h0]);rw [this];simp [RVs]
      ·refine⟨zv.cells,?_,.inr ⟨h0,rfl⟩⟩;have:=um (ρ:=ρ) (G:=G) (w:=w) zv n;rw [hzl] at this ⊢;exact this
     obtain⟨cs,h1,h2⟩:=Dz _ _ _ _ cells hi hp hzr hf;have hfl:cs.size=n*m:=by
      have hsz:∀(place:Nat->Option (Nat × Nat)) (l:List (Nat × Value)) (a b:Array Value),Instr.fill place a l=some b->b.size=a.size:=by
       intro place l
       induction l with
       | nil=> intro a b h;simp [Instr.fill] at h;rw [h]
       | cons p l ih=>
        intro a b h;obtain⟨i,x⟩:=p;simp only [Instr.fill] at h;split at h
        ·cases h
        ·split at h
         ·cases h
         ·rw [ih _ _ h,<-zcB,zdr,vF,dU]
      rw [hsz _ _ _ _ h1];simp
     refine⟨cs,.slice (some ⟨w.heap.size,0,none⟩) n n,?_,⟨h2,rO hzv⟩,fun ρ' G' r hg hr=> ?_⟩
     ·have hnb:¬n*m > 2 ^ 24:=by omega
      simp only [execOp,Instr.buildSlice,Sem.run_bind,run_underlying (mV he),Result.andThen_ok,dV hs,hnb,if_false];rcases hz0 with⟨h0,rfl⟩ | ⟨h0,rfl⟩
      ·rw [if_pos h0];simp only [Result.andThen_ok,h1,Sem.run_bind,newRow,run_newObj,Sem.run_pure];rfl
      ·rw [if_neg h0];simp only [Result.andThen_ok,h1,Sem.run_bind,newRow,run_newObj,Sem.run_pure,fK hzv];rfl
     ·simp only [RV];refine⟨w.heap.size,0,n,rfl,zac _,zac _,λ_=> rfl,by omega,λ_=> ⟨0,e,cs.size,hr,λ_=> rfl,?_,by rw [hfl];omega⟩⟩;rw [dY,jA];rfl
 | _=> cases hc
end
theorem rW {ops:List Oper}{L:Nat->Prop}(hdown:∀j o,ops[j]?=some o->L j->∀e∈o.after,Region.binds .any e=true->L e.on):
  ∀i j,lq ops i j=true->L j->L i:=by
 have key:∀(l pre:List Oper) (acc:Array Nat),pre.length=acc.size->(∀i j,(acc.getD j 0).testBit i=true->(pre++l=ops)->L j->L i)->pre++l=ops->
   ∀i j,((l.foldl (init:=acc) λacc o=> acc.push (o.after.foldl (λs e=> if Region.binds .any e then s ||| 2 ^ e.on ||| acc.getD e.on 0 else s) 0)).getD j 0).testBit i=true->L j->L i:=by
  intro l
  induction l with
  | nil=>
   intro pre acc _ h he i j hb hl;exact h i j hb he hl
  | cons o l ih=>
   intro pre acc hsz h he i j hb hl;simp only [zbI] at hb;refine ih (pre++[o]) _ (by simp [hsz]) ?_ (by simpa using he) i j hb hl;intro i j hb he' hl;by_cases hj:j < acc.size
   ·refine h i j ?_ he hl
    simpa [Array.getD,hj,Nat.lt_succ_of_lt hj,Array.getElem_push_lt hj] using hb
   ·by_cases hj':j=acc.size
    ·subst hj';have hoj:ops[acc.size]?=some o:=by rw [<-he,<-hsz];simp
     have hs:((acc.push (o.after.foldl (λs e=> if Region.binds .any e then s ||| 2 ^ e.on ||| acc.getD e.on 0 else s) 0)).getD acc.size 0)=o.after.foldl (λs e=> if Region.binds .any e then s ||| 2 ^ e.on ||| acc.getD e.on 0 else s) 0:=by simp
     rw [hs] at hb;have inner:∀(es:List Edge) (s:Nat),(∀e∈es,e∈o.after)->(s.testBit i=true->L i)->(es.foldl (λs e=> if Region.binds .any e then s ||| 2 ^ e.on ||| acc.getD e.on 0 else s) s).testBit i=true->L i:=by
      intro es
      induction es with
      | nil=> intro s _ hs hb;exact hs hb
      | cons e es ih2=>
       intro s hin hs hb;simp only [zbI] at hb;refine ih2 _ (λe' h'=> hin e' (by simp [h'])) ?_ hb;intro hb2;split at hb2
       ·rename_i hbi;simp only [zcq,zbs,zcW] at hb2;have hle:=hdown _ o hoj hl e (hin e (by simp)) hbi;rcases hb2 with(hb2 | hb2) | hb2
        ·exact hs hb2
        ·simp at hb2;rw [<-hb2];exact hle
        ·exact h i e.on hb2 he hle
       ·exact hs hb2
     refine inner o.after.toList 0 (λe he=> by simpa using he) (λhz=> by simp at hz) ?_;rw [zcB];exact hb
    ·have:(acc.push (o.after.foldl (λs e=> if Region.binds .any e then s ||| 2 ^ e.on ||| acc.getD e.on 0 else s) 0)).getD j 0=0:=by
      simp [Array.getD,show¬j < acc.size+1 by omega]
     rw [this] at hb;simp at hb
 intro i j hb hl;refine key ops [] #[] rfl (λi j hb=> by simp at hb) rfl i j ?_ hl;unfold lq Region.before at hb;rw [<-zcB] at hb;exact hb
theorem jC {n:Nat}{f:Nat->Bool}(h:BF n f=true){i:Nat}(hi:i < n):f i=true:=by
 unfold BF at h;exact zaZ.1 h i (zaY.2 hi)
structure DJ(ops:List Oper):Prop where
 edges:∀j o,ops[j]?=some o->∀e∈o.after,Region.binds .any e=true->e.on < ops.length/\Dq ops e.on j=true
 al2:∀(i j:Nat) (oi oj:Oper) (d:Tmp),ops[i]?=some oi->ops[j]?=some oj->oi.dst=some d->oj.dst=some d->i=j
 uses:∀(i j:Nat) (oi oj:Oper) (d:Tmp),i≠j->ops[i]?=some oi->ops[j]?=some oj->oi.dst=some d->d∈oj.looksAt ops.toArray->(lq ops i j=true/\Dq ops i j=true)∨(lq ops j i=true/\Dq ops j i=true)
 chain:∀i j,i < j->j < ops.length->chn ops i=true->chn ops j=true->lq ops i j=true
 const:∀j o,ops[j]?=some o->cst ops j=true->o.guard=none/\o.dst.isSome=true
 loose:∀j e,j < ops.length->e < ops.length->cst ops j=true->chn ops e=true->lq ops j e=false->(rJ (oI ops e)=true∨aeM (oI ops e)=true)/\lq ops e j=false
theorem cO {α:Type}{l:List α}{i:Nat}{x:α}(h:l[i]?=some x):i < l.length:=(zak.1 h).1
theorem rX {ops:List Oper}{j:Nat}{o:Oper}(h:ops[j]?=some o):oI ops j=o.op:=by simp [oI,h]
theorem DK {ops:List Oper}{j:Nat}{o:Oper}(h:ops[j]?=some o):FN ops j=o.dst:=by simp [FN,h]
theorem AL {ops:List Oper}(h:QN ops=true):DJ ops:=by
 unfold QN at h;simp only [zaj] at h;obtain⟨⟨⟨⟨⟨h1,h2⟩,h3⟩,h4⟩,h5⟩,h6⟩:=h;refine⟨λj o ho e he hb=> ?_,λi j oi oj d hi hj di dj=> ?_,λi j oi oj d hne hi hj di hd=> ?_,λi j hij hj ci cj=> ?_,λj o ho hc=> ?_,λj e hj he hc hch hb=> ?_⟩
 ·have:=jC h1 (cO ho);simp only [ho,zai,zat] at this;have:=zcC.1 this e he
  simpa [hb] using this
 ·have aux:∀(i j:Nat) (oi oj:Oper),ops[i]?=some oi->ops[j]?=some oj->oi.dst=some d->oj.dst=some d->¬i < j:=by
   intro i j oi oj hi hj di dj hlt;have:=jC (jC h2 (cO hi)) (cO hj);rw [DK hi,DK hj,di,dj] at this;simp [hlt] at this
  have a1:=aux i j oi oj hi hj di dj;have a2:=aux j i oj oi hj hi dj di;omega
 ·have:=jC (jC h3 (cO hi)) (cO hj);rw [DK hi,di,hj] at this;simp only [zbs,beq_iff_eq,zbf,zaj] at this;rcases this with h | (h | h) | h
  ·exact absurd h hne
  ·have hc:(oj.looksAt ops.toArray).contains d=true:=List.contains_iff_mem.2 hd;rw [hc] at h;cases h
  ·exact .inl h
  ·exact .inr h
 ·have:=jC (jC h4 (Nat.lt_trans hij hj)) hj
  simpa [ci,cj,hij] using this
 ·have:=jC h5 (cO ho);simp only [hc,zad,zbN,ho,zai,zat,zaj] at this;exact⟨Option.isNone_iff_eq_none.1 this.1,this.2⟩
 ·have:=jC (jC h6 hj) he;simp only [hc,hch,hb,zaf,zcA,zad,zbN,zaj,zbf,zbs] at this;exact this
theorem wK {P:Program}{C:aA}{ops:List Oper}:∀(l m:List Nat) (t:fC) (H:ah),
  eX P C ops (l++m) t H=(eX P C ops l t H).bind λs=> eX P C ops m s.1 s.2
 | [],m,t,H=> rfl
 | i::l,m,t,H=> by
  simp only [zbc,eX];cases ops[i]? with
  | none=> rfl
  | some o=>
   simp only;cases kY P C ops (loose ops i && kU o.op) o t H with
   | none=> rfl
   | some r=> exact wK l m _ _
theorem zD(f:Nat->Bool)(p:Nat):(List.range (p+1)).filter f=(List.range p).filter f++(if f p then [p] else []):=by
 rw [zch,zcc]
 congr 1
 simp only [zbP,List.filter_nil]
theorem uw {P:Program}{C:aA}{ops:List Oper}{p:Nat}{t:fC}{H:ah}:Dt P C ops (p+1) t H=
  (Dt P C ops p t H).bind λs=> if cst ops p then some s else eX P C ops [p] s.1 s.2:=by
 unfold Dt;rw [zD,wK]
 congr 1
 funext s
 cases cst ops p <;> rfl
theorem V7 {P:Program}{C:aA}{ops:List Oper}{t:fC}{H:ah}{n:Nat}{s:fC × ah}(h:Dt P C ops n t H=some s):∀k p,p+k=n->∃s',Dt P C ops p t H=some s':=by
 intro k
 induction k generalizing n s with
 | zero=> intro p hp;simp at hp;subst hp;exact⟨s,h⟩
 | succ k ih=>
  intro p hp;cases n with
  | zero=> omega
  | succ n=>
   rw [uw] at h;cases hn:Dt P C ops n t H with
   | none=> rw [hn] at h;cases h
   | some s'=> exact ih hn p (by omega)
structure zF(P:Program)(C:aA)(ops:List Oper)(t0:fC)(H0:ah)(T:Nat->fC)(Hp:Nat->ah)(val:Nat->AV):Prop where
 zero:T 0=t0/\Hp 0=H0
 at_:∀p,p<=ops.length->Dt P C ops p t0 H0=some (T p,Hp p)
 skip:∀p,p < ops.length->cst ops p=true->T (p+1)=T p/\Hp (p+1)=Hp p
 step:∀p o,ops[p]?=some o->cst ops p=false->kY P C ops (loose ops p && kU o.op) o (T p) (Hp p)=some (val p,Hp (p+1))/\T (p+1)=tY (T p) o.dst (val p)
theorem FU {P:Program}{C:aA}{ops:List Oper}{t0:fC}{H0:ah}{s:fC × ah}(h:eX P C ops (lu ops) t0 H0=some s)(vc:Nat->AV):
  ∃T Hp val,zF P C ops t0 H0 T Hp val/\(T ops.length,Hp ops.length)=s/\∀p,cst ops p=true->val p=vc p:=by
 have hn:Dt P C ops ops.length t0 H0=some s:=h;let S:Nat->fC × ah:=λp=> (Dt P C ops p t0 H0).getD (t0,H0)
 have hS:∀p,p<=ops.length->Dt P C ops p t0 H0=some (S p):=λp hp=> by
  obtain⟨s',hs'⟩:=V7 hn (ops.length - p) p (by omega);simp only [S,hs',zat]
 have hstep:∀p o,ops[p]?=some o->cst ops p=false->∃v,kY P C ops (loose ops p && kU o.op) o (S p).1 (S p).2=some (v,(S (p+1)).2)/\(S (p+1)).1=tY (S p).1 o.dst v:=by
  intro p o ho hc;have hp:=cO ho;have h1:=hS (p+1) hp;rw [uw,hS p (by omega)] at h1;simp only [za0,hc,zal,if_false,eX,ho] at h1;cases hst:kY P C ops (loose ops p && kU o.op) o (S p).1 (S p).2 with
  | none=> rw [hst] at h1;cases h1
  | some r=>
   rw [hst] at h1;simp only [zaa] at h1;exact⟨r.1,by rw [<-h1],by rw [<-h1]⟩
 refine⟨λp=> (S p).1,λp=> (S p).2,λp=> if cst ops p then vc p else match ops[p]? with
  | some o=> (match kY P C ops (loose ops p && kU o.op) o (S p).1 (S p).2 with | some r=> r.1 | none=> aO)
  | none=> aO,⟨⟨rfl,rfl⟩,hS,λp hp hc=> ?_,λp o ho hc=> ?_⟩,?_,λp hc=> by simp [hc]⟩
 ·have h1:=hS (p+1) hp;rw [uw,hS p (by omega)] at h1;simp only [za0,hc,if_true,zaa] at h1;rw [<-h1];exact⟨rfl,rfl⟩
 ·obtain⟨v,h1,h2⟩:=hstep p o ho hc;simp only [hc,zal,if_false,ho,h1,h2,and_self]
 ·have:=hS ops.length (zac _);rw [hn] at this;cases this;rfl
structure KR(P:Program)(o:Oper)(v:AV)(r:Nat)(ob:fD):Prop where
 ex:∃(ty:TypeId) (z:List AV) (mk:Nat->AV),v=mk r/\ob=.blk 0 ty z/\
   ∀(ρ:Ren) (G:Nat->Nat) (w:World) (a:Act),∃(cs:Array Value) (cv:Value),(execOp a.eval o).run P w=.ok (.value cv) (w.alloc (.cells cs ty))/\(RVs ρ G w z cs.toList/\ty < fQ)/\
    ∀(ρ':Ren) (G':Nat->Nat) (r:Nat),G' r=0->ρ' r=some (w.heap.size,0)->RV ρ' G' (w.alloc (.cells cs ty)) (mk r) cv
theorem kQ(t:fC)(d:Option Tmp)(v:AV):(tY t d v).length=t.length:=by cases d <;> simp [tY]
theorem IL(t:fC)(d:Option Tmp)(v:AV)(i:Nat):(tY t d v)[i]?=if d=some i/\i < t.length then some v else t[i]?:=by
 cases d with
 | none=> simp [tY]
 | some d=>
  simp only [tY,zcJ,zaa];by_cases h:d=i
  ·subst h;by_cases hl:d < t.length
   ·simp [hl]
   ·simp [hl]
  ·simp [h]
theorem rY {P:Program}{C:aA}{ops:List Oper}:∀(is:List Nat) (t:fC) (H:ah) (t0:fC) (H0:ah),is.Nodup->(∀j∈is,cst ops j=true)->
  (∀i∈is,∀j∈is,∀(oi oj:Oper) (d:Tmp),ops[i]?=some oi->ops[j]?=some oj->oi.dst=some d->oj.dst=some d->i=j)->iy P C ops is t H=some (t0,H0)->
  O5 H H0/\(∀r,H.next<=r->H.gen r=0->H0.gen r=0)/\t0.length=t.length/\∃(nm:Nat->Nat) (vl:Nat->AV),(∀j∈is,∃o,ops[j]?=some o/\H.next<=nm j/\nm j < H0.next/\KR P o (vl j) (nm j) (H0.get (nm j))/\∀d,o.dst=some d->d < t.length->t0[d]?=some (vl j))/\
   (∀i∈is,∀j∈is,nm i=nm j->i=j)/\∀d,(∀j∈is,∀o,ops[j]?=some o->o.dst≠some d)->t0[d]?=t[d]?
 | [],t,H,t0,H0,_,_,_,h=> by
  simp only [iy,zaa,zae] at h;obtain⟨rfl,rfl⟩:=h;exact⟨⟨rfl,zac _,λ_ _=> rfl⟩,λ_ _ h=> h,rfl,λ_=> 0,λ_=> aO,by simp,by simp,λ_ _=> rfl⟩
 | i::is,t,H,t0,H0,hnd,aoJ,hdst,h=> by
  simp only [iy] at h;cases ho:ops[i]? with
  | none=> rw [ho] at h;cases h
  | some o=>
   rw [ho] at h;simp only at h;cases hop:opA P C t o H with
   | none=> rw [hop] at h;cases h
   | some r=>
    obtain⟨v,H1⟩:=r;rw [hop] at h;simp only at h;have hco:BJ o.op=true:=by have:=aoJ i (by simp);simpa [cst,rX ho] using this
    obtain⟨ty,z,mk,rfl,rfl,hrun⟩:=aau hco hop;obtain⟨hf,hg,hlen,nm,vl,h1,h2,h3⟩:=rY is _ _ t0 H0 (List.nodup_cons.1 hnd).2 (λj hj=> aoJ j (by simp [hj])) (λa ha b hb=> hdst a (by simp [ha]) b (by simp [hb])) h;have hni:i∉is:=(List.nodup_cons.1 hnd).1;have hget:H0.get H.next=.blk 0 ty z:=by
     rw [hf.2.2 H.next (by simp [ah.new])];simp [ah.new]
    refine⟨⟨hf.1,zas (by simp [ah.new]) hf.2.1,λr hr=> ?_⟩,λr hr hgr=> ?_,by rw [hlen,kQ],λj=> if j=i then H.next else nm j,λj=> if j=i then mk H.next else vl j,λj hj=> ?_,λa ha b hb hab=> ?_,λd hd=> ?_⟩
    ·rw [hf.2.2 r (by simp [ah.new];omega)];simp [ah.new,show r≠H.next by omega]
    ·rcases zaW H.next r with hlt | hge
     ·refine hg r (by simp [ah.new];omega) ?_;rw [OU,if_neg (by omega)];exact hgr
     ·have:r=H.next:=by omega
      subst this;simp [ah.gen,hget,fD.gen]
    ·by_cases hji:j=i
     ·subst hji;simp only [if_true];refine⟨o,ho,zac _,zau (by simp [ah.new]) hf.2.1,⟨ty,z,mk,rfl,hget,hrun⟩,λd hd hlt=> ?_⟩;rw [h3 d (λk hk ok hok hkd=> hni (by
       have:=hdst j (by simp) k (by simp [hk]) o ok d ho hok hd hkd;rw [this];exact hk)),IL,if_pos ⟨hd,hlt⟩]
     ·simp only [if_neg hji];obtain⟨oj,hoj,q1,q2,q3,q4⟩:=h1 j (by
       rcases zar.1 hj with e | e
       ·exact absurd e hji
       ·exact e)
      refine⟨oj,hoj,zas (by simp [ah.new]) q1,q2,q3,λd hd hlt=> q4 d hd (by rw [kQ];exact hlt)⟩
    ·by_cases ha':a=i <;> by_cases hb':b=i
     ·rw [ha',hb']
     ·simp only [ha',if_true,if_neg hb'] at hab;obtain⟨_,_,q1,_⟩:=h1 b (by exact(zar.1 hb).resolve_left hb');simp [ah.new] at q1;omega
     ·simp only [hb',if_true,if_neg ha'] at hab;obtain⟨_,_,q1,_⟩:=h1 a (by exact(zar.1 ha).resolve_left ha');simp [ah.new] at q1;omega
     ·simp only [if_neg ha',if_neg hb'] at hab;exact h2 a (by exact(zar.1 ha).resolve_left ha') b (by exact(zar.1 hb).resolve_left hb') hab
    ·rw [h3 d (λj hj=> hd j (by simp [hj])),IL,if_neg (λhc=> hd i (by simp) o ho hc.1)]
structure TOn(ρ:Ren)(G:Nat->Nat)(w:World)(D:Tmp->Prop)(t:fC)(a:Act):Prop where
 size:a.tmps.size=t.length
 get:∀d,D d->d < t.length->RV ρ G w (t.getD d aO) (a.tmps.getD d undef)
section
variable {P:Program}{C:aA}{ops:List Oper}{H H':ah}{t:fC}{a:Act}{w:World}{ρ:Ren}{G:Nat->Nat}{o:Oper}{v:AV}
theorem TOn.any {D:Tmp->Prop}(h:TOn ρ G w D t a)(d:Tmp)(hd:D d):RV ρ G w (t.getD d aO) (a.tmps.getD d undef):=by
 by_cases hl:d < t.length
 ·exact h.get d hd hl
 ·have h1:t.getD d aO=aO:=by simp [List.getD,zaK (zdD.1 hl)]
  have h2:a.tmps.getD d undef=undef:=by
   have:¬d < a.tmps.size:=by rw [h.size];exact hl
   simp [Array.getD,this]
  rw [h1,h2];exact BN
theorem TOn.eval(h:TOn ρ G w (· ∈o.looksAt ops.toArray) t a):∀x∈o.op.operands,RV ρ G w (cZ t x) (a.eval x):=by
 intro x hx;cases x with
 | tmp d=>
  exact h.any d (zdm _ (List.mem_filterMap.2 ⟨.tmp d,by simpa using hx,rfl⟩))
 | const v=> simp [cZ,Act.eval,RV]
 | global g=> simp [cZ,Act.eval,RV]
 | func f=> simp [cZ,Act.eval,RV,RVs]
theorem TOn.wanted {b:Bool}(h:TOn ρ G w (· ∈o.looksAt ops.toArray) t a)(hw:rH ops t o=some b):Region.wanted o (yielded ops.toArray a.tmps)=b:=by
 unfold rH at hw;unfold Region.wanted;cases hg:o.guard with
 | none=> rw [hg] at hw;simpa using hw
 | some gw=>
  obtain⟨j,want⟩:=gw;rw [hg] at hw;simp only at hw;cases hj:ops[j]? with
  | none=> rw [hj] at hw;cases hw
  | some p=>
   rw [hj] at hw;simp only at hw;cases hd:p.dst with
   | none=> rw [hd] at hw;cases hw
   | some d=>
    rw [hd] at hw;simp only at hw;have hmem:d∈o.looksAt ops.toArray:=by
     unfold Oper.looksAt;refine zdk _ ?_;simp [hg,hj,hd]
    cases htd:t[d]? with
    | none=> rw [htd] at hw;cases hw
    | some x=>
     have hlt:d < t.length:=(zak.1 htd).1;have hrv:=h.get d hmem hlt;have hx:t.getD d aO=x:=by simp [List.getD,htd]
     have hlt':d < a.tmps.size:=by rw [h.size];exact hlt
     have hav:a.tmps[d]?=some (a.tmps.getD d undef):=by simp [Array.getD,hlt']
     rw [hx] at hrv;rw [htd] at hw;have hy:yielded ops.toArray a.tmps j=(match a.tmps.getD d undef with | .bool b=> some b | _=> none):=by
      unfold yielded;have:(ops.toArray[j]?).bind (·.dst)=some d:=by simp [hj,hd]
      rw [this,za0,hav];cases a.tmps.getD d undef <;> rfl
     simp only;split at hw <;> first | (cases hw;done) | skip
     ·rename_i hbx;cases hbx;simp only [RV] at hrv;rw [hy,hrv];simp only [zaa] at hw;rw [<-hw];rename_i b0;cases b0 <;> cases want <;> rfl
     ·rename_i hbx;cases hbx;simp only [RV,RVs] at hrv;obtain⟨cs,hcs,_⟩:=hrv;rw [hy,hcs]
      simpa using hw
theorem TOn.put {D:Tmp->Prop}(h:TOn ρ G w D t a)(d:Option Tmp){cv:Value}(hv:RV ρ G w v cv):TOn ρ G w D (tY t d v) (a.put d cv):=by
 refine⟨?_,λx hx hl=> ?_⟩
 ·rw [kQ,<-h.size];cases d <;> simp [Act.put]
 ·rw [kQ] at hl;have hl':x < a.tmps.size:=by rw [h.size];exact hl
  cases d with
  | none=> exact h.get x hx hl
  | some d=>
   by_cases e:d=x
   ·subst e;have h1:(tY t (some d) v).getD d aO=v:=by simp [tY,List.getD,hl]
    have h2:(a.put (some d) cv).tmps.getD d undef=cv:=by simp [Act.put,Array.getD,hl']
    rw [h1,h2];exact hv
   ·have h1:(tY t (some d) v).getD x aO=t.getD x aO:=by simp [tY,List.getD,e]
    have h2:(a.put (some d) cv).tmps.getD x undef=a.tmps.getD x undef:=by
     simp [Act.put,zbn e]
    rw [h1,h2];exact h.get x hx hl
theorem TOn.keep {ρ':Ren}{w':World}{D:Tmp->Prop}(h:TOn ρ H.gen w D t a)(E:Ext ρ H w ρ' H' w'):TOn ρ' H'.gen w' D t a:=
 ⟨h.size,λd hd hl=> RV.mono E.toMono _ _ (h.get d hd hl)⟩
theorem TOn.sub {D D':Tmp->Prop}(h:TOn ρ G w D t a)(hs:∀d,D' d->D d):TOn ρ G w D' t a:=⟨h.size,λd hd=> h.get d (hs d hd)⟩
theorem IQ(hC:oZ P C){lo:Bool}(h:kY P C ops lo o t H=some (v,H'))(R:Rel ρ H w)(T:TOn ρ H.gen w (· ∈o.looksAt ops.toArray) t a){i:Nat}(ho:ops[i]?=some o)
  {K:Act->World->Prop} {Q:Exit->Act->World->Prop} (hK:∀cv ρ' w',Rel ρ' H' w'->RV ρ' H'.gen w' v cv->Ext ρ H w ρ' H' w'->K (a.put o.dst cv) w'):wpOp P ops.toArray Q i K a w:=by
 unfold wpOp;have hoa:ops.toArray[i]?=some o:=by simpa using ho
 simp only [hoa];unfold kY at h;split at h <;> first | (cases h;done) | skip
 ·rename_i hw;rw [T.wanted hw,if_pos rfl];left;split at h
  ·unfold opG at h;split at h <;> first | (cases h;done) | skip
   rename_i u H1 h1;simp only [zaa,zae] at h;obtain⟨rfl,rfl⟩:=h;exact IJ hC h1 (H:=H.guard) ⟨R.out,R.obj,R.inj,R.gl⟩ T.eval λcv ρ' w' r e x=>
    hK cv ρ' w' ⟨r.out,r.obj,r.inj,r.gl⟩ e ⟨x.next,x.mono,x.same,x.kept,x.range,x.size,x.frame,x.shape,x.os,x.tape,x.output⟩
  ·exact IJ hC h R T.eval hK
 ·rename_i hw;rw [T.wanted hw];simp only [zaa,zae] at h;obtain⟨rfl,rfl⟩:=h;simp only [zal,if_false];exact hK undef ρ w R BN (Ext.refl _ _ _)
theorem KT {X:Prop}(h:o.wp P a w (λ_ _=> X) (λ_ _ _=> False)):X:=by
 unfold Oper.wp at h;generalize (execOp a.eval o).run P w=r at h;cases r with
 | ok n w'=>
  cases n <;> simp only [Oper.upon] at h <;> first | exact h | skip
  ·obtain⟨e,w',fr,hR,_⟩:=h [];cases e <;> simp only [LetsOut,exists_false] at hR;exact hR
  ·obtain⟨_,_,hR,_⟩:=h (Frame.ofRow P "" #[] .normal) []
   exact hR
 | halt x w'=> cases x <;> exact False.elim h
theorem O8 {X:Prop}{i:Nat}{arr:Array Oper}(h:wpOp P arr (λ_ _ _=> False) i (λ_ _=> X) a w):X:=by
 unfold wpOp at h;split at h
 ·exact h
 ·split at h
  ·rcases h with h | ⟨_,a,w,h⟩
   ·exact KT h
   ·exact h.elim
  ·exact h
theorem wW(hC:oZ P C):∀(is:List Nat) (t:fC) (H:ah) (t0:fC) (H0:ah) (ρ:Ren) (w:World) (a:Act),iy P C ops is t H=some (t0,H0)->Rel ρ H w->TOn ρ H.gen w (λ_=> True) t a->
  ∃ρ' w' a',Rel ρ' H0 w'/\TOn ρ' H0.gen w' (λ_=> True) t0 a'
 | [],t,H,t0,H0,ρ,w,a,h,R,T=> by
  simp only [iy,zaa,zae] at h;obtain⟨rfl,rfl⟩:=h;exact⟨ρ,w,a,R,T⟩
 | i::is,t,H,t0,H0,ρ,w,a,h,R,T=> by
  simp only [iy] at h;cases ho:ops[i]? with
  | none=> rw [ho] at h;cases h
  | some o=>
   rw [ho] at h;simp only at h;cases hop:opA P C t o H with
   | none=> rw [hop] at h;cases h
   | some r=>
    rw [hop] at h;simp only at h;obtain⟨ρ',w',cv,r1,r2⟩:∃ρ' w' cv,Rel ρ' r.2 w'/\TOn ρ' r.2.gen w' (λ_=> True) (tY t o.dst r.1) (a.put o.dst cv):=
     KT (IJ hC hop R ((T.sub (D':=(· ∈o.looksAt ops.toArray)) λ_ _=> trivial).eval) (Q:=λ_ _ _=> False)
      λcv ρ' w' r1 r2 r3=> ⟨ρ',w',cv,r1,(T.keep r3).put _ r2⟩)
    exact wW hC is _ _ t0 H0 ρ' w' _ h r1 r2
theorem FV(hC:oZ P C){t0:fC}{H0:ah}{T:Nat->fC}{Hp:Nat->ah}{val:Nat->AV}(S:zF P C ops t0 H0 T Hp val)(R:Rel ρ H0 w)(TR:TOn ρ H0.gen w (λ_=> True) t0 a):
  ∀p,p<=ops.length->∃ρ' w' a',Rel ρ' (Hp p) w'/\TOn ρ' (Hp p).gen w' (λ_=> True) (T p) a':=by
 intro p
 induction p with
 | zero=> intro _;rw [S.zero.1,S.zero.2];exact⟨ρ,w,a,R,TR⟩
 | succ p ih=>
  intro hp;obtain⟨ρ1,w1,a1,R1,T1⟩:=ih (by omega);cases hc:cst ops p with
  | true=> obtain⟨h1,h2⟩:=S.skip p (by omega) hc;rw [h1,h2];exact⟨ρ1,w1,a1,R1,T1⟩
  | false=>
   have ho:ops[p]?=some (ops[p]'(by omega)):=zab _;obtain⟨h1,h2⟩:=S.step p _ ho hc;rw [h2];exact O8 (IQ hC h1 R1 (T1.sub λ_ _=> trivial) ho (Q:=λ_ _ _=> False) λcv ρ' w' r1 r2 r3=> ⟨ρ',w',_,r1,(T1.keep r3).put _ r2⟩)
theorem KU {x:AV}{n r:Nat}(h:NV n x)(hw:bD x=some r):r < n:=by
 cases x <;> simp only [bD] at hw <;> first | (cases hw;done) | (cases hw;simpa only [NV] using h)
theorem QW {n r:Nat}(h:∀x∈o.op.operands,NV n (cZ t x))(hw:kE t o.op=some r):r < n:=by
 obtain⟨dst,op,type,pos,after,guard⟩:=o;cases op <;> simp only [kE] at hw <;> first | (cases hw;done) | skip
 case call c=>
  split at hw
  ·rename_i x hx;refine KU (h x ?_) hw;have:x∈c.args:=by
    have:x∈c.args.toList:=by rw [hx];simp
    simpa using this
   simp [Op.operands,Call.operands,this]
  ·cases hw
 all_goals exact KU (h _ (by simp [Op.operands])) hw
theorem aav {n:Nat}(h:∀d,NV n (t.getD d aO))(x:Operand):NV n (cZ t x):=by
 cases x with
 | tmp d=> exact h d
 | _=> simp [cZ,NV,NVs]
end
end
end Go.Proofs.YtmdbbfoefdjgoaaGreat
