/-
  Own work: an interpreter over named blocks, its soundness, and what the functions of this seat compute (part 1 of 10).
  Conditions: those of the statement alone.
-/
import Derived.Calls
import Derived.Orders
import Derived.Laws.World
import Derived.Laws.Entries
import Derived.Laws.Slices
import Derived.Laws.Append
import Derived.Laws.MakeOwn
import Derived.Laws.BytesString
set_option linter.all false
set_option linter.unusedSectionVars false
set_option linter.unusedVariables false
set_option linter.unusedSimpArgs false
namespace Go.Proofs.YtgplhpgkompkmaaGreat
noncomputable section
def zaa:=@Option.some.injEq.{0}
def zab:=@List.getElem?_eq_getElem.{0}
def zac:=@Nat.le_refl
def zad:=@Prod.mk.injEq.{0,0}
def zae:=@Bool.and_eq_true
def zaf:=@Option.map_some.{0,0}
def zah:=@List.getElem?_eq_some_iff.{0}
def zai:=@List.mem_cons.{0}
def zaj:=@Bool.false_eq_true
def zak:=@List.length_nil.{0}
def zal:=@List.length_append.{0}
def zam:=@List.length_cons.{0}
def zan:=@List.eq_nil_of_length_eq_zero.{0}
def zao:=@Int.toNat_natCast
def zaq:=@List.getD_eq_getElem?_getD.{0}
def zar:=@Bool.not_true
def zas:=@List.getElem?_map.{0,0}
def zat:=@List.mem_of_getElem?.{0}
def zau:=@List.take_of_length_le.{0}
def zav:=@List.length_take.{0}
def zaw:=@Nat.lt_of_lt_of_le
def zax:=@Option.getD_some.{0}
def zay:=@List.length_map.{0,0}
def zaz:=@Nat.mul_le_mul_right
def zaA:=@List.map_cons.{0,0}
def zaB:=@Bool.not_false
def zaC:=@Nat.le_trans
def zaD:=@List.mem_map.{0,0}
def zaE:=@List.getElem?_append_left.{0}
def zaF:=@Bool.false_and
def zaG:=@Bool.true_and
def zaH:=@List.getElem?_take.{0}
def zaI:=@List.mem_singleton.{0}
def zaJ:=@List.drop_of_length_le.{0}
def zaK:=@List.not_mem_nil.{0}
def zaL:=@List.getElem?_drop.{0}
def zaM:=@List.drop_zero.{0}
def zaN:=@List.getElem?_eq_none.{0}
def zaO:=@List.mem_append.{0}
def zaP:=@Nat.lt_or_ge
def zaQ:=@List.length_drop.{0}
def zaR:=@Nat.zero_le
def zaS:=@List.nil_append.{0}
def zaT:=@Option.some.inj.{0}
def zaU:=@List.drop_eq_getElem_cons.{0}
def zaV:=@List.flatMap_cons.{0,0}
def zaW:=@List.nodup_cons.{0}
def zaX:=@Option.bind_some.{0,0}
def zaY:=@List.mem_range
def zaZ:=@List.mem_cons_of_mem.{0}
def za0:=@List.all_eq_true.{0}
def za1:=@List.all_append.{0}
def za2:=@List.getElem?_cons_zero.{0}
def za3:=@List.pairwise_cons.{0}
def za4:=@Nat.zero_add
def za5:=@Array.getElem?_push.{0}
def za6:=@List.mem_filter.{0}
def za7:=@List.append_nil.{0}
def za8:=@List.mem_flatMap.{0,0}
def za9:=@Bool.not_eq_true'
def zba:=@List.getElem?_set_self.{0}
def zbb:=@List.map_append.{0,0}
def zbc:=@Bool.or_eq_true
def zbd:=@List.map_congr_left.{0,0}
def zbe:=@Int.le_refl
def zbf:=@List.cons_append.{0}
def zbg:=@List.getElem?_set_ne.{0}
def zbh:=@Nat.min_eq_left
def zbi:=@Nat.zero_mul
def zbj:=@List.nodup_append.{0}
def zbk:=@Nat.le_succ
def zbl:=@List.append_assoc.{0}
def zbm:=@Array.getElem?_setIfInBounds_ne.{0}
def zbn:=@List.getElem?_replicate.{0}
def zbo:=@List.getElem?_append_right.{0}
def zbp:=@Array.getElem?_eq_some_iff.{0}
def zbq:=@Int.emod_nonneg
def zbr:=@List.getElem?_range
def zbs:=@Nat.le_succ_of_le
def zbt:=@List.mapM_cons.{0,0,0}
def zbu:=@Nat.eq_of_beq_eq_true
def zbv:=@List.find?_eq_none.{0}
def zbw:=@Int.emod_lt_of_pos
def zbx:=@List.getElem?_cons_succ.{0}
def zby:=@List.filter_cons.{0}
def zbz:=@List.map_nil.{0,0}
def zbA:=@Nat.succ_mul
def zbB:=@Nat.add_mul
def zbC:=@Nat.mul_one
def zbD:=@List.ext_getElem?.{0}
def zbE:=@Int.toNat_of_nonneg
def zbF:=@Array.getElem?_eq_getElem.{0}
def zbG:=@List.mem_or_eq_of_mem_set.{0}
def zbH:=@List.mem_of_find?_eq_some.{0}
def zbI:=@Option.isSome_none.{0}
def zbJ:=@Bool.true_eq_false
def zbK:=@Bool.false_or
def zbL:=@Int.mul_le_mul
def zbM:=@List.find?_some.{0}
def zbN:=@Option.bind_eq_bind.{0}
def zbO:=@Nat.ne_of_lt
def zbP:=@Option.map_eq_some_iff.{0,0}
def zbQ:=@Nat.eq_of_mul_eq_mul_right
def zbR:=@List.all_cons.{0}
def zbS:=@List.drop_drop.{0}
def zbT:=@Int.mul_nonneg
def zbU:=@Nat.add_zero
def zbV:=@List.range_succ
def zbW:=@Bool.true_or
def zbX:=@List.length_set.{0}
def zbY:=@List.getElem?_mapIdx.{0,0}
def zbZ:=@List.forall_mem_cons.{0}
def zb0:=@List.pairwise_map.{0,0}
def zb1:=@Nat.add_assoc
def zb2:=@List.take_append_of_le_length.{0}
def zb3:=@Array.toList_append.{0}
def zb4:=@List.flatMap_append.{0,0}
def zb5:=@Array.toList_inj.{0}
def zb6:=@Bool.and_false
def zb7:=@Array.getD_eq_getD_getElem?.{0}
def zb8:=@List.set_cons_zero.{0}
def zb9:=@List.set_cons_succ.{0}
def zca:=@List.findIdx?_cons.{0}
def zcb:=@Option.pure_def.{0}
def zcc:=@List.length_replicate.{0}
def zcd:=@Int.tmod_eq_emod_of_nonneg
def zce:=@Bool.not_eq_false
def zcf:=@List.getElem?_append.{0}
def zcg:=@List.range_eq_range'
def zch:=@Nat.one_mul
def zci:=@Nat.testBit_or
def zcj:=@Nat.mod_eq_of_lt
def zck:=@List.all_nil.{0}
def zcl:=@Option.getD_none.{0}
def zcm:=@List.map_take.{0,0}
def zcn:=@Bool.and_self
def zco:=@Bool.and_true
def zcp:=@List.foldl_cons.{0,0}
def zcq:=@Array.foldl_toList.{0,0}
def zcr:=@Array.all_eq_true'.{0}
def zcs:=@List.filter_append.{0}
def zct:=@Option.isSome_some.{0}
def zcu:=@BitVec.toNat_ofNat
def zcv:=@Int.ediv_nonneg
def zcw:=@Int.natCast_mul
def zcx:=@Array.getElem?_eq_none.{0}
def zcy:=@List.length_range
def zcz:=@Array.getElem?_toList.{0}
def zcA:=@List.eraseIdx_sublist.{0}
def zcB:=@List.map_map.{0,0,0}
def zcC:=@List.take_take.{0}
def zcD:=@List.mem_of_mem_take.{0}
def zcE:=@List.any_eq_true.{0}
def zcF:=@List.range'_succ
def zcG:=@Int.fdiv_eq_ediv_of_nonneg
def zcH:=@List.sum_cons.{0}
def zcI:=@Nat.testBit_two_pow
def zcJ:=@List.cons.injEq.{0}
def zcK:=@Nat.mul_eq_zero
def zcL:=@Option.isNone_none.{0}
def zcM:=@List.eq_of_mem_replicate.{0}
def zcN:=@Option.isSome_iff_exists.{0}
def zcO:=@List.drop_take.{0}
def zcP:=@Array.size_append.{0}
def zcQ:=@List.getElem?_set.{0}
def zcR:=@List.filter_congr.{0}
def zcS:=@List.take_add_one.{0}
def zcT:=@List.set_eq_take_append_cons_drop.{0}
def zcU:=@List.getElem_mem.{0}
def zcV:=@Array.toList_map.{0,0}
def zcW:=@Bool.not_eq_true
def zcX:=@List.perm_middle.{0}
def zcY:=@Nat.shiftLeft_eq
def zcZ:=@Bool.and_eq_false_iff
def zc0:=@List.length_filter_le.{0}
def zc1:=@Int.ediv_lt_of_lt_mul
def zc2:=@List.mem_iff_getElem?.{0}
def zc3:=@List.singleton_append.{0}
def zc4:=@Int.mul_ediv_add_emod
def zc5:=@List.mem_append_left.{0}
def zc6:=@BitVec.ofInt_natCast
def zc7:=@List.findIdx?_isSome.{0}
def zc8:=@List.getElem_of_mem.{0}
def zc9:=@Array.toList_zipIdx.{0}
def zda:=@List.length_pos_iff.{0}
def zdb:=@Option.some_ne_none.{0}
def zdc:=@List.take_zero.{0}
def zdd:=@Nat.mul_le_mul
def zde:=@Bool.false_ne_true
def zdf:=@List.filter_filter.{0}
def zdg:=@BitVec.ofNat_toNat
def zdh:=@List.length_mapIdx.{0,0}
def zdi:=@List.map_drop.{0,0}
def zdj:=@List.size_toArray.{0}
def zdk:=@Bool.eq_false_iff
def zdl:=@List.find?_append.{0}
def zdm:=@List.all_eq_false.{0}
def zdn:=@Nat.not_lt
structure Fix where
 blocks:List Nat
 ok:World->Prop
 frame:∀w w':World,(∀b∈blocks,w'.heap[b]?=w.heap[b]?)->ok w->ok w'
def fx:Fix:=⟨[],λ_=> True,λ_ _ _ h=> h⟩
inductive AV where
 | s (v:Value)
 | ref (r g off:Nat)
 | sl (r g off esz len cap:Nat) (ex:Bool)
 | ip (cells:List AV)
 | vs (n esz:Nat) (cells:List AV)
 | mp (r:Nat)
 | fn (f:Fn) (first captured:List AV)
 | agg (cells:List AV)
 | tup (cells:List AV)
 deriving Inhabited
inductive eP where
 | blk (g:Nat) (ty:TypeId) (cells:List AV)
 | map (k:IntKind) (es:List (Int × AV))
 deriving Inhabited
def eP.gen:eP->Nat
 | .blk g _ _=> g
 | .map _ _=> 0
structure ah where
 next:Nat
 base:Nat
 get:Nat->eP
def ah.gen(H:ah)(r:Nat):Nat:=(H.get r).gen
def ah.put(H:ah)(r:Nat)(o:eP):ah:={ H with get:=λx=> if x=r then o else H.get x }
def ah.new(H:ah)(o:eP):ah:={ next:=H.next+1,base:=H.base,get:=λx=> if x=H.next then o else H.get x }
def ah.guard(H:ah):ah:={ H with base:=H.next }
def ah.empty:ah:={ next:=0,base:=0,get:=λ_=> .blk 0 0 [] }
abbrev Ren:=Nat->Option (Nat × Nat)
def Imm(ρ:Ren)(b:Nat):Prop:=∀r sh,ρ r≠some (b,sh)
mutual
def RV(ρ:Ren)(G:Nat->Nat)(w:World):AV->Value->Prop
 | .s v,cv=> cv=v
 | .ref r g off,cv=>∃a,cv=.pointer (some a)/\g<=G r/\(G r=g->∃b sh,ρ r=some (b,sh)/\a=⟨b,sh+off,none⟩)
 | .sl r g off esz len cap ex,cv=>∃b o c,cv=.slice (some ⟨b,o,none⟩) len c/\len<=cap/\cap<=c/\(ex=true->c=cap)/\g<=G r/\
   (G r=g->∃sh e n,ρ r=some (b,sh)/\(0 < c->o=sh+off)/\w.shape? b=some (e,n)/\o+c*esz<=n)
 | .ip cells,cv=>∃b o,cv=.pointer (some ⟨b,o,none⟩)/\b < w.heap.size/\Imm ρ b/\RVc ρ G w cells b o
 | .vs n esz cells,cv=>∃b o c,cv=.slice (some ⟨b,o,none⟩) n c/\n<=c/\cells.length=n*esz/\b < w.heap.size/\Imm ρ b/\RVc ρ G w cells b o
 | .mp r,cv=>∃b,cv=.map (some b)/\(G r=0->ρ r=some (b,0))
 | .fn f first captured,cv=>∃a c,cv=.func f a c/\RVs ρ G w first a.toList/\RVs ρ G w captured c.toList
 | .agg cells,cv=>∃cs,cv=.agg cs/\RVs ρ G w cells cs.toList
 | .tup cells,cv=>∃cs,cv=.tuple cs/\RVs ρ G w cells cs.toList
def RVs(ρ:Ren)(G:Nat->Nat)(w:World):List AV->List Value->Prop
 | [],l=> l=[]
 | x::xs,l=>∃y ys,l=y::ys/\RV ρ G w x y/\RVs ρ G w xs ys
def RVc(ρ:Ren)(G:Nat->Nat)(w:World):List AV->Nat->Nat->Prop
 | [],_,_=> True
 | x::xs,b,o=> (∃v,w.cell? ⟨b,o,none⟩=some v/\RV ρ G w x v)/\RVc ρ G w xs b (o+1)
end
def RVm(ρ:Ren)(G:Nat->Nat)(w:World)(k:IntKind):List (Int × AV)->List MapEntry->Prop
 | [],l=> l=[]
 | (n,x)::xs,l=>∃e es,l=e::es/\e.key=.int k n/\RV ρ G w x e.val/\RVm ρ G w k xs es
def Born(es:List MapEntry)(dH:Nat):Prop:=(∀x∈es,x.born < dH)/\(es.map (·.born)).Nodup
def gB:Nat:=1000000000
def Xct(ty e sh n l:Nat):Prop:=(ty < gB->e=ty/\sh=0/\n=l)/\(gB<=ty->ty < gB+gB->ty=e+gB/\sh=0)
theorem Xct.low {e n l:Nat}(h:e < gB)(hn:n=l):Xct e e 0 n l:=⟨λ_=> ⟨rfl,rfl,hn⟩,λh1=> absurd h1 (Nat.not_le.2 h)⟩
theorem Xct.grown {e n l:Nat}:Xct (e+gB) e 0 n l:=⟨λh=> absurd h (zdn.2 (Nat.le_add_left _ _)),λ_ _=> ⟨rfl,rfl⟩⟩
theorem Xct.void {e sh n l:Nat}:Xct (gB+gB) e sh n l:=⟨λh=> absurd h (zdn.2 (Nat.le_add_left _ _)),λ_ h=> absurd h (Nat.lt_irrefl _)⟩
def grT(e ty off:Nat):Nat:=if(ty=e∨ty=e+gB)/\off=0 then e+gB else gB+gB
theorem aco {e ty off n l:Nat}:Xct (grT e ty off) e 0 n l:=by
 unfold grT;split
 ·exact Xct.grown
 ·exact Xct.void
theorem acp {e e' ty sh off n l n' l':Nat}(he:e < gB)(h:Xct ty e' sh n l):Xct (grT e ty off) e' (sh+off) n' l':=by
 unfold grT;split
 ·rename_i hh;obtain⟨h1,rfl⟩:=hh;rcases h1 with rfl | rfl
  ·obtain⟨rfl,rfl,_⟩:=h.1 he;exact Xct.grown
  ·obtain⟨h2,rfl⟩:=h.2 (Nat.le_add_left _ _) (by omega);have:e'=e:=by omega
   subst this;exact Xct.grown
 ·exact Xct.void
def uZ(ρ:Ren)(G:Nat->Nat)(w:World)(o:eP)(b sh:Nat):Prop:=
 match o with
 | .blk _ ty cells=>∃cs e,w.heap[b]?=some (.cells cs e (0,0))/\sh+cells.length<=cs.size/\RVc ρ G w cells b sh/\Xct ty e sh cs.size cells.length
 | .map k es=>∃ces dH,w.heap[b]?=some (.map ces dH)/\sh=0/\RVm ρ G w k es ces.toList/\Born ces.toList dH
def XY(ρ:Ren)(w:World):Prop:=(∀b∈fx.blocks,b < w.heap.size/\Imm ρ b)/\fx.ok w
structure Rel(ρ:Ren)(H:ah)(w:World):Prop where
 out:∀r,H.next<=r->ρ r=none/\H.gen r=0
 obj:∀r b sh,ρ r=some (b,sh)->uZ ρ H.gen w (H.get r) b sh
 inj:∀r r' b sh sh',ρ r=some (b,sh)->ρ r'=some (b,sh')->r=r'
 gl:XY ρ w
structure Ext(ρ:Ren)(H:ah)(w:World)(ρ':Ren)(H':ah)(w':World):Prop where
 next:H.next<=H'.next
 mono:∀r,H.gen r<=H'.gen r
 same:∀r x,ρ r=some x->H'.gen r=H.gen r->ρ' r=some x
 kept:∀r,r < H.next->ρ r=none->ρ' r=none
 range:∀r b sh,ρ' r=some (b,sh)->w.heap.size<=b∨∃sh',ρ r=some (b,sh')
 size:w.heap.size<=w'.heap.size
 frame:∀b,b < w.heap.size->Imm ρ b->w'.heap[b]?=w.heap[b]?
 shape:∀b,b < w.heap.size->w'.shape? b=w.shape? b
 os:w'.os=w.os
 tape:w'.tape=w.tape
 output:w'.output=w.output
theorem XY.of {ρ ρ':Ren}{w w':World}(h:XY ρ w)(hs:w.heap.size<=w'.heap.size)(hr:∀r b sh,ρ' r=some (b,sh)->w.heap.size<=b∨∃r' sh',ρ r'=some (b,sh'))(hf:∀b,b < w.heap.size->Imm ρ b->w'.heap[b]?=w.heap[b]?):XY ρ' w':=by
 refine⟨λb hb=> ?_,fx.frame w w' (λb hb=> hf b (h.1 b hb).1 (h.1 b hb).2) h.2⟩;obtain⟨h1,h2⟩:=h.1 b hb;refine⟨zaw h1 hs,λr sh e=> ?_⟩;rcases hr r b sh e with h | ⟨r',sh',h⟩
 ·omega
 ·exact h2 r' sh' h
theorem XY.ext {ρ ρ':Ren}{H H':ah}{w w':World}(h:XY ρ w)(E:Ext ρ H w ρ' H' w'):XY ρ' w':=
 h.of E.size (λr b sh e=> (E.range r b sh e).imp id λ⟨sh',h⟩=> ⟨r,sh',h⟩) E.frame
mutual
def AV.val?:AV->Option Value
 | .s v=> some v
 | .agg l=> (vals? l).map λvs=> .agg vs.toArray
 | .tup l=> (vals? l).map λvs=> .tuple vs.toArray
 | .ref ..=> none
 | .sl ..=> none
 | .ip ..=> none
 | .vs ..=> none
 | .mp ..=> none
 | .fn ..=> none
def vals?:List AV->Option (List Value)
 | []=> some []
 | x::xs=> match x.val?,vals? xs with
  | some v,some vs=> some (v::vs)
  | _,_=> none
end
def AV.cells:AV->List AV
 | .agg l=> l
 | .s v=> v.cells.toList.map .s
 | x=> [x]
def AV.aJ:AV->Bool
 | .agg _=> false
 | .tup _=> false
 | .s (.agg _)=> false
 | .s (.tuple _)=> false
 | _=> true
def aV:AV:=.tup []
def aP(cells:List AV)(off:Nat)(xs:List AV):List AV:=cells.take off++(xs++cells.drop (off+xs.length))
def gI {α:Type}(P:Program):Sem α->Option α
 | .pure a=> some a
 | .program k=> gI P (k P)
 | _=> none
def szT(P:Program)(t:TypeId):Option Nat:=(P.info? t).map (·.size)
def uM(P:Program)(t:TypeId):Option Nat:=(P.info? t).map (·.bytes)
def aeF(P:Program)(t:TypeId):Option Bool:=
 match P.underlying t with
 | some (.struct _)=> some true
 | some (.array _ _)=> some true
 | some _=> some false
 | none=> none
def wC(P:Program)(t:TypeId):Option TypeId:=
 match P.underlying t with
 | some (.slice e)=> some e
 | _=> none
def wE(P:Program)(t:TypeId):Option Value:=if t < gB then(P.info? t).bind (·.zero) else none
def uH(P:Program)(t:TypeId):Option (List AV):=(wE P t).map λv=> v.cells.toList.map .s
def Pz(P:Program)(t:TypeId)(i:Nat):Option Field:=
 match P.underlying t with
 | some (.struct fs)=> fs[i]?
 | _=> none
def EL(P:Program)(t:TypeId)(cells:List AV)(off:Nat):Option AV:=
 match aeF P t,szT P t with
 | some true,some n=> if off+n<=cells.length then some (.agg ((cells.drop off).take n)) else none
 | some false,some _=> cells[off]?
 | _,_=> none
def fV(place:Nat->Option (Nat × Nat))(cells:List AV):List (Nat × AV)->Option (List AV)
 | []=> some cells
 | (i,v)::rest=>
  match place i with
  | none=> none
  | some (off,size)=>
   if v.cells.length=size/\off+v.cells.length<=cells.length then fV place (aP cells off v.cells) rest else none
def JH(P:Program)(fs:Array Field)(i:Nat):Option (Nat × Nat):=
 match fs[i]? with
 | some f=> (szT P f.type).map λn=> (f.offset,n)
 | none=> none
def fD(P:Program)(t:TypeId)(parts:List (Nat × AV)):Option AV:=
 match uH P t,P.underlying t with
 | some z,some (.struct fs)=> if fs.all (λf=> (szT P f.type).isSome) then(fV (JH P fs) z parts).map .agg else none
 | some z,some (.array _ e)=> match szT P e with
  | some n=> (fV (λi=> some (i*n,n)) z parts).map .agg
  | none=> none
 | _,_=> none
def JI(P:Program)(t:TypeId)(x y:AV):Option Bool:=
 match P.underlying t with
 | some (.slice _)=> match x,y with
  | .sl ..,.s (.slice none _ _)=> some false
  | .vs ..,.s (.slice none _ _)=> some false
  | .s (.slice none _ _),.sl ..=> some false
  | .s (.slice none _ _),.vs ..=> some false
  | _,_=> none
 | some (.pointer _)=> match x,y with
  | .ref ..,.s (.pointer none)=> some false
  | .ip ..,.s (.pointer none)=> some false
  | .s (.pointer none),.ref ..=> some false
  | .s (.pointer none),.ip ..=> some false
  | _,_=> none
 | some (.map _ _)=> match x,y with
  | .mp ..,.s (.map none)=> some false
  | .s (.map none),.mp ..=> some false
  | _,_=> none
 | some (.func _ _ _)=> match x,y with
  | .fn ..,.s .nilFunc=> some false
  | .s .nilFunc,.fn ..=> some false
  | _,_=> none
 | _=> none
def nH(P:Program)(op:BinOp)(t:TypeId)(x y:AV):Option AV:=
 match x.val?,y.val? with
 | some a,some b=> (gI P (do eqGuard op t (.tmp 0) (.tmp 0) a b;binOp op t a b)).map .s
 | _,_=> match op with
  | .eql=> (JI P t x y).map λb=> .s (.bool b)
  | .neq=> (JI P t x y).map λb=> .s (.bool !b)
  | _=> none
def akS(P:Program)(op:BinOp)(t:TypeId)(x:AV):Option AV:=
 match x.val? with
 | some a=> (gI P (do eqGuard op t (.tmp 0) (.const .nilIface) a .nilIface;binOp op t a .nilIface)).map .s
 | none=> none
def PD:Operand->Bool
 | .const .nilIface=> true
 | _=> false
def aeG(P:Program)(op:BinOp)(t:TypeId)(yo:Operand)(x y:AV):Option AV:=
 match PD yo with
 | true=> akS P op t x
 | false=> nH P op t x y
def unA(P:Program)(op:UnOp)(x:AV):Option AV:=
 match x.val? with
 | some a=> (gI P (Op.unary op a)).map .s
 | none=> none
def pI(P:Program)(t:TypeId)(x:AV)(i:Nat):Option AV:=
 match Pz P t i with
 | some f=> match szT P f.type with
  | some (_+1)=> match x with
   | .ref r g off=> some (.ref r g (off+f.offset))
   | .ip cells=> some (.ip (cells.drop f.offset))
   | _=> none
  | _=> none
 | none=> none
def JJ(P:Program)(t:TypeId)(x:AV)(i:Nat):Option AV:=
 match Pz P t i,x with
 | some f,.agg cells=> EL P f.type cells f.offset
 | some f,.s (.agg cs)=> EL P f.type (cs.toList.map .s) f.offset
 | _,_=> none
def JK(P:Program)(t:TypeId)(x i:AV):Option AV:=
 match P.underlying t,x,i with
 | some .string,.s (.string s),.s (.int _ n)=> match(if 0<=n then s[n.toNat]? else none) with
  | some b=> some (.s (.int .u8 b.toNat))
  | none=> none
 | some (.array len e),.agg cells,.s (.int _ n)=> match szT P e with
  | some m=> if 0<=n/\n < len then EL P e cells (n.toNat*m) else none
  | none=> none
 | some (.array len e),.s (.agg cs),.s (.int _ n)=> match szT P e with
  | some m=> if 0<=n/\n < len then EL P e (cs.toList.map .s) (n.toNat*m) else none
  | none=> none
 | _,_,_=> none
def aX(x:AV)(i:Nat):Option AV:=
 match x with
 | .tup l=> l[i]?
 | .s (.tuple vs)=> (vs[i]?).map .s
 | _=> none
def iy:Option AV->Nat->Option Nat
 | none,d=> some d
 | some (.s (.int _ n)),_=> if 0<=n then some n.toNat else none
 | _,_=> none
def isNone {α:Type}:Option α->Bool
 | none=> true
 | some _=> false
def JL(P:Program)(t:TypeId)(x:AV)(lo hi mx:Option AV):Option AV:=
 match P.underlying t with
 | some (.slice e)=> match x,szT P e with
  | .s (.slice none 0 0),some _=> match iy lo 0,iy hi 0,iy mx 0 with
   | some 0,some 0,some 0=> if hi=none->mx=none then some (.s (.slice none 0 0)) else none
   | _,_,_=> none
  | .sl r g off esz len cap ex,some m=> match iy lo 0,iy hi len,iy mx cap with
   | some l,some h,some k=>
    if esz=m/\l<=h/\h<=k/\k<=cap/\(hi=none->mx=none) then some (.sl r g (off+l*esz) esz (h - l) (k - l) (ex || !isNone mx)) else none
   | _,_,_=> none
  | .vs n esz cells,some m=> match iy lo 0,iy hi n,mx with
   | some l,some h,none=> if esz=m/\l<=h/\h<=n then some (.vs (h - l) esz ((cells.drop (l*esz)).take ((h - l)*esz))) else none
   | _,_,_=> none
  | _,_=> none
 | some .string=> match x,iy lo 0,mx with
  | .s (.string s),some l,none=> match iy hi s.size with
   | some h=> if l<=h/\h<=s.size then some (.s (.string (s.extract l h))) else none
   | none=> none
  | _,_,_=> none
 | _=> none
abbrev AM(α:Type):=ah->Option (α × ah)
def dV {α:Type}(x:Option α):AM α:=λH=> x.map λv=> (v,H)
def dO:AV->Option Nat
 | .ref r _ _=> some r
 | .sl r _ _ _ _ _ _=> some r
 | .mp r=> some r
 | _=> none
def jP(f:Option eP->Option AV)(x:AV):AM AV:=λH=> (f ((dO x).map H.get)).map λv=> (v,H)
def acr(P:Program)(t:TypeId)(x:AV)(ob:Option eP):Option AV:=
 match x with
 | .ref _ g off=> match ob with
  | some (.blk g' _ cells)=> if g'=g then EL P t cells off else none
  | _=> none
 | .ip cells=> EL P t cells 0
 | _=> none
def MP(P:Program)(t:TypeId)(x:AV):AM AV:=jP (acr P t x) x
def JM(P:Program)(t:TypeId)(x v:AV):AM AV:=λH=>
 match x with
 | .ref r g off=> match H.get r with
  | .blk g' ty cells=>
   if g'=g/\H.base<=r/\szT P t=some v.cells.length/\v.cells.all AV.aJ=true/\off+v.cells.length<=cells.length then
    some (aV,H.put r (.blk g ty (aP cells off v.cells)))
   else none
  | .map ..=> none
 | _=> none
def Fe(P:Program)(t:TypeId):AM AV:=λH=>
 match uH P t with
 | some z=> if z.all AV.aJ=true then some (.ref H.next 0 0,H.new (.blk 0 t z)) else none
 | none=> none
def iC(t:TypeId)(v:AV):AM AV:=λH=>
 if v.cells.all AV.aJ=true/\t < gB then some (.ref H.next 0 0,H.new (.blk 0 t v.cells)) else none
def dh(z:List AV):Nat->List AV
 | 0=> []
 | n+1=> z++dh z n
def cZ(P:Program)(t:TypeId)(len:Nat)(parts:List (Nat × AV)):AM AV:=λH=>
 match wC P t with
 | some e=> match szT P e,uH P e with
  | some m,some z=>
   if z.length=m/\len*m<=16777216 then
    match fV (λi=> some (i*m,m)) (dh z len) parts with
    | some cells=> if cells.all AV.aJ=true then some (.sl H.next 0 0 m len len true,H.new (.blk 0 e cells)) else none
    | none=> none
   else none
  | _,_=> none
 | none=> none
def nI(P:Program)(t:TypeId)(len cap:AV):AM AV:=λH=>
 match wC P t,len,cap with
 | some e,.s (.int _ l),.s (.int _ c)=> match szT P e,uM P e,uH P e with
  | some m,some by_,some z=>
   if z.length=m/\z.all AV.aJ=true/\0<=l/\l<=c/\c<=140737488355328/\by_*c<=140737488355328 then
    some (.sl H.next 0 0 m l.toNat c.toNat true,H.new (.blk 0 e (dh z c.toNat)))
   else none
  | _,_,_=> none
 | _,_,_=> none
def aeH:Option eP->Nat
 | some o=> o.gen
 | none=> 0
def yA(P:Program)(t:TypeId)(x i:AV)(ob:Option eP):Option AV:=
 match P.underlying t with
 | some (.slice e)=> match x with
  | .sl r g off esz len _ _=> match i with
   | .s (.int _ n)=> if szT P e=some esz/\aeH ob=g/\0<=n/\n < len then some (.ref r g (off+n.toNat*esz)) else none
   | _=> none
  | .vs len esz cells=> match i with
   | .s (.int _ n)=> if szT P e=some esz/\0<=n/\n < len then some (.ip (cells.drop (n.toNat*esz))) else none
   | _=> none
  | _=> none
 | some (.array len e)=> match szT P e with
  | some m=> match x with
   | .ref r g off=> match i with
    | .s (.int _ n)=> if 0<=n/\n < len then some (.ref r g (off+n.toNat*m)) else none
    | _=> none
   | .ip cells=> match i with
    | .s (.int _ n)=> if 0<=n/\n < len then some (.ip (cells.drop (n.toNat*m))) else none
    | _=> none
   | _=> none
  | none=> none
 | _=> none
def pJ(P:Program)(t:TypeId)(x i:AV):AM AV:=jP (yA P t x i) x
def aey(P:Program)(t:TypeId):Option (IntKind × TypeId):=
 match P.underlying t with
 | some (.map k e)=> match P.underlying k with
  | some (.int ik)=> some (ik,e)
  | _=> none
 | _=> none
def tX(P:Program)(t:TypeId):AM AV:=λH=>
 match aey P t with
 | some (k,_)=> some (.mp H.next,H.new (.map k []))
 | none=> none
def oz:List (Int × AV)->Int->Option AV
 | [],_=> none
 | (k,v)::es,n=> if k=n then some v else oz es n
def ML:List (Int × AV)->Int->AV->List (Int × AV)
 | [],n,x=> [(n,x)]
 | (k,v)::es,n,x=> if k=n then(n,x)::es else(k,v)::ML es n x
def Ai:List (Int × AV)->Int->List (Int × AV)
 | [],_=> []
 | (k,v)::es,n=> if k=n then es else(k,v)::Ai es n
def Ul(P:Program)(t:TypeId)(x i:AV)(ok:Bool)(ob:Option eP):Option AV:=
 match aey P t with
 | some (k,e)=> match wE P e with
  | some z=> match x with
   | .mp _=> match i with
    | .s (.int k' n)=> match ob with
     | some (.map k'' es)=>
      if k'=k/\k''=k then
       match oz es n with
       | some v=> some (if ok then .tup [v,.s (.bool true)] else v)
       | none=> some (if ok then .tup [.s z,.s (.bool false)] else .s z)
      else none
     | _=> none
    | _=> none
   | _=> none
  | none=> none
 | none=> none
def MQ(P:Program)(t:TypeId)(x i:AV)(ok:Bool):AM AV:=jP (Ul P t x i ok) x
def pK(P:Program)(t:TypeId)(x i v:AV):AM AV:=λH=>
 match aey P t,x,i with
 | some (k,_),.mp r,.s (.int k' n)=> match H.get r with
  | .map k'' es=> if k'=k/\k''=k/\H.base<=r then some (aV,H.put r (.map k (ML es n v))) else none
  | _=> none
 | _,_,_=> none
def bI(H:ah):AV->Option (List AV)
 | .sl r g off esz len _ _=> match H.get r with
  | .blk g' _ cells=> if g'=g/\off+len*esz<=cells.length then some ((cells.drop off).take (len*esz)) else none
  | .map ..=> none
 | .vs _ _ cells=> some cells
 | .s (.slice none _ _)=> some []
 | .s (.string s)=> some (s.data.toList.map λb=> .s (.int .u8 b.toNat))
 | _=> none
def jC:AV->Option Nat
 | .sl _ _ _ _ len _ _=> some len
 | .vs n _ _=> some n
 | .s (.slice none n _)=> some n
 | .s (.string s)=> some s.size
 | _=> none
def most:Nat:=140737488355328
def dD(e:TypeId)(m by_:Nat)(x:AV)(n:Nat)(new:List AV):AM AV:=λH=>
 if new.length=n*m/\new.all AV.aJ=true then
  match x with
  | .s (.slice none 0 0)=>
   if n=0 then some (x,H)
   else if n<=most/\n*by_<=most then some (.sl H.next 0 0 m n n false,H.new (.blk 0 (e+gB) new))
   else none
  | .sl r g off esz len cap ex=> match H.get r with
   | .blk g' ty cells=>
    if esz=m/\g'=g/\off+len*m<=cells.length then
     if n=0 then some (x,H)
     else if len+n<=cap then
      (if H.base<=r/\off+(len+n)*m<=cells.length then some (.sl r g off m (len+n) cap ex,H.put r (.blk g ty (aP cells (off+len*m) new))) else none)
     else if len+n<=most/\(len+n)*by_<=most then
      if ex then some (.sl H.next 0 0 m (len+n) (len+n) false,H.new (.blk 0 (e+gB) ((cells.drop off).take (len*m)++new)))
      else if H.base<=r then some (.sl r (g+1) 0 m (len+n) (len+n) false,H.put r (.blk (g+1) (grT e ty off) ((cells.drop off).take (len*m)++new)))
      else none
     else none
    else none
   | .map ..=> none
  | _=> none
 else none
def GN(P:Program)(t u:TypeId)(x y:AV):AM AV:=λH=>
 match wC P t,P.underlying u with
 | some e,some d=> match szT P e,uM P e,uH P e with
  | some m,some by_,some z=>
   if z.length=m then
    match d with
    | .int _=> match y with
     | .s (.int _ n)=> if 0<=n/\n<=most/\n*by_<=most then dD e m by_ x n.toNat (dh z n.toNat) H else none
     | _=> none
    | _=> match jC y,bI H y with
     | some n,some new=> dD e m by_ x n new H
     | _,_=> none
   else none
  | _,_,_=> none
 | _,_=> none
def X6(P:Program)(t:TypeId)(x y:AV):AM AV:=λH=>
 match wC P t with
 | some e=> match szT P e,jC x,jC y,bI H y with
  | some m,some d,some n,some new=>
   let k:=min n d
   if new.length=n*m/\new.all AV.aJ=true then
    if k=0 then(match x with | .s (.string _)=> none | _=> some (.s (.int .i64 0),H)) else
    match x with
    | .sl r g off esz len _ _=> match H.get r with
     | .blk g' ty cells=>
      if esz=m/\g'=g/\H.base<=r/\off+len*m<=cells.length then
       some (.s (.int .i64 k),H.put r (.blk g ty (aP cells off (new.take (k*m)))))
      else none
     | .map ..=> none
    | _=> none
   else none
  | _,_,_,_=> none
 | none=> none
def PE(P:Program)(t:TypeId)(x:AV):AM AV:=λH=>
 match wC P t with
 | some e=> match szT P e,uH P e,x with
  | some m,some z,.sl r g off esz len _ _=>
   if len=0 then some (.tup [],H) else
   match H.get r with
   | .blk g' ty cells=>
    if esz=m/\g'=g/\H.base<=r/\z.length=m/\z.all AV.aJ=true/\off+len*m<=cells.length then
     some (.tup [],H.put r (.blk g ty (aP cells off (dh z len))))
    else none
   | .map ..=> none
  | some _,some _,.s (.slice none _ _)=> some (.tup [],H)
  | _,_,_=> none
 | none=> none
def GR(P:Program)(t:TypeId)(x i:AV):AM AV:=λH=>
 match aey P t,x,i with
 | some (k,_),.mp r,.s (.int k' n)=> match H.get r with
  | .map k'' es=> if k'=k/\k''=k/\H.base<=r then some (.tup [],H.put r (.map k (Ai es n))) else none
  | _=> none
 | _,_,_=> none
def air(P:Program)(t:TypeId)(x:AV)(ob:Option eP):Option AV:=
 match P.underlying t with
 | some (.slice _)=> match x with
  | .sl _ _ _ _ len _ _=> some (.s (.int .i64 len))
  | .vs n _ _=> some (.s (.int .i64 n))
  | .s (.slice _ n _)=> some (.s (.int .i64 n))
  | _=> none
 | some .string=> match x with
  | .s (.string s)=> some (.s (.int .i64 s.size))
  | _=> none
 | some (.map _ _)=> match x with
  | .mp _=> match ob with
   | some (.map _ es)=> some (.s (.int .i64 es.length))
   | _=> none
  | .s (.map none)=> some (.s (.int .i64 0))
  | _=> none
 | _=> none
def aeI(P:Program)(t:TypeId)(x:AV):AM AV:=jP (air P t x) x
def ZT(P:Program)(t:TypeId)(x:AV):Option AV:=
 match P.underlying t with
 | some (.slice _)=> match x with
  | .sl _ _ _ _ _ cap true=> some (.s (.int .i64 cap))
  | .s (.slice none _ c)=> some (.s (.int .i64 c))
  | _=> none
 | _=> none
def lY:List AV->Option (List Int)
 | []=> some []
 | x::xs=> match x with
  | .s (.int .u8 n)=> match lY xs with
   | some l=> some (n::l)
   | none=> none
  | _=> none
def JO(ns:List Int):ByteArray:=ns.foldl (λs n=> s.push (UInt8.ofNat n.toNat)) ByteArray.empty
def aez(x:AV)(ob:Option eP):Option ByteArray:=
 match x with
 | .sl _ g off esz len _ _=> if esz=1 then match ob with
   | some (.blk g' _ cells)=> if g'=g/\off+len*esz<=cells.length then(lY ((cells.drop off).take (len*esz))).map JO else none
   | _=> none
  else none
 | .vs _ esz cells=> if esz=1 then(lY cells).map JO else none
 | .s (.slice none _ _)=> some ByteArray.empty
 | _=> none
def BU(P:Program)(src dst:TypeId):Bool:=
 match P.underlying src,P.underlying dst with
 | some (.slice e),some .string=> match P.underlying e with
  | some (.int .u8)=> true
  | _=> false
 | _,_=> false
def wF(P:Program)(src dst:TypeId)(x:AV)(ob:Option eP):Option AV:=
 if BU P src dst=true then(aez x ob).map λs=> .s (.string s)
 else match x.val? with
  | some v=> (gI P (convert src dst v)).map .s
  | none=> none
def kC(P:Program)(src dst:TypeId)(x:AV):AM AV:=jP (wF P src dst x) x
def bD(H:ah)(n:Nat):Nat->AV->Option AV
 | 0,_=> none
 | d+1,x=> match x with
  | .s v=> some (.s v)
  | .ref r g off=> if r < n then some (.ref r g off) else none
  | .mp r=> if r < n then some (.mp r) else none
  | .sl r g off esz len cap ex=>
   if r < n then some (.sl r g off esz len cap ex)
   else match bI H (.sl r g off esz len cap ex) with
    | some cells=> (cells.mapM (bD H n d)).map λl=> .vs len esz l
    | none=> none
  | .ip cells=> (cells.mapM (bD H n d)).map .ip
  | .vs k esz cells=> (cells.mapM (bD H n d)).map (.vs k esz)
  | .fn f a c=> match a.mapM (bD H n d),c.mapM (bD H n d) with
   | some a,some c=> some (.fn f a c)
   | _,_=> none
  | .agg cells=> (cells.mapM (bD H n d)).map .agg
  | .tup cells=> (cells.mapM (bD H n d)).map .tup
abbrev ak:=FuncId->List AV->AM AV
abbrev eu:=List AV
def cO(t:eu):Operand->AV
 | .tmp i=> t.getD i aV
 | .const v=> .s v
 | .global g=> .s (.pointer (some ⟨g,0,none⟩))
 | .func f=> .fn (.func f) [] []
def rO(t:eu)(dst:Option Tmp)(v:AV):eu:=
 match dst with
 | some d=> t.set d v
 | none=> t
def nN(P:Program)(f:FuncId):Bool:=
 match P.funcs[f]? with
 | some fn=> !(fn.name=="runtime.NumGoroutine") && fn.body.isSome
 | none=> false
def oQ(P:Program)(C:ak)(f:AV)(args:List AV):AM AV:=
 match f with
 | .fn (.func f) first captured=> if nN P f=true then C f (first++args++captured) else λ_=> none
 | .s (.func (.func f) first captured)=> if nN P f=true then C f (first.toList.map .s++args++captured.toList.map .s) else λ_=> none
 | _=> λ_=> none
def bQ(c a b:AV):Option AV:=
 match c with
 | .s (.bool true)=> some a
 | .s (.bool false)=> some b
 | _=> none
def aU(x:AV):Option AV:=
 match x with
 | .ref ..=> some x
 | .ip ..=> some x
 | .fn (.func _) _ _=> some x
 | .s (.pointer (some _))=> some x
 | _=> none
def jm(P:Program)(isMax:Bool)(argTypes:Array TypeId)(type:TypeId)(args:List AV):Option AV:=
 match vals? args with
 | some vs=> (gI P (if isMax then Builtin.max_ argTypes type vs.toArray else Builtin.min_ argTypes type vs.toArray)).map .s
 | none=> none
def gu(P:Program)(b:Builtin)(argTypes:Array TypeId)(type:TypeId)(args:List AV):AM AV:=λH=>
 match b,argTypes.toList,args with
 | .append,[t,u],[x,y]=> GN P t u x y H
 | .len,[t],[x]=> aeI P t x H
 | .cap,[t],[x]=> dV (ZT P t x) H
 | .copy,t::_,[x,y]=> X6 P t x y H
 | .clear,[t],[x]=> PE P t x H
 | .delete,t::_,[x,y]=> GR P t x y H
 | .max,_,args=> dV (jm P true argTypes type args) H
 | .min,_,args=> dV (jm P false argTypes type args) H
 | _,_,_=> none
def rQ(P:Program)(C:ak)(t:eu)(c:Call)(type:TypeId):AM AV:=λH=>
 match c.callee with
 | .value f=> oQ P C (cO t f) (c.args.toList.map (cO t)) H
 | .builtin b=> gu P b c.argTypes type (c.args.toList.map (cO t)) H
 | .invoke _ _=> none
def opA(P:Program)(C:ak)(t:eu)(o:Oper):AM AV:=
 match o.op with
 | .move x=> dV (some (cO t x))
 | .assign x=> dV (some (cO t x))
 | .pick c a b=> dV (bQ (cO t c) (cO t a) (cO t b))
 | .alloc e=> Fe P e
 | .box e x=> iC e (cO t x)
 | .build ty ps=> dV (fD P ty (ps.toList.map λp=> (p.1,cO t p.2)))
 | .buildSlice ty n ps=> cZ P ty n (ps.toList.map λp=> (p.1,cO t p.2))
 | .load ty x=> MP P ty (cO t x)
 | .store ty x v=> JM P ty (cO t x) (cO t v)
 | .nilCheck x=> dV (aU (cO t x))
 | .binOp op ty x y _=> dV (aeG P op ty y (cO t x) (cO t y))
 | .unOp op _ x=> dV (unA P op (cO t x))
 | .convert src dst x=> kC P src dst (cO t x)
 | .makeFunc f a c=> dV (some (.fn f (a.toList.map (cO t)) (c.toList.map (cO t))))
 | .makeMap ty none=> tX P ty
 | .makeSlice ty l c=> nI P ty (cO t l) (cO t c)
 | .slice ty x lo hi mx=> dV (JL P ty (cO t x) (lo.map (cO t)) (hi.map (cO t)) (mx.map (cO t)))
 | .fieldAddr ty x i=> dV (pI P ty (cO t x) i)
 | .field ty x i=> dV (JJ P ty (cO t x) i)
 | .indexAddr ty x i=> pJ P ty (cO t x) (cO t i)
 | .index ty x i=> dV (JK P ty (cO t x) (cO t i))
 | .lookup ty x i ok=> MQ P ty (cO t x) (cO t i) ok
 | .mapUpdate ty m k v=> pK P ty (cO t m) (cO t k) (cO t v)
 | .extract x i=> dV (aX (cO t x) i)
 | .call c=> rQ P C t c o.type
 | _=> λ_=> none
def qB(ops:List Oper)(t:eu)(o:Oper):Option Bool:=
 match o.guard with
 | none=> some true
 | some (j,want)=> match ops[j]? with
  | some p=> match p.dst with
   | some d=> match t[d]? with
    | some (.s (.bool b))=> some (b==want)
    | some (.tup [])=> some false
    | _=> none
   | none=> none
  | none=> none
def JQ(P:Program)(C:ak)(ops:List Oper):List Oper->eu->AM eu
 | [],t,H=> some (t,H)
 | o::rest,t,H=> match qB ops t o with
  | some true=> match opA P C t o H with
   | some (v,H')=> JQ P C ops rest (rO t o.dst v) H'
   | none=> none
  | some false=> JQ P C ops rest (rO t o.dst aV) H
  | none=> none
def aeJ:List Nat:=[
 191,
 48,
 198,
 15,
 49,
 199,
 22,
 0]
def X7:Operand->Bool
 | .const _=> true
 | _=> false
def Au:Op->Bool
 | .alloc _=> true
 | .buildSlice _ _ ps=> ps.all λp=> X7 p.2
 | _=> false
def oH:Op->Bool
 | .move _=> true
 | .assign _=> true
 | .pick _ _ _=> true
 | .build _ _=> true
 | .nilCheck _=> true
 | .binOp _ _ _ _ _=> true
 | .unOp _ _ _=> true
 | .makeFunc _ _ _=> true
 | .slice _ _ _ _ _=> true
 | .fieldAddr _ _ _=> true
 | .field _ _ _=> true
 | .index _ _ _=> true
 | .extract _ _=> true
 | .load _ _=> true
 | .lookup _ _ _ _=> true
 | .indexAddr _ _ _=> true
 | .convert _ _ _=> true
 | .call c=> match c.callee with
  | .builtin .len=> true
  | .builtin .cap=> true
  | .builtin .max=> true
  | .builtin .min=> true
  | _=> false
 | _=> false
def aiM:Operand->Bool
 | .func f=> aeJ.contains f
 | _=> false
def qC:Op->Bool
 | .box _ _=> true
 | .buildSlice _ _ _=> true
 | .makeMap _ _=> true
 | .makeSlice _ _ _=> true
 | .call c=> match c.callee with
  | .value x=> !aiM x
  | _=> false
 | _=> false
def kQ:Op->Bool
 | .call c=> match c.callee with
  | .value x=> !aiM x
  | _=> false
 | _=> false
def acs:Op->Bool
 | .call c=> match c.callee with
  | .value x=> aiM x
  | _=> false
 | _=> false
def GU:Op->Bool
 | .load _ _=> true
 | .lookup _ _ _ _=> true
 | .indexAddr _ _ _=> true
 | .convert _ _ _=> true
 | .call c=> match c.callee with
  | .builtin .len=> true
  | _=> false
 | _=> false
def jT(t:eu):Op->Option Nat
 | .load _ x=> dO (cO t x)
 | .lookup _ x _ _=> dO (cO t x)
 | .indexAddr _ x _=> dO (cO t x)
 | .convert _ _ x=> dO (cO t x)
 | .call c=> match c.args.toList with
  | [x]=> dO (cO t x)
  | _=> none
 | _=> none
def kW(ops:List Oper)(i j:Nat):Bool:=((Region.before ops.toArray).getD j 0).testBit i
def nO(ops:List Oper)(i:Nat):Op:=(ops[i]?.map (·.op)).getD (.alloc 0)
def Fg(ops:List Oper)(i:Nat):Option Tmp:=ops[i]?.bind (·.dst)
def cst(ops:List Oper)(i:Nat):Bool:=Au (nO ops i)
def flo(ops:List Oper)(i:Nat):Bool:=oH (nO ops i)
def chn(ops:List Oper)(i:Nat):Bool:=!cst ops i && !flo ops i
def BX(ops:List Oper)(i j:Nat):Bool:=if cst ops i==cst ops j then decide (i < j) else cst ops i
def Aj(n:Nat)(f:Nat->Bool):Bool:=(List.range n).all f
def RG(ops:List Oper)(j e:Nat):Bool:=chn ops e && flo ops j && GU (nO ops j) && !kW ops j e && !kW ops e j
def loose(ops:List Oper)(e:Nat):Bool:=(List.range ops.length).any λj=> RG ops j e || (cst ops j && chn ops e && !kW ops j e)
def kD(ops:List Oper):List (Nat × Nat):=
 (List.range ops.length).flatMap λj=> ((List.range ops.length).filter λe=> (RG ops j e && !qC (nO ops e)) || (cst ops j && chn ops e && !kW ops j e && acs (nO ops e))).map λe=> (j,e)
def PG(ops:List Oper):Bool:=
 let n:=ops.length
 (Aj n λj=> (ops[j]?.map λo=> o.after.all λe=> !Region.binds .any e || (decide (e.on < n) && BX ops e.on j)).getD false) &&
 (Aj n λi=> Aj n λj=> !(decide (i < j)) || (Fg ops i).isNone || !(Fg ops i==Fg ops j)) &&
 (Aj n λi=> Aj n λj=> i==j || (match Fg ops i,ops[j]? with
  | some d,some o=> !(o.looksAt ops.toArray).contains d || (kW ops i j && BX ops i j) || (kW ops j i && BX ops j i)
  | _,_=> true)) &&
 (Aj n λi=> Aj n λj=> !(chn ops i && chn ops j && decide (i < j)) || kW ops i j) &&
 (Aj n λj=> !cst ops j || ((ops[j]?.map λo=> o.guard.isNone && o.dst.isSome).getD false)) &&
 (Aj n λj=> Aj n λe=> !(cst ops j && chn ops e && !kW ops j e) || ((qC (nO ops e) || acs (nO ops e)) && !kW ops e j))
def opG(P:Program)(C:ak)(t:eu)(o:Oper):AM AV:=λH=>
 match opA P C t o H.guard with
 | some (v,H')=> some (v,{ H' with base:=H.base })
 | none=> none
def kU(P:Program)(C:ak)(ops:List Oper)(lo:Bool)(o:Oper)(t:eu):AM AV:=λH=>
 match qB ops t o with
 | some true=> if lo then opG P C t o H else opA P C t o H
 | some false=> some (aV,H)
 | none=> none
def gy(P:Program)(C:ak)(ops:List Oper):List Nat->eu->ah->Option (eu × ah)
 | [],t,H=> some (t,H)
 | i::is,t,H=> match ops[i]? with
  | some o=> match opA P C t o H with
   | some (v,H')=> gy P C ops is (rO t o.dst v) H'
   | none=> none
  | none=> none
def dW(P:Program)(C:ak)(ops:List Oper):List Nat->eu->ah->Option (eu × ah)
 | [],t,H=> some (t,H)
 | i::is,t,H=> match ops[i]? with
  | some o=> match kU P C ops (loose ops i && kQ o.op) o t H with
   | some (v,H')=> dW P C ops is (rO t o.dst v) H'
   | none=> none
  | none=> none
def lZ(ops:List Oper):List Nat:=(List.range ops.length).filter (cst ops)
def kY(ops:List Oper):List Nat:=(List.range ops.length).filter λi=> !cst ops i
def BZ(P:Program)(C:ak)(ops:List Oper)(p:Nat)(t:eu)(H:ah):Option (eu × ah):=
 dW P C ops ((List.range p).filter λi=> !cst ops i) t H
def agree(P:Program)(C:ak)(ops:List Oper)(s:Nat)(t:eu)(H:ah)(p:Nat × Nat):Prop:=
 if cst ops p.1=true then
  ∀te He te' He',BZ P C ops p.2 t H=some (te,He)->BZ P C ops (p.2+1) t H=some (te',He')->∀r,s<=r->r < H.next->He'.get r=He.get r
 else
 ∀tj Hj te He te' He',BZ P C ops p.1 t H=some (tj,Hj)->BZ P C ops p.2 t H=some (te,He)->BZ P C ops (p.2+1) t H=some (te',He')->
  ∀r,jT tj (nO ops p.1)=some r->He'.get r=He.get r
open Classical in
def vg(P:Program)(C:ak)(ops:List Oper)(t:eu)(H:ah):Option (eu × ah):=
 if PG ops=true then
  match gy P C ops (lZ ops) t H with
  | some (t0,H0)=> match kD ops with
   | []=> dW P C ops (kY ops) t0 H0
   | ps=> if∀p∈ps,agree P C ops H.next t0 H0 p then dW P C ops (kY ops) t0 H0 else none
  | none=> none
 else none
mutual
def NV(n:Nat):AV->Prop
 | .s _=> True
 | .ref r _ _=> r < n
 | .sl r _ _ _ _ _ _=> r < n
 | .ip cells=> NVs n cells
 | .vs _ _ cells=> NVs n cells
 | .mp r=> r < n
 | .fn _ a c=> NVs n a/\NVs n c
 | .agg cells=> NVs n cells
 | .tup cells=> NVs n cells
def NVs(n:Nat):List AV->Prop
 | []=> True
 | x::xs=> NV n x/\NVs n xs
end
mutual
theorem RV.nv {ρ:Ren}{G:Nat->Nat}{w:World}{n:Nat}(out:∀r,n<=r->ρ r=none/\G r=0):∀(x:AV) (v:Value),RV ρ G w x v->NV n x
 | .s _,_,_=> by simp [NV]
 | .ref r g off,v,h=> by
  obtain⟨a,_,h1,h2⟩:=(by simpa only [RV] using h)
  simp only [NV];rcases zaP r n with hr | hr
  ·exact hr
  ·obtain⟨o1,o2⟩:=out r hr;obtain⟨b,sh,hb,_⟩:=h2 (by omega);rw [o1] at hb;cases hb
 | .sl r g off esz len cap ex,v,h=> by
  obtain⟨b,o,c,_,_,_,_,h1,h2⟩:=(by simpa only [RV] using h)
  simp only [NV];rcases zaP r n with hr | hr
  ·exact hr
  ·obtain⟨o1,o2⟩:=out r hr;obtain⟨sh,e,m,hb,_⟩:=h2 (by omega);rw [o1] at hb;cases hb
 | .ip cells,v,h=> by
  obtain⟨b,o,_,_,_,h1⟩:=(by simpa only [RV] using h)
  simp only [NV];exact RVc.nv out cells b o h1
 | .vs m esz cells,v,h=> by
  obtain⟨b,o,c,_,_,_,_,_,h1⟩:=(by simpa only [RV] using h)
  simp only [NV];exact RVc.nv out cells b o h1
 | .mp r,v,h=> by
  obtain⟨b,_,h1⟩:=(by simpa only [RV] using h)
  simp only [NV];rcases zaP r n with hr | hr
  ·exact hr
  ·obtain⟨o1,o2⟩:=out r hr;have:=h1 o2;rw [o1] at this;cases this
 | .fn f a c,v,h=> by
  obtain⟨a',c',_,h1,h2⟩:=(by simpa only [RV] using h)
  simp only [NV];exact⟨RVs.nv out a _ h1,RVs.nv out c _ h2⟩
 | .agg cells,v,h=> by
  obtain⟨cs,_,h1⟩:=(by simpa only [RV] using h)
  simp only [NV];exact RVs.nv out cells _ h1
 | .tup cells,v,h=> by
  obtain⟨cs,_,h1⟩:=(by simpa only [RV] using h)
  simp only [NV];exact RVs.nv out cells _ h1
theorem RVs.nv {ρ:Ren}{G:Nat->Nat}{w:World}{n:Nat}(out:∀r,n<=r->ρ r=none/\G r=0):∀(xs:List AV) (l:List Value),RVs ρ G w xs l->NVs n xs
 | [],_,_=> by simp [NVs]
 | x::xs,l,h=> by
  obtain⟨y,ys,_,h1,h2⟩:=(by simpa only [RVs] using h)
  simp only [NVs];exact⟨RV.nv out x y h1,RVs.nv out xs ys h2⟩
theorem RVc.nv {ρ:Ren}{G:Nat->Nat}{w:World}{n:Nat}(out:∀r,n<=r->ρ r=none/\G r=0):∀(xs:List AV) (b o:Nat),RVc ρ G w xs b o->NVs n xs
 | [],_,_,_=> by simp [NVs]
 | x::xs,b,o,h=> by
  obtain⟨⟨y,_,h1⟩,h2⟩:=(by simpa only [RVc] using h)
  simp only [NVs];exact⟨RV.nv out x y h1,RVc.nv out xs b (o+1) h2⟩
end
structure ZU(ρ:Ren)(G:Nat->Nat)(w:World)(ρ':Ren)(G':Nat->Nat)(w':World):Prop where
 mono:∀r,G r<=G' r
 same:∀r x,ρ r=some x->G' r=G r->ρ' r=some x
 imm:∀b,b < w.heap.size->Imm ρ b->b < w'.heap.size/\Imm ρ' b/\∀o,w'.cell? ⟨b,o,none⟩=w.cell? ⟨b,o,none⟩
 shape:∀b e m,w.shape? b=some (e,m)->w'.shape? b=some (e,m)
mutual
theorem RV.mono {ρ ρ':Ren}{G G':Nat->Nat}{w w':World}(M:ZU ρ G w ρ' G' w'):∀(x:AV) (v:Value),RV ρ G w x v->RV ρ' G' w' x v
 | .s _,_,h=> by simpa only [RV] using h
 | .ref r g off,v,h=> by
  obtain⟨a,e,h1,h2⟩:=(by simpa only [RV] using h)
  simp only [RV];have m:=M.mono r;refine⟨a,e,by omega,λhg=> ?_⟩;have he:G r=g:=by omega
  obtain⟨b,sh,hr,ha⟩:=h2 he;exact⟨b,sh,M.same r _ hr (by omega),ha⟩
 | .sl r g off esz len cap ex,v,h=> by
  obtain⟨b,o,c,e,k1,k2,k3,h1,h2⟩:=(by simpa only [RV] using h)
  simp only [RV];have m:=M.mono r;refine⟨b,o,c,e,k1,k2,k3,by omega,λhg=> ?_⟩;have he:G r=g:=by omega
  obtain⟨sh,ty,k,q1,q2,q3,q4⟩:=h2 he;exact⟨sh,ty,k,M.same r _ q1 (by omega),q2,M.shape _ _ _ q3,q4⟩
 | .ip cells,v,h=> by
  obtain⟨b,o,e,hb,hi,h1⟩:=(by simpa only [RV] using h)
  simp only [RV];obtain⟨hb',hi',hc⟩:=M.imm b hb hi;exact⟨b,o,e,hb',hi',RVc.mono M cells b o (λo v hv=> by rw [hc];exact hv) h1⟩
 | .vs m esz cells,v,h=> by
  obtain⟨b,o,c,e,k1,k2,hb,hi,h1⟩:=(by simpa only [RV] using h)
  simp only [RV];obtain⟨hb',hi',hc⟩:=M.imm b hb hi;exact⟨b,o,c,e,k1,k2,hb',hi',RVc.mono M cells b o (λo v hv=> by rw [hc];exact hv) h1⟩
 | .mp r,v,h=> by
  obtain⟨b,e,h1⟩:=(by simpa only [RV] using h)
  simp only [RV];have m:=M.mono r;refine⟨b,e,λhg=> ?_⟩;have he:G r=0:=by omega
  exact M.same r _ (h1 he) (by omega)
 | .fn f a c,v,h=> by
  obtain⟨a',c',e,h1,h2⟩:=(by simpa only [RV] using h)
  simp only [RV];exact⟨a',c',e,RVs.mono M a _ h1,RVs.mono M c _ h2⟩
 | .agg cells,v,h=> by
  obtain⟨cs,e,h1⟩:=(by simpa only [RV] using h)
  simp only [RV];exact⟨cs,e,RVs.mono M cells _ h1⟩
 | .tup cells,v,h=> by
  obtain⟨cs,e,h1⟩:=(by simpa only [RV] using h)
  simp only [RV];exact⟨cs,e,RVs.mono M cells _ h1⟩
theorem RVs.mono {ρ ρ':Ren}{G G':Nat->Nat}{w w':World}(M:ZU ρ G w ρ' G' w'):∀(xs:List AV) (l:List Value),RVs ρ G w xs l->RVs ρ' G' w' xs l
 | [],_,h=> by simpa only [RVs] using h
 | x::xs,l,h=> by
  obtain⟨y,ys,e,h1,h2⟩:=(by simpa only [RVs] using h)
  simp only [RVs];exact⟨y,ys,e,RV.mono M x y h1,RVs.mono M xs ys h2⟩
theorem RVc.mono {ρ ρ':Ren}{G G':Nat->Nat}{w w':World}(M:ZU ρ G w ρ' G' w'):∀(xs:List AV) (b o:Nat),(∀o v,w.cell? ⟨b,o,none⟩=some v->w'.cell? ⟨b,o,none⟩=some v)->RVc ρ G w xs b o->RVc ρ' G' w' xs b o
 | [],_,_,_,_=> by simp only [RVc]
 | x::xs,b,o,hc,h=> by
  obtain⟨⟨y,e,h1⟩,h2⟩:=(by simpa only [RVc] using h)
  simp only [RVc];exact⟨⟨y,hc _ _ e,RV.mono M x y h1⟩,RVc.mono M xs b (o+1) hc h2⟩
end
structure Back(n:Nat)(ρ:Ren)(G:Nat->Nat)(ρ':Ren)(G':Nat->Nat):Prop where
 gen:∀r,r < n->G' r=G r
 same:∀r,r < n->ρ' r=none∨ρ' r=ρ r
 sub:∀r x,ρ' r=some x->ρ r=some x
theorem Back.imm {n:Nat}{ρ ρ':Ren}{G G':Nat->Nat}(B:Back n ρ G ρ' G'){b:Nat}(h:Imm ρ b):Imm ρ' b:=λr sh hr=> h r sh (B.sub r _ hr)
mutual
theorem RV.back {n:Nat}{ρ ρ':Ren}{G G':Nat->Nat}{w w0:World}(B:Back n ρ G ρ' G')(out:∀r,n<=r->ρ' r=none/\G' r=0):∀(x:AV) (v v0:Value),RV ρ' G' w0 x v0->RV ρ G w x v->RV ρ' G' w x v
 | .s _,_,_,_,h=> by simpa only [RV] using h
 | .ref r g off,v,v0,h0,h=> by
  have hn:=RV.nv out _ _ h0;simp only [NV] at hn;obtain⟨a0,_,g1,g2⟩:=(by simpa only [RV] using h0)
  obtain⟨a,e,h1,h2⟩:=(by simpa only [RV] using h)
  simp only [RV];refine⟨a,e,by rw [B.gen r hn];exact h1,λhg=> ?_⟩;obtain⟨b0,sh0,hr0,_⟩:=g2 hg;obtain⟨b,sh,hr,ha⟩:=h2 (by rw [<-B.gen r hn];exact hg);refine⟨b,sh,?_,ha⟩;rcases B.same r hn with q | q
  ·rw [q] at hr0;cases hr0
  ·rw [q];exact hr
 | .sl r g off esz len cap ex,v,v0,h0,h=> by
  have hn:=RV.nv out _ _ h0;simp only [NV] at hn;obtain⟨_,_,_,_,_,_,_,_,g2⟩:=(by simpa only [RV] using h0)
  obtain⟨b,o,c,e,k1,k2,k3,h1,h2⟩:=(by simpa only [RV] using h)
  simp only [RV];refine⟨b,o,c,e,k1,k2,k3,by rw [B.gen r hn];exact h1,λhg=> ?_⟩;obtain⟨_,_,_,hr0,_⟩:=g2 hg;obtain⟨sh,ty,k,q1,q2,q3,q4⟩:=h2 (by rw [<-B.gen r hn];exact hg);refine⟨sh,ty,k,?_,q2,q3,q4⟩;rcases B.same r hn with q | q
  ·rw [q] at hr0;cases hr0
  ·rw [q];exact q1
 | .ip cells,v,v0,h0,h=> by
  obtain⟨b0,o0,_,_,_,g1⟩:=(by simpa only [RV] using h0)
  obtain⟨b,o,e,hb,hi,h1⟩:=(by simpa only [RV] using h)
  simp only [RV];exact⟨b,o,e,hb,B.imm hi,RVc.back B out cells b o b0 o0 g1 h1⟩
 | .vs m esz cells,v,v0,h0,h=> by
  obtain⟨b0,o0,_,_,_,_,_,_,g1⟩:=(by simpa only [RV] using h0)
  obtain⟨b,o,c,e,k1,k2,hb,hi,h1⟩:=(by simpa only [RV] using h)
  simp only [RV];exact⟨b,o,c,e,k1,k2,hb,B.imm hi,RVc.back B out cells b o b0 o0 g1 h1⟩
 | .mp r,v,v0,h0,h=> by
  have hn:=RV.nv out _ _ h0;simp only [NV] at hn;obtain⟨_,_,g1⟩:=(by simpa only [RV] using h0)
  obtain⟨b,e,h1⟩:=(by simpa only [RV] using h)
  simp only [RV];refine⟨b,e,λhg=> ?_⟩;have:=g1 hg;rcases B.same r hn with q | q
  ·rw [q] at this;cases this
  ·rw [q];exact h1 (by rw [<-B.gen r hn];exact hg)
 | .fn f a c,v,v0,h0,h=> by
  obtain⟨_,_,_,g1,g2⟩:=(by simpa only [RV] using h0)
  obtain⟨a',c',e,h1,h2⟩:=(by simpa only [RV] using h)
  simp only [RV];exact⟨a',c',e,RVs.back B out a _ _ g1 h1,RVs.back B out c _ _ g2 h2⟩
 | .agg cells,v,v0,h0,h=> by
  obtain⟨_,_,g1⟩:=(by simpa only [RV] using h0)
  obtain⟨cs,e,h1⟩:=(by simpa only [RV] using h)
  simp only [RV];exact⟨cs,e,RVs.back B out cells _ _ g1 h1⟩
 | .tup cells,v,v0,h0,h=> by
  obtain⟨_,_,g1⟩:=(by simpa only [RV] using h0)
  obtain⟨cs,e,h1⟩:=(by simpa only [RV] using h)
  simp only [RV];exact⟨cs,e,RVs.back B out cells _ _ g1 h1⟩
theorem RVs.back {n:Nat}{ρ ρ':Ren}{G G':Nat->Nat}{w w0:World}(B:Back n ρ G ρ' G')(out:∀r,n<=r->ρ' r=none/\G' r=0):∀(xs:List AV) (l l0:List Value),RVs ρ' G' w0 xs l0->RVs ρ G w xs l->RVs ρ' G' w xs l
 | [],_,_,_,h=> by simpa only [RVs] using h
 | x::xs,l,l0,h0,h=> by
  obtain⟨_,_,_,g1,g2⟩:=(by simpa only [RVs] using h0)
  obtain⟨y,ys,e,h1,h2⟩:=(by simpa only [RVs] using h)
  simp only [RVs];exact⟨y,ys,e,RV.back B out x y _ g1 h1,RVs.back B out xs ys _ g2 h2⟩
theorem RVc.back {n:Nat}{ρ ρ':Ren}{G G':Nat->Nat}{w w0:World}(B:Back n ρ G ρ' G')(out:∀r,n<=r->ρ' r=none/\G' r=0):∀(xs:List AV) (b o b0 o0:Nat),RVc ρ' G' w0 xs b0 o0->RVc ρ G w xs b o->RVc ρ' G' w xs b o
 | [],_,_,_,_,_,_=> by simp only [RVc]
 | x::xs,b,o,b0,o0,h0,h=> by
  obtain⟨⟨_,_,g1⟩,g2⟩:=(by simpa only [RVc] using h0)
  obtain⟨⟨y,e,h1⟩,h2⟩:=(by simpa only [RVc] using h)
  simp only [RVc];exact⟨⟨y,e,RV.back B out x y _ g1 h1⟩,RVc.back B out xs b (o+1) b0 (o0+1) g2 h2⟩
end
theorem RVm.nv {ρ:Ren}{G:Nat->Nat}{w:World}{n:Nat}(out:∀r,n<=r->ρ r=none/\G r=0){k:IntKind}:∀(es:List (Int × AV)) (l:List MapEntry),RVm ρ G w k es l->NVs n (es.map (·.2))
 | [],_,_=> by simp [NVs]
 | (m,x)::xs,l,h=> by
  obtain⟨e,es,_,_,h1,h2⟩:=(by simpa only [RVm] using h)
  simp only [zaA,NVs];exact⟨RV.nv out x _ h1,RVm.nv out xs es h2⟩
theorem RVm.mono {ρ ρ':Ren}{G G':Nat->Nat}{w w':World}(M:ZU ρ G w ρ' G' w'){k:IntKind}:∀(xs:List (Int × AV)) (l:List MapEntry),RVm ρ G w k xs l->RVm ρ' G' w' k xs l
 | [],_,h=> by simpa only [RVm] using h
 | (m,x)::xs,l,h=> by
  obtain⟨e,es,e1,e2,h1,h2⟩:=(by simpa only [RVm] using h)
  simp only [RVm];exact⟨e,es,e1,e2,RV.mono M x _ h1,RVm.mono M xs es h2⟩
theorem RVm.back {n:Nat}{ρ ρ':Ren}{G G':Nat->Nat}{w w0:World}(B:Back n ρ G ρ' G')(out:∀r,n<=r->ρ' r=none/\G' r=0){k:IntKind}:∀(xs:List (Int × AV)) (l l0:List MapEntry),RVm ρ' G' w0 k xs l0->RVm ρ G w k xs l->RVm ρ' G' w k xs l
 | [],_,_,_,h=> by simpa only [RVm] using h
 | (m,x)::xs,l,l0,h0,h=> by
  obtain⟨_,_,_,_,g1,g2⟩:=(by simpa only [RVm] using h0)
  obtain⟨e,es,e1,e2,h1,h2⟩:=(by simpa only [RVm] using h)
  simp only [RVm];exact⟨e,es,e1,e2,RV.back B out x _ _ g1 h1,RVm.back B out xs es _ g2 h2⟩
theorem cell?_of_block {w w':World}{b o:Nat}(h:w'.heap[b]?=w.heap[b]?):w'.cell? ⟨b,o,none⟩=w.cell? ⟨b,o,none⟩:=by
 simp only [World.cell?,h]
theorem Cb {w:World}{b:Nat}{e:TypeId}{m:Nat}(h:w.shape? b=some (e,m)):b < w.heap.size:=by
 rcases zaP b w.heap.size with hb | hb
 ·exact hb
 ·simp [World.shape?,zcx hb] at h
theorem Ext.toMono {ρ ρ':Ren}{H H':ah}{w w':World}(E:Ext ρ H w ρ' H' w'):ZU ρ H.gen w ρ' H'.gen w' where
 mono:=E.mono
 same:=E.same
 imm:=λb hb hi=> ⟨zaw hb E.size,λr sh hr=> by
   rcases E.range r b sh hr with h | ⟨sh',h⟩
   ·omega
   ·exact hi r sh' h,λo=> cell?_of_block (E.frame b hb hi)⟩
 shape:=λb e m h=> by rw [E.shape b (Cb h)];exact h
theorem Ext.refl(ρ:Ren)(H:ah)(w:World):Ext ρ H w ρ H w where
 next:=zac _
 mono:=λ_=> zac _
 same:=λ_ _ h _=> h
 kept:=λ_ _ h=> h
 range:=λ_ _ sh h=> .inr ⟨sh,h⟩
 size:=zac _
 frame:=λ_ _ _=> rfl
 shape:=λ_ _=> rfl
 os:=rfl
 tape:=rfl
 output:=rfl
theorem Ext.trans {ρ ρ' ρ'':Ren}{H H' H'':ah}{w w' w'':World}(E:Ext ρ H w ρ' H' w')(F:Ext ρ' H' w' ρ'' H'' w''):Ext ρ H w ρ'' H'' w'' where
 next:=zaC E.next F.next
 mono:=λr=> zaC (E.mono r) (F.mono r)
 same:=λr x hr h=> by
  have h1:=E.mono r;have h2:=F.mono r;exact F.same r x (E.same r x hr (by omega)) (by omega)
 kept:=λr hr h=> F.kept r (zaw hr E.next) (E.kept r hr h)
 range:=λr b sh h=> by
  rcases F.range r b sh h with h | ⟨sh',h⟩
  ·exact .inl (zaC E.size h)
  ·exact E.range r b sh' h
 size:=zaC E.size F.size
 frame:=λb hb hi=> by
  rw [F.frame b (zaw hb E.size) (E.toMono.imm b hb hi).2.1,E.frame b hb hi]
 shape:=λb hb=> by rw [F.shape b (zaw hb E.size),E.shape b hb]
 os:=F.os.trans E.os
 tape:=F.tape.trans E.tape
 output:=F.output.trans E.output
theorem Rel.keep {ρ ρ':Ren}{H H':ah}{w w':World}(_R:Rel ρ H w)(E:Ext ρ H w ρ' H' w'){x:AV}{v:Value}(h:RV ρ H.gen w x v):RV ρ' H'.gen w' x v:=
 RV.mono E.toMono x v h
theorem Rel.keeps {ρ ρ':Ren}{H H':ah}{w w':World}(_R:Rel ρ H w)(E:Ext ρ H w ρ' H' w'){xs:List AV}{l:List Value}(h:RVs ρ H.gen w xs l):RVs ρ' H'.gen w' xs l:=
 RVs.mono E.toMono xs l h
theorem iG {ρ:Ren}{G:Nat->Nat}{w:World}:RVs ρ G w [] []:=by simp only [RVs]
theorem iD {ρ:Ren}{G:Nat->Nat}{w:World}{x:AV}{y:Value}{xs:List AV}{ys:List Value}(h:RV ρ G w x y)(t:RVs ρ G w xs ys):RVs ρ G w (x::xs) (y::ys):=by
 simp only [RVs];exact⟨y,ys,rfl,h,t⟩
theorem bU {ρ:Ren}{G:Nat->Nat}{w:World}:∀{xs:List AV} {l:List Value},RVs ρ G w xs l->l.length=xs.length
 | [],l,h=> by simp only [RVs] at h;subst h;rfl
 | x::xs,l,h=> by
  simp only [RVs] at h;obtain⟨y,ys,rfl,_,h2⟩:=h;simp [bU h2]
theorem iQ {ρ:Ren}{G:Nat->Nat}{w:World}:∀{xs:List AV} {l:List Value},RVs ρ G w xs l->∀{i:Nat} {x:AV},xs[i]?=some x->∃v,l[i]?=some v/\RV ρ G w x v
 | [],l,h,i,x,hx=> by simp at hx
 | y::xs,l,h,i,x,hx=> by
  simp only [RVs] at h;obtain⟨z,zs,rfl,h1,h2⟩:=h;cases i with
  | zero=> simp at hx;subst hx;exact⟨z,rfl,h1⟩
  | succ i=> simp at hx;simpa using iQ h2 hx
theorem pO {ρ:Ren}{G:Nat->Nat}{w:World}:∀{xs:List AV} {l:List Value},l.length=xs.length->(∀(i:Nat) (x:AV),xs[i]?=some x->∃v,l[i]?=some v/\RV ρ G w x v)->RVs ρ G w xs l
 | [],l,h,_=> by cases l with | nil=> exact iG | cons a l=> simp at h
 | x::xs,l,h,hg=> by
  cases l with
  | nil=> simp at h
  | cons y ys=>
   obtain⟨v,hv,h1⟩:=hg 0 x rfl;simp at hv;subst hv;exact iD h1 (pO (by simpa using h) λi x hx=> by simpa using hg (i+1) x (by simpa using hx))
theorem nJ {ρ:Ren}{G:Nat->Nat}{w:World}:∀{xs ys:List AV} {l m:List Value},RVs ρ G w xs l->RVs ρ G w ys m->RVs ρ G w (xs++ys) (l++m)
 | [],ys,l,m,h,h'=> by simp only [RVs] at h;subst h;simpa using h'
 | x::xs,ys,l,m,h,h'=> by
  simp only [RVs] at h;obtain⟨z,zs,rfl,h1,h2⟩:=h;exact iD h1 (nJ h2 h')
theorem X8 {ρ:Ren}{G:Nat->Nat}{w:World}(n:Nat):∀{xs:List AV} {l:List Value},RVs ρ G w xs l->RVs ρ G w (xs.take n) (l.take n):=by
 intro xs l h;refine pO (by simp [bU h]) λi x hx=> ?_;rw [zaH] at hx;split at hx
 ·obtain⟨v,hv,h1⟩:=iQ h hx;exact⟨v,by rw [zaH,if_pos ‹_›];exact hv,h1⟩
 ·cases hx
theorem X9 {ρ:Ren}{G:Nat->Nat}{w:World}(n:Nat):∀{xs:List AV} {l:List Value},RVs ρ G w xs l->RVs ρ G w (xs.drop n) (l.drop n):=by
 intro xs l h;refine pO (by simp [bU h]) λi x hx=> ?_;rw [zaL] at hx;obtain⟨v,hv,h1⟩:=iQ h hx;exact⟨v,by rw [zaL];exact hv,h1⟩
theorem fJ {ρ:Ren}{G:Nat->Nat}{w:World}:∀(l:List Value),RVs ρ G w (l.map .s) l
 | []=> iG
 | v::l=> iD (by simp only [RV]) (fJ l)
theorem vk {ρ:Ren}{G:Nat->Nat}{w:World}:∀{xs:List AV} {b o:Nat},RVc ρ G w xs b o->∀{i:Nat} {x:AV},xs[i]?=some x->∃v,w.cell? ⟨b,o+i,none⟩=some v/\RV ρ G w x v
 | [],b,o,h,i,x,hx=> by simp at hx
 | y::xs,b,o,h,i,x,hx=> by
  simp only [RVc] at h;obtain⟨⟨v,hv,h1⟩,h2⟩:=h;cases i with
  | zero=> simp at hx;subst hx;exact⟨v,hv,h1⟩
  | succ i=> simp at hx;have:=vk h2 hx;rwa [show o+1+i=o+(i+1) from by omega] at this
theorem nK {ρ:Ren}{G:Nat->Nat}{w:World}:∀{xs:List AV} {b o:Nat},(∀(i:Nat) (x:AV),xs[i]?=some x->∃v,w.cell? ⟨b,o+i,none⟩=some v/\RV ρ G w x v)->RVc ρ G w xs b o
 | [],_,_,_=> by simp only [RVc]
 | x::xs,b,o,h=> by
  simp only [RVc];exact⟨h 0 x rfl,nK λi y hy=> by have:=h (i+1) y (by simpa using hy);rwa [show o+(i+1)=o+1+i from by omega] at this⟩
theorem oI {ρ:Ren}{G:Nat->Nat}{w:World}{xs:List AV}{b o:Nat}(n:Nat)(h:RVc ρ G w xs b o):RVc ρ G w (xs.drop n) b (o+n):=
 nK λi x hx=> by
  rw [zaL] at hx;have:=vk h hx
  rwa [show o+(n+i)=o+n+i from by omega] at this
theorem qE {ρ:Ren}{G:Nat->Nat}{w:World}{xs:List AV}{b o:Nat}(n:Nat)(h:RVc ρ G w xs b o):RVc ρ G w (xs.take n) b o:=
 nK λi x hx=> by
  rw [zaH] at hx;split at hx
  ·exact vk h hx
  ·cases hx
theorem RH {ρ:Ren}{G:Nat->Nat}{w:World}{xs ys:List AV}{b o:Nat}(h:RVc ρ G w xs b o)(h':RVc ρ G w ys b (o+xs.length)):RVc ρ G w (xs++ys) b o:=
 nK λi x hx=> by
  rw [zcf] at hx;split at hx
  ·exact vk h hx
  ·rename_i hi;have:=vk h' hx
   rwa [show o+xs.length+(i - xs.length)=o+i from by omega] at this
theorem oJ {ρ:Ren}{G:Nat->Nat}{w:World}{b o:Nat}{cs:Array Value}{e:TypeId}{fr:Nat × Nat}(hb:w.heap[b]?=some (.cells cs e fr)){xs:List AV}
  (h:∀(i:Nat) (x:AV),xs[i]?=some x->∃v,cs[o+i]?=some v/\RV ρ G w x v):RVc ρ G w xs b o:=
 nK λi x hx=> by
  obtain⟨v,hv,h1⟩:=h i x hx;exact⟨v,by simp [World.cell?,hb,hv],h1⟩
theorem rU {ρ:Ren}{G:Nat->Nat}{w:World}{b o:Nat}{cs:Array Value}{e:TypeId}{fr:Nat × Nat}(hb:w.heap[b]?=some (.cells cs e fr)){xs:List AV}
  (h:RVc ρ G w xs b o):∀{i:Nat} {x:AV},xs[i]?=some x->∃v,cs[o+i]?=some v/\RV ρ G w x v:=by
 intro i x hx;obtain⟨v,hv,h1⟩:=vk h hx;exact⟨v,by simpa [World.cell?,hb] using hv,h1⟩
theorem jc(b o n:Nat):Addr.add ⟨b,o,none⟩ n=⟨b,o+n,none⟩:=Addr.add_lit b o n
theorem MR {P:Program}{w:World}{a:Addr}{v:Value}(h:w.cell? a=some v):(load a).run P w=.ok v w:=by simp [h]
theorem pR {P:Program}{ρ:Ren}{G:Nat->Nat}{w:World}{b o:Nat}:∀(xs:List AV) (i:Nat) (acc:Array Value),RVc ρ G w xs b (o+i)->
  ∃l:List Value,(loadCellsFrom ⟨b,o,none⟩ i xs.length acc).run P w=.ok (acc++l.toArray) w/\RVs ρ G w xs l
 | [],i,acc,_=> ⟨[],by simp [loadCellsFrom],iG⟩
 | x::xs,i,acc,h=> by
  simp only [RVc] at h;obtain⟨⟨v,hv,h1⟩,h2⟩:=h;obtain⟨l,hl,h3⟩:=pR (P:=P) xs (i+1) (acc.push v) (by rw [<-zb1];exact h2);refine⟨v::l,?_,iD h1 h3⟩;simp only [zam,loadCellsFrom,Sem.run_bind,jc,MR hv,Result.andThen_ok];rw [hl];simp
theorem kZ {P:Program}{ρ:Ren}{G:Nat->Nat}{w:World}{b o:Nat}{xs:List AV}(h:RVc ρ G w xs b o):
  ∃l:List Value,(loadCells ⟨b,o,none⟩ xs.length).run P w=.ok l.toArray w/\RVs ρ G w xs l:=by
 obtain⟨l,hl,h1⟩:=pR (P:=P) xs 0 #[] (by simpa using h);exact⟨l,by simpa [loadCells] using hl,h1⟩
theorem Aw {P:Program}{t:TypeId}{i:TypeInfo}(h:P.info? t=some i)(w:World):(typeInfo t).run P w=.ok i w:=by
 simp [typeInfo,h]
theorem dK {P:Program}{t:TypeId}{n:Nat}(h:szT P t=some n)(w:World):(sizeOf t).run P w=.ok n w:=by
 unfold szT at h;cases hi:P.info? t with
 | none=> simp [hi] at h
 | some i=> simp [hi] at h;subst h;simp [sizeOf,Aw hi]
theorem JR {P:Program}{t:TypeId}{z:Value}(h:(if t < gB then(P.info? t).bind (·.zero) else none)=some z):t < gB:=by
 split at h
 ·assumption
 ·cases h
theorem qF {P:Program}{t:TypeId}{z:Value}(h:wE P t=some z):t < gB:=JR h
theorem Ya {P:Program}{t:TypeId}{z:Value}(h:wE P t=some z):(P.info? t).bind (·.zero)=some z:=by
 have:=qF h;unfold wE at h
 rwa [if_pos this] at h
theorem eU {P:Program}{t:TypeId}{z:Value}(h:wE P t=some z)(w:World):(zeroValue t).run P w=.ok z w:=by
 unfold wE at h;rw [if_pos (JR h)] at h;cases hi:P.info? t with
 | none=> simp [hi] at h
 | some i=> simp [hi] at h;simp [zeroValue,Aw hi,h]
theorem wG {P:Program}{t:TypeId}{b:Bool}(h:aeF P t=some b)(w:World):(isAgg t).run P w=.ok b w:=by
 unfold aeF at h;cases hu:P.underlying t with
 | none=> simp [hu] at h
 | some d=> cases d <;> simp [hu] at h <;> subst h <;> simp [isAgg,run_underlying hu]
theorem Cc {P:Program}{ρ:Ren}{G:Nat->Nat}{w:World}{b o:Nat}{cells:List AV}(h:RVc ρ G w cells b o){t:TypeId}{off:Nat}{v:AV}(hp:EL P t cells off=some v):
  ∃cv,(loadVar t ⟨b,o+off,none⟩).run P w=.ok cv w/\RV ρ G w v cv:=by
 unfold EL at hp;cases ha:aeF P t with
 | none=> simp [ha] at hp
 | some k=>
  cases hs:szT P t with
  | none=> simp [ha,hs] at hp
  | some n=>
   cases k with
   | true=>
    simp [ha,hs] at hp;obtain⟨hle,rfl⟩:=hp;obtain⟨l,hl,h1⟩:=kZ (P:=P) (qE n (oI off h));refine⟨.agg l.toArray,?_,?_⟩
    ·have hlen:(List.take n (List.drop off cells)).length=n:=by simp;omega
     rw [hlen] at hl;simp [loadVar,wG ha,dK hs,hl]
    ·simp only [RV];exact⟨_,rfl,h1⟩
   | false=>
    simp [ha,hs] at hp;obtain⟨cv,hc,h1⟩:=vk h hp;exact⟨cv,by simp [loadVar,wG ha,hc],h1⟩
def jd(w:World)(b:Nat)(o:Obj):World:={ w with heap:=w.heap.setIfInBounds b o }
def updρ(ρ:Ren)(r:Nat)(x:Nat × Nat):Ren:=λy=> if y=r then some x else ρ y
theorem kJ {w:World}{b:Nat}{o:Obj}(h:b < w.heap.size):(jd w b o).heap[b]?=some o:=by
 simp [jd,h]
theorem Ce {w:World}{b b':Nat}{o:Obj}(h:b'≠b):(jd w b o).heap[b']?=w.heap[b']?:=by
 simp [jd,zbm (Ne.symm h)]
theorem GV(w:World)(b:Nat)(o o':Obj):jd (jd w b o) b o'=jd w b o':=by
 simp [jd]
theorem MS {w:World}{b:Nat}{o:Obj}(h:w.heap[b]?=some o):jd w b o=w:=by
 have hb:b < w.heap.size:=by
  rcases zaP b w.heap.size with hb | hb
  ·exact hb
  ·simp [zcx hb] at h
 have:w.heap.setIfInBounds b o=w.heap:=by
  apply Array.ext_getElem?
  intro i;by_cases hi:b=i
  ·subst hi;rw [zbF hb] at h;simp only [Array.getElem?_setIfInBounds_self_of_lt hb,zbF hb,h]
  ·simp [zbm hi]
 simp [jd,this]
theorem lQ {w:World}{b:Nat}{o:Obj}(h:w.heap[b]?=some o):b < w.heap.size:=by
 rcases zaP b w.heap.size with hb | hb
 ·exact hb
 ·simp [zcx hb] at h
theorem Rel.lt {ρ:Ren}{H:ah}{w:World}(R:Rel ρ H w){r b sh:Nat}(h:ρ r=some (b,sh)):r < H.next:=by
 rcases zaP r H.next with hr | hr
 ·exact hr
 ·rw [(R.out r hr).1] at h;cases h
theorem Rel.block {ρ:Ren}{H:ah}{w:World}(R:Rel ρ H w){r b sh:Nat}(h:ρ r=some (b,sh)):b < w.heap.size:=by
 have:=R.obj r b sh h;unfold uZ at this;split at this
 ·obtain⟨cs,e,hb,_⟩:=this;exact lQ hb
 ·obtain⟨cs,e,hb,_⟩:=this;exact lQ hb
def zC:Obj->Option (TypeId × Nat)
 | .cells c e _=> some (e,c.size)
 | _=> none
theorem dP(w:World)(b:Nat):w.shape? b=(w.heap[b]?).bind zC:=by
 unfold World.shape? zC;cases w.heap[b]? with
 | none=> rfl
 | some o=> cases o <;> rfl
theorem qG(H:ah)(r x:Nat)(o:eP):(H.put r o).gen x=if x=r then o.gen else H.gen x:=by
 simp only [ah.gen,ah.put];split <;> rfl
theorem MV(H:ah)(x:Nat)(o:eP):(H.new o).gen x=if x=H.next then o.gen else H.gen x:=by
 simp only [ah.gen,ah.new];split <;> rfl
theorem Um {ρ:Ren}{H:ah}{w:World}{r b sh sh':Nat}{co co':Obj}{o:eP}(hr:ρ r=some (b,sh))(hb:w.heap[b]?=some co)
  (hs:zC co'=zC co) (hg:H.gen r<=o.gen) (hsh:o.gen=H.gen r->sh'=sh):Ext ρ H w (updρ ρ r (b,sh')) (H.put r o) (jd w b co') where
 next:=zac _
 mono:=λx=> by rw [qG];split <;> simp_all
 same:=λx y hx h=> by
  rw [qG] at h;unfold updρ
  split
  ·rename_i e;subst e;simp at h;rw [hsh h,<-hr,hx]
  ·exact hx
 kept:=λx _ h=> by
  unfold updρ
  split
  ·rename_i e;subst e;rw [hr] at h;cases h
  ·exact h
 range:=λx b' s h=> by
  unfold updρ at h;split at h
  ·cases h;rename_i e;subst e;exact .inr ⟨_,hr⟩
  ·exact .inr ⟨_,h⟩
 size:=by simp [jd]
 frame:=λb' hb' hi=> Ce λe=> hi r sh (e ▸ hr)
 shape:=λb' hb'=> by
  rw [dP,dP];by_cases e:b'=b
  ·subst e;rw [kJ hb',hb];exact hs
  ·rw [Ce e]
 os:=rfl
 tape:=rfl
 output:=rfl
theorem uZ.mono {ρ ρ':Ren}{G G':Nat->Nat}{w w':World}(M:ZU ρ G w ρ' G' w'){o:eP}{b sh:Nat}(hb:w'.heap[b]?=w.heap[b]?)(h:uZ ρ G w o b sh):uZ ρ' G' w' o b sh:=by
 unfold uZ at*;split at h
 ·obtain⟨cs,e,h1,h2,h3⟩:=h;exact⟨cs,e,by rw [hb];exact h1,h2,RVc.mono M _ _ _ (λo v hv=> by rw [cell?_of_block hb];exact hv) h3.1,h3.2⟩
 ·obtain⟨cs,e,h1,h2,h3⟩:=h;exact⟨cs,e,by rw [hb];exact h1,h2,RVm.mono M _ _ h3.1,h3.2⟩
theorem Un {ρ:Ren}{H:ah}{w:World}(R:Rel ρ H w){r b sh sh':Nat}{co':Obj}{o:eP}(hr:ρ r=some (b,sh))
  (E:Ext ρ H w (updρ ρ r (b,sh')) (H.put r o) (jd w b co'))
  (ho:uZ (updρ ρ r (b,sh')) (H.put r o).gen (jd w b co') o b sh'):Rel (updρ ρ r (b,sh')) (H.put r o) (jd w b co') where
 out:=λx hx=> by
  have hne:x≠r:=λe=> by have:=R.lt hr;subst e;exact absurd hx (by simpa [ah.put] using this)
  rw [qG,if_neg hne];unfold updρ;rw [if_neg hne];exact R.out x hx
 obj:=λx b' s h=> by
  unfold updρ at h;by_cases e:x=r
  ·subst e;simp at h;obtain⟨rfl,rfl⟩:=h
   simpa [ah.put] using ho
  ·rw [if_neg e] at h;have hne:b'≠b:=λe'=> e (R.inj x r b' s sh h (e' ▸ hr));have:(H.put r o).get x=H.get x:=by simp [ah.put,e]
   rw [this];exact uZ.mono E.toMono (Ce hne) (R.obj x b' s h)
 inj:=λx y b' s s' h h'=> by
  unfold updρ at h h';split at h <;> split at h'
  ·simp_all
  ·cases h;rename_i e _;subst e;exact(R.inj _ _ _ _ _ h' hr).symm
  ·cases h';rename_i _ e;subst e;exact R.inj _ _ _ _ _ h hr
  ·exact R.inj _ _ _ _ _ h h'
 gl:=R.gl.ext E
theorem GX {ρ:Ren}{H:ah}{w:World}(R:Rel ρ H w){co:Obj}{o:eP}:Ext ρ H w (updρ ρ H.next (w.heap.size,0)) (H.new o) (w.alloc co) where
 next:=by simp [ah.new]
 mono:=λx=> by
  rw [MV];split
  ·rename_i e;subst e;rw [(R.out _ (zac _)).2];exact zaR _
  ·exact zac _
 same:=λx y hx _=> by
  have hne:x≠H.next:=λe=> by subst e;rw [(R.out _ (zac _)).1] at hx;cases hx
  unfold updρ;rw [if_neg hne];exact hx
 kept:=λx hx h=> by
  unfold updρ
  rw [if_neg (by omega)];exact h
 range:=λx b' s h=> by
  unfold updρ at h;split at h
  ·cases h;exact .inl (zac _)
  ·exact .inr ⟨_,h⟩
 size:=by simp
 frame:=λb hb _=> by simp only [World.alloc,za5,if_neg (zbO hb)]
 shape:=λb hb=> by
  rw [dP,dP];simp only [World.alloc,za5,if_neg (zbO hb)]
 os:=rfl
 tape:=rfl
 output:=rfl
theorem Uo {ρ:Ren}{H:ah}{w:World}(R:Rel ρ H w){co:Obj}{o:eP}
  (ho:uZ (updρ ρ H.next (w.heap.size,0)) (H.new o).gen (w.alloc co) o w.heap.size 0):Rel (updρ ρ H.next (w.heap.size,0)) (H.new o) (w.alloc co) where
 out:=λx hx=> by
  have hx1:H.next+1<=x:=hx
  have hne:x≠H.next:=by omega
  have hx':H.next<=x:=by omega
  rw [MV,if_neg hne];unfold updρ;rw [if_neg hne];exact R.out x hx'
 obj:=λx b' s h=> by
  unfold updρ at h;by_cases e:x=H.next
  ·subst e;simp at h;obtain⟨rfl,rfl⟩:=h
   simpa [ah.new] using ho
  ·rw [if_neg e] at h;have:(H.new o).get x=H.get x:=by simp [ah.new,e]
   rw [this];have hb:=R.block h;exact uZ.mono (GX R (o:=o) (co:=co)).toMono (by simp only [World.alloc,za5,if_neg (zbO hb)]) (R.obj x b' s h)
 inj:=λx y b' s s' h h'=> by
  unfold updρ at h h';split at h <;> split at h'
  ·simp_all
  ·cases h;have:=R.block h';omega
  ·cases h';have:=R.block h;omega
  ·exact R.inj _ _ _ _ _ h h'
 gl:=R.gl.ext (GX R (o:=o) (co:=co))
theorem jh(w:World)(o:Obj):(w.alloc o).heap[w.heap.size]?=some o:=by
 show(w.heap.push o)[w.heap.size]?=some o;simp
theorem Ur {ρ:Ren}{H:ah}{w:World}(R:Rel ρ H w){e ty:TypeId}{cells:List AV}{cs:Array Value}(hl:cells.length<=cs.size)
  (hc:∀(i:Nat) (x:AV),cells[i]?=some x->∃v,cs[i]?=some v/\RV ρ H.gen w x v) (hX:Xct ty e 0 cs.size cells.length):
  Rel (updρ ρ H.next (w.heap.size,0)) (H.new (.blk 0 ty cells)) (w.alloc (.cells cs e))/\Ext ρ H w (updρ ρ H.next (w.heap.size,0)) (H.new (.blk 0 ty cells)) (w.alloc (.cells cs e)):=by
 have E:=GX R (o:=.blk 0 ty cells) (co:=.cells cs e);refine⟨Uo R ⟨cs,e,jh w _,by omega,?_,hX⟩,E⟩;refine oJ (jh w _) λi x hx=> ?_;obtain⟨v,hv,h1⟩:=hc i x hx;exact⟨v,by simpa using hv,R.keep E h1⟩
theorem Ci {ρ:Ren}{H:ah}{w:World}(R:Rel ρ H w){r b sh sh' g':Nat}{ty':TypeId}{cells':List AV}{cs cs':Array Value}{e:TypeId}(hr:ρ r=some (b,sh))
  (hb:w.heap[b]?=some (.cells cs e (0,0))) (hz:cs'.size=cs.size) (hg:H.gen r<=g') (hsh:g'=H.gen r->sh'=sh) (hl:sh'+cells'.length<=cs.size)
  (hc:∀(i:Nat) (x:AV),cells'[i]?=some x->∃v,cs'[sh'+i]?=some v/\RV ρ H.gen w x v) (hX:Xct ty' e sh' cs'.size cells'.length):
  Rel (updρ ρ r (b,sh')) (H.put r (.blk g' ty' cells')) (jd w b (.cells cs' e (0,0)))/\Ext ρ H w (updρ ρ r (b,sh')) (H.put r (.blk g' ty' cells')) (jd w b (.cells cs' e (0,0))):=by
 have E:=Um (ρ:=ρ) (H:=H) (w:=w) (r:=r) (b:=b) (sh:=sh) (sh':=sh') (co:=.cells cs e (0,0)) (co':=.cells cs' e (0,0)) (o:=.blk g' ty' cells') hr hb (by simp [zC,hz]) hg hsh;refine⟨Un R hr E ⟨cs',e,kJ (R.block hr),by omega,?_,hX⟩,E⟩;refine oJ (kJ (R.block hr)) λi x hx=> ?_;obtain⟨v,hv,h1⟩:=hc i x hx;exact⟨v,hv,R.keep E h1⟩
theorem GY {ρ:Ren}{H:ah}{w:World}(R:Rel ρ H w){r b:Nat}{k:IntKind}{es es':List (Int × AV)}{ces XZ:Array MapEntry}{cl cl':Nat}(hr:ρ r=some (b,0))(hget:H.get r=.map k es)
  (hb:w.heap[b]?=some (.map ces cl)) (hc:RVm ρ H.gen w k es' XZ.toList) (hbn:Born XZ.toList cl'):
  Rel ρ (H.put r (.map k es')) (jd w b (.map XZ cl'))/\Ext ρ H w ρ (H.put r (.map k es')) (jd w b (.map XZ cl')):=by
 have hρ:updρ ρ r (b,0)=ρ:=by
  funext x;unfold updρ;split
  ·rename_i e;subst e;exact hr.symm
  ·rfl
 have hg0:H.gen r=0:=by simp [ah.gen,hget,eP.gen]
 have E:=Um (ρ:=ρ) (H:=H) (w:=w) (r:=r) (b:=b) (sh:=0) (sh':=0) (co:=.map ces cl) (co':=.map XZ cl') (o:=.map k es') hr hb rfl (by simp [hg0]) (λ_=> rfl);have:=Un R hr E ⟨XZ,cl',kJ (R.block hr),rfl,RVm.mono E.toMono _ _ hc,hbn⟩;rw [hρ] at this E;exact⟨this,E⟩
def jQ(cs:Array Value)(o:Nat):List Value->Array Value
 | []=> cs
 | v::vs=> jQ (cs.setIfInBounds o v) (o+1) vs
theorem dJ:∀(vs:List Value) (cs:Array Value) (o:Nat),(jQ cs o vs).size=cs.size
 | [],_,_=> rfl
 | v::vs,cs,o=> by simp [jQ,dJ vs]
theorem kK:∀(vs:List Value) (cs:Array Value) (o i:Nat),o+vs.length<=cs.size->(jQ cs o vs)[i]?=if o<=i/\i < o+vs.length then vs[i - o]? else cs[i]?
 | [],cs,o,i,h=> by
  simp only [jQ,zak,zbU];rw [if_neg (by omega)]
 | v::vs,cs,o,i,h=> by
  simp only [zam] at h;simp only [jQ,zam];rw [kK vs _ (o+1) i (by simp;omega)];by_cases h1:o=i
  ·subst h1;rw [if_neg (by omega),if_pos (by omega)];simp [show o < cs.size from by omega]
  ·by_cases h2:o+1<=i/\i < o+1+vs.length
   ·rw [if_pos h2,if_pos (by omega),show i - o=(i - (o+1))+1 from by omega];rfl
   ·rw [if_neg h2,if_neg (by omega),zbm h1]
theorem Cj {P:Program}{w:World}{b o:Nat}{cs:Array Value}{e:TypeId}{v:Value}(hb:w.heap[b]?=some (.cells cs e (0,0)))(ho:o < cs.size)(hv:v.oneCell'=true):
  (store ⟨b,o,none⟩ v).run P w=.ok () (jd w b (.cells (cs.setIfInBounds o v) e (0,0))):=by
 have hc:w.cell? ⟨b,o,none⟩=some cs[o]:=by simp [World.cell?,hb,ho]
 have hf:w.frozen? ⟨b,o,none⟩=false:=by simp [World.frozen?,hb]
 rw [run_store P w _ v _ hv,hc];simp only [hf,if_false,zaj];have hlt:=lQ hb;have:w.setCell ⟨b,o,none⟩ v=jd w b (.cells (cs.setIfInBounds o v) e (0,0)):=by
  simp only [World.setCell,jd]
  congr 1
  apply Array.ext_getElem?
  intro i;rw [Array.getElem?_modify];by_cases hi:b=i
  ·subst hi;rw [hb];simp [hlt]
  ·simp [hi,zbm hi]
 rw [this]
theorem ji {P:Program}{b o:Nat}{e:TypeId}:∀(vs:List Value) (w:World) (cs:Array Value) (i:Nat),w.heap[b]?=some (.cells cs e (0,0))->o+i+vs.length<=cs.size->(∀v∈vs,v.oneCell'=true)->
  (storeCells ⟨b,o,none⟩ vs i).run P w=.ok () (jd w b (.cells (jQ cs (o+i) vs) e (0,0)))
 | [],w,cs,i,hb,_,_=> by simp [storeCells,jQ,MS hb]
 | v::vs,w,cs,i,hb,hl,hv=> by
  simp only [zam] at hl;simp only [storeCells,Sem.run_bind,jc,Cj hb (show o+i < cs.size by omega) (hv v (by simp)),Result.andThen_ok];rw [ji vs _ (cs.setIfInBounds (o+i) v) (i+1) (kJ (lQ hb)) (by simp;omega) (λu hu=> hv u (by simp [hu])),GV];rfl
theorem RI {ρ:Ren}{G:Nat->Nat}{w:World}{x:AV}{v:Value}(hx:x.aJ=true)(h:RV ρ G w x v):v.oneCell'=true:=by
 cases x with
 | s u=>
  simp only [RV] at h;subst h;cases v <;> simp_all [AV.aJ,Value.oneCell']
 | ref r g off=> simp only [RV] at h;obtain⟨a,rfl,_⟩:=h;rfl
 | sl r g off esz len cap ex=> simp only [RV] at h;obtain⟨b,o,c,rfl,_⟩:=h;rfl
 | ip cells=> simp only [RV] at h;obtain⟨b,o,rfl,_⟩:=h;rfl
 | vs n esz cells=> simp only [RV] at h;obtain⟨b,o,c,rfl,_⟩:=h;rfl
 | mp r=> simp only [RV] at h;obtain⟨b,rfl,_⟩:=h;rfl
 | fn f a c=> simp only [RV] at h;obtain⟨a,c,rfl,_⟩:=h;rfl
 | agg l=> simp [AV.aJ] at hx
 | tup l=> simp [AV.aJ] at hx
theorem nP {ρ:Ren}{G:Nat->Nat}{w:World}{xs:List AV}{l:List Value}(hx:xs.all AV.aJ=true)(h:RVs ρ G w xs l):∀v∈l,v.oneCell'=true:=by
 intro v hv;obtain⟨i,hi,rfl⟩:=zc8 hv;have hl:=bU h;have hxi:xs[i]?=some (xs[i]'(by omega)):=zab _;obtain⟨u,hu,h1⟩:=iQ h hxi;rw [zab hi] at hu;cases hu;exact RI (za0.1 hx _ (zcU _)) h1
theorem GZ {ρ:Ren}{G:Nat->Nat}{w:World}{x:AV}{v:Value}(h:RV ρ G w x v):RVs ρ G w x.cells v.cells.toList:=by
 cases x with
 | s u=> simp only [RV] at h;subst h;exact fJ _
 | agg l=> simp only [RV] at h;obtain⟨cs,rfl,h1⟩:=h;exact h1
 | ref r g off=>
  have h':=h;simp only [RV] at h;obtain⟨a,rfl,_⟩:=h;exact iD h' iG
 | sl r g off esz len cap ex=> have h':=h;simp only [RV] at h;obtain⟨b,o,c,rfl,_⟩:=h;exact iD h' iG
 | ip cells=> have h':=h;simp only [RV] at h;obtain⟨b,o,rfl,_⟩:=h;exact iD h' iG
 | vs n esz cells=> have h':=h;simp only [RV] at h;obtain⟨b,o,c,rfl,_⟩:=h;exact iD h' iG
 | mp r=> have h':=h;simp only [RV] at h;obtain⟨b,rfl,_⟩:=h;exact iD h' iG
 | fn f a c=> have h':=h;simp only [RV] at h;obtain⟨a,c,rfl,_⟩:=h;exact iD h' iG
 | tup l=> have h':=h;simp only [RV] at h;obtain⟨cs,rfl,_⟩:=h;exact iD h' iG
theorem rV(cells:List AV)(off:Nat)(xs:List AV)(h:off+xs.length<=cells.length)(i:Nat):(aP cells off xs)[i]?=if off<=i/\i < off+xs.length then xs[i - off]? else cells[i]?:=by
 unfold aP;rw [zcf];simp only [zav];rw [zbh (by omega)];by_cases h1:i < off
 ·rw [if_pos h1,if_neg (by omega),zaH,if_pos h1]
 ·rw [if_neg h1,zcf];by_cases h2:i - off < xs.length
  ·rw [if_pos h2,if_pos (by omega)]
  ·rw [if_neg h2,if_neg (by omega),zaL]
   congr 1;omega
theorem gU(cells:List AV)(off:Nat)(xs:List AV)(h:off+xs.length<=cells.length):(aP cells off xs).length=cells.length:=by
 simp [aP];omega
def Ok(P:Program)(ρ:Ren)(H:ah)(w:World)(s:Sem Value)(v:AV)(H':ah):Prop:=
 ∃cv ρ' w',s.run P w=.ok cv w'/\Rel ρ' H' w'/\RV ρ' H'.gen w' v cv/\Ext ρ H w ρ' H' w'
def OkP(P:Program)(ρ:Ren)(G:Nat->Nat)(w:World)(s:Sem Value)(v:AV):Prop:=∃cv,s.run P w=.ok cv w/\RV ρ G w v cv
theorem OkP.ok {P:Program}{ρ:Ren}{H:ah}{w:World}{s:Sem Value}{v:AV}(h:OkP P ρ H.gen w s v)(R:Rel ρ H w):Ok P ρ H w s v H:=
 let⟨cv,h1,h2⟩:=h;⟨cv,ρ,w,h1,R,h2,Ext.refl _ _ _⟩
theorem kL {α:Type}{P:Program}{s:Sem α}{a:α}(h:gI P s=some a)(w:World):s.run P w=.ok a w:=by
 induction s with
 | pure b=> simp [gI] at h;subst h;rfl
 | program k ih=> exact ih P h
 | _=> simp [gI] at h
mutual
theorem Fh {ρ:Ren}{G:Nat->Nat}{w:World}:∀(x:AV) (v u:Value),RV ρ G w x v->x.val?=some u->v=u
 | .s _,v,u,h,hu=> by simp only [RV] at h;simp only [AV.val?,zaa] at hu;rw [h,hu]
 | .agg l,v,u,h,hu=> by
  obtain⟨cs,rfl,h1⟩:=(by simpa only [RV] using h)
  simp only [AV.val?] at hu;cases hv:vals? l with
  | none=> simp [hv] at hu
  | some vs=> simp [hv] at hu;subst hu;rw [<-G5 l _ _ h1 hv]
 | .tup l,v,u,h,hu=> by
  obtain⟨cs,rfl,h1⟩:=(by simpa only [RV] using h)
  simp only [AV.val?] at hu;cases hv:vals? l with
  | none=> simp [hv] at hu
  | some vs=> simp [hv] at hu;subst hu;rw [<-G5 l _ _ h1 hv]
 | .ref ..,_,_,_,hu=> by simp [AV.val?] at hu
 | .sl ..,_,_,_,hu=> by simp [AV.val?] at hu
 | .ip ..,_,_,_,hu=> by simp [AV.val?] at hu
 | .vs ..,_,_,_,hu=> by simp [AV.val?] at hu
 | .mp ..,_,_,_,hu=> by simp [AV.val?] at hu
 | .fn ..,_,_,_,hu=> by simp [AV.val?] at hu
theorem G5 {ρ:Ren}{G:Nat->Nat}{w:World}:∀(xs:List AV) (l us:List Value),RVs ρ G w xs l->vals? xs=some us->l=us
 | [],l,us,h,hu=> by simp only [RVs] at h;simp only [vals?,zaa] at hu;rw [h,hu]
 | x::xs,l,us,h,hu=> by
  obtain⟨y,ys,rfl,h1,h2⟩:=(by simpa only [RVs] using h)
  simp only [vals?] at hu;cases hx:x.val? with
  | none=> simp [hx] at hu
  | some v=>
   cases hxs:vals? xs with
   | none=> simp [hx,hxs] at hu
   | some vs=> simp [hx,hxs] at hu;subst hu;rw [Fh x y v h1 hx,G5 xs ys vs h2 hxs]
end
section
variable {P:Program}{ρ:Ren}{H H':ah}{w:World}{v:AV}
theorem qH {f:Option eP->Option AV}{x:AV}(h:jP f x H=some (v,H')):f ((dO x).map H.get)=some v/\H'=H:=by
 unfold jP at h;cases hf:f ((dO x).map H.get) with
 | none=> rw [hf] at h;cases h
 | some u=> rw [hf] at h;simp only [zaf,zaa,zad] at h;exact⟨by rw [h.1],h.2.symm⟩
theorem Us(R:Rel ρ H w){t:TypeId}{x:AV}{cx:Value}(hx:RV ρ H.gen w x cx)(h:MP P t x H=some (v,H')):H'=H/\OkP P ρ H.gen w (Instr.loadAt t cx) v:=by
 obtain⟨h',hh⟩:=qH h
 clear h
 subst hh;have h:=h'
 clear h'
 refine⟨rfl,?_⟩;unfold acr at h;cases x with
 | ref r g off=>
  simp only [dO,zaf] at h;cases ho:H'.get r with
  | map k es=> simp [ho] at h
  | blk g' ty cells=>
   simp only [ho] at h;by_cases hg:g'=g
   ·rw [if_pos hg] at h;simp only [RV] at hx;obtain⟨a,rfl,_,h2⟩:=hx;obtain⟨b,sh,hr,rfl⟩:=h2 (by simp [ah.gen,ho,eP.gen,hg]);have ru:=R.obj r b sh hr;simp only [uZ,ho] at ru;obtain⟨cs,e,_,_,hc,_⟩:=ru;obtain⟨cv,h3,h4⟩:=Cc (P:=P) hc h;exact⟨cv,by simp [Instr.loadAt,Instr.sureAddr,h3],h4⟩
   ·rw [if_neg hg] at h;cases h
 | ip cells=>
  simp only at h;simp only [RV] at hx;obtain⟨b,o,rfl,_,_,hc⟩:=hx;obtain⟨cv,h3,h4⟩:=Cc (P:=P) hc h;exact⟨cv,by simp [Instr.loadAt,Instr.sureAddr] at h3 ⊢;simp [h3],h4⟩
 | _=> simp at h
theorem aZ {α:Type}(a:Array α):a.toList.length=a.size:=rfl
theorem Yb(R:Rel ρ H w){t:TypeId}{x y:AV}{cx cy:Value}(hx:RV ρ H.gen w x cx)(hy:RV ρ H.gen w y cy)(h:JM P t x y H=some (v,H')):
  v=aV/\∃ρ' w',(Instr.storeAt t cx cy).run P w=.ok () w'/\Rel ρ' H' w'/\Ext ρ H w ρ' H' w':=by
 unfold JM at h;cases x with
 | ref r g off=>
  simp only at h;cases ho:H.get r with
  | map k es=> simp [ho] at h
  | blk g' ty cells=>
   simp only [ho] at h;split at h
   ·rename_i hc;obtain⟨rfl,_,hs,hcell,hle⟩:=hc;simp only [zaa,zad] at h;obtain⟨rfl,rfl⟩:=h;simp only [RV] at hx;obtain⟨a,rfl,_,h2⟩:=hx;obtain⟨b,sh,hr,rfl⟩:=h2 (by simp [ah.gen,ho,eP.gen]);have ru:=R.obj r b sh hr;simp only [uZ,ho] at ru;obtain⟨cs,e,hb,hz,hcc,hX⟩:=ru;have hyc:=GZ hy;have hlen:=bU hyc;rw [aZ] at hlen;have hrun:=ji (P:=P) (o:=sh+off) cy.cells.toList w cs 0 hb (by rw [aZ];omega) (nP hcell hyc);have hgen:H.gen r=g':=by simp [ah.gen,ho,eP.gen]
    have hput:=Ci (ty':=ty) (cells':=aP cells off y.cells) (cs':=jQ cs (sh+off) cy.cells.toList) (g':=g') (sh':=sh) R hr hb (dJ _ _ _) (by omega) (λ_=> rfl)
     (by rw [gU _ _ _ hle];exact hz) (by
      intro i u hu;rw [rV _ _ _ hle] at hu;rw [kK _ _ _ _ (by rw [aZ];omega),aZ];by_cases hi:off<=i/\i < off+y.cells.length
      ·rw [if_pos hi] at hu;rw [if_pos (by omega),show sh+i - (sh+off)=i - off from by omega];exact iQ hyc hu
      ·rw [if_neg hi] at hu;rw [if_neg (by omega)];exact rU hb hcc hu) (by rw [dJ,gU _ _ _ hle];exact hX)
    refine⟨rfl,_,_,?_,hput.1,hput.2⟩;simp only [Instr.storeAt,Instr.sureAddr,storeVar,Sem.run_bind,Sem.run_pure,Result.andThen_ok,dK hs,hlen,ne_eq,not_true,if_false]
    simpa using hrun
   ·cases h
 | _=> simp at h
theorem JU(R:Rel ρ H w)(t:TypeId)(ht:t < gB){cells:List AV}{cv:Value}(hc:RVs ρ H.gen w cells cv.cells.toList):
  Ok P ρ H w (do pure (.pointer (some (<-newVar t cv)))) (.ref H.next 0 0) (H.new (.blk 0 t cells)):=by
 have hn:=Ur (e:=t) (ty:=t) (cells:=cells) (cs:=cv.cells) R (by rw [<-aZ,bU hc];exact zac _) (λi x hx=> by
  obtain⟨u,hu,h1⟩:=iQ hc hx;exact⟨u,by simpa using hu,h1⟩) (Xct.low ht (by have:=bU hc;rw [aZ] at this;omega))
 refine⟨.pointer (some ⟨w.heap.size,0,none⟩),_,_,?_,hn.1,?_,hn.2⟩
 ·simp [newVar,newRow]
 ·simp only [RV];exact⟨_,rfl,by omega,λ_=> ⟨w.heap.size,0,by simp [updρ],by simp⟩⟩
theorem aeK(R:Rel ρ H w){t:TypeId}{x:AV}{cx:Value}(hx:RV ρ H.gen w x cx)(h:iC t x H=some (v,H')):Ok P ρ H w (Instr.box t cx) v H':=by
 unfold iC at h;split at h
 ·rename_i hh;simp only [zaa,zad] at h;obtain⟨rfl,rfl⟩:=h;exact JU R t hh.2 (GZ hx)
 ·cases h
theorem Yc(R:Rel ρ H w){t:TypeId}(h:Fe P t H=some (v,H')):Ok P ρ H w (Instr.alloc t true (.tuple #[])) v H':=by
 unfold Fe uH at h;cases hz:wE P t with
 | none=> simp [hz] at h
 | some z=>
  simp only [hz,zaf] at h;split at h
  ·simp only [zaa,zad] at h;obtain⟨rfl,rfl⟩:=h;obtain⟨cv,ρ',w',h1,h2,h3,h4⟩:=JU (P:=P) R t (qF hz) (cells:=z.cells.toList.map .s) (cv:=z) (fJ _);exact⟨cv,ρ',w',by simpa [Instr.alloc,eU hz] using h1,h2,h3,h4⟩
  ·cases h
theorem EM {f:Field}{n:Nat}{a:Addr}(h:szT P f.type=some (n+1)):(fieldPlace a f).run P w=.ok (a.add f.offset) w:=by
 simp [fieldPlace,dK h]
theorem JV {t:TypeId}{i:Nat}{x:AV}{cx:Value}(hx:RV ρ H.gen w x cx)(h:pI P t x i=some v):OkP P ρ H.gen w (Instr.fieldAt t cx i) v:=by
 unfold pI Pz at h;cases hu:P.underlying t with
 | none=> simp [hu] at h
 | some d=>
  cases d with
  | struct fs=>
   simp only [hu] at h;cases hf:fs[i]? with
   | none=> simp [hf] at h
   | some f=>
    simp only [hf] at h;cases hs:szT P f.type with
    | none=> simp [hs] at h
    | some n=>
     cases n with
     | zero=> simp [hs] at h
     | succ n=>
      simp only [hs] at h;have hrun:∀a,(Instr.fieldAt t (.pointer (some a)) i).run P w=.ok (.pointer (some (a.add f.offset))) w:=λa=> by
       simp [Instr.fieldAt,run_underlying hu,hf,Instr.sureAddr,EM hs]
      cases x with
      | ref r g off=>
       simp only [zaa] at h;subst h;simp only [RV] at hx;obtain⟨a,rfl,h1,h2⟩:=hx;refine⟨_,hrun a,?_⟩;simp only [RV];refine⟨_,rfl,h1,λhg=> ?_⟩;obtain⟨b,sh,hr,rfl⟩:=h2 hg;exact⟨b,sh,hr,by rw [jc,zb1]⟩
      | ip cells=>
       simp only [zaa] at h;subst h;simp only [RV] at hx;obtain⟨b,o,rfl,h1,h2,h3⟩:=hx;refine⟨_,hrun _,?_⟩;simp only [RV];exact⟨b,o+f.offset,by rw [jc],h1,h2,oI _ h3⟩
      | _=> simp at h
  | _=> simp [hu] at h
theorem JW(_R:Rel ρ H w){t:TypeId}{x i:AV}{cx ci:Value}(hx:RV ρ H.gen w x cx)(hi:RV ρ H.gen w i ci)(h:pJ P t x i H=some (v,H')):
  H'=H/\OkP P ρ H.gen w (Instr.indexAt t cx ci) v:=by
 obtain⟨h',hh⟩:=qH h
 clear h
 subst hh;have h:=h'
 clear h'
 refine⟨rfl,?_⟩;unfold yA at h;split at h
 ·rename_i e hu;split at h
  ·rename_i r g off esz len cap ex;split at h <;> first | (cases h;done) | skip
   rename_i k n;split at h <;> first | (cases h;done) | skip
   rename_i hc;obtain⟨hs,hg,h0,h1⟩:=hc;simp only [zaa] at h;subst h;simp only [RV] at hi hx;subst hi;obtain⟨b,o,c,rfl,q1,q2,q3,q4,q5⟩:=hx;obtain⟨sh,ty,m,hr,ho,hsh,hle⟩:=q5 hg;have ho':=ho (by omega);refine⟨.pointer (some ⟨b,o+n.toNat*esz,none⟩),?_,?_⟩
   ·simp [Instr.indexAt,asIntOf,run_underlying hu,dK hs,jc,h0,h1]
   ·simp only [RV];exact⟨_,rfl,q4,λ_=> ⟨b,sh,hr,by rw [ho',zb1]⟩⟩
  ·rename_i len esz cells;split at h <;> first | (cases h;done) | skip
   rename_i k n;split at h <;> first | (cases h;done) | skip
   rename_i hc;obtain⟨hs,h0,h1⟩:=hc;simp only [zaa] at h;subst h;simp only [RV] at hi hx;subst hi;obtain⟨b,o,c,rfl,q1,q2,q3,q4,q5⟩:=hx;refine⟨.pointer (some ⟨b,o+n.toNat*esz,none⟩),?_,?_⟩
   ·simp [Instr.indexAt,asIntOf,run_underlying hu,dK hs,jc,h0,h1]
   ·simp only [RV];exact⟨b,_,rfl,q3,q4,oI _ q5⟩
  ·cases h
 ·rename_i len e hu;split at h <;> first | (cases h;done) | skip
  rename_i m hs;split at h
  ·rename_i r g off;split at h <;> first | (cases h;done) | skip
   rename_i k n;split at h <;> first | (cases h;done) | skip
   rename_i hc;obtain⟨h0,h1⟩:=hc;simp only [zaa] at h;subst h;simp only [RV] at hi hx;subst hi;obtain⟨a,rfl,q1,q2⟩:=hx;refine⟨.pointer (some (a.add (n.toNat*m))),?_,?_⟩
   ·simp [Instr.indexAt,asIntOf,run_underlying hu,dK hs,h0,h1,Instr.sureAddr]
   ·simp only [RV];refine⟨_,rfl,q1,λhg=> ?_⟩;obtain⟨b,sh,hr,rfl⟩:=q2 hg;exact⟨b,sh,hr,by rw [jc,zb1]⟩
  ·rename_i cells;split at h <;> first | (cases h;done) | skip
   rename_i k n;split at h <;> first | (cases h;done) | skip
   rename_i hc;obtain⟨h0,h1⟩:=hc;simp only [zaa] at h;subst h;simp only [RV] at hi hx;subst hi;obtain⟨b,o,rfl,q1,q2,q3⟩:=hx;refine⟨.pointer (some ⟨b,o+n.toNat*m,none⟩),?_,?_⟩
   ·simp [Instr.indexAt,asIntOf,run_underlying hu,dK hs,h0,h1,Instr.sureAddr,jc]
   ·simp only [RV];exact⟨b,_,rfl,q1,q2,oI _ q3⟩
  ·cases h
 ·cases h
end
section
variable {P:Program}{ρ:Ren}{G:Nat->Nat}{w:World}{v:AV}
theorem Az {t:TypeId}{cells:List AV}{cs:Array Value}{off:Nat}(hc:RVs ρ G w cells cs.toList)(h:EL P t cells off=some v):OkP P ρ G w (part t cs off) v:=by
 unfold EL at h;cases ha:aeF P t with
 | none=> simp [ha] at h
 | some k=>
  cases hs:szT P t with
  | none=> simp [ha,hs] at h
  | some n=>
   cases k with
   | true=>
    simp [ha,hs] at h;obtain⟨hle,rfl⟩:=h;refine⟨.agg (cs.extract off (off+n)),by simp [part,wG ha,dK hs],?_⟩;simp only [RV];refine⟨_,rfl,?_⟩;have:=X8 n (X9 off hc);rw [Array.toList_extract]
    simpa [List.extract] using this
   | false=>
    simp [ha,hs] at h;obtain⟨cv,hcv,h1⟩:=iQ hc h;refine⟨cv,?_,h1⟩;have:cs[off]?=some cv:=by simpa using hcv
    simp [part,wG ha,this]
theorem Yd {t:TypeId}{i:Nat}{x:AV}{cx:Value}(hx:RV ρ G w x cx)(h:JJ P t x i=some v):OkP P ρ G w (Instr.field t cx i) v:=by
 unfold JJ Pz at h;cases hu:P.underlying t with
 | none=> simp [hu] at h
 | some d=>
  cases d with
  | struct fs=>
   simp only [hu] at h;cases hf:fs[i]? with
   | none=> simp [hf] at h
   | some f=>
    simp only [hf] at h;split at h
    ·rename_i g cells hg;cases hg;simp only [RV] at hx;obtain⟨cs,rfl,h1⟩:=hx;obtain⟨cv,h2,h3⟩:=Az (P:=P) h1 h;exact⟨cv,by simp [Instr.field,run_underlying hu,hf,asAgg,h2],h3⟩
    ·rename_i g cs hg;cases hg;simp only [RV] at hx;subst hx;obtain⟨cv,h2,h3⟩:=Az (P:=P) (fJ (ρ:=ρ) (G:=G) (w:=w) cs.toList) h;exact⟨cv,by simp [Instr.field,run_underlying hu,hf,asAgg,h2],h3⟩
    ·cases h
  | _=> simp [hu] at h
theorem Ye {t:TypeId}{x i:AV}{cx ci:Value}(hx:RV ρ G w x cx)(hi:RV ρ G w i ci)(h:JK P t x i=some v):OkP P ρ G w (Instr.index t cx ci) v:=by
 unfold JK at h;split at h
 ·rename_i s k n hu;simp only [RV] at hx hi;subst hx hi;split at h
  ·rename_i b hb;simp only [zaa] at h;subst h;exact⟨.int .u8 b.toNat,by simp [Instr.index,asIntOf,run_underlying hu,hb],by simp only [RV]⟩
  ·cases h
 ·rename_i len e cells k n hu;simp only [RV] at hx hi;subst hi;obtain⟨cs,rfl,h1⟩:=hx;cases hs:szT P e with
  | none=> simp [hs] at h
  | some m=>
   simp only [hs] at h;split at h
   ·rename_i hc;obtain⟨cv,h2,h3⟩:=Az (P:=P) h1 h;exact⟨cv,by simp [Instr.index,asIntOf,run_underlying hu,dK hs,hc,h2],h3⟩
   ·cases h
 ·rename_i len e cs k n hu;simp only [RV] at hx hi;subst hx hi;cases hs:szT P e with
  | none=> simp [hs] at h
  | some m=>
   simp only [hs] at h;split at h
   ·rename_i hc;obtain⟨cv,h2,h3⟩:=Az (P:=P) (fJ (ρ:=ρ) (G:=G) (w:=w) cs.toList) h;exact⟨cv,by simp [Instr.index,asIntOf,run_underlying hu,dK hs,hc,h2],h3⟩
   ·cases h
 ·cases h
theorem RJ {x:AV}{i:Nat}{cx:Value}(hx:RV ρ G w x cx)(h:aX x i=some v):OkP P ρ G w (Instr.extract cx i) v:=by
 unfold aX at h;split at h
 ·rename_i l;simp only [RV] at hx;obtain⟨cs,rfl,h1⟩:=hx;obtain⟨cv,hcv,h2⟩:=iQ h1 h;have:cs[i]?=some cv:=by simpa using hcv
  exact⟨cv,by simp [Instr.extract,this],h2⟩
 ·rename_i vs;simp only [RV] at hx;subst hx;cases hv:vs[i]? with
  | none=> simp [hv] at h
  | some u=> simp [hv] at h;subst h;exact⟨u,by simp [Instr.extract,hv],by simp only [RV]⟩
 ·cases h
theorem acu {c a b:AV}{cc ca cb:Value}(hc:RV ρ G w c cc)(ha:RV ρ G w a ca)(hb:RV ρ G w b cb)(h:bQ c a b=some v):
  OkP P ρ G w (do pure (if<-asBool cc then ca else cb)) v:=by
 unfold bQ at h;split at h
 ·simp only [RV] at hc;subst hc;simp only [zaa] at h;subst h;exact⟨ca,by simp [asBool],ha⟩
 ·simp only [RV] at hc;subst hc;simp only [zaa] at h;subst h;exact⟨cb,by simp [asBool],hb⟩
 ·cases h
theorem aiN {op:UnOp}{x:AV}{cx:Value}(hx:RV ρ G w x cx)(h:unA P op x=some v):OkP P ρ G w (Op.unary op cx) v:=by
 unfold unA at h;cases hv:x.val? with
 | none=> simp [hv] at h
 | some a=>
  simp only [hv] at h;rw [Fh x cx a hx hv];cases hp:gI P (Op.unary op a) with
  | none=> simp [hp] at h
  | some u=> simp [hp] at h;subst h;exact⟨u,kL hp w,by simp only [RV]⟩
theorem jU {t:TypeId}{cx cy:Value}{b:Bool}(h:∀d,(Op.equalIn (d+1) t cx cy).run P w=.ok b w):(Op.equal t cx cy).run P w=.ok b w:=h 9999
theorem PI {t:TypeId}{x y:AV}{cx cy:Value}{b:Bool}(hx:RV ρ G w x cx)(hy:RV ρ G w y cy)(h:JI P t x y=some b):
  (Op.equal t cx cy).run P w=.ok b w/\(∀op u z,eqGuard op t u z cx cy=pure ())/\(binOp .eql t cx cy=(do pure (.bool (<-Op.equal t cx cy))))/\(binOp .neq t cx cy=(do pure (.bool (!(<-Op.equal t cx cy))))):=by
 unfold JI at h;cases hu:P.underlying t with
 | none=> simp [hu] at h
 | some d=>
  cases d with
  | slice e=>
   simp only [hu] at h;split at h <;> first
    | (cases h;done)
    | (simp only [zaa] at h;subst h
       simp only [RV] at hx hy
       first
          | (obtain⟨_,_,_,rfl,_⟩:=hx;subst hy;exact⟨jU λd=> by simp [Op.equalIn,run_underlying hu],λop _ _=> by cases op <;> rfl,rfl,rfl⟩)
          | (obtain⟨_,_,_,rfl,_⟩:=hy;subst hx;exact⟨jU λd=> by simp [Op.equalIn,run_underlying hu],λop _ _=> by cases op <;> rfl,rfl,rfl⟩))
  | pointer e=>
   simp only [hu] at h;split at h <;> first
    | (cases h;done)
    | (simp only [zaa] at h;subst h
       simp only [RV] at hx hy
       first
          | (obtain⟨_,rfl,_⟩:=hx;subst hy;exact⟨jU λd=> by simp [Op.equalIn,run_underlying hu],λop _ _=> by cases op <;> rfl,rfl,rfl⟩)
          | (obtain⟨_,rfl,_⟩:=hy;subst hx;exact⟨jU λd=> by simp [Op.equalIn,run_underlying hu],λop _ _=> by cases op <;> rfl,rfl,rfl⟩)
          | (obtain⟨_,_,rfl,_⟩:=hx;subst hy;exact⟨jU λd=> by simp [Op.equalIn,run_underlying hu],λop _ _=> by cases op <;> rfl,rfl,rfl⟩)
          | (obtain⟨_,_,rfl,_⟩:=hy;subst hx;exact⟨jU λd=> by simp [Op.equalIn,run_underlying hu],λop _ _=> by cases op <;> rfl,rfl,rfl⟩))
  | map k e=>
   simp only [hu] at h;split at h <;> first
    | (cases h;done)
    | (simp only [zaa] at h;subst h
       simp only [RV] at hx hy
       first
          | (obtain⟨_,rfl,_⟩:=hx;subst hy;exact⟨jU λd=> by simp [Op.equalIn,run_underlying hu],λop _ _=> by cases op <;> rfl,rfl,rfl⟩)
          | (obtain⟨_,rfl,_⟩:=hy;subst hx;exact⟨jU λd=> by simp [Op.equalIn,run_underlying hu],λop _ _=> by cases op <;> rfl,rfl,rfl⟩))
  | func ps rs vd=>
   simp only [hu] at h;split at h <;> first
    | (cases h;done)
    | (simp only [zaa] at h;subst h
       simp only [RV] at hx hy
       first
          | (obtain⟨_,_,rfl,_⟩:=hx;subst hy;exact⟨jU λd=> by simp [Op.equalIn,run_underlying hu],λop _ _=> by cases op <;> rfl,rfl,rfl⟩)
          | (obtain⟨_,_,rfl,_⟩:=hy;subst hx;exact⟨jU λd=> by simp [Op.equalIn,run_underlying hu],λop _ _=> by cases op <;> rfl,rfl,rfl⟩))
  | _=> simp [hu] at h
theorem MW {op:BinOp}{t:TypeId}{a b:Value}{x y:Operand}(h:(eqGuard op t (.tmp 0) (.tmp 0) a b).run P w=.ok () w):(eqGuard op t x y a b).run P w=.ok () w:=by
 cases op <;> first
  | rfl
  | (cases a <;> first
    | rfl
    | (cases b <;> first
      | rfl
      | exact h
      | (cases x <;> cases y <;> first | rfl | exact h)))
theorem JX {z:Operand}(h:PD z=true):z=.const .nilIface:=by
 unfold PD at h;split at h
 ·rfl
 ·cases h
theorem MZ {op:BinOp}{t:TypeId}{a:Value}{x:Operand}:eqGuard op t x (.const .nilIface) a .nilIface=eqGuard op t (.tmp 0) (.const .nilIface) a .nilIface:=by
 cases op <;> first
  | rfl
  | (cases a <;> first
    | rfl
    | (cases x <;> rfl))
theorem aeL {op:BinOp}{t:TypeId}{x y:AV}{cx cy:Value}{u z:Operand}(hx:RV ρ G w x cx)(hy:RV ρ G w y cy)(h:nH P op t x y=some v):
  OkP P ρ G w (do eqGuard op t u z cx cy;binOp op t cx cy) v:=by
 unfold nH at h;split at h
 ·rename_i a b ha hb;rw [Fh x cx a hx ha,Fh y cy b hy hb];cases hp:gI P (do eqGuard op t (.tmp 0) (.tmp 0) a b;binOp op t a b) with
  | none=> simp [hp] at h
  | some r=>
   simp [hp] at h;subst h;have hr:=kL hp w;rw [Sem.run_bind] at hr;cases hg:(eqGuard op t (.tmp 0) (.tmp 0) a b).run P w with
   | halt e w'=> rw [hg] at hr;cases hr
   | ok c w'=>
    have hgp:∀w,(eqGuard op t (.tmp 0) (.tmp 0) a b).run P w=.ok c w:=by
     have hb':∀{α β:Type} (s:Sem α) (f:α->Sem β) (r:β),gI P (s.bind f)=some r->∃a,gI P s=some a:=by
      intro α β s f r
      induction s with
      | pure a=> intro _;exact⟨a,rfl⟩
      | program k ih=> intro h;exact ih P h
      | _=> intro h;simp [Sem.bind,gI] at h
     obtain⟨c',hc'⟩:=hb' _ _ _ hp;intro w0;have h1:=kL hc' w0;have h2:=kL hc' w;rw [hg] at h2;cases h2;exact h1
    have hg':=MW (x:=u) (y:=z) (by simpa using hgp w);refine⟨r,?_,by simp only [RV]⟩;rw [Sem.run_bind,hg'];rw [hgp w] at hr;exact hr
 ·split at h
  ·cases hn:JI P t x y with
   | none=> simp [hn] at h
   | some b=>
    simp [hn] at h;subst h;obtain⟨h1,h2,h3,h4⟩:=PI hx hy hn;exact⟨.bool b,by rw [h2,h3];simp [h1],by simp only [RV]⟩
  ·cases hn:JI P t x y with
   | none=> simp [hn] at h
   | some b=>
    simp [hn] at h;subst h;obtain⟨h1,h2,h3,h4⟩:=PI hx hy hn;exact⟨.bool !b,by rw [h2,h4];simp [h1],by simp only [RV]⟩
  ·cases h
theorem acv {op:BinOp}{t:TypeId}{x y:AV}{cx cy:Value}{u z:Operand}(hx:RV ρ G w x cx)(hy:RV ρ G w y cy)(hz:PD z=true->cy=.nilIface)(h:aeG P op t z x y=some v):
  OkP P ρ G w (do eqGuard op t u z cx cy;binOp op t cx cy) v:=by
 unfold aeG at h;split at h
 ·rename_i hn;have e:=hz hn;have ez:=JX hn;subst e ez;unfold akS at h;split at h
  ·rename_i a ha;rw [Fh x cx a hx ha,MZ];cases hp:gI P (do eqGuard op t (.tmp 0) (.const .nilIface) a .nilIface;binOp op t a .nilIface) with
   | none=> simp [hp] at h
   | some r=>
    simp [hp] at h;subst h;exact⟨r,kL hp w,by simp only [RV]⟩
  ·cases h
 ·exact aeL hx hy h
theorem mg {x:Option AV}{cx:Option Value}{d n:Nat}(hx:match x,cx with | some a,some c=> RV ρ G w a c | none,none=> True | _,_=> False)(h:iy x d=some n):
  (x=none/\cx=none/\n=d)∨∃k i,x=some (.s (.int k i))/\cx=some (.int k i)/\0<=i/\n=i.toNat:=by
 unfold iy at h;split at h
 ·cases cx with
  | none=> cases h;exact .inl ⟨rfl,rfl,rfl⟩
  | some c=> exact hx.elim
 ·rename_i k i;split at h
  ·cases cx with
   | none=> exact hx.elim
   | some c=>
    simp only [RV] at hx;subst hx;cases h;exact .inr ⟨k,i,rfl,rfl,‹_›,rfl⟩
  ·cases h
 ·cases h
theorem lq {k:IntKind}{i:Int}{y:Nat}{code:BoundsCode}(h0:0<=i)(h1:i<=y):(Instr.sliceBound (.int k i) y code).run P w=.ok i.toNat w:=
 run_sliceBound w k i y code h0 h1
end
section
variable {P:Program}{ρ:Ren}{H H':ah}{w:World}{v:AV}
def Nh(ρ:Ren)(G:Nat->Nat)(w:World)(x:Option AV)(cx:Option Value):Prop:=match x,cx with | some a,some c=> RV ρ G w a c | none,none=> True | _,_=> False
theorem lu {s:Bool}{len c l h m:Nat}{clo chi cmx:Option Value}
  (hm:(cmx=none/\m=c)∨∃k i,cmx=some (.int k i)/\0<=i/\m=i.toNat/\m<=c)
  (hh:(chi=none/\cmx=none/\h=len)∨∃k i,chi=some (.int k i)/\0<=i/\h=i.toNat/\h<=m)
  (hl:(clo=none/\l=0)∨∃k i,clo=some (.int k i)/\0<=i/\l=i.toNat/\l<=h):(Instr.sliceBounds s len c clo chi cmx).run P w=.ok (l,h,m) w:=by
 rcases hm with⟨rfl,rfl⟩ | ⟨km,im,rfl,hm0,rfl,hm1⟩
 ·rcases hh with⟨rfl,_,rfl⟩ | ⟨kh,ih,rfl,hh0,rfl,hh1⟩
  ·rcases hl with⟨rfl,rfl⟩ | ⟨kl,il,rfl,hl0,rfl,hl1⟩
   ·simp [Instr.sliceBounds]
   ·have a1:il<=(h:Int):=by omega
    simp [Instr.sliceBounds,lq hl0 a1]
  ·have a2:ih<=(m:Int):=by omega
   rcases hl with⟨rfl,rfl⟩ | ⟨kl,il,rfl,hl0,rfl,hl1⟩
   ·simp [Instr.sliceBounds,lq hh0 a2]
   ·have a1:il<=(ih.toNat:Int):=by omega
    simp only [Instr.sliceBounds,Sem.run_bind,Sem.run_pure,Result.andThen_ok,lq hh0 a2];simp [lq hl0 a1]
 ·rcases hh with⟨_,h2,_⟩ | ⟨kh,ih,rfl,hh0,rfl,hh1⟩
  ·cases h2
  ·rcases hl with⟨rfl,rfl⟩ | ⟨kl,il,rfl,hl0,rfl,hl1⟩
   ·have a3:im<=(c:Int):=by omega
    have a2:ih<=(im.toNat:Int):=by omega
    simp only [Instr.sliceBounds,Sem.run_bind,Sem.run_pure,Result.andThen_ok,lq hm0 a3,lq hh0 a2]
   ·have a3:im<=(c:Int):=by omega
    have a2:ih<=(im.toNat:Int):=by omega
    have a1:il<=(ih.toNat:Int):=by omega
    simp only [Instr.sliceBounds,Sem.run_bind,Sem.run_pure,Result.andThen_ok,lq hm0 a3,lq hh0 a2,lq hl0 a1]
theorem lC {t e:TypeId}{len c l h m n:Nat}{a:Option Addr}{clo chi cmx:Option Value}(hu:P.underlying t=some (.slice e))(hs:szT P e=some n)
  (hb:(Instr.sliceBounds true len c clo chi cmx).run P w=.ok (l,h,m) w):
  (Instr.sliceAt t (.slice a len c) clo chi cmx).run P w=.ok (.slice (if m=l then a else a.map (·.add (l*n))) (h - l) (m - l)) w:=by
 simp only [Instr.sliceAt,Sem.run_bind,run_underlying hu,Result.andThen_ok,Instr.slice,hb,dK hs,Sem.run_pure]
theorem Yf {t:TypeId}{x:AV}{lo hi mx:Option AV}{cx:Value}{clo chi cmx:Option Value}(hx:RV ρ H.gen w x cx)(hlo:Nh ρ H.gen w lo clo)(hhi:Nh ρ H.gen w hi chi)(hmx:Nh ρ H.gen w mx cmx)
  (h:JL P t x lo hi mx=some v):OkP P ρ H.gen w (Instr.sliceAt t cx clo chi cmx) v:=by
 unfold JL at h;cases hu:P.underlying t with
 | none=> simp [hu] at h
 | some d=>
  cases d with
  | slice e=>
   simp only [hu] at h;split at h
   ·rename_i n hs;split at h <;> first | (cases h;done) | skip
    rename_i h1 h2 h3;split at h <;> first | (cases h;done) | skip
    rename_i hcond;simp only [zaa] at h;subst h;simp only [RV] at hx;subst hx;have b1:=mg (x:=lo) hlo h1;have b2:=mg (x:=hi) hhi h2;have b3:=mg (x:=mx) hmx h3;refine⟨.slice none 0 0,?_,by simp only [RV]⟩;rw [lC hu hs (lu (l:=0) (h:=0) (m:=0) (by
       rcases b3 with⟨_,q,_⟩ | ⟨k,i,_,q,q0,q1⟩
       ·exact .inl ⟨q,rfl⟩
       ·exact .inr ⟨k,i,q,q0,q1,by omega⟩) (by
       rcases b2 with⟨p,q,_⟩ | ⟨k,i,_,q,q0,q1⟩
       ·refine .inl ⟨q,?_,rfl⟩;have:=hcond p;rcases b3 with⟨_,q',_⟩ | ⟨k,i,p',_⟩
        ·exact q'
        ·rw [this] at p';cases p'
       ·exact .inr ⟨k,i,q,q0,q1,by omega⟩) (by
       rcases b1 with⟨_,q,_⟩ | ⟨k,i,_,q,q0,q1⟩
       ·exact .inl ⟨q,rfl⟩
       ·exact .inr ⟨k,i,q,q0,q1,by omega⟩))]
    simp
   ·rename_i r g off esz len cap ex m hs;split at h <;> first | (cases h;done) | skip
    rename_i l hh k h1 h2 h3;split at h <;> first | (cases h;done) | skip
    rename_i hcond;obtain⟨rfl,c1,c2,c3,c4⟩:=hcond;simp only [zaa] at h;subst h;simp only [RV] at hx;obtain⟨b,o,c,rfl,q1,q2,q3,q4,q5⟩:=hx;have b1:=mg (x:=lo) hlo h1;have b2:=mg (x:=hi) hhi h2;have b3:=mg (x:=mx) hmx h3
    -- the capacity then
    obtain⟨m,hm,hkm,hmc,hex⟩:∃m,((cmx=none/\m=c)∨∃k i,cmx=some (.int k i)/\0<=i/\m=i.toNat/\m<=c)/\k<=m/\m<=c/\((ex || !isNone mx)=true->m=k):=by
     rcases b3 with⟨p,q,r⟩ | ⟨k',i,p,q,q0,r⟩
     ·refine⟨c,.inl ⟨q,rfl⟩,by omega,zac _,λhx=> ?_⟩;subst p;simp [isNone] at hx;rw [q3 hx,r]
     ·exact⟨k,.inr ⟨k',i,q,q0,r,by omega⟩,zac _,by omega,λ_=> rfl⟩
    have hb:=lu (P:=P) (w:=w) (s:=true) (len:=len) (c:=c) (l:=l) (h:=hh) (m:=m) hm (by
       rcases b2 with⟨p,q,r⟩ | ⟨k',i,_,q,q0,r⟩
       ·refine .inl ⟨q,?_,r⟩;have:=c4 p;rcases b3 with⟨_,q',_⟩ | ⟨_,_,p',_⟩
        ·exact q'
        ·rw [this] at p';cases p'
       ·exact .inr ⟨k',i,q,q0,r,by omega⟩) (by
       rcases b1 with⟨_,q,r⟩ | ⟨k',i,_,q,q0,r⟩
       ·exact .inl ⟨q,r⟩
       ·exact .inr ⟨k',i,q,q0,r,by omega⟩)
    refine⟨_,lC hu hs hb,?_⟩;simp only [RV];by_cases hml:m=l
    ·refine⟨b,o,m - l,by simp [hml],by omega,by omega,λhx=> by rw [hex hx],q4,λhg=> ?_⟩;obtain⟨sh,ty,n,p1,p2,p3,p4⟩:=q5 hg;refine⟨sh,ty,n,p1,λhc=> by omega,p3,?_⟩;have:(m - l)*esz<=c*esz:=zaz _ (by omega);omega
    ·refine⟨b,o+l*esz,m - l,by simp [hml,jc],by omega,by omega,λhx=> by rw [hex hx],q4,λhg=> ?_⟩;obtain⟨sh,ty,n,p1,p2,p3,p4⟩:=q5 hg;refine⟨sh,ty,n,p1,λ_=> by rw [p2 (by omega)];omega,p3,?_⟩;have:l*esz+(m - l)*esz<=c*esz:=by rw [<-zbB];exact zaz _ (by omega)
     omega
   ·rename_i n esz cells m hs;split at h <;> first | (cases h;done) | skip
    rename_i l hh h1 h2;split at h <;> first | (cases h;done) | skip
    rename_i hcond;obtain⟨rfl,c1,c2⟩:=hcond;simp only [zaa] at h;subst h;simp only [RV] at hx;obtain⟨b,o,c,rfl,q1,q2,q3,q4,q5⟩:=hx;have b1:=mg (x:=lo) hlo h1;have b2:=mg (x:=hi) hhi h2;have hmn:cmx=none:=by
     cases cmx with
     | none=> rfl
     | some c=> exact hmx.elim
    have hb:=lu (P:=P) (w:=w) (s:=true) (len:=n) (c:=c) (l:=l) (h:=hh) (m:=c) (.inl ⟨hmn,rfl⟩) (by
       rcases b2 with⟨p,q,r⟩ | ⟨k',i,_,q,q0,r⟩
       ·exact .inl ⟨q,hmn,r⟩
       ·exact .inr ⟨k',i,q,q0,r,by omega⟩) (by
       rcases b1 with⟨_,q,r⟩ | ⟨k',i,_,q,q0,r⟩
       ·exact .inl ⟨q,r⟩
       ·exact .inr ⟨k',i,q,q0,r,by omega⟩)
    refine⟨_,lC hu hs hb,?_⟩;simp only [RV];have hlen:(List.take ((hh - l)*esz) (List.drop (l*esz) cells)).length=(hh - l)*esz:=by
     simp only [zav,zaQ,q2];have:(hh - l)*esz+l*esz<=n*esz:=by rw [<-zbB];exact zaz _ (by omega)
     omega
    by_cases hml:c=l
    ·have:hh - l=0:=by omega
     refine⟨b,o,c - l,by simp [hml],by omega,hlen,q3,q4,?_⟩;rw [this];simp [RVc]
    ·exact⟨b,o+l*esz,c - l,by simp [hml,jc],by omega,hlen,q3,q4,qE _ (oI _ q5)⟩
   ·cases h
  | string=>
   simp only [hu] at h;split at h
   ·rename_i s l h1;split at h <;> first | (cases h;done) | skip
    rename_i hh h2;split at h <;> first | (cases h;done) | skip
    rename_i hcond;simp only [zaa] at h;subst h;simp only [RV] at hx;subst hx;have b1:=mg (x:=lo) hlo h1;have b2:=mg (x:=hi) hhi h2;have hmn:cmx=none:=by
     cases cmx with
     | none=> rfl
     | some c=> exact hmx.elim
    subst hmn;have hb:=lu (P:=P) (w:=w) (s:=false) (len:=s.size) (c:=s.size) (l:=l) (h:=hh) (m:=s.size) (.inl ⟨rfl,rfl⟩) (by
       rcases b2 with⟨p,q,r⟩ | ⟨k',i,_,q,q0,r⟩
       ·exact .inl ⟨q,rfl,r⟩
       ·exact .inr ⟨k',i,q,q0,r,by omega⟩) (by
       rcases b1 with⟨_,q,r⟩ | ⟨k',i,_,q,q0,r⟩
       ·exact .inl ⟨q,r⟩
       ·exact .inr ⟨k',i,q,q0,r,by omega⟩)
    refine⟨.string (s.extract l hh),?_,by simp only [RV]⟩;simp only [Instr.sliceAt,Sem.run_bind,run_underlying hu,Result.andThen_ok,Instr.slice,zbI,zaj,if_false,hb,Sem.run_pure]
   ·cases h
  | _=> simp [hu] at h
end
theorem tY(off:Nat):∀(l:List Value) (k:Nat) (cs:Array Value),(l.zipIdx k).foldl (λcs (p:Value × Nat)=> cs.setIfInBounds (off+p.2) p.1) cs=jQ cs (off+k) l
 | [],_,_=> rfl
 | v::l,k,cs=> by
  simp only [List.zipIdx_cons,zcp,jQ];exact tY off l (k+1) _
section
variable {P:Program}{ρ:Ren}{G:Nat->Nat}{H H':ah}{w:World}{v:AV}
theorem Ut {cells xs:List AV}{cs vs:List Value}{off:Nat}(hc:RVs ρ G w cells cs)(hx:RVs ρ G w xs vs)(hle:off+xs.length<=cells.length):RVs ρ G w (aP cells off xs) (jQ cs.toArray off vs).toList:=by
 have h1:=bU hc;have h2:=bU hx;refine pO (by rw [gU _ _ _ hle,aZ,dJ];simp [h1]) λi x hi=> ?_;rw [rV _ _ _ hle] at hi;have hset:=kK vs cs.toArray off i (by simp;omega);rw [h2] at hset;by_cases hlt:off<=i/\i < off+xs.length
 ·rw [if_pos hlt] at hi hset;obtain⟨u,hu,h3⟩:=iQ hx hi;exact⟨u,by rw [zcz,hset,hu],h3⟩
 ·rw [if_neg hlt] at hi hset;obtain⟨u,hu,h3⟩:=iQ hc hi;exact⟨u,by rw [zcz,hset];simpa using hu,h3⟩
theorem Cm {place:Nat->Option (Nat × Nat)}:∀(parts:List (Nat × AV)) (ny:List (Nat × Value)) (cells:List AV) (cs:Array Value) (cells':List AV),
  parts.map (·.1)=ny.map (·.1)->RVs ρ G w (parts.map (·.2)) (ny.map (·.2))->RVs ρ G w cells cs.toList->fV place cells parts=some cells'->
  ∃cs',Instr.fill place cs ny=some cs'/\RVs ρ G w cells' cs'.toList
 | [],[],cells,cs,cells',_,_,hc,h=> by
  simp only [fV,zaa] at h;subst h;exact⟨cs,rfl,hc⟩
 | [],_::_,_,_,_,hi,_,_,_=> by simp at hi
 | _::_,[],_,_,_,hi,_,_,_=> by simp at hi
 | (i,x)::parts,(j,y)::ny,cells,cs,cells',hi,hp,hc,h=> by
  simp only [zaA,zcJ] at hi;obtain⟨rfl,hi⟩:=hi;simp only [zaA,RVs] at hp;obtain⟨_,_,e,h1,h2⟩:=hp;cases e;simp only [fV] at h;cases hpl:place i with
  | none=> simp [hpl] at h
  | some os=>
   obtain⟨off,size⟩:=os;simp only [hpl] at h;split at h
   ·rename_i hcond;obtain⟨hs,hle⟩:=hcond;have hcells:=GZ h1;have hlen:=bU hcells;rw [aZ] at hlen;have aiO:=bU hc;rw [aZ] at aiO;have hset:=Ut hc hcells hle;obtain⟨cs',h3,h4⟩:=Cm parts ny _ _ cells' hi h2 hset h;refine⟨cs',?_,h4⟩;simp only [Instr.fill,hpl];rw [if_neg (by simp;omega)];rw [<-h3]
    congr 1
    rw [<-zcq,zc9];exact tY off y.cells.toList 0 _
   ·cases h
theorem RN {fs:Array Field}(h:fs.all (λf=> (szT P f.type).isSome)=true):
  (fs.mapM λf=> do pure (f.offset,<-sizeOf f.type):Sem (Array (Nat × Nat))).run P w=.ok (fs.map λf=> (f.offset,(szT P f.type).getD 0)) w:=by
 rw [Array.mapM_eq_mapM_toList];have key:∀l:List Field,(∀f∈l,(szT P f.type).isSome=true)->(l.mapM λf=> do pure (f.offset,<-sizeOf f.type):Sem (List (Nat × Nat))).run P w=.ok (l.map λf=> (f.offset,(szT P f.type).getD 0)) w:=by
  intro l
  induction l with
  | nil=> intro _;simp
  | cons f l ih=>
   intro hl;have h0:=hl f (by simp);cases hs:szT P f.type with
   | none=> simp [hs] at h0
   | some n=>
    rw [zbt];simp only [Sem.run_bind,dK hs,Sem.run_pure,Result.andThen_ok,ih (λg hg=> hl g (by simp [hg])),zaA,hs,zax]
 rw [Sem.run_map,key fs.toList (λf hf=> by
  have:=zcr.1 h f (by simpa using hf);exact this)]
 simp only [Result.andThen_ok]
 congr 1
 exact(zb5.1 (by simp))
theorem Yg {t:TypeId}{parts:List (Nat × AV)}{ny:Array (Nat × Value)}(hi:parts.map (·.1)=ny.toList.map (·.1))(hp:RVs ρ G w (parts.map (·.2)) (ny.toList.map (·.2)))
  (h:fD P t parts=some v):OkP P ρ G w (Instr.build t ny) v:=by
 unfold fD uH at h;cases hz:wE P t with
 | none=> simp [hz] at h
 | some z=>
  cases hu:P.underlying t with
  | none=> simp [hz,hu] at h
  | some d=>
   cases d with
   | struct fs=>
    simp only [hz,hu,zaf] at h;split at h
    ·rename_i hall;cases hf:fV (JH P fs) (z.cells.toList.map .s) parts with
     | none=> simp [hf] at h
     | some cells=>
      simp only [hf,zaf,zaa] at h;subst h;obtain⟨cs,h1,h2⟩:=Cm (ρ:=ρ) (G:=G) (w:=w) parts ny.toList _ z.cells cells hi hp (fJ _) hf;refine⟨.agg cs,?_,by simp only [RV];exact⟨cs,rfl,h2⟩⟩;have aeM:(λi=> (fs.map λf=> (f.offset,(szT P f.type).getD 0))[i]?)=JH P fs:=by
       funext i
       simp only [JH,Array.getElem?_map];cases hfi:fs[i]? with
       | none=> simp
       | some f=>
        have h0:=zcr.1 hall f (Array.mem_of_getElem? hfi);cases hs:szT P f.type with
        | none=> simp [hs] at h0
        | some n=> simp [hs]
      simp only [Instr.build,Sem.run_bind,eU hz,run_underlying hu,Result.andThen_ok,RN hall];rw [aeM,h1];simp
    ·cases h
   | array n e=>
    simp only [hz,hu,zaf] at h;cases hs:szT P e with
    | none=> simp [hs] at h
    | some m=>
     simp only [hs] at h;cases hf:fV (λi=> some (i*m,m)) (z.cells.toList.map .s) parts with
     | none=> simp [hf] at h
     | some cells=>
      simp only [hf,zaf,zaa] at h;subst h;obtain⟨cs,h1,h2⟩:=Cm (ρ:=ρ) (G:=G) (w:=w) parts ny.toList _ z.cells cells hi hp (fJ _) hf;refine⟨.agg cs,?_,by simp only [RV];exact⟨cs,rfl,h2⟩⟩;simp only [Instr.build,Sem.run_bind,eU hz,run_underlying hu,Result.andThen_ok,dK hs,h1,Sem.run_pure]
   | _=> simp [hz,hu] at h
theorem Fj(z:List AV)(hz:0 < z.length):∀(n i:Nat),i < n*z.length->(dh z n)[i]?=z[i % z.length]?
 | 0,i,h=> by simp at h
 | n+1,i,h=> by
  simp only [dh];rw [zcf];by_cases hi:i < z.length
  ·rw [if_pos hi,zcj hi]
  ·have hmod:(i - z.length) % z.length=i % z.length:=by rw [Nat.mod_eq_sub_mod (a:=i) (by omega)]
   rw [if_neg hi,Fj z hz n (i - z.length) (by rw [zbB,zch] at h;omega),hmod]
theorem gV(z:List AV):∀n,(dh z n).length=n*z.length
 | 0=> by simp [dh]
 | n+1=> by simp [dh,gV z n,zbB];omega
theorem rW(z:Value)(n:Nat):RVs ρ G w (dh (z.cells.toList.map .s) n) ((Array.range (n*z.cells.size)).map (z.cells[· % z.cells.size]!)).toList:=by
 have hl:(z.cells.toList.map AV.s).length=z.cells.size:=by simp
 refine pO (by rw [gV,hl];simp) λi x hx=> ?_;have hi:i < n*z.cells.size:=by
  rcases zaP i (n*z.cells.size) with h | h
  ·exact h
  ·rw [zaN (by rw [gV,hl];exact h)] at hx;cases hx
 have hpos:0 < z.cells.size:=by
  rcases Nat.eq_zero_or_pos z.cells.size with h | h
  ·rw [h,Nat.mul_zero] at hi;omega
  ·exact h
 rw [Fj _ (by rw [hl];exact hpos) n i (by rw [hl];exact hi),hl] at hx;have hm:i % z.cells.size < z.cells.size:=Nat.mod_lt _ hpos;refine⟨z.cells[i % z.cells.size],?_,?_⟩
 ·simp [hi,hm]
 ·have:x=.s z.cells[i % z.cells.size]:=by
   simp [hm] at hx;exact hx.symm
  subst this;simp only [RV]
theorem mD {t e:TypeId}(h:wC P t=some e):P.underlying t=some (.slice e):=by
 unfold wC at h;split at h
 ·rename_i hu;cases h;exact hu
 ·cases h
theorem wH {t:TypeId}{z:List AV}(h:uH P t=some z):∃v,wE P t=some v/\z=v.cells.toList.map .s:=by
 unfold uH at h;cases hz:wE P t with
 | none=> simp [hz] at h
 | some v=> simp [hz] at h;exact⟨v,rfl,h.symm⟩
theorem qI(R:Rel ρ H w){e:TypeId}{cells:List AV}{cs:Array Value}{m len cap c:Nat}{ex:Bool}(hc:RVs ρ H.gen w cells (cs.toList.take cells.length))(hle:cells.length<=cs.size)(h1:len<=cap)(h2:cap<=c)(h3:ex=true->c=cap)(h4:c*m<=cs.size){ty:TypeId}(hX:Xct ty e 0 cs.size cells.length):
  ∃ρ',Rel ρ' (H.new (.blk 0 ty cells)) (w.alloc (.cells cs e))/\RV ρ' (H.new (.blk 0 ty cells)).gen (w.alloc (.cells cs e)) (.sl H.next 0 0 m len cap ex) (.slice (some ⟨w.heap.size,0,none⟩) len c)/\Ext ρ H w ρ' (H.new (.blk 0 ty cells)) (w.alloc (.cells cs e)):=by
 have hn:=Ur (e:=e) (ty:=ty) (cells:=cells) (cs:=cs) R hle (λi x hx=> by
  obtain⟨u,hu,h5⟩:=iQ hc hx;rw [zaH] at hu;split at hu
  ·exact⟨u,by simpa using hu,h5⟩
  ·cases hu) hX
 refine⟨_,hn.1,?_,hn.2⟩;simp only [RV];refine⟨w.heap.size,0,c,rfl,h1,h2,h3,by omega,λ_=> ⟨0,e,cs.size,by simp [updρ],λ_=> rfl,?_,by omega⟩⟩;rw [dP,jh];rfl
theorem Uu {xs:List AV}{l:List Value}(h:RVs ρ G w xs l):RVs ρ G w xs (l.take xs.length):=by
 rw [zau (by rw [bU h];exact zac _)];exact h
theorem G6(R:Rel ρ H w){t:TypeId}{len:Nat}{parts:List (Nat × AV)}{ny:Array (Nat × Value)}(hi:parts.map (·.1)=ny.toList.map (·.1))(hp:RVs ρ H.gen w (parts.map (·.2)) (ny.toList.map (·.2)))
  (h:cZ P t len parts H=some (v,H')):Ok P ρ H w (Instr.buildSlice t len ny) v H':=by
 unfold cZ at h;cases he:wC P t with
 | none=> simp [he] at h
 | some e=>
  simp only [he] at h;cases hs:szT P e with
  | none=> simp [hs] at h
  | some m=>
   cases hz:uH P e with
   | none=> simp [hs,hz] at h
   | some z=>
    simp only [hs,hz] at h;obtain⟨zv,hzv,rfl⟩:=wH hz;split at h <;> first | (cases h;done) | skip
    rename_i hcond;obtain⟨hzl,hbig⟩:=hcond;simp at hzl;split at h <;> first | (cases h;done) | skip
    rename_i cells hf;split at h <;> first | (cases h;done) | skip
    simp only [zaa,zad] at h;obtain⟨rfl,rfl⟩:=h
    -- the zero cells
    obtain⟨zc,hzr,hz0⟩:∃zc:Array Value,RVs ρ H.gen w (dh (zv.cells.toList.map .s) len) ((Array.range (len*m)).map (zc[· % zc.size]!)).toList/\((len*m=0/\zc=#[])∨(¬len*m=0/\zc=zv.cells)):=by
     by_cases h0:len*m=0
     ·refine⟨#[],?_,.inl ⟨h0,rfl⟩⟩;rw [h0];have:dh (zv.cells.toList.map .s) len=[]:=zan (by rw [gV];simp [hzl,h0]);rw [this];simp [RVs]
     ·refine⟨zv.cells,?_,.inr ⟨h0,rfl⟩⟩;have:=rW (ρ:=ρ) (G:=H.gen) (w:=w) zv len;rw [hzl] at this ⊢;exact this
    obtain⟨cs,h1,h2⟩:=Cm parts ny.toList _ _ cells hi hp hzr hf;have hlen:=bU h2;have hfl:cs.size=len*m:=by
     have hsz:∀(place:Nat->Option (Nat × Nat)) (l:List (Nat × Value)) (a b:Array Value),Instr.fill place a l=some b->b.size=a.size:=by
      intro place l
      induction l with
      | nil=> intro a b h;simp [Instr.fill] at h;rw [h]
      | cons p l ih=>
       intro a b h;obtain⟨i,x⟩:=p;simp only [Instr.fill] at h;split at h
       ·cases h
       ·split at h
        ·cases h
        ·rw [ih _ _ h,<-zcq,zc9,tY,dJ]
     rw [hsz _ _ _ _ h1];simp
    obtain⟨ρ',q1,q2,q3⟩:=qI (ty:=e) (hX:=Xct.low (qF hzv) (by have:=hlen;rw [aZ] at this;omega)) (e:=e) (cells:=cells) (cs:=cs) (m:=m) (len:=len) (cap:=len) (c:=len) (ex:=true) R (Uu h2) (by rw [<-hlen,aZ];exact zac _) (zac _) (zac _) (λ_=> rfl) (by rw [hfl];exact zac _);refine⟨_,ρ',_,?_,q1,q2,q3⟩;have hnb:¬len*m > 2 ^ 24:=by omega
    simp only [Instr.buildSlice,Sem.run_bind,run_underlying (mD he),Result.andThen_ok,dK hs,hnb,if_false];rcases hz0 with⟨h0,rfl⟩ | ⟨h0,rfl⟩
    ·rw [if_pos h0];simp only [Result.andThen_ok,h1,Sem.run_bind,newRow,run_newObj,Sem.run_pure];rfl
    ·rw [if_neg h0];simp only [Result.andThen_ok,h1,Sem.run_bind,newRow,run_newObj,Sem.run_pure,eU hzv];rfl
theorem JY(R:Rel ρ H w){t:TypeId}{x y:AV}{cx cy:Value}(hx:RV ρ H.gen w x cx)(hy:RV ρ H.gen w y cy)(h:nI P t x y H=some (v,H')):Ok P ρ H w (Instr.makeSlice t cx cy) v H':=by
 unfold nI at h;split at h <;> first | (cases h;done) | skip
 rename_i e k1 l k2 c he;simp only [RV] at hx hy;subst hx hy;cases hs:szT P e with
 | none=> simp [hs] at h
 | some m=>
  cases hb:uM P e with
  | none=> simp [hs,hb] at h
  | some by_=>
   cases hz:uH P e with
   | none=> simp [hs,hb,hz] at h
   | some z=>
    simp only [hs,hb,hz] at h;obtain⟨zv,hzv,rfl⟩:=wH hz;split at h <;> first | (cases h;done) | skip
    rename_i hcond;obtain⟨hzl,hcell,h0,h1,h2,h3⟩:=hcond;simp at hzl;simp only [zaa,zad] at h;obtain⟨rfl,rfl⟩:=h;cases acw:P.info? e with
    | none=> simp [szT,acw] at hs
    | some inf=>
     simp [szT,acw] at hs;simp [uM,acw] at hb;have hzi:inf.zero=some zv:=by simpa [acw] using Ya hzv
     have hrun:=run_make (P:=P) (w:=w) t e inf zv (mD he) acw hzi k1 k2 l c h0 h1 (by rw [hb];omega) (by omega);have ZV:=rW (ρ:=ρ) (G:=H.gen) (w:=w) zv c.toNat;have heq:((Array.range (c.toNat*zv.cells.size)).map (zv.cells[· % zv.cells.size]!))=madeCells zv.cells (c.toNat*inf.size):=by
      rw [madeCells,hs,hzl]
     have hml:(madeCells zv.cells (c.toNat*inf.size)).size=c.toNat*m:=by rw [size_madeCells,hs]
     have hzz:(dh (zv.cells.toList.map .s) c.toNat).length=c.toNat*m:=by rw [gV];simp [hzl]
     obtain⟨ρ',q1,q2,q3⟩:=qI (ty:=e) (hX:=Xct.low (qF hzv) (by rw [hml,hzz])) (e:=e) (cells:=dh (zv.cells.toList.map .s) c.toNat) (cs:=madeCells zv.cells (c.toNat*inf.size)) (m:=m) (len:=l.toNat) (cap:=c.toNat) (c:=c.toNat) (ex:=true) R
      (Uu (by rw [heq] at ZV;exact ZV)) (by rw [hml,hzz];exact zac _) (by omega) (zac _) (λ_=> rfl) (by rw [hml];exact zac _)
     exact⟨_,ρ',_,hrun,q1,q2,q3⟩
end
section
variable {P:Program}{ρ:Ren}{G:Nat->Nat}{H H':ah}{w:World}{v:AV}
theorem Nj {t:TypeId}{k:IntKind}{e:TypeId}(h:aey P t=some (k,e)):∃kt,P.underlying t=some (.map kt e)/\P.underlying kt=some (.int k):=by
 unfold aey at h;split at h
 ·rename_i kt e' hu;split at h
  ·rename_i ik hk;simp only [zaa,zad] at h;obtain⟨rfl,rfl⟩:=h;exact⟨kt,hu,hk⟩
  ·cases h
 ·cases h
theorem lS {b:Nat}{ces:Array MapEntry}{cl:Nat}(h:w.heap[b]?=some (.map ces cl)):(getObj b).run P w=.ok (.map ces cl) w:=by
 simp [getObj,Sem.run,h]
theorem tZ {b:Nat}{ces:Array MapEntry}{cl:Nat}{o:Obj}(h:w.heap[b]?=some (.map ces cl)):(setObj b o).run P w=.ok () (jd w b o):=by
 simp [setObj,Sem.run,h,jd]
theorem rX {kt:TypeId}{k:IntKind}{n:Int}(hk:P.underlying kt=some (.int k))(e:Bool)(d:Nat):(Instr.checkKey e (d+1) kt (.int k n)).run P w=.ok () w:=by
 simp [Instr.checkKey,run_underlying hk]
theorem oK {k:IntKind}{n:Int}:∀(es:List (Int × AV)) (l:List MapEntry) (i:Nat),RVm ρ G w k es l->oz es n=none->Instr.findNow (.int k) (.int k n) l i=some none
 | [],l,i,h,_=> by simp only [RVm] at h;subst h;rfl
 | (m,x)::es,l,i,h,hf=> by
  obtain⟨e,l',rfl,hk,_,h2⟩:=(by simpa only [RVm] using h)
  simp only [oz] at hf;split at hf
  ·cases hf
  ·rename_i hne;simp only [Instr.findNow,hk,Instr.sameNow];have:(n==m)=false:=by simp;omega
   simp [this,oK es l' (i+1) h2 hf]
theorem oL {k:IntKind}{n:Int}{x:AV}:∀(es:List (Int × AV)) (l:List MapEntry) (i:Nat),RVm ρ G w k es l->oz es n=some x->
  ∃j e,Instr.findNow (.int k) (.int k n) l i=some (some (i+j,e.val))/\l[j]?=some e/\e.key=.int k n/\RV ρ G w x e.val/\
   (∀y cy,RV ρ G w y cy->RVm ρ G w k (ML es n y) (l.modify j λe=> { e with key:=.int k n,val:=cy }))/\RVm ρ G w k (Ai es n) (l.eraseIdx j)
 | [],l,i,h,hf=> by simp [oz] at hf
 | (m,z)::es,l,i,h,hf=> by
  obtain⟨e,l',rfl,hk,h1,h2⟩:=(by simpa only [RVm] using h)
  simp only [oz] at hf;split at hf
  ·rename_i heq;cases hf;subst heq;refine⟨0,e,?_,rfl,hk,h1,λy cy hy=> ?_,?_⟩
   ·simp [Instr.findNow,hk,Instr.sameNow]
   ·simp only [ML,if_true,List.modify_zero_cons,RVm];exact⟨_,_,rfl,rfl,hy,h2⟩
   ·simpa only [Ai,if_true,List.eraseIdx_zero,List.tail_cons] using h2
  ·rename_i hne;obtain⟨j,e',p1,p2,p3,p4,p5,p6⟩:=oL es l' (i+1) h2 hf;refine⟨j+1,e',?_,by simpa using p2,p3,p4,λy cy hy=> ?_,?_⟩
   ·have:(n==m)=false:=by simp;omega
    simp only [Instr.findNow,hk,Instr.sameNow,if_true,this];rw [p1,show i+1+j=i+(j+1) from by omega]
   ·simp only [ML,if_neg hne,List.modify_succ_cons,RVm];exact⟨_,_,rfl,hk,h1,p5 y cy hy⟩
   ·simp only [Ai,if_neg hne,List.eraseIdx_cons_succ,RVm];exact⟨_,_,rfl,hk,h1,p6⟩
theorem JZ {k:IntKind}{n:Int}{y:AV}{cy:Value}{born:Nat}(hy:RV ρ G w y cy):∀(es:List (Int × AV)) (l:List MapEntry),RVm ρ G w k es l->oz es n=none->RVm ρ G w k (ML es n y) (l++[{ key:=.int k n,val:=cy,born }])
 | [],l,h,_=> by
  simp only [RVm] at h;subst h;simp only [ML,zaS,RVm];exact⟨_,_,rfl,rfl,hy,rfl⟩
 | (m,z)::es,l,h,hf=> by
  obtain⟨e,l',rfl,hk,h1,h2⟩:=(by simpa only [RVm] using h)
  simp only [oz] at hf;split at hf
  ·cases hf
  ·rename_i hne;simp only [ML,if_neg hne,zbf,RVm];exact⟨_,_,rfl,hk,h1,JZ hy es l' h2 hf⟩
theorem Fp {n:Int}:∀(es:List (Int × AV)),oz es n=none->Ai es n=es
 | [],_=> rfl
 | (m,z)::es,hf=> by
  simp only [oz] at hf;split at hf
  ·cases hf
  ·rename_i hne;simp only [Ai,if_neg hne,Fp es hf]
theorem lT {kt:TypeId}{k:IntKind}{n:Int}{l:List MapEntry}{r:Option (Nat × Value)}(hk:P.underlying kt=some (.int k))(h:Instr.findNow (.int k) (.int k n) l 0=some r):
  (Instr.findKey kt (.int k n) l).run P w=.ok r w:=by
 simp [Instr.findKey,run_underlying hk,h]
theorem Born.push {es:List MapEntry}{cl:Nat}(h:Born es cl){key val:Value}:Born (es++[{ key,val,born:=cl }]) (cl+1):=by
 obtain⟨h1,h2⟩:=h;refine⟨λx hx=> ?_,?_⟩
 ·rcases zaO.1 hx with hx | hx
  ·exact Nat.lt_succ_of_lt (h1 x hx)
  ·rw [zaI] at hx;subst hx;exact Nat.lt_succ_self _
 ·rw [zbb];refine zbj.2 ⟨h2,by simp,λa ha c hc=> ?_⟩;simp only [zaA,zbz,zaI] at hc;subst hc;obtain⟨x,hx,rfl⟩:=zaD.1 ha;exact zbO (h1 x hx)
theorem rY {g:MapEntry->MapEntry}(hg:∀e,(g e).born=e.born):∀(es:List MapEntry) (j:Nat),(es.modify j g).map (·.born)=es.map (·.born)
 | [],j=> by simp
 | e::es,0=> by simp [hg]
 | e::es,j+1=> by simp [rY hg es j]
theorem Born.modify {es:List MapEntry}{cl:Nat}(h:Born es cl){j:Nat}{g:MapEntry->MapEntry}(hg:∀e,(g e).born=e.born):Born (es.modify j g) cl:=by
 have hm:=rY hg es j;refine⟨λx hx=> ?_,by rw [hm];exact h.2⟩;have:x.born∈es.map (·.born):=by rw [<-hm];exact zaD.2 ⟨x,hx,rfl⟩
 obtain⟨y,hy,e⟩:=zaD.1 this;have:=h.1 y hy;rw [<-e];exact this
theorem Born.erase {es:List MapEntry}{cl:Nat}(h:Born es cl){j:Nat}:Born (es.eraseIdx j) cl:=
 ⟨λx hx=> h.1 x ((zcA _ _).mem hx),h.2.sublist ((zcA _ _).map _)⟩
theorem G8(R:Rel ρ H w){r:Nat}{k:IntKind}{es:List (Int × AV)}{cx:Value}(hx:RV ρ H.gen w (.mp r) cx)(ho:H.get r=.map k es):
  ∃b ces cl,cx=.map (some b)/\ρ r=some (b,0)/\w.heap[b]?=some (.map ces cl)/\RVm ρ H.gen w k es ces.toList/\Born ces.toList cl:=by
 simp only [RV] at hx;obtain⟨b,rfl,hr⟩:=hx;have hr:=hr (by simp [ah.gen,ho,eP.gen]);have ru:=R.obj r b 0 hr;simp only [uZ,ho] at ru;obtain⟨ces,cl,h1,_,h2,h3⟩:=ru;exact⟨b,ces,cl,rfl,hr,h1,h2,h3⟩
theorem Uw(R:Rel ρ H w){t:TypeId}{x i:AV}{ok:Bool}{cx ci:Value}(hx:RV ρ H.gen w x cx)(hi:RV ρ H.gen w i ci)(h:MQ P t x i ok H=some (v,H')):H'=H/\OkP P ρ H.gen w (Instr.lookup t cx ci ok) v:=by
 obtain⟨h',hh⟩:=qH h
 clear h
 subst hh;have h:=h'
 clear h'
 refine⟨rfl,?_⟩;unfold Ul at h;split at h <;> first | (cases h;done) | skip
 rename_i k e hm;obtain⟨kt,hu,hk⟩:=Nj hm;split at h <;> first | (cases h;done) | skip
 rename_i z hz;split at h <;> first | (cases h;done) | skip
 rename_i r;split at h <;> first | (cases h;done) | skip
 rename_i k' n;split at h <;> first | (cases h;done) | skip
 rename_i k'' es ho;simp only [dO,zaf,zaa] at ho;split at h <;> first | (cases h;done) | skip
 rename_i hkk;obtain⟨rfl,rfl⟩:=hkk;obtain⟨b,ces,cl,rfl,hr,hb,hes,hbn⟩:=G8 R hx ho;simp only [RV] at hi;subst hi;have hck:∀e',(Instr.checkKey e' 10000 kt (.int k'' n)).run P w=.ok () w:=λe'=> rX hk e' 9999;cases hf:oz es n with
 | none=>
  simp only [hf,zaa] at h;subst h;have hfind:=lT (P:=P) (w:=w) hk (oK es ces.toList 0 hes hf);refine⟨if ok then .tuple #[z,.bool false] else z,?_,?_⟩
  ·simp only [Instr.lookup,Sem.run_bind,run_underlying hu,Result.andThen_ok,lS hb,Sem.run_pure,hck,hfind,eU hz]
  ·cases ok
   ·simp only [RV,zaj,if_false]
   ·simp only [RV,if_true];exact⟨_,rfl,iD (by simp only [RV]) (iD (by simp only [RV]) iG)⟩
 | some y=>
  simp only [hf,zaa] at h;subst h;obtain⟨j,en,p1,p2,p3,p4,_⟩:=oL es ces.toList 0 hes hf;have hfind:=lT (P:=P) (w:=w) hk p1;refine⟨if ok then .tuple #[en.val,.bool true] else en.val,?_,?_⟩
  ·simp only [Instr.lookup,Sem.run_bind,run_underlying hu,Result.andThen_ok,lS hb,Sem.run_pure,hck,hfind]
  ·cases ok
   ·simpa only [zaj,if_false] using p4
   ·simp only [RV,if_true];exact⟨_,rfl,iD p4 (iD (by simp only [RV]) iG)⟩
theorem J3(R:Rel ρ H w){t:TypeId}{x i y:AV}{cx ci cy:Value}(hx:RV ρ H.gen w x cx)(hi:RV ρ H.gen w i ci)(hy:RV ρ H.gen w y cy)(h:pK P t x i y H=some (v,H')):
  v=aV/\∃ρ' w',(Instr.mapUpdate t cx ci cy).run P w=.ok () w'/\Rel ρ' H' w'/\Ext ρ H w ρ' H' w':=by
 unfold pK at h;split at h <;> first | (cases h;done) | skip
 rename_i k e r k' n hm;obtain⟨kt,hu,hk⟩:=Nj hm;split at h <;> first | (cases h;done) | skip
 rename_i k'' es ho;split at h <;> first | (cases h;done) | skip
 rename_i hkk;obtain⟨rfl,rfl,_⟩:=hkk;simp only [zaa,zad] at h;obtain⟨rfl,rfl⟩:=h;obtain⟨b,ces,cl,rfl,hr,hb,hes,hbn⟩:=G8 R hx ho;simp only [RV] at hi;subst hi;have hck:(Instr.checkKey false 10000 kt (.int k'' n)).run P w=.ok () w:=rX hk false 9999;cases hf:oz es n with
 | none=>
  have hfind:=lT (P:=P) (w:=w) hk (oK es ces.toList 0 hes hf);have hput:=GY (es':=ML es n y) (XZ:=ces.push { key:=.int k'' n,val:=cy,born:=cl }) (cl':=cl+1) R hr ho hb (by rw [Array.toList_push];exact JZ hy es _ hes hf) (by rw [Array.toList_push];exact hbn.push);refine⟨rfl,ρ,_,?_,hput.1,hput.2⟩;simp only [Instr.mapUpdate,Sem.run_bind,run_underlying hu,Result.andThen_ok,lS hb,hck,hfind,tZ hb]
 | some z=>
  obtain⟨j,en,p1,p2,p3,p4,p5,_⟩:=oL es ces.toList 0 hes hf;rw [za4] at p1;have hfind:=lT (P:=P) (w:=w) hk p1;have hput:=GY (es':=ML es n y) (XZ:=ces.modify j λe=> { e with key:=.int k'' n,val:=cy }) (cl':=cl) R hr ho hb (by rw [Array.toList_modify];exact p5 y cy hy) (by rw [Array.toList_modify];exact hbn.modify λ_=> rfl);refine⟨rfl,ρ,_,?_,hput.1,hput.2⟩;have hg:ces[j]?=some en:=by simpa using p2
  have aiP:Instr.keyThatStays en.key (.int k'' n)=pure (.int k'' n):=by
   rw [p3];simp [Instr.keyThatStays,Instr.sameBits]
  simp only [Instr.mapUpdate,Sem.run_bind,run_underlying hu,Result.andThen_ok,lS hb,hck,hfind,hg,zaf,zax,aiP,Sem.run_pure,tZ hb]
theorem Ux(R:Rel ρ H w){t ty:TypeId}{ts:Array TypeId}{x i:AV}{cx ci:Value}(ht:ts[0]?=some t)(hx:RV ρ H.gen w x cx)(hi:RV ρ H.gen w i ci)(h:GR P t x i H=some (v,H')):
  Ok P ρ H w (Builtin.delete_ ts ty #[cx,ci]) v H':=by
 unfold GR at h;split at h <;> first | (cases h;done) | skip
 rename_i k e r k' n hm;obtain⟨kt,hu,hk⟩:=Nj hm;split at h <;> first | (cases h;done) | skip
 rename_i k'' es ho;split at h <;> first | (cases h;done) | skip
 rename_i hkk;obtain⟨rfl,rfl,_⟩:=hkk;simp only [zaa,zad] at h;obtain⟨rfl,rfl⟩:=h;obtain⟨b,ces,cl,rfl,hr,hb,hes,hbn⟩:=G8 R hx ho;simp only [RV] at hi;subst hi;have hck:∀e',(Instr.checkKey e' 10000 kt (.int k'' n)).run P w=.ok () w:=λe'=> rX hk e' 9999;have a0:(#[Value.map (some b),Value.int k'' n]:Array Value)[0]?=some (.map (some b)):=rfl;have a1:(#[Value.map (some b),Value.int k'' n]:Array Value)[1]?=some (.int k'' n):=rfl;cases hf:oz es n with
 | none=>
  have hfind:=lT (P:=P) (w:=w) hk (oK es ces.toList 0 hes hf);have hput:=GY (es':=Ai es n) (XZ:=ces) (cl':=cl) R hr ho hb (by rw [Fp es hf];exact hes) hbn;refine⟨.tuple #[],ρ,_,?_,hput.1,by simp only [RV];exact⟨_,rfl,iG⟩,hput.2⟩;simp only [Builtin.delete_,ht,a0,a1,Sem.run_bind,run_underlying hu,Result.andThen_ok,lS hb,hck,hfind,tZ hb,Sem.run_pure]
 | some z=>
  obtain⟨j,en,p1,p2,p3,p4,_,p6⟩:=oL es ces.toList 0 hes hf;rw [za4] at p1;have hfind:=lT (P:=P) (w:=w) hk p1;have hput:=GY (es':=Ai es n) (XZ:=ces.eraseIdxIfInBounds j) (cl':=cl) R hr ho hb (by
   have:(ces.eraseIdxIfInBounds j).toList=ces.toList.eraseIdx j:=by simp
   rw [this];exact p6) (by
   have:(ces.eraseIdxIfInBounds j).toList=ces.toList.eraseIdx j:=by simp
   rw [this];exact hbn.erase)
  refine⟨.tuple #[],ρ,_,?_,hput.1,by simp only [RV];exact⟨_,rfl,iG⟩,hput.2⟩;simp only [Builtin.delete_,ht,a0,a1,Sem.run_bind,run_underlying hu,Result.andThen_ok,lS hb,hck,hfind,tZ hb,Sem.run_pure]
theorem RP(R:Rel ρ H w){t:TypeId}(h:tX P t H=some (v,H')):Ok P ρ H w (Instr.makeMap t none) v H':=by
 unfold tX at h;split at h <;> first | (cases h;done) | skip
 rename_i k e hm;simp only [zaa,zad] at h;obtain⟨rfl,rfl⟩:=h;have E:=GX R (o:=.map k []) (co:=.map #[] 0);refine⟨.map (some w.heap.size),_,_,by simp [Instr.makeMap],Uo R ⟨#[],0,jh w _,rfl,by simp [RVm],by simp [Born]⟩,?_,E⟩;simp only [RV];exact⟨_,rfl,λ_=> by simp [updρ]⟩
theorem aeN(R:Rel ρ H w){t ty:TypeId}{x:AV}{cx:Value}(hx:RV ρ H.gen w x cx)(h:aeI P t x H=some (v,H')):H'=H/\OkP P ρ H.gen w (Builtin.len_ #[t] ty #[cx]) v:=by
 have a0:(#[t]:Array TypeId)[0]?=some t:=rfl;have a1:(#[cx]:Array Value)[0]?=some cx:=rfl;obtain⟨h',hh⟩:=qH h
 clear h
 subst hh;have h:=h'
 clear h'
 refine⟨rfl,?_⟩;unfold air at h;cases hu:P.underlying t with
 | none=> simp [hu] at h
 | some d=>
  cases d with
  | slice e=>
   simp only [hu] at h;split at h <;> first | (cases h;done) | skip
   all_goals
    simp only [zaa] at h;subst h;simp only [RV] at hx
   ·obtain⟨_,_,_,rfl,_⟩:=hx;exact⟨_,by simp [Builtin.len_,run_underlying hu];rfl,by simp only [RV,goInt]⟩
   ·obtain⟨_,_,_,rfl,_⟩:=hx;exact⟨_,by simp [Builtin.len_,run_underlying hu];rfl,by simp only [RV,goInt]⟩
   ·subst hx;exact⟨_,by simp [Builtin.len_,run_underlying hu];rfl,by simp only [RV,goInt]⟩
  | string=>
   simp only [hu] at h;split at h <;> first | (cases h;done) | skip
   simp only [zaa] at h;subst h;simp only [RV] at hx;subst hx;exact⟨_,by simp [Builtin.len_,run_underlying hu];rfl,by simp only [RV,goInt]⟩
  | map kt e=>
   simp only [hu] at h;split at h <;> first | (cases h;done) | skip
   ·split at h <;> first | (cases h;done) | skip
    rename_i k es ho;simp only [dO,zaf,zaa] at ho;simp only [zaa] at h;subst h;obtain⟨b,ces,cl,rfl,hr,hb,hes,hbn⟩:=G8 R hx ho;have hl:ces.size=es.length:=by
     have:∀(es:List (Int × AV)) (l:List MapEntry),RVm ρ H'.gen w k es l->l.length=es.length:=by
      intro es
      induction es with
      | nil=> intro l h;simp only [RVm] at h;subst h;rfl
      | cons p es ih=>
       intro l h;obtain⟨m,z⟩:=p;obtain⟨e,l',rfl,_,_,h2⟩:=(by simpa only [RVm] using h)
       simp [ih l' h2]
     rw [<-this es _ hes,aZ]
    refine⟨.int .i64 es.length,?_,by simp only [RV]⟩;simp only [Builtin.len_,a0,a1,Sem.run_bind,run_underlying hu,Result.andThen_ok,lS hb,Sem.run_pure,goInt,hl]
   ·simp only [zaa] at h;subst h;simp only [RV] at hx;subst hx;exact⟨.int .i64 0,by simp [Builtin.len_,run_underlying hu,goInt],by simp only [RV]⟩
  | _=> simp [hu] at h
theorem aeO {t ty:TypeId}{x:AV}{cx:Value}(hx:RV ρ G w x cx)(h:ZT P t x=some v):OkP P ρ G w (Builtin.cap_ #[t] ty #[cx]) v:=by
 unfold ZT at h;cases hu:P.underlying t with
 | none=> simp [hu] at h
 | some d=>
  cases d with
  | slice e=>
   simp only [hu] at h;split at h <;> first | (cases h;done) | skip
   all_goals
    simp only [zaa] at h;subst h;simp only [RV] at hx
   ·obtain⟨_,_,c,rfl,_,_,h3,_⟩:=hx;rw [h3 trivial];exact⟨_,by simp [Builtin.cap_,run_underlying hu];rfl,by simp only [RV,goInt]⟩
   ·subst hx;exact⟨_,by simp [Builtin.cap_,run_underlying hu];rfl,by simp only [RV,goInt]⟩
  | _=> simp [hu] at h
theorem J4 {mx:Bool}{ts:Array TypeId}{ty:TypeId}{xs:List AV}{cs:Array Value}(hx:RVs ρ G w xs cs.toList)(h:jm P mx ts ty xs=some v):
  OkP P ρ G w (if mx then Builtin.max_ ts ty cs else Builtin.min_ ts ty cs) v:=by
 unfold jm at h;cases hv:vals? xs with
 | none=> simp [hv] at h
 | some vs=>
  simp only [hv] at h;have he:=G5 xs _ vs hx hv;have:cs=vs.toArray:=by rw [<-he]
  rw [this];cases hp:gI P (if mx=true then Builtin.max_ ts ty vs.toArray else Builtin.min_ ts ty vs.toArray) with
  | none=> simp [hp] at h
  | some u=> simp [hp] at h;subst h;exact⟨u,kL hp w,by simp only [RV]⟩
end
theorem Ext.drew(ρ:Ren)(H:ah)(w:World):Ext ρ H w ρ H w.drew where
 next:=zac _
 mono:=λ_=> zac _
 same:=λ_ _ h _=> h
 kept:=λ_ _ h=> h
 range:=λ_ _ sh h=> .inr ⟨sh,h⟩
 size:=zac _
 frame:=λ_ _ _=> rfl
 shape:=λ_ _=> rfl
 os:=rfl
 tape:=rfl
 output:=rfl
theorem Rel.drew {ρ:Ren}{H:ah}{w:World}(R:Rel ρ H w):Rel ρ H w.drew where
 out:=R.out
 obj:=λr b sh h=> uZ.mono (Ext.drew ρ H w).toMono rfl (R.obj r b sh h)
 inj:=R.inj
 gl:=R.gl.ext (Ext.drew ρ H w)
theorem G9 {ρ:Ren}{H:ah}{w:World}{r:Nat}{y:Nat × Nat}(hx:ρ r=some y){co:Obj}{o:eP}(hg:H.gen r < o.gen):Ext ρ H w (updρ ρ r (w.heap.size,0)) (H.put r o) (w.alloc co) where
 next:=zac _
 mono:=λx=> by rw [qG];split <;> simp_all;omega
 same:=λx y hx h=> by
  rw [qG] at h;unfold updρ
  split
  ·rename_i e;subst e;simp at h;omega
  ·exact hx
 kept:=λx _ h=> by
  unfold updρ
  split
  ·rename_i e;subst e;rw [hx] at h;cases h
  ·exact h
 range:=λx b' s h=> by
  unfold updρ at h;split at h
  ·cases h;exact .inl (zac _)
  ·exact .inr ⟨_,h⟩
 size:=by simp
 frame:=λb hb _=> by simp only [World.alloc,za5,if_neg (zbO hb)]
 shape:=λb hb=> by
  rw [dP,dP];simp only [World.alloc,za5,if_neg (zbO hb)]
 os:=rfl
 tape:=rfl
 output:=rfl
theorem Yh {ρ:Ren}{H:ah}{w:World}(R:Rel ρ H w){r:Nat}(hr:r < H.next){y:Nat × Nat}(hy:ρ r=some y){co:Obj}{o:eP}(hg:H.gen r < o.gen)
  (ho:uZ (updρ ρ r (w.heap.size,0)) (H.put r o).gen (w.alloc co) o w.heap.size 0):Rel (updρ ρ r (w.heap.size,0)) (H.put r o) (w.alloc co) where
 out:=λx hx=> by
  have hx':H.next<=x:=hx
  have hne:x≠r:=by omega
  rw [qG,if_neg hne];unfold updρ;rw [if_neg hne];exact R.out x hx'
 obj:=λx b' s h=> by
  unfold updρ at h;by_cases e:x=r
  ·subst e;simp at h;obtain⟨rfl,rfl⟩:=h
   simpa [ah.put] using ho
  ·rw [if_neg e] at h;have:(H.put r o).get x=H.get x:=by simp [ah.put,e]
   rw [this];have hb:=R.block h;exact uZ.mono (G9 (ρ:=ρ) (w:=w) (co:=co) hy hg).toMono (by simp only [World.alloc,za5,if_neg (zbO hb)]) (R.obj x b' s h)
 inj:=λx y b' s s' h h'=> by
  unfold updρ at h h';split at h <;> split at h'
  ·simp_all
  ·cases h;have:=R.block h';omega
  ·cases h';have:=R.block h;omega
  ·exact R.inj _ _ _ _ _ h h'
 gl:=R.gl.ext (G9 (ρ:=ρ) (w:=w) (co:=co) hy hg)
theorem Yi {ρ:Ren}{H:ah}{w:World}(R:Rel ρ H w){r g':Nat}(hr:r < H.next){y:Nat × Nat}(hy:ρ r=some y)(hg:H.gen r < g'){ty e:TypeId}{cells:List AV}{cs:Array Value}(hl:cells.length<=cs.size)
  (hc:∀(i:Nat) (x:AV),cells[i]?=some x->∃v,cs[i]?=some v/\RV ρ H.gen w x v) (hX:Xct ty e 0 cs.size cells.length):
  Rel (updρ ρ r (w.heap.size,0)) (H.put r (.blk g' ty cells)) (w.alloc (.cells cs e))/\Ext ρ H w (updρ ρ r (w.heap.size,0)) (H.put r (.blk g' ty cells)) (w.alloc (.cells cs e)):=by
 have E:=G9 (ρ:=ρ) (H:=H) (w:=w) (r:=r) (o:=.blk g' ty cells) (co:=.cells cs e) hy hg;refine⟨Yh R hr hy hg ⟨cs,e,jh w _,by omega,?_,hX⟩,E⟩;refine oJ (jh w _) λi x hx=> ?_;obtain⟨v,hv,h1⟩:=hc i x hx;exact⟨v,by simpa using hv,R.keep E h1⟩
section
variable {P:Program}{ρ:Ren}{H H':ah}{w:World}{v:AV}
theorem iR(R:Rel ρ H w){y:AV}{cy:Value}{n m:Nat}{new:List AV}(hy:RV ρ H.gen w y cy)(hl:jC y=some n)(hc:bI H y=some new)(hn:new.length=n*m):
  (Builtin.lenOf cy).run P w=.ok n w/\∃arr:Array Value,(Builtin.firstCells m n cy).run P w=.ok arr w/\RVs ρ H.gen w new arr.toList:=by
 unfold jC at hl;split at hl <;> first | (cases hl;done) | skip
 ·simp only [zaa] at hl;subst hl;rename_i r g off esz len cap ex;simp only [RV] at hy;obtain⟨b,o,c,rfl,q1,q2,q3,q4,q5⟩:=hy;simp only [bI] at hc;split at hc <;> first | (cases hc;done) | skip
  rename_i g' ty cells ho;split at hc <;> first | (cases hc;done) | skip
  rename_i hcond;obtain⟨rfl,hle⟩:=hcond;simp only [zaa] at hc;subst hc;obtain⟨sh,e,k,hr,hoo,hsh,hcap⟩:=q5 (by simp [ah.gen,ho,eP.gen]);have ru:=R.obj r b sh hr;simp only [uZ,ho] at ru;obtain⟨cs,e',hb,hz,hcc,_⟩:=ru;refine⟨by simp [Builtin.lenOf],?_⟩;by_cases h0:len=0
  ·subst h0;refine⟨#[],?_,by simp [RVs]⟩;simp [Builtin.firstCells,loadCells,loadCellsFrom]
  ·have ho':=hoo (by omega);have hcells:RVc ρ H.gen w ((cells.drop off).take (len*esz)) b (sh+off):=qE _ (oI _ hcc);obtain⟨l,hl',h1⟩:=kZ (P:=P) hcells;rw [hn] at hl';exact⟨l.toArray,by simp only [Builtin.firstCells,ho'];exact hl',by simpa using h1⟩
 ·simp only [zaa] at hl;subst hl;simp only [RV] at hy;obtain⟨b,o,c,rfl,q1,q2,q3,q4,q5⟩:=hy;simp only [bI,zaa] at hc;subst hc;refine⟨by simp [Builtin.lenOf],?_⟩;obtain⟨l,hl',h1⟩:=kZ (P:=P) q5;rw [hn] at hl';exact⟨l.toArray,by simp only [Builtin.firstCells];exact hl',by simpa using h1⟩
 ·simp only [zaa] at hl;subst hl;simp only [RV] at hy;subst hy;simp only [bI,zaa] at hc;subst hc;exact⟨by simp [Builtin.lenOf],#[],by simp [Builtin.firstCells],by simp [RVs]⟩
 ·simp only [zaa] at hl;subst hl;simp only [RV] at hy;subst hy;simp only [bI,zaa] at hc;subst hc;rename_i s;refine⟨by simp [Builtin.lenOf],(s.data.map λb=> .int .u8 b.toNat),?_,?_⟩
  ·have:s.extract 0 s.size=s:=by
    apply ByteArray.ext
    simp
   simp [Builtin.firstCells,this]
  ·have:(s.data.map λb=> Value.int .u8 b.toNat).toList=s.data.toList.map λb=> .int .u8 b.toNat:=by simp
   rw [this];have h2:(s.data.toList.map λb=> AV.s (.int .u8 b.toNat))=(s.data.toList.map λb=> Value.int .u8 b.toNat).map .s:=by simp
   rw [h2];exact fJ _
def oU(elem:TypeId)(size:Nat)(zeros:Bool)(n:Nat)(appended:Sem (Array Value))(base:Option Addr)(sLen sCap:Nat)(s x:Value):Sem Value:=do
 let need:=sLen+n
 if need<=sCap then
  let new<-appended
  if let some a:=base then storeCells (a.add (sLen*size)) new.toList
  pure (.slice base need sCap)
 else
  if(need:Int) > IntKind.i64.max∧(zeros∨(←typeInfo elem).bytes=0) then runtimePanic (.error "growslice: len out of range")
  if Builtin.nextslicecap need sCap*(←typeInfo elem).bytes > 2 ^ 48 then(if zeros then runtimePanic (.error "growslice: len out of range") else do
   if !(<-Builtin.mayShare size sLen n base x) then mark .noRoom
   unsupported (.resourceLimit "append: a slice or a string whose bytes no memory bears"))
  let newCap<-choose (.appendCap need sCap elem)
  askRoom (newCap*(<-typeInfo elem).bytes)
  let old<-Builtin.firstCells size sLen s;let new<-appended;let rest:=Builtin.zeroCells (<-zeroValue elem).cells (newCap - need)
  pure (.slice (some (<-newRow elem (old++new++rest))) need newCap)
theorem ZW {α:Type}(a b:α):(if false=true then a else b)=b:=rfl
theorem aeP {α:Type}(a b:α):(if true=true then a else b)=a:=rfl
theorem CB {t u ty e:TypeId}{d:TypeDesc}{m n sLen sCap:Nat}{base:Option Addr}{cy:Value}(hu:P.underlying t=some (.slice e))(hs:szT P e=some m)(hd:P.underlying u=some d)(hnd:∀k,d≠.int k)
  (hl:(Builtin.lenOf cy).run P w=.ok n w):
  (Builtin.append_ #[t,u] ty #[.slice base sLen sCap,cy]).run P w=(oU e m false n (Builtin.firstCells m n cy) base sLen sCap (.slice base sLen sCap) cy).run P w:=by
 have a0:(#[t,u]:Array TypeId)[0]?=some t:=rfl;have a1:(#[t,u]:Array TypeId)[1]?=some u:=rfl;have a2:(#[Value.slice base sLen sCap,cy]:Array Value)[0]?=some (.slice base sLen sCap):=rfl;have a3:(#[Value.slice base sLen sCap,cy]:Array Value)[1]?=some cy:=rfl;cases d
 case int k=> exact absurd rfl (hnd k)
 all_goals
  simp only [Builtin.append_,a0,a1,a2,a3,Sem.run_bind,run_underlying hu,Result.andThen_ok,dK hs,run_underlying hd,Sem.run_pure,ZW,hl];rfl
theorem Ak {t u ty e:TypeId}{k:IntKind}{m by_ sLen sCap:Nat}{base:Option Addr}{k':IntKind}{n:Int}(hu:P.underlying t=some (.slice e))(hs:szT P e=some m)(hb:uM P e=some by_)(hd:P.underlying u=some (.int k))
  (h0:0<=n) (h1:n<=most) (h2:n*by_<=most):
  (Builtin.append_ #[t,u] ty #[.slice base sLen sCap,.int k' n]).run P w=
   (oU e m true n.toNat (if n.toNat*m=0 then pure #[] else do pure (Builtin.zeroCells (<-zeroValue e).cells n.toNat)) base sLen sCap (.slice base sLen sCap) (.int k' n)).run P w:=by
 have a0:(#[t,u]:Array TypeId)[0]?=some t:=rfl;have a1:(#[t,u]:Array TypeId)[1]?=some u:=rfl;have a2:(#[Value.slice base sLen sCap,.int k' n]:Array Value)[0]?=some (.slice base sLen sCap):=rfl;have a3:(#[Value.slice base sLen sCap,.int k' n]:Array Value)[1]?=some (.int k' n):=rfl;have hw:IntKind.i64.wrap n=n:=by rw [IntKind.wrap_i64];unfold most at h1;omega
 have acw:∃i,P.info? e=some i/\i.bytes=by_:=by
  unfold uM at hb;cases hi:P.info? e with
  | none=> simp [hi] at hb
  | some i=> simp [hi] at hb;exact⟨i,rfl,hb⟩
 obtain⟨i,hi,rfl⟩:=acw;have hn:¬n < 0:=by omega
 have hnb:¬n*(i.bytes:Int) > 2 ^ 48:=by unfold most at h2;omega
 simp only [-eq_self,Builtin.append_,a0,a1,a2,a3,Sem.run_bind,run_underlying hu,Result.andThen_ok,dK hs,run_underlying hd,Sem.run_pure,aeP,asInt,asIntOf,hw,hn,if_false,Aw hi,hnb];rfl
end
section
variable {P:Program}{ρ:Ren}{H H':ah}{w:World}{v:AV}
theorem Uy {e:TypeId}{b:Nat}(h:uM P e=some b):∃i,P.info? e=some i/\i.bytes=b:=by
 unfold uM at h;cases hi:P.info? e with
 | none=> simp [hi] at h
 | some i=> simp [hi] at h;exact⟨i,rfl,h⟩
theorem PK {e:TypeId}{m n by_ sLen sCap:Nat}{zeros:Bool}{appended:Sem (Array Value)}{base:Option Addr}{s x zv:Value}{old arr:Array Value}(hb:uM P e=some by_)(hz:wE P e=some zv)
  (aiQ:¬sLen+n<=sCap) (hmax:sLen+n<=most) (hbig:(sLen+n)*by_<=most) (hold:(Builtin.firstCells m sLen s).run P w.drew=.ok old w.drew) (happ:appended.run P w.drew=.ok arr w.drew):
  ∃c,sLen+n<=c/\(oU e m zeros n appended base sLen sCap s x).run P w=
   .ok (.slice (some ⟨w.heap.size,0,none⟩) (sLen+n) c) (w.drew.alloc (.cells (old++arr++Builtin.zeroCells zv.cells (c - (sLen+n))) e)):=by
 obtain⟨i,hi,rfl⟩:=Uy hb;unfold most at hmax hbig;have h1:¬(((sLen+n:Nat):Int) > IntKind.i64.max/\((zeros:Prop)∨i.bytes=0)):=by
  rintro⟨h,_⟩;rw [IntKind.max_i64] at h;omega
 have h2:¬Builtin.nextslicecap (sLen+n) sCap*i.bytes > 2 ^ 48:=by
  have:=growslice_fits (need:=sLen+n) (old:=sCap) (bytes:=i.bytes) (by omega) hbig;omega
 have hf:(Question.appendCap (sLen+n) sCap e).forced=false:=rfl;refine⟨(Question.appendCap (sLen+n) sCap e).cut (w.tape w.drawn (Question.appendCap (sLen+n) sCap e)),by simp [Question.cut],?_⟩;simp only [oU,if_neg aiQ,Sem.run_bind,Aw hi,Result.andThen_ok,if_neg h1,if_neg h2,Sem.run_pure,run_choose,hf,ZW,run_askRoom,World.drew_eq,hold,happ,eU hz,newRow,run_newObj,World.alloc_eq];rfl
theorem AA(R:Rel ρ H w){r g off esz len cap:Nat}{ex:Bool}{ty:TypeId}{cells:List AV}{cx:Value}(hx:RV ρ H.gen w (.sl r g off esz len cap ex) cx)(ho:H.get r=.blk g ty cells):
  ∃b o c sh cs e,cx=.slice (some ⟨b,o,none⟩) len c/\len<=cap/\cap<=c/\(ex=true->c=cap)/\ρ r=some (b,sh)/\(0 < c->o=sh+off)/\w.heap[b]?=some (.cells cs e (0,0))/\o+c*esz<=cs.size/\
   sh+cells.length<=cs.size/\RVc ρ H.gen w cells b sh:=by
 simp only [RV] at hx;obtain⟨b,o,c,rfl,q1,q2,q3,q4,q5⟩:=hx;obtain⟨sh,ty',k,hr,hoo,hsh,hcap⟩:=q5 (by simp [ah.gen,ho,eP.gen]);have ru:=R.obj r b sh hr;simp only [uZ,ho] at ru;obtain⟨cs,e,hb,hz,hcc,_⟩:=ru;have:cs.size=k:=by
  rw [dP,hb] at hsh;simp [zC] at hsh;exact hsh.2
 exact⟨b,o,c,sh,cs,e,rfl,q1,q2,q3,hr,hoo,hb,by omega,hz,hcc⟩
theorem uN(R:Rel ρ H w){e:TypeId}{m n by_:Nat}{zeros:Bool}{appended:Sem (Array Value)}{x:AV}{cx cy zv:Value}{new:List AV}(hs:szT P e=some m)(hb:uM P e=some by_)(hz:wE P e=some zv)(hzl:zv.cells.size=m)
  (hx:RV ρ H.gen w x cx) (happ:∀w',w'=w∨w'=w.drew->∃arr:Array Value,appended.run P w'=.ok arr w'/\RVs ρ H.gen w' new arr.toList)
  (h:dD e m by_ x n new H=some (v,H')):
  ∃base sLen sCap,cx=.slice base sLen sCap/\Ok P ρ H w (oU e m zeros n appended base sLen sCap cx cy) v H':=by
 unfold dD at h;split at h <;> first | (cases h;done) | skip
 rename_i hnew;obtain⟨hlen,hcell⟩:=hnew;split at h
 ·-- nil
  simp only [RV] at hx;subst hx;refine⟨none,0,0,rfl,?_⟩;by_cases h0:n=0
  ·subst h0;simp only [if_true,zaa,zad] at h;obtain⟨rfl,rfl⟩:=h;obtain⟨arr,ha,_⟩:=happ w (.inl rfl);refine OkP.ok ⟨.slice none 0 0,?_,by simp only [RV]⟩ R;simp [oU,ha]
  ·rw [if_neg h0] at h;split at h <;> first | (cases h;done) | skip
   rename_i hcond;simp only [zaa,zad] at h;obtain⟨rfl,rfl⟩:=h;obtain⟨arr,ha,hr⟩:=happ w.drew (.inr rfl);obtain⟨c,hc,hrun⟩:=PK (P:=P) (w:=w) (e:=e) (m:=m) (n:=n) (by_:=by_) (sLen:=0) (sCap:=0) (zeros:=zeros) (appended:=appended) (base:=none) (s:=.slice none 0 0) (x:=cy) (zv:=zv) (old:=#[]) (arr:=arr) hb hz (by omega) (by omega) (by simpa using hcond.2) (by simp [Builtin.firstCells]) ha;have hal:=bU hr;rw [aZ,hlen] at hal;obtain⟨ρ',q1,q2,q3⟩:=qI (ty:=e+gB) (hX:=Xct.grown) (e:=e) (cells:=new) (cs:=#[]++arr++Builtin.zeroCells zv.cells (c - (0+n))) (m:=m) (len:=n) (cap:=n) (c:=c) (ex:=false) R.drew
    (by
     have:(#[]++arr++Builtin.zeroCells zv.cells (c - (0+n))).toList.take new.length=arr.toList:=by
      rw [hlen,<-hal];simp
     rw [this];exact hr) (by rw [hlen];simp [hal]) (zac _) (by omega) (by simp) (by
     have h3:(Builtin.zeroCells zv.cells (c - (0+n))).size=(c - n)*m:=by simp [Builtin.zeroCells,hzl]
     rw [zcP,h3];simp only [zcP,zdj,zak,hal];rw [za4,<-zbB];have:n+(c - n)=c:=by omega
     rw [this];exact zac _)
   refine⟨_,ρ',_,hrun,q1,?_,(Ext.drew ρ H w).trans q3⟩
   simpa using q2
 ·rename_i r g off esz len cap ex;split at h <;> first | (cases h;done) | skip
  rename_i g' ty cells ho;split at h <;> first | (cases h;done) | skip
  rename_i hcond;obtain⟨rfl,rfl,hle⟩:=hcond;have hpl:=AA R hx ho;obtain⟨b,o,c,sh,cs,e',hcx,q1,q2,q3,hr,hoo,hbk,hcs,hz',hcc⟩:=hpl;subst hcx;refine⟨some ⟨b,o,none⟩,len,c,rfl,?_⟩;have hgen:H.gen r=g':=by simp [ah.gen,ho,eP.gen]
  have hfirst:∀w',(w'=w∨w'=w.drew)->∃arr:Array Value,(Builtin.firstCells esz len (.slice (some ⟨b,o,none⟩) len c)).run P w'=.ok arr w'/\RVs ρ H.gen w' ((cells.drop off).take (len*esz)) arr.toList:=by
   intro w' hw';have R':Rel ρ H w':=by
    rcases hw' with rfl | rfl
    ·exact R
    ·exact R.drew
   have hx':RV ρ H.gen w' (.sl r g' off esz len cap ex) (.slice (some ⟨b,o,none⟩) len c):=by
    rcases hw' with rfl | rfl
    ·exact hx
    ·exact R.keep (Ext.drew ρ H w) hx
   exact(iR (P:=P) (m:=esz) R' hx' rfl (by simp [bI,ho,hle]) (by simp;omega)).2
  by_cases h0:n=0
  ·subst h0;simp only [if_true,zaa,zad] at h;obtain⟨rfl,rfl⟩:=h;obtain⟨arr,ha,hra⟩:=happ w (.inl rfl);have harr:arr.toList=[]:=by
    have:=bU hra;rw [hlen] at this
    simpa using this
   refine OkP.ok ⟨.slice (some ⟨b,o,none⟩) len c,?_,hx⟩ R;simp [oU,ha,harr,storeCells,show len<=c by omega]
  ·rw [if_neg h0] at h;by_cases hin:len+n<=cap
   ·rw [if_pos hin] at h;split at h <;> first | (cases h;done) | skip
    rename_i hc2;simp only [zaa,zad] at h;obtain⟨rfl,rfl⟩:=h;obtain⟨arr,ha,hra⟩:=happ w (.inl rfl);have hal:=bU hra;rw [hlen] at hal;have hoff:o=sh+off:=hoo (by omega);have hmul:(len+n)*esz=len*esz+n*esz:=zbB _ _ _;have hst:=ji (P:=P) (o:=o+len*esz) arr.toList w cs 0 hbk (by
     rw [hal];have:(len+n)*esz<=c*esz:=zaz _ (by omega);omega) (nP hcell hra)
    have kX:Xct ty e' sh cs.size cells.length:=by
     have ru:=R.obj r b sh hr;simp only [uZ,ho] at ru;obtain⟨cs2,e2,k1,_,_,k4⟩:=ru;rw [hbk] at k1;cases k1;exact k4
    have hput:=Ci (hX:=by rw [dJ,gU _ _ _ (by rw [hlen];omega)];exact kX) (ty':=ty) (cells':=aP cells (off+len*esz) new) (cs':=jQ cs (o+len*esz) arr.toList) (g':=g') (sh':=sh) R hr hbk (dJ _ _ _) (by omega) (λ_=> rfl)
     (by rw [gU _ _ _ (by rw [hlen];omega)];exact hz') (by
      intro i u hu;rw [rV _ _ _ (by rw [hlen];omega)] at hu;rw [kK _ _ _ _ (by rw [hal];omega),hal];by_cases hi:off+len*esz<=i/\i < off+len*esz+new.length
      ·rw [if_pos hi] at hu;rw [hlen] at hi;rw [if_pos (by omega),show sh+i - (o+len*esz)=i - (off+len*esz) from by omega];exact iQ hra hu
      ·rw [if_neg hi] at hu;rw [hlen] at hi;rw [if_neg (by omega)];exact rU hbk hcc hu)
    refine⟨.slice (some ⟨b,o,none⟩) (len+n) c,_,_,?_,hput.1,?_,hput.2⟩
    ·simp only [oU,if_pos (show len+n<=c by omega),Sem.run_bind,ha,Result.andThen_ok,jc];simp only [zbU] at hst;simp [hst]
    ·simp only [RV];refine⟨b,o,c,rfl,hin,q2,q3,?_,λ_=> ⟨sh,e',cs.size,by simp [updρ],λ_=> hoff,?_,hcs⟩⟩
     ·rw [qG];simp [eP.gen]
     ·rw [dP,kJ (lQ hbk)];simp [zC,dJ]
   ·rw [if_neg hin] at h;split at h <;> first | (cases h;done) | skip
    rename_i hc2;obtain⟨aiR,hby⟩:=hc2;have hmul:(len+n)*esz=len*esz+n*esz:=zbB _ _ _;have hpre:((cells.drop off).take (len*esz)).length=len*esz:=by simp;omega
    -- the way that makes a new row
    have grow:¬len+n<=c->∃c' old arr,len+n<=c'/\(oU e esz zeros n appended (some ⟨b,o,none⟩) len c (.slice (some ⟨b,o,none⟩) len c) cy).run P w=
      .ok (.slice (some ⟨w.heap.size,0,none⟩) (len+n) c') (w.drew.alloc (.cells (old++arr++Builtin.zeroCells zv.cells (c' - (len+n))) e))/\RVs ρ H.gen w.drew ((cells.drop off).take (len*esz)) old.toList/\RVs ρ H.gen w.drew new arr.toList:=by
     intro hno;obtain⟨old,hold,hro⟩:=hfirst w.drew (.inr rfl);obtain⟨arr,ha,hra⟩:=happ w.drew (.inr rfl);obtain⟨c',hc',hrun⟩:=PK (P:=P) (w:=w) (e:=e) (m:=esz) (n:=n) (by_:=by_) (sLen:=len) (sCap:=c) (zeros:=zeros) (appended:=appended) (base:=some ⟨b,o,none⟩) (s:=.slice (some ⟨b,o,none⟩) len c) (x:=cy) (zv:=zv) (old:=old) (arr:=arr) hb hz hno aiR hby hold ha;exact⟨c',old,arr,hc',hrun,hro,hra⟩
    have whole:∀(c':Nat) (old arr:Array Value),len+n<=c'->RVs ρ H.gen w.drew ((cells.drop off).take (len*esz)) old.toList->RVs ρ H.gen w.drew new arr.toList->
      RVs ρ H.gen w.drew ((cells.drop off).take (len*esz)++new) ((old++arr++Builtin.zeroCells zv.cells (c' - (len+n))).toList.take ((cells.drop off).take (len*esz)++new).length)/\
      ((cells.drop off).take (len*esz)++new).length<=(old++arr++Builtin.zeroCells zv.cells (c' - (len+n))).size/\c'*esz<=(old++arr++Builtin.zeroCells zv.cells (c' - (len+n))).size:=by
     intro c' old arr hc' hro hra;have l1:=bU hro;have l2:=bU hra;rw [hpre] at l1;rw [hlen] at l2;have h3:(Builtin.zeroCells zv.cells (c' - (len+n))).size=(c' - (len+n))*esz:=by simp [Builtin.zeroCells,hzl]
     have hsz:(old++arr++Builtin.zeroCells zv.cells (c' - (len+n))).size=c'*esz:=by
      rw [zcP,zcP,h3,<-aZ old,<-aZ arr,l1,l2,<-zbB,<-zbB]
      congr 1;omega
     refine⟨?_,?_,by rw [hsz];exact zac _⟩
     ·have:(old++arr++Builtin.zeroCells zv.cells (c' - (len+n))).toList.take ((cells.drop off).take (len*esz)++new).length=old.toList++arr.toList:=by
       have hll:((cells.drop off).take (len*esz)++new).length=(old.toList++arr.toList).length:=by
        rw [zal,zal,l1,l2,hpre,hlen]
       rw [hll,zb3,zb3,List.take_left]
      rw [this];exact nJ hro hra
     ·rw [hsz,zal,hpre,hlen,<-hmul];exact zaz _ hc'
    by_cases hex:ex=true
    ·rw [if_pos hex] at h;simp only [zaa,zad] at h;obtain⟨rfl,rfl⟩:=h;obtain⟨c',old,arr,hc',hrun,hro,hra⟩:=grow (by rw [q3 hex];exact hin);obtain⟨w1,w2,w3⟩:=whole c' old arr hc' hro hra;obtain⟨ρ',p1,p2,p3⟩:=qI (ty:=e+gB) (hX:=Xct.grown) (e:=e) (m:=esz) (len:=len+n) (cap:=len+n) (c:=c') (ex:=false) R.drew w1 w2 (zac _) hc' (by simp) w3;refine⟨_,ρ',_,hrun,p1,?_,(Ext.drew ρ H w).trans p3⟩
     simpa using p2
    ·rw [if_neg hex] at h;split at h <;> first | (cases h;done) | skip
     simp only [zaa,zad] at h;obtain⟨rfl,rfl⟩:=h;by_cases hc:len+n<=c
     ·-- in place
      obtain⟨arr,ha,hra⟩:=happ w (.inl rfl);have hal:=bU hra;rw [hlen] at hal;have hoff:o=sh+off:=hoo (by omega);have hmc:(len+n)*esz<=c*esz:=zaz _ hc;have hst:=ji (P:=P) (o:=o+len*esz) arr.toList w cs 0 hbk (by rw [hal];omega) (nP hcell hra);have kX:Xct ty e' sh cs.size cells.length:=by
       have ru:=R.obj r b sh hr;simp only [uZ,ho] at ru;obtain⟨cs2,e2,k1,_,_,k4⟩:=ru;rw [hbk] at k1;cases k1;exact k4
      have hput:=Ci (hX:=by rw [hoff];exact acp (qF hz) kX) (ty':=grT e ty off) (cells':=(cells.drop off).take (len*esz)++new) (cs':=jQ cs (o+len*esz) arr.toList) (g':=g'+1) (sh':=o) R hr hbk (dJ _ _ _) (by omega) (λhh=> by omega)
       (by rw [zal,hpre,hlen];omega) (by
        intro i u hu;rw [zcf,hpre] at hu;rw [kK _ _ _ _ (by rw [hal];omega),hal];by_cases hi:i < len*esz
        ·rw [if_pos hi,zaH,if_pos hi,zaL] at hu;rw [if_neg (by omega),hoff,zb1];exact rU hbk hcc hu
        ·rw [if_neg hi] at hu;have al3:i - len*esz < n*esz:=by
          rw [<-hlen];exact(zah.1 hu).1
         rw [if_pos (by omega),show o+i - (o+len*esz)=i - len*esz from by omega];exact iQ hra hu)
      refine⟨.slice (some ⟨b,o,none⟩) (len+n) c,_,_,?_,hput.1,?_,hput.2⟩
      ·simp only [oU,if_pos hc,Sem.run_bind,ha,Result.andThen_ok,jc];simp only [zbU] at hst;simp [hst]
      ·simp only [RV];refine⟨b,o,c,rfl,zac _,hc,by simp,?_,λ_=> ⟨o,e',cs.size,by simp [updρ],λ_=> rfl,?_,hcs⟩⟩
       ·rw [qG];simp [eP.gen]
       ·rw [dP,kJ (lQ hbk)];simp [zC,dJ]
     ·-- a new row
      obtain⟨c',old,arr,hc',hrun,hro,hra⟩:=grow hc;obtain⟨w1,w2,w3⟩:=whole c' old arr hc' hro hra;have hmv:=Yi (hX:=aco) (r:=r) (g':=g'+1) (ty:=grT e ty off) (e:=e) (cells:=(cells.drop off).take (len*esz)++new) R.drew (R.lt hr) hr (by omega) w2 (by
       intro i u hu;obtain⟨cv,hcv,h1⟩:=iQ w1 hu;rw [zaH] at hcv;split at hcv
       ·exact⟨cv,by rw [<-zcz];exact hcv,h1⟩
       ·cases hcv)
      refine⟨_,_,_,hrun,hmv.1,?_,(Ext.drew ρ H w).trans hmv.2⟩;simp only [RV];refine⟨w.heap.size,0,c',rfl,zac _,hc',by simp,?_,λ_=> ⟨0,e,_,by simp [updρ],λ_=> rfl,?_,by rw [za4];exact w3⟩⟩
      ·rw [qG];simp [eP.gen]
      ·rw [dP];have:(w.drew.alloc (.cells (old++arr++Builtin.zeroCells zv.cells (c' - (len+n))) e)).heap[w.heap.size]?=some (.cells (old++arr++Builtin.zeroCells zv.cells (c' - (len+n))) e):=jh w.drew _;rw [this];rfl
 ·cases h
end
section
variable {P:Program}{ρ:Ren}{H H':ah}{w:World}{v:AV}
theorem Uz(R:Rel ρ H w){t u ty:TypeId}{x y:AV}{cx cy:Value}(hx:RV ρ H.gen w x cx)(hy:RV ρ H.gen w y cy)(h:GN P t u x y H=some (v,H')):Ok P ρ H w (Builtin.append_ #[t,u] ty #[cx,cy]) v H':=by
 unfold GN at h;split at h <;> first | (cases h;done) | skip
 rename_i e d he hd;split at h <;> first | (cases h;done) | skip
 rename_i m by_ z hs hb hz;split at h <;> first | (cases h;done) | skip
 rename_i hzl;obtain⟨zv,hzv,rfl⟩:=wH hz;simp at hzl;split at h
 ·rename_i k;split at h <;> first | (cases h;done) | skip
  rename_i k' n;split at h <;> first | (cases h;done) | skip
  rename_i hcond;obtain⟨h0,h1,h2⟩:=hcond;simp only [RV] at hy;subst hy;have happ:∀w',w'=w∨w'=w.drew->∃arr:Array Value,(if n.toNat*m=0 then pure #[] else do pure (Builtin.zeroCells (<-zeroValue e).cells n.toNat):Sem (Array Value)).run P w'=.ok arr w'/\RVs ρ H.gen w' (dh (zv.cells.toList.map .s) n.toNat) arr.toList:=by
   intro w' _;by_cases h3:n.toNat*m=0
   ·rw [if_pos h3];have:dh (zv.cells.toList.map .s) n.toNat=[]:=zan (by rw [gV];simp [hzl,h3]);exact⟨#[],rfl,by rw [this];exact iG⟩
   ·rw [if_neg h3];exact⟨Builtin.zeroCells zv.cells n.toNat,by simp [eU hzv],rW zv n.toNat⟩
  obtain⟨base,sLen,sCap,rfl,hok⟩:=uN (P:=P) (zeros:=true) (cy:=.int k' n) R hs hb hzv hzl hx happ h;obtain⟨cv,ρ',w',p1,p2,p3,p4⟩:=hok;exact⟨cv,ρ',w',by rw [Ak (mD he) hs hb hd h0 h1 h2];exact p1,p2,p3,p4⟩
 ·rename_i hnd;split at h <;> first | (cases h;done) | skip
  rename_i n new hn hnew;have hnl:new.length=n*m:=by
   unfold dD at h;split at h
   ·rename_i hc;exact hc.1
   ·cases h
  have hl:=(iR (P:=P) R hy hn hnew hnl).1;have happ:∀w',w'=w∨w'=w.drew->∃arr:Array Value,(Builtin.firstCells m n cy).run P w'=.ok arr w'/\RVs ρ H.gen w' new arr.toList:=by
   rintro w' (rfl | rfl)
   ·exact(iR (P:=P) R hy hn hnew hnl).2
   ·exact(iR (P:=P) R.drew (R.keep (Ext.drew ρ H w) hy) hn hnew hnl).2
  obtain⟨base,sLen,sCap,rfl,hok⟩:=uN (P:=P) (zeros:=false) (cy:=cy) R hs hb hzv hzl hx happ h;obtain⟨cv,ρ',w',p1,p2,p3,p4⟩:=hok;exact⟨cv,ρ',w',by rw [CB (mD he) hs hd (λk hk=> hnd k hk) hl];exact p1,p2,p3,p4⟩
theorem acy(R:Rel ρ H w){ts:Array TypeId}{t ty:TypeId}{x y:AV}{cx cy:Value}(ht:ts[0]?=some t)(hx:RV ρ H.gen w x cx)(hy:RV ρ H.gen w y cy)(h:X6 P t x y H=some (v,H')):Ok P ρ H w (Builtin.copy_ ts ty #[cx,cy]) v H':=by
 have a0:(#[cx,cy]:Array Value)[0]?=some cx:=rfl;have a1:(#[cx,cy]:Array Value)[1]?=some cy:=rfl;unfold X6 at h;split at h <;> first | (cases h;done) | skip
 rename_i e he;split at h <;> first | (cases h;done) | skip
 rename_i m d n new hs hd hn hnew;simp only at h;split at h <;> first | (cases h;done) | skip
 rename_i hcond;obtain⟨hnl,hcell⟩:=hcond;obtain⟨hl,_⟩:=iR (P:=P) R hy hn hnew hnl
 -- the Yj length
 have hdst:∀{base:Option Addr} {dl dc:Nat},cx=.slice base dl dc->dl=d:=by
  intro base dl dc hcx;subst hcx;unfold jC at hd;split at hd <;> first | (cases hd;done) | skip
  ·simp only [RV] at hx;obtain⟨_,_,_,h1,_⟩:=hx;cases h1;cases hd;rfl
  ·simp only [RV] at hx;obtain⟨_,_,_,h1,_⟩:=hx;cases h1;cases hd;rfl
  ·simp only [RV] at hx;cases hx;cases hd;rfl
  ·simp only [RV] at hx;cases hx
 have first:∃arr:Array Value,(Builtin.firstCells m (min n d) cy).run P w=.ok arr w/\RVs ρ H.gen w (new.take (min n d*m)) arr.toList:=by
  -- the first cells of the source
  unfold jC at hn;split at hn <;> first | (cases hn;done) | skip
  ·rename_i r g off esz len cap ex;simp only [zaa] at hn;subst hn;simp only [bI] at hnew;split at hnew <;> first | (cases hnew;done) | skip
   rename_i g' ty' cells ho;split at hnew <;> first | (cases hnew;done) | skip
   rename_i hc2;obtain⟨rfl,hle⟩:=hc2;simp only [zaa] at hnew;subst hnew;obtain⟨b,o,c,sh,cs,e',rfl,q1,q2,q3,hr,hoo,hbk,hcs,hz',hcc⟩:=AA R hy ho;have hlen:((cells.drop off).take (len*esz)).length=len*esz:=by simp;omega
   by_cases h0:min len d*m=0
   ·refine⟨#[],?_,by rw [h0];simp [RVs]⟩;simp [Builtin.firstCells,h0,loadCells,loadCellsFrom]
   ·have hpos:0 < min len d:=Nat.pos_of_ne_zero λhh=> h0 (by rw [hh,zbi]);have ho':=hoo (by omega);have hcells:RVc ρ H.gen w (((cells.drop off).take (len*esz)).take (min len d*m)) b (sh+off):=qE _ (qE _ (oI _ hcc));obtain⟨l,hl',h1⟩:=kZ (P:=P) hcells;have hll:(((cells.drop off).take (len*esz)).take (min len d*m)).length=min len d*m:=by
     rw [zav,hnl];have:min len d*m<=len*m:=zaz _ (Nat.min_le_left _ _);omega
    rw [hll] at hl';exact⟨l.toArray,by simp only [Builtin.firstCells,ho'];exact hl',by simpa using h1⟩
  ·rename_i n' esz cells;simp only [zaa] at hn;subst hn;simp only [bI,zaa] at hnew;subst hnew;simp only [RV] at hy;obtain⟨b,o,c,rfl,q1,q2,q3,q4,q5⟩:=hy;obtain⟨l,hl',h1⟩:=kZ (P:=P) (qE (min n' d*m) q5);have hll:(cells.take (min n' d*m)).length=min n' d*m:=by
    rw [zav,hnl];have:min n' d*m<=n'*m:=zaz _ (Nat.min_le_left _ _);omega
   rw [hll] at hl';exact⟨l.toArray,by simp only [Builtin.firstCells];exact hl',by simpa using h1⟩
  ·simp only [RV] at hy;subst hy;simp only [bI,zaa] at hnew;subst hnew;exact⟨#[],by simp [Builtin.firstCells],by simp [RVs]⟩
  ·rename_i s;simp only [zaa] at hn;subst hn;simp only [RV] at hy;subst hy;simp only [bI,zaa] at hnew;subst hnew;refine⟨((s.extract 0 (min s.size d)).data.map λb=> .int .u8 b.toNat),by simp [Builtin.firstCells],?_⟩;have hm:m=1∨s.size=0:=by
    have h3:s.data.toList.length=s.size:=rfl;rw [zay,h3] at hnl;rcases Nat.eq_zero_or_pos s.size with h | h
    ·exact .inr h
    ·left;rcases m with _ | _ | m
     ·rw [Nat.mul_zero] at hnl;omega
     ·rfl
     ·have:s.size*2<=s.size*(m+1+1):=Nat.mul_le_mul_left _ (by omega);omega
   have h2:((s.data.toList.map λb=> AV.s (.int .u8 b.toNat)).take (min s.size d*m))=(((s.extract 0 (min s.size d)).data.map λb=> Value.int .u8 b.toNat).toList).map .s:=by
    rcases hm with rfl | h0
    ·simp [ByteArray.data_extract,zcm];rfl
    ·have h3:s.data.toList=[]:=zan h0;have h4:s.data=#[]:=by simpa using h3
     simp [ByteArray.data_extract,h4]
   rw [h2];exact fJ _
 obtain⟨arr,ha,hra⟩:=first
 by_cases hk:min n d=0
 ·rw [if_pos hk] at h;split at h <;> first | (cases h;done) | skip
  rename_i hns;simp only [zaa,zad] at h;obtain⟨rfl,rfl⟩:=h;have harr:arr.toList=[]:=by
   have:=bU hra;rw [hk,zbi] at this
   simpa using this
  obtain⟨base,dl,dc,rfl⟩:∃base dl dc,cx=.slice base dl dc:=by
   unfold jC at hd;split at hd <;> first | (cases hd;done) | skip
   ·simp only [RV] at hx;obtain⟨_,_,_,rfl,_⟩:=hx;exact⟨_,_,_,rfl⟩
   ·simp only [RV] at hx;obtain⟨_,_,_,rfl,_⟩:=hx;exact⟨_,_,_,rfl⟩
   ·simp only [RV] at hx;subst hx;exact⟨_,_,_,rfl⟩
   ·exact(hns _ rfl).elim
  obtain rfl:=hdst rfl;refine OkP.ok ⟨.int .i64 0,?_,by simp only [RV]⟩ R;have hmin:Nat.min n dl=min n dl:=rfl;simp only [Builtin.copy_,ht,a0,a1,Sem.run_bind,run_underlying (mD he),Result.andThen_ok,hl,dK hs,hmin,ha];cases base with
  | none=> simp [goInt,hk]
  | some a=> simp [goInt,hk,harr,storeCells]
 ·rw [if_neg hk] at h;split at h <;> first | (cases h;done) | skip
  rename_i r g off esz len cap ex;split at h <;> first | (cases h;done) | skip
  rename_i g' ty' cells ho;split at h <;> first | (cases h;done) | skip
  rename_i hc2;obtain⟨rfl,rfl,hbase,hle⟩:=hc2;simp only [zaa,zad] at h;obtain⟨rfl,rfl⟩:=h;obtain⟨b,o,c,sh,cs,e',rfl,q1,q2,q3,hr,hoo,hbk,hcs,hz',hcc⟩:=AA R hx ho;obtain rfl:=hdst rfl;have hgen:H.gen r=g':=by simp [ah.gen,ho,eP.gen]
  have hoff:o=sh+off:=hoo (by omega);have hal:=bU hra;have htl:(new.take (min n len*esz)).length=min n len*esz:=by
   rw [zav,hnl];have:min n len*esz<=n*esz:=zaz _ (Nat.min_le_left _ _);omega
  rw [htl] at hal;have hml:min n len*esz<=len*esz:=zaz _ (Nat.min_le_right _ _);have hlc:len*esz<=c*esz:=zaz _ (by omega);have hcell':(new.take (min n len*esz)).all AV.aJ=true:=by
   rw [za0] at hcell ⊢;intro a ha';exact hcell a (zcD ha')
  have hst:=ji (P:=P) (o:=o) arr.toList w cs 0 hbk (by rw [hal];omega) (nP hcell' hra);have kX:Xct ty' e' sh cs.size cells.length:=by
   have ru:=R.obj r b sh hr;simp only [uZ,ho] at ru;obtain⟨cs2,e2,k1,_,_,k4⟩:=ru;rw [hbk] at k1;cases k1;exact k4
  have hput:=Ci (hX:=by rw [dJ,gU _ _ _ (by rw [htl];omega)];exact kX) (ty':=ty') (cells':=aP cells off (new.take (min n len*esz))) (cs':=jQ cs o arr.toList) (g':=g') (sh':=sh) R hr hbk (dJ _ _ _) (by omega) (λ_=> rfl)
   (by rw [gU _ _ _ (by rw [htl];omega)];exact hz') (by
    intro i u hu;rw [rV _ _ _ (by rw [htl];omega),htl] at hu;rw [kK _ _ _ _ (by rw [hal];omega),hal];by_cases hi:off<=i/\i < off+min n len*esz
    ·rw [if_pos hi] at hu;rw [if_pos (by omega),show sh+i - o=i - off from by omega];exact iQ hra hu
    ·rw [if_neg hi] at hu;rw [if_neg (by omega)];exact rU hbk hcc hu)
  refine⟨.int .i64 ((min n len:Nat):Int),_,_,?_,hput.1,by simp only [RV],hput.2⟩;have hmin:Nat.min n len=min n len:=rfl;simp only [zbU] at hst;simp only [Builtin.copy_,ht,a0,a1,Sem.run_bind,run_underlying (mD he),Result.andThen_ok,hl,dK hs,hmin,ha,hst,Sem.run_pure,goInt]
theorem Yk(R:Rel ρ H w){t ty:TypeId}{x:AV}{cx:Value}(hx:RV ρ H.gen w x cx)(h:PE P t x H=some (v,H')):Ok P ρ H w (Builtin.clear_ #[t] ty #[cx]) v H':=by
 have a0:(#[t]:Array TypeId)[0]?=some t:=rfl;have a1:(#[cx]:Array Value)[0]?=some cx:=rfl;unfold PE at h;split at h <;> first | (cases h;done) | skip
 rename_i e he;split at h <;> first | (cases h;done) | skip
 ·rename_i m z r g off esz len cap ex hs hz;obtain⟨zv,hzv,rfl⟩:=wH hz;by_cases h0:len=0
  ·subst h0;simp only [if_true,zaa,zad] at h;obtain⟨rfl,rfl⟩:=h;simp only [RV] at hx;obtain⟨b,o,c,rfl,_⟩:=hx;refine OkP.ok ⟨.tuple #[],?_,by simp only [RV];exact⟨_,rfl,iG⟩⟩ R;simp [Builtin.clear_,run_underlying (mD he)]
  ·rw [if_neg h0] at h;split at h <;> first | (cases h;done) | skip
   rename_i g' ty' cells ho;split at h <;> first | (cases h;done) | skip
   rename_i hc2;obtain⟨rfl,rfl,hbase,hzl,hcell,hle⟩:=hc2;simp only [zaa,zad] at h;obtain⟨rfl,rfl⟩:=h;simp at hzl;obtain⟨b,o,c,sh,cs,e',rfl,q1,q2,q3,hr,hoo,hbk,hcs,hz',hcc⟩:=AA R hx ho;have hgen:H.gen r=g':=by simp [ah.gen,ho,eP.gen]
   have hoff:o=sh+off:=hoo (by omega);have hlc:len*esz<=c*esz:=zaz _ (by omega);have hzr:=rW (ρ:=ρ) (G:=H.gen) (w:=w) zv len;have heq:((Array.range (len*zv.cells.size)).map (zv.cells[· % zv.cells.size]!))=Builtin.zeroCells zv.cells len:=rfl;rw [heq] at hzr;have UA:(dh (zv.cells.toList.map .s) len).length=len*esz:=by rw [gV];simp [hzl]
   have hal:=bU hzr;rw [UA] at hal;have hcz:(dh (zv.cells.toList.map .s) len).all AV.aJ=true:=by
    have key:∀n,(dh (zv.cells.toList.map .s) n).all AV.aJ=true:=by
     intro n
     induction n with
     | zero=> rfl
     | succ n ih=> simp only [dh,za1,ih,hcell,zcn]
    exact key len
   have hst:=ji (P:=P) (o:=o) (Builtin.zeroCells zv.cells len).toList w cs 0 hbk (by rw [hal];omega) (nP hcz hzr);have kX:Xct ty' e' sh cs.size cells.length:=by
    have ru:=R.obj r b sh hr;simp only [uZ,ho] at ru;obtain⟨cs2,e2,k1,_,_,k4⟩:=ru;rw [hbk] at k1;cases k1;exact k4
   have hput:=Ci (hX:=by rw [dJ,gU _ _ _ (by rw [UA];omega)];exact kX) (ty':=ty') (cells':=aP cells off (dh (zv.cells.toList.map .s) len)) (cs':=jQ cs o (Builtin.zeroCells zv.cells len).toList) (g':=g') (sh':=sh) R hr hbk (dJ _ _ _) (by omega) (λ_=> rfl)
    (by rw [gU _ _ _ (by rw [UA];omega)];exact hz') (by
     intro i u hu;rw [rV _ _ _ (by rw [UA];omega),UA] at hu;rw [kK _ _ _ _ (by rw [hal];omega),hal];by_cases hi:off<=i/\i < off+len*esz
     ·rw [if_pos hi] at hu;rw [if_pos (by omega),show sh+i - o=i - off from by omega];exact iQ hzr hu
     ·rw [if_neg hi] at hu;rw [if_neg (by omega)];exact rU hbk hcc hu)
   refine⟨.tuple #[],_,_,?_,hput.1,by simp only [RV];exact⟨_,rfl,iG⟩,hput.2⟩;simp only [zbU] at hst;obtain⟨len,rfl⟩:∃k,len=k+1:=⟨len - 1,by omega⟩
   simp only [Builtin.clear_,a0,a1,Sem.run_bind,run_underlying (mD he),Result.andThen_ok,eU hzv,hst,Sem.run_pure]
 ·simp only [zaa,zad] at h;obtain⟨rfl,rfl⟩:=h;simp only [RV] at hx;subst hx;refine OkP.ok ⟨.tuple #[],?_,by simp only [RV];exact⟨_,rfl,iG⟩⟩ R;simp [Builtin.clear_,run_underlying (mD he)]
end
section
variable {P:Program}{ρ:Ren}{H H':ah}{w:World}{v:AV}
theorem vw {G:Nat->Nat}:∀(xs:List AV) (l:List Value) (ns:List Int),RVs ρ G w xs l->lY xs=some ns->l=ns.map (Value.int .u8)
 | [],l,ns,h,hn=> by
  simp only [RVs] at h;subst h;simp only [lY,zaa] at hn;subst hn;rfl
 | x::xs,l,ns,h,hn=> by
  obtain⟨y,ys,rfl,h1,h2⟩:=(by simpa only [RVs] using h)
  simp only [lY] at hn;split at hn <;> first | (cases hn;done) | skip
  split at hn <;> first | (cases hn;done) | skip
  rename_i l' hl';simp only [zaa] at hn;subst hn;simp only [RV] at h1;subst h1;rw [vw xs ys l' h2 hl'];rfl
theorem aeQ(R:Rel ρ H w){x:AV}{cx:Value}{s:ByteArray}(hx:RV ρ H.gen w x cx)(h:aez x ((dO x).map H.get)=some s):(Conv.bytesToString cx).run P w=.ok (.string s) w/\∃a l c,cx=.slice a l c:=by
 unfold aez at h;split at h <;> first | (cases h;done) | skip
 ·rename_i r g off esz len cap ex;split at h <;> first | (cases h;done) | skip
  rename_i h1;subst h1;split at h <;> first | (cases h;done) | skip
  rename_i g' ty cells ho;simp only [dO,zaf,zaa] at ho;split at h <;> first | (cases h;done) | skip
  rename_i hcond;obtain⟨rfl,hle⟩:=hcond;cases hb:lY ((cells.drop off).take (len*1)) with
  | none=> rw [hb] at h;cases h
  | some ns=>
   simp only [hb,zaf,zaa] at h;subst h;have hc:bI H (.sl r g' off 1 len cap ex)=some ((cells.drop off).take (len*1)):=by simp only [bI,ho];rw [if_pos ⟨trivial,hle⟩]
   have hlen:((cells.drop off).take (len*1)).length=len*1:=by simp;omega
   obtain⟨_,arr,ha,hra⟩:=iR (P:=P) (m:=1) R hx rfl hc hlen;have harr:=vw _ _ ns hra hb;simp only [RV] at hx;obtain⟨b,o,c,rfl,_⟩:=hx;have hl:(loadCells ⟨b,o,none⟩ len).run P w=.ok (ns.map (Value.int .u8)).toArray w:=by
    simp only [Builtin.firstCells,zbC] at ha;rw [ha,<-harr]
   exact⟨run_bytesToString w ⟨b,o,none⟩ len c ns hl,_,_,_,rfl⟩
 ·rename_i n esz cells;split at h <;> first | (cases h;done) | skip
  rename_i h1;subst h1;cases hb:lY cells with
  | none=> simp [hb] at h
  | some ns=>
   simp only [hb,zaf,zaa] at h;subst h;have hx':=hx;simp only [RV] at hx;obtain⟨b,o,c,rfl,q1,q2,_⟩:=hx;obtain⟨_,arr,ha,hra⟩:=iR (P:=P) (m:=1) R hx' rfl rfl q2;have harr:=vw _ _ ns hra hb;have hl:(loadCells ⟨b,o,none⟩ n).run P w=.ok (ns.map (Value.int .u8)).toArray w:=by
    simp only [Builtin.firstCells,zbC] at ha;rw [ha,<-harr]
   exact⟨run_bytesToString w ⟨b,o,none⟩ n c ns hl,_,_,_,rfl⟩
 ·simp only [zaa] at h;subst h;simp only [RV] at hx;subst hx;exact⟨by simp [Conv.bytesToString],_,_,_,rfl⟩
theorem RQ {src dst:TypeId}(h:BU P src dst=true):∃e,P.underlying src=some (.slice e)/\P.underlying dst=some .string/\P.underlying e=some (.int .u8):=by
 unfold BU at h;split at h <;> first | (cases h;done) | skip
 rename_i e hs hd;split at h <;> first | (cases h;done) | skip
 rename_i he;exact⟨e,hs,hd,he⟩
theorem RS(R:Rel ρ H w){src dst:TypeId}{x:AV}{cx:Value}(hx:RV ρ H.gen w x cx)(h:kC P src dst x H=some (v,H')):H'=H/\OkP P ρ H.gen w (convert src dst cx) v:=by
 obtain⟨h',hh⟩:=qH h
 clear h
 subst hh;have h:=h'
 clear h'
 refine⟨rfl,?_⟩;unfold wF at h;split at h
 ·rename_i hb;obtain⟨e,hs,hd,he⟩:=RQ hb;cases hst:aez x ((dO x).map H'.get) with
  | none=> simp [hst] at h
  | some s=>
   simp only [hst,zaf,zaa] at h;subst h;obtain⟨hrun,a,l,c,rfl⟩:=aeQ (P:=P) R hx hst;exact⟨.string s,by rw [run_convert_bytes_string w src dst e _ _ _ hs he hd];exact hrun,by simp only [RV]⟩
 ·split at h <;> first | (cases h;done) | skip
  rename_i u hu;rw [Fh x cx u hx hu];cases hp:gI P (convert src dst u) with
  | none=> simp [hp] at h
  | some r=>
   simp only [hp,zaf,zaa] at h;subst h;exact⟨r,kL hp w,by simp only [RV]⟩
theorem J5 {G:Nat->Nat}{x:AV}{cx:Value}(hx:RV ρ G w x cx)(h:aU x=some v):v=x/\(match cx with
  | .pointer none | .nilIface | .nilFunc=> (runtimePanic .nilDeref:Sem Next)
  | .func (.method name) first captured=>
   match(first[0]?:Option Value) with
   | some .nilIface=> runtimePanic .nilDeref
   | some (.iface t w)=> do
    if(<-nilAhead ((<-program).types.size+Made.depth) t w name) !=some false then
     unsupported (.noEntry "op/nilCheck.the method's receiver behind this interface value is a nil pointer, or cannot be seen to be none, and the arguments act or may panic (ledger 612)")
    pure (.value (.func (.method name) first captured))
   | _=> pure (.value (.func (.method name) first captured))
  | x=> pure (.value x)).run P w=.ok (.value cx) w:=by
 unfold aU at h;split at h <;> first | (cases h;done) | skip
 all_goals
  simp only [zaa] at h;subst h;refine⟨rfl,?_⟩;simp only [RV] at hx
 ·obtain⟨a,rfl,_⟩:=hx;rfl
 ·obtain⟨b,o,rfl,_⟩:=hx;rfl
 ·obtain⟨a,c,rfl,_⟩:=hx;rfl
 ·subst hx;rfl
end
def oC(P:Program)(C:ak):Prop:=
 ∀f args H v H',C f args H=some (v,H')->∀(ρ:Ren) (w:World) (jR:Array Value),Rel ρ H w->RVs ρ H.gen w args jR.toList->
  Calls P f jR w λe w'=>∃cv ρ',e=.returned cv/\Rel ρ' H' w'/\RV ρ' H'.gen w' v cv/\Ext ρ H w ρ' H' w'
section
variable {P:Program}{ρ:Ren}{H H':ah}{w:World}{v:AV}
theorem Yl {o:Oper}{a:Act}{K:Act->World->Prop}{Q:Exit->Act->World->Prop}{s:Sem Value}{cv:Value}{w':World}(he:execOp a.eval o=(do pure (.value (<-s))))(hr:s.run P w=.ok cv w')(hk:K (a.put o.dst cv) w'):
  o.wp P a w K Q:=by
 unfold Oper.wp;rw [he,Sem.run_bind,hr];exact hk
theorem acz {o:Oper}{a:Act}{K:Act->World->Prop}{Q:Exit->Act->World->Prop}{s:Sem Unit}{w':World}(he:execOp a.eval o=(do s;pure .skip))(hr:s.run P w=.ok () w')(hk:K (a.put o.dst undef) w'):
  o.wp P a w K Q:=by
 unfold Oper.wp;rw [he,Sem.run_bind,hr];exact hk
theorem acA {o:Oper}{a:Act}{K:Act->World->Prop}{Q:Exit->Act->World->Prop}{s:Sem Next}{cv:Value}{w':World}(he:execOp a.eval o=s)(hr:s.run P w=.ok (.value cv) w')(hk:K (a.put o.dst cv) w'):
  o.wp P a w K Q:=by
 unfold Oper.wp;rw [he,hr];exact hk
theorem AB {G:Nat->Nat}:RV ρ G w aV undef:=by
 unfold aV undef;simp only [RV];exact⟨_,rfl,iG⟩
theorem yB {G:Nat->Nat}{t:eu}{a:Act}:∀(xs:List Operand),(∀x∈xs,RV ρ G w (cO t x) (a.eval x))->RVs ρ G w (xs.map (cO t)) (xs.map a.eval)
 | [],_=> iG
 | x::xs,h=> iD (h x (by simp)) (yB xs λy hy=> h y (by simp [hy]))
theorem CG {G:Nat->Nat}{t:eu}{a:Act}{x:Option Operand}(h:∀y∈x.toArray,RV ρ G w (cO t y) (a.eval y)):Nh ρ G w (x.map (cO t)) (x.map a.eval):=by
 cases x with
 | none=> trivial
 | some y=> exact h y (by simp)
theorem J6 {f:FuncId}{args:Array Value}(h:nN P f=true):(callFunc f args).run P w=.ok (.enter f args) w:=by
 unfold nN at h;cases hf:P.funcs[f]? with
 | none=> simp [hf] at h
 | some fn=>
  simp only [hf,zae,za9] at h;have hb:fn.body.isNone=false:=by
   cases hbd:fn.body with
   | none=> simp [hbd] at h
   | some b=> rfl
  simp only [callFunc,Sem.run_bind,run_program,Result.andThen_ok,hf,h.1,zaj,if_false,hb,Sem.run_pure]
theorem acB {C:ak}(hC:oC P C){o:Oper}{c:Call}{f:Operand}(hop:o.op=.call c)(Nk:c.callee=.value f){a:Act}{K:Act->World->Prop}{Q:Exit->Act->World->Prop}{x:AV}{args:List AV}(R:Rel ρ H w)
  (hf:RV ρ H.gen w x (a.eval f)) (hargs:RVs ρ H.gen w args (c.args.map a.eval).toList) (h:oQ P C x args H=some (v,H'))
  (hK:∀cv ρ' w',Rel ρ' H' w'->RV ρ' H'.gen w' v cv->Ext ρ H w ρ' H' w'->K (a.put o.dst cv) w'):o.wp P a w K Q:=by
 have key:∀(fid:FuncId) (first captured:Array Value) (xs:List AV),a.eval f=.func (.func fid) first captured->nN P fid=true->C fid xs H=some (v,H')->RVs ρ H.gen w xs (first++c.args.map a.eval++captured).toList->o.wp P a w K Q:=by
  intro fid first captured xs hev hen hc hxs
  have hrun:(execOp a.eval o).run P w=.ok (.enter fid (first++c.args.map a.eval++captured)) w:=by
   unfold execOp;rw [hop];simp only [resolve,Nk,hev,Deferred.ofValue,Sem.run_bind,Sem.run_pure,Result.andThen_ok,invoke];exact J6 hen
  unfold Oper.wp;rw [hrun];refine(hC fid xs H v H' hc ρ w _ R hxs).mono λe w' he=> ?_;obtain⟨cv,ρ',rfl,h1,h2,h3⟩:=he;exact hK cv ρ' w' h1 h2 h3
 unfold oQ at h;split at h <;> first | (cases h;done) | skip
 ·rename_i fid first captured
  split at h <;> first | (cases h;done) | skip
  rename_i hen;simp only [RV] at hf;obtain⟨fa,ca,hev,h1,h2⟩:=hf;refine key fid fa ca _ hev hen h ?_;rw [zb3,zb3];exact nJ (nJ h1 hargs) h2
 ·rename_i fid first captured
  split at h <;> first | (cases h;done) | skip
  rename_i hen;simp only [RV] at hf;refine key fid first captured _ hf hen h ?_
  rw [zb3,zb3];exact nJ (nJ (fJ _) hargs) (fJ _)
theorem qJ {α:Type}{x:Option α}{u:α}(h:dV x H=some (u,H')):x=some u/\H'=H:=by
 unfold dV at h;cases x with
 | none=> cases h
 | some y=> simp only [zaf,zaa,zad] at h;exact⟨by rw [h.1],h.2.symm⟩
theorem RU(R:Rel ρ H w){b:Builtin}{ts:Array TypeId}{ty:TypeId}{consts:Array Bool}{args:List AV}{jR:Array Value}(hargs:RVs ρ H.gen w args jR.toList)(h:gu P b ts ty args H=some (v,H')):
  ∃s:Sem Value,builtin b ts ty consts jR=(do pure (.value (<-s)))/\Ok P ρ H w s v H':=by
 have two:∀{x y:AV},args=[x,y]->∃cx cy,jR=#[cx,cy]/\RV ρ H.gen w x cx/\RV ρ H.gen w y cy:=by
  intro x y hxy;subst hxy;obtain⟨cx,l,e,h1,h2⟩:=(by simpa only [RVs] using hargs)
  obtain⟨cy,l',e',h3,h4⟩:=(by simpa only [RVs] using h2)
  subst e' h4;exact⟨cx,cy,zb5.1 (by simpa using e),h1,h3⟩
 have one:∀{x:AV},args=[x]->∃cx,jR=#[cx]/\RV ρ H.gen w x cx:=by
  intro x hxy;subst hxy;obtain⟨cx,l,e,h1,h2⟩:=(by simpa only [RVs] using hargs)
  subst h2;exact⟨cx,zb5.1 (by simpa using e),h1⟩
 have tys:∀{l:List TypeId},ts.toList=l->ts=l.toArray:=λh=> by rw [<-h]
 unfold gu at h;split at h
 ·rename_i t u x y hts;obtain⟨cx,cy,rfl,h1,h2⟩:=two rfl;rw [tys hts];exact⟨_,rfl,Uz R h1 h2 h⟩
 ·rename_i t x hts;obtain⟨cx,rfl,h1⟩:=one rfl;rw [tys hts];obtain⟨rfl,h2⟩:=aeN (ty:=ty) R h1 h;exact⟨_,rfl,h2.ok R⟩
 ·rename_i t x hts;obtain⟨cx,rfl,h1⟩:=one rfl;rw [tys hts];unfold dV at h;cases hc:ZT P t x with
  | none=> simp [hc] at h
  | some u=>
   simp only [hc,zaf,zaa,zad] at h;obtain⟨rfl,rfl⟩:=h;exact⟨_,rfl,(aeO (ty:=ty) h1 hc).ok R⟩
 ·rename_i t ts' x y hts;obtain⟨cx,cy,rfl,h1,h2⟩:=two rfl;exact⟨_,rfl,acy R (by rw [tys hts];rfl) h1 h2 h⟩
 ·rename_i t x hts;obtain⟨cx,rfl,h1⟩:=one rfl;rw [tys hts];exact⟨_,rfl,Yk R h1 h⟩
 ·rename_i t ts' x y hts;obtain⟨cx,cy,rfl,h1,h2⟩:=two rfl;exact⟨_,rfl,Ux R (by rw [tys hts];rfl) h1 h2 h⟩
 ·obtain⟨hc,rfl⟩:=qJ h;have:=J4 hargs hc;simp only [if_true] at this;exact⟨_,rfl,this.ok R⟩
 ·obtain⟨hc,rfl⟩:=qJ h;have:=J4 hargs hc;simp only [zaj,if_false] at this;exact⟨_,rfl,this.ok R⟩
 ·cases h
theorem Hl {G:Nat->Nat}{t:eu}{a:Act}(ps:Array (Nat × Operand))(h:∀x∈(ps.toList.map (·.2)).toArray,RV ρ G w (cO t x) (a.eval x)):
  (ps.toList.map λp=> (p.1,cO t p.2)).map (·.1)=((ps.map λ(i,x)=> (i,a.eval x)).toList).map (·.1)/\RVs ρ G w ((ps.toList.map λp=> (p.1,cO t p.2)).map (·.2)) (((ps.map λ(i,x)=> (i,a.eval x)).toList).map (·.2)):=by
 refine⟨by simp [Function.comp_def],?_⟩;have h1:(ps.toList.map λp=> (p.1,cO t p.2)).map (·.2)=(ps.toList.map (·.2)).map (cO t):=by simp [Function.comp_def]
 have h2:((ps.map λ(i,x)=> (i,a.eval x)).toList).map (·.2)=(ps.toList.map (·.2)).map a.eval:=by simp [Function.comp_def]
 rw [h1,h2];exact yB _ λx hx=> h x (by simpa using hx)
theorem Ho {C:ak}(hC:oC P C){t:eu}{o:Oper}(h:opA P C t o H=some (v,H'))(R:Rel ρ H w){a:Act}(hop:∀x∈o.op.operands,RV ρ H.gen w (cO t x) (a.eval x)){K:Act->World->Prop}{Q:Exit->Act->World->Prop}
  (hK:∀cv ρ' w',Rel ρ' H' w'->RV ρ' H'.gen w' v cv->Ext ρ H w ρ' H' w'->K (a.put o.dst cv) w'):o.wp P a w K Q:=by
 obtain⟨dst,op,type,pos,after,guard⟩:=o;simp only at hop hK;have Nl:∀{s:Sem Value},execOp a.eval ⟨dst,op,type,pos,after,guard⟩=(do pure (.value (<-s)))->Ok P ρ H w s v H'->(⟨dst,op,type,pos,after,guard⟩:Oper).wp P a w K Q:=by
  intro s he hok;obtain⟨cv,ρ',w',h1,h2,h3,h4⟩:=hok;exact Yl he h1 (hK cv ρ' w' h2 h3 h4)
 have aeR:∀{s:Sem Value},execOp a.eval ⟨dst,op,type,pos,after,guard⟩=(do pure (.value (<-s)))->H'=H->OkP P ρ H.gen w s v->(⟨dst,op,type,pos,after,guard⟩:Oper).wp P a w K Q:=by
  intro s he hh hok;subst hh;exact Nl he (hok.ok R)
 have akT:∀{s:Sem Unit},execOp a.eval ⟨dst,op,type,pos,after,guard⟩=(do s;pure .skip)->(v=aV/\∃ρ' w',s.run P w=.ok () w'/\Rel ρ' H' w'/\Ext ρ H w ρ' H' w')->(⟨dst,op,type,pos,after,guard⟩:Oper).wp P a w K Q:=by
  intro s he hok;obtain⟨rfl,ρ',w',h1,h2,h3⟩:=hok;exact acz he h1 (hK undef ρ' w' h2 AB h3)
 have Uh:∀{s:Sem Value} {x:Option AV},execOp a.eval ⟨dst,op,type,pos,after,guard⟩=(do pure (.value (<-s)))->dV x H=some (v,H')->(x=some v->OkP P ρ H.gen w s v)->(⟨dst,op,type,pos,after,guard⟩:Oper).wp P a w K Q:=by
  intro s x he hl hok;obtain⟨h1,h2⟩:=qJ hl;exact aeR he h2 (hok h1)
 have i1:∀{x:Operand},op.operands=#[x]->RV ρ H.gen w (cO t x) (a.eval x):=λhe=> hop _ (by rw [he];simp);have i2:∀{x y:Operand},op.operands=#[x,y]->RV ρ H.gen w (cO t x) (a.eval x)/\RV ρ H.gen w (cO t y) (a.eval y):=λhe=> ⟨hop _ (by rw [he];simp),hop _ (by rw [he];simp)⟩
 have i3:∀{x y z:Operand},op.operands=#[x,y,z]->RV ρ H.gen w (cO t x) (a.eval x)/\RV ρ H.gen w (cO t y) (a.eval y)/\RV ρ H.gen w (cO t z) (a.eval z):=λhe=> ⟨hop _ (by rw [he];simp),hop _ (by rw [he];simp),hop _ (by rw [he];simp)⟩
 cases op with
 | move x=>
  refine Uh (s:=pure (a.eval x)) rfl h λhx=> ?_;cases hx;exact⟨_,rfl,i1 rfl⟩
 | assign x=>
  refine Uh (s:=pure (a.eval x)) rfl h λhx=> ?_;cases hx;exact⟨_,rfl,i1 rfl⟩
 | pick c x y=>
  obtain⟨h1,h2,h3⟩:=i3 rfl;refine Uh (s:=do pure (if<-asBool (a.eval c) then a.eval x else a.eval y)) ?_ h λhx=> acu h1 h2 h3 hx;simp [execOp]
 | alloc e=> exact Nl rfl (Yc R h)
 | box e x=> exact Nl rfl (aeK R (i1 rfl) h)
 | build ty ps=>
  obtain⟨h1,h2⟩:=Hl (ρ:=ρ) (w:=w) (G:=H.gen) (t:=t) (a:=a) ps hop;exact Uh rfl h λhx=> Yg h1 h2 hx
 | buildSlice ty n ps=>
  obtain⟨h1,h2⟩:=Hl (ρ:=ρ) (w:=w) (G:=H.gen) (t:=t) (a:=a) ps hop;exact Nl rfl (G6 R h1 h2 h)
 | load ty x=>
  obtain⟨h1,h2⟩:=Us R (i1 rfl) h;exact aeR rfl h1 h2
 | store ty x y=>
  obtain⟨h1,h2⟩:=i2 rfl;exact akT rfl (Yb R h1 h2 h)
 | nilCheck x=>
  obtain⟨h1,h2⟩:=qJ h;subst h2;obtain⟨rfl,h3⟩:=J5 (P:=P) (i1 rfl) h1;exact acA rfl h3 (hK _ ρ w R (i1 rfl) (Ext.refl _ _ _))
 | binOp b ty x y ty'=>
  obtain⟨h1,h2⟩:=i2 rfl;exact Uh rfl h λhx=> acv h1 h2 (λhn=> by rw [JX hn];rfl) hx
 | unOp b ty x=> exact Uh rfl h λhx=> aiN (i1 rfl) hx
 | convert src dst x=>
  obtain⟨h1,h2⟩:=RS R (i1 rfl) h;exact aeR rfl h1 h2
 | makeFunc f fs cs=>
  refine Uh (s:=Instr.makeFunc f (fs.map a.eval) (cs.map a.eval)) rfl h λhx=> ?_;cases hx;refine⟨_,rfl,?_⟩;simp only [RV];refine⟨_,_,rfl,?_,?_⟩
  ·rw [zcV];exact yB _ λx hx=> hop x (by simp [Op.operands];exact .inl (by simpa using hx))
  ·rw [zcV];exact yB _ λx hx=> hop x (by simp [Op.operands];exact .inr (by simpa using hx))
 | makeMap ty r=>
  cases r with
  | none=> exact Nl rfl (RP R h)
  | some r=> cases h
 | makeSlice ty l c=>
  obtain⟨h1,h2⟩:=i2 rfl;exact Nl rfl (JY R h1 h2 h)
 | slice ty x lo hi mx=>
  have hx0:RV ρ H.gen w (cO t x) (a.eval x):=hop x (by simp [Op.operands]);have hlo:Nh ρ H.gen w (lo.map (cO t)) (lo.map a.eval):=CG λy hy=> hop y (by simp [Op.operands] at hy ⊢;simp [hy]);have hhi:Nh ρ H.gen w (hi.map (cO t)) (hi.map a.eval):=CG λy hy=> hop y (by simp [Op.operands] at hy ⊢;simp [hy]);have hmx:Nh ρ H.gen w (mx.map (cO t)) (mx.map a.eval):=CG λy hy=> hop y (by simp [Op.operands] at hy ⊢;simp [hy]);exact Uh rfl h λhh=> Yf hx0 hlo hhi hmx hh
 | fieldAddr ty x i=> exact Uh rfl h λhx=> JV (i1 rfl) hx
 | field ty x i=> exact Uh rfl h λhx=> Yd (i1 rfl) hx
 | indexAddr ty x i=>
  obtain⟨h1,h2⟩:=i2 rfl;obtain⟨h3,h4⟩:=JW R h1 h2 h;exact aeR rfl h3 h4
 | index ty x i=>
  obtain⟨h1,h2⟩:=i2 rfl;exact Uh rfl h λhx=> Ye h1 h2 hx
 | lookup ty x i ok=>
  obtain⟨h1,h2⟩:=i2 rfl;obtain⟨h3,h4⟩:=Uw R h1 h2 h;exact aeR rfl h3 h4
 | mapUpdate ty m k x=>
  obtain⟨h1,h2,h3⟩:=i3 rfl;exact akT rfl (J3 R h1 h2 h3 h)
 | extract x i=> exact Uh rfl h λhx=> RJ (i1 rfl) hx
 | call c=>
  simp only [opA,rQ] at h;split at h
  ·rename_i f Nk;have hargs:RVs ρ H.gen w (c.args.toList.map (cO t)) (c.args.map a.eval).toList:=by
    rw [zcV];exact yB _ λx hx=> hop x (by simp [Op.operands,Call.operands,Nk];exact .inr (by simpa using hx))
   exact acB hC rfl Nk R (hop f (by simp [Op.operands,Call.operands,Nk])) hargs h hK
  ·rename_i b Nk;have hargs:RVs ρ H.gen w (c.args.toList.map (cO t)) (c.args.map a.eval).toList:=by
    rw [zcV];exact yB _ λx hx=> hop x (by simp [Op.operands,Call.operands,Nk];simpa using hx)
   obtain⟨s,h1,h2⟩:=RU (P:=P) (consts:=c.args.map fun | .const _=> true | _=> false) R hargs h;refine Nl (s:=s) ?_ h2;rw [<-h1];simp only [execOp,resolve,Nk];rfl
  ·cases h
 | _=> cases h
end
def UC(o o':eP):Prop:=∀g ty c,o=.blk g ty c->∃g' ty' c',o'=.blk g' ty' c'/\(ty'=ty∨gB<=ty')
theorem UC.refl(o:eP):UC o o:=λg ty c h=> ⟨g,ty,c,h,.inl rfl⟩
theorem UC.trans {a b c:eP}(h:UC a b)(h':UC b c):UC a c:=λg ty cs e=> by
 obtain⟨g1,t1,c1,e1,k1⟩:=h g ty cs e;obtain⟨g2,t2,c2,e2,k2⟩:=h' g1 t1 c1 e1;refine⟨g2,t2,c2,e2,?_⟩;rcases k2 with rfl | k2
 ·exact k1
 ·exact .inr k2
theorem wI {o:eP}{g g' ty:Nat}{c c':List AV}(h:o=.blk g ty c):UC o (.blk g' ty c'):=λ_ _ _ e=> by
 rw [h] at e;cases e;exact⟨_,_,_,rfl,.inl rfl⟩
theorem PL {o:eP}{g' ty':Nat}{c':List AV}(h:gB<=ty'):UC o (.blk g' ty' c'):=λ_ _ _ _=> ⟨_,_,_,rfl,.inr h⟩
theorem PN {o o':eP}{k:IntKind}{es:List (Int × AV)}(h:o=.map k es):UC o o':=λ_ _ _ e=> by rw [h] at e;cases e
theorem PO {e ty off:Nat}:gB<=grT e ty off:=by
 unfold grT;split <;> omega
structure Keeps(H H':ah):Prop where
 base:H'.base=H.base
 next:H.next<=H'.next
 get:∀r,r < H.base->r < H.next->H'.get r=H.get r
 types:∀r,r < H.next->UC (H.get r) (H'.get r)
theorem Keeps.refl(H:ah):Keeps H H:=⟨rfl,zac _,λ_ _ _=> rfl,λ_ _=> .refl _⟩
theorem Keeps.trans {H H' H'':ah}(a:Keeps H H')(b:Keeps H' H''):Keeps H H'':=
 ⟨b.base.trans a.base,zaC a.next b.next,λr h1 h2=> (b.get r (by rw [a.base];exact h1) (zaw h2 a.next)).trans (a.get r h1 h2),λr h=> (a.types r h).trans (b.types r (zaw h a.next))⟩
theorem Keeps.new(H:ah)(o:eP):Keeps H (H.new o):=⟨rfl,by simp [ah.new],λr _ h=> by simp [ah.new];intro e;omega,λr h=> by
 have:(H.new o).get r=H.get r:=by simp [ah.new];intro e;omega
 rw [this];exact .refl _⟩
theorem Keeps.put {H:ah}{r:Nat}(o:eP)(h:H.base<=r)(ho:UC (H.get r) o):Keeps H (H.put r o):=⟨rfl,zac _,λx h1 _=> by simp [ah.put];intro e;omega,λx _=> by
 by_cases e:x=r
 ·subst e;simp only [ah.put,if_true];exact ho
 ·simp only [ah.put,e,if_false];exact .refl _⟩
def jM(C:ak):Prop:=∀f args H v H',C f args H=some (v,H')->Keeps H H'
def Np(H H':ah):Prop:=H'.base=H.base/\H.next<=H'.next/\∀r,r < H.next->H'.get r=H.get r
section
variable {P:Program}{C:ak}{t:eu}{o:Oper}{H H':ah}{v:AV}
theorem pU {e:TypeId}{m b n:Nat}{x:AV}{new:List AV}(h:dD e m b x n new H=some (v,H')):Keeps H H':=by
 unfold dD at h;split at h <;> first | (cases h;done) | skip
 split at h <;> first | (cases h;done) | skip
 ·split at h
  ·simp only [zaa,zad] at h;rw [<-h.2];exact .refl _
  ·split at h <;> first | (cases h;done) | skip
   simp only [zaa,zad] at h;rw [<-h.2];exact .new _ _
 ·split at h <;> first | (cases h;done) | skip
  split at h <;> first | (cases h;done) | skip
  split at h
  ·simp only [zaa,zad] at h;rw [<-h.2];exact .refl _
  ·split at h
   ·split at h <;> first | (cases h;done) | skip
    rename_i hc;simp only [zaa,zad] at h;rw [<-h.2];exact .put _ hc.1 (by first | exact PL PO | exact wI (by assumption))
   ·split at h <;> first | (cases h;done) | skip
    split at h
    ·simp only [zaa,zad] at h;rw [<-h.2];exact .new _ _
    ·split at h <;> first | (cases h;done) | skip
     rename_i hc;simp only [zaa,zad] at h;rw [<-h.2];exact .put _ hc (by first | exact PL PO | exact wI (by assumption))
theorem RX(hf:oH o.op=true):∃F:Option eP->Option AV,(GU o.op=false->∀a b,F a=F b)/\∀H:ah,opA P C t o H=(F ((jT t o.op).map H.get)).map λv=> (v,H):=by
 obtain⟨dst,op,type,pos,after,guard⟩:=o;have lift:∀{x:Option AV},opA P C t ⟨dst,op,type,pos,after,guard⟩=dV x->∃F:Option eP->Option AV,(GU op=false->∀a b,F a=F b)/\∀H:ah,opA P C t ⟨dst,op,type,pos,after,guard⟩ H=(F ((jT t op).map H.get)).map λv=> (v,H):=
  λ{x} he=> ⟨λ_=> x,λ_ _ _=> rfl,λH=> by rw [he];rfl⟩
 cases op with
 | move x=> exact lift rfl
 | assign x=> exact lift rfl
 | pick c a b=> exact lift rfl
 | build ty ps=> exact lift rfl
 | nilCheck x=> exact lift rfl
 | binOp b ty x y ty'=> exact lift rfl
 | unOp b ty x=> exact lift rfl
 | makeFunc f a c=> exact lift rfl
 | slice ty x lo hi mx=> exact lift rfl
 | fieldAddr ty x i=> exact lift rfl
 | field ty x i=> exact lift rfl
 | index ty x i=> exact lift rfl
 | extract x i=> exact lift rfl
 | load ty x=> exact⟨_,(λh=> by cases h),λH=> rfl⟩
 | lookup ty x i ok=> exact⟨_,(λh=> by cases h),λH=> rfl⟩
 | indexAddr ty x i=> exact⟨_,(λh=> by cases h),λH=> rfl⟩
 | convert src dst x=> exact⟨_,(λh=> by cases h),λH=> rfl⟩
 | call c=>
  have aeS:∀H,opA P C t ⟨dst,.call c,type,pos,after,guard⟩ H=rQ P C t c type H:=λ_=> rfl;simp only [oH] at hf;cases Nk:c.callee with
  | value f=> simp [Nk] at hf
  | invoke r m=> simp [Nk] at hf
  | builtin b=>
   have hb:∀H,rQ P C t c type H=gu P b c.argTypes type (c.args.toList.map (cO t)) H:=λH=> by simp only [rQ,Nk]
   have none':(∀H,gu P b c.argTypes type (c.args.toList.map (cO t)) H=none)->∃F:Option eP->Option AV,(GU (.call c)=false->∀a b,F a=F b)/\∀H:ah,opA P C t ⟨dst,.call c,type,pos,after,guard⟩ H=(F ((jT t (.call c)).map H.get)).map λv=> (v,H):=
    λhn=> ⟨λ_=> none,λ_ _ _=> rfl,λH=> by rw [aeS,hb,hn];rfl⟩
   have lift':∀x,(∀H,gu P b c.argTypes type (c.args.toList.map (cO t)) H=dV x H)->∃F:Option eP->Option AV,(GU (.call c)=false->∀a b,F a=F b)/\∀H:ah,opA P C t ⟨dst,.call c,type,pos,after,guard⟩ H=(F ((jT t (.call c)).map H.get)).map λv=> (v,H):=
    λx hn=> ⟨λ_=> x,λ_ _ _=> rfl,λH=> by rw [aeS,hb,hn];rfl⟩
   cases b with
   | len=>
    cases hts:c.argTypes.toList with
    | nil=> exact none' λH=> by simp only [gu,hts]
    | cons u us=>
     cases us with
     | cons u2 us=> exact none' λH=> by simp only [gu,hts]
     | nil=>
      cases hcl:c.args.toList with
      | nil=> exact none' λH=> by simp only [gu,hts,hcl,zbz]
      | cons y ys=>
       cases ys with
       | cons z zs=> exact none' λH=> by simp only [gu,hts,hcl,zaA]
       | nil=>
        refine⟨air P u (cO t y),(λh=> by simp [GU,Nk] at h),λH=> ?_⟩;rw [aeS,hb];simp only [gu,hts,hcl,zaA,zbz,aeI,jP,jT]
   | cap=>
    cases hts:c.argTypes.toList with
    | nil=> exact none' λH=> by simp only [gu,hts]
    | cons u us=>
     cases us with
     | cons u2 us=> exact none' λH=> by simp only [gu,hts]
     | nil=>
      cases hcl:c.args.toList with
      | nil=> exact none' λH=> by simp only [gu,hts,hcl,zbz]
      | cons y ys=>
       cases ys with
       | cons z zs=> exact none' λH=> by simp only [gu,hts,hcl,zaA]
       | nil=> exact lift' (ZT P u (cO t y)) λH=> by simp only [gu,hts,hcl,zaA,zbz]
   | max=> exact lift' (jm P true c.argTypes type (c.args.toList.map (cO t))) λH=> rfl
   | min=> exact lift' (jm P false c.argTypes type (c.args.toList.map (cO t))) λH=> rfl
   | _=> simp [Nk] at hf
 | _=> cases hf
theorem Hq(hf:oH o.op=true)(h:opA P C t o H=some (v,H')):H'=H/\∀H2:ah,(GU o.op=true->∀r,jT t o.op=some r->H2.get r=H.get r)->opA P C t o H2=some (v,H2):=by
 obtain⟨F,h1,h2⟩:=RX (P:=P) (C:=C) (t:=t) hf;rw [h2] at h;cases hF:F ((jT t o.op).map H.get) with
 | none=> rw [hF] at h;cases h
 | some u=>
  rw [hF] at h;simp only [zaf,zaa,zad] at h;refine⟨h.2.symm,λH2 hw=> ?_⟩;rw [h2];have:F ((jT t o.op).map H2.get)=F ((jT t o.op).map H.get):=by
   cases hl:GU o.op with
   | false=> exact h1 hl _ _
   | true=>
    cases hwa:jT t o.op with
    | none=> rfl
    | some r=> simp only [zaf,hw hl r hwa]
  rw [this,hF,h.1];rfl
theorem Nq(hC:jM C){f:AV}{args:List AV}(h:oQ P C f args H=some (v,H')):Keeps H H':=by
 unfold oQ at h;split at h <;> first | (cases h;done) | skip
 ·split at h <;> first | (cases h;done) | skip
  exact hC _ _ _ _ _ h
 ·split at h <;> first | (cases h;done) | skip
  exact hC _ _ _ _ _ h
theorem AL(hC:jM C)(h:opA P C t o H=some (v,H')):Keeps H H':=by
 by_cases hf:oH o.op=true
 ·rw [(Hq hf h).1];exact .refl _
 obtain⟨dst,op,type,pos,after,guard⟩:=o;cases op with
 | alloc e=>
  simp only [opA,Fe] at h;split at h <;> first | (cases h;done) | skip
  split at h <;> first | (cases h;done) | skip
  simp only [zaa,zad] at h;rw [<-h.2];exact .new _ _
 | box e x=>
  simp only [opA,iC] at h;split at h <;> first | (cases h;done) | skip
  simp only [zaa,zad] at h;rw [<-h.2];exact .new _ _
 | buildSlice ty n ps=>
  simp only [opA,cZ] at h;split at h <;> first | (cases h;done) | skip
  split at h <;> first | (cases h;done) | skip
  split at h <;> first | (cases h;done) | skip
  split at h <;> first | (cases h;done) | skip
  split at h <;> first | (cases h;done) | skip
  simp only [zaa,zad] at h;rw [<-h.2];exact .new _ _
 | store ty x y=>
  simp only [opA,JM] at h;split at h <;> first | (cases h;done) | skip
  split at h <;> first | (cases h;done) | skip
  split at h <;> first | (cases h;done) | skip
  rename_i hc;simp only [zaa,zad] at h;rw [<-h.2];exact .put _ hc.2.1 (wI (by assumption))
 | makeMap ty r=>
  cases r with
  | none=>
   simp only [opA,tX] at h;split at h <;> first | (cases h;done) | skip
   simp only [zaa,zad] at h;rw [<-h.2];exact .new _ _
  | some r=> cases h
 | makeSlice ty l c=>
  simp only [opA,nI] at h;split at h <;> first | (cases h;done) | skip
  split at h <;> first | (cases h;done) | skip
  split at h <;> first | (cases h;done) | skip
  simp only [zaa,zad] at h;rw [<-h.2];exact .new _ _
 | mapUpdate ty m k x=>
  simp only [opA,pK] at h;split at h <;> first | (cases h;done) | skip
  split at h <;> first | (cases h;done) | skip
  split at h <;> first | (cases h;done) | skip
  rename_i hc;simp only [zaa,zad] at h;rw [<-h.2];exact .put _ hc.2.2 (PN (by assumption))
 | call c=>
  have aeS:opA P C t ⟨dst,.call c,type,pos,after,guard⟩=rQ P C t c type:=rfl;rw [aeS] at h;unfold rQ at h;split at h <;> first | (cases h;done) | skip
  ·exact Nq hC h
  ·unfold gu at h;split at h <;> first | (cases h;done) | skip
   ·unfold GN at h;split at h <;> first | (cases h;done) | skip
    split at h <;> first | (cases h;done) | skip
    split at h <;> first | (cases h;done) | skip
    split at h
    ·split at h <;> first | (cases h;done) | skip
     split at h <;> first | (cases h;done) | skip
     exact pU h
    ·split at h <;> first | (cases h;done) | skip
     exact pU h
   ·rw [(qH h).2];exact .refl _
   ·rw [(qJ h).2];exact .refl _
   ·unfold X6 at h;split at h <;> first | (cases h;done) | skip
    split at h <;> first | (cases h;done) | skip
    simp only at h;split at h <;> first | (cases h;done) | skip
    split at h
    ·split at h <;> first | (cases h;done) | skip
     simp only [zaa,zad] at h;rw [<-h.2];exact .refl _
    ·split at h <;> first | (cases h;done) | skip
     split at h <;> first | (cases h;done) | skip
     split at h <;> first | (cases h;done) | skip
     rename_i hc;simp only [zaa,zad] at h;rw [<-h.2];exact .put _ hc.2.2.1 (wI (by assumption))
   ·unfold PE at h;split at h <;> first | (cases h;done) | skip
    split at h <;> first | (cases h;done) | skip
    ·split at h
     ·simp only [zaa,zad] at h;rw [<-h.2];exact .refl _
     ·split at h <;> first | (cases h;done) | skip
      split at h <;> first | (cases h;done) | skip
      rename_i hc;simp only [zaa,zad] at h;rw [<-h.2];exact .put _ hc.2.2.1 (wI (by assumption))
    ·simp only [zaa,zad] at h;rw [<-h.2];exact .refl _
   ·unfold GR at h;split at h <;> first | (cases h;done) | skip
    split at h <;> first | (cases h;done) | skip
    split at h <;> first | (cases h;done) | skip
    rename_i hc;simp only [zaa,zad] at h;rw [<-h.2];exact .put _ hc.2.2 (PN (by assumption))
   ·rw [(qJ h).2];exact .refl _
   ·rw [(qJ h).2];exact .refl _
 | _=> first | (cases h;done) | exact absurd rfl hf
theorem Np.new(H:ah)(o:eP):Np H (H.new o):=⟨rfl,by simp [ah.new],λr h=> by simp [ah.new];intro e;omega⟩
theorem Nr(hq:qC o.op=true)(hc:kQ o.op=false)(h:opA P C t o H=some (v,H')):Np H H':=by
 obtain⟨dst,op,type,pos,after,guard⟩:=o;cases op with
 | box e x=>
  simp only [opA,iC] at h;split at h <;> first | (cases h;done) | skip
  simp only [zaa,zad] at h;rw [<-h.2];exact .new _ _
 | buildSlice ty n ps=>
  simp only [opA,cZ] at h;split at h <;> first | (cases h;done) | skip
  split at h <;> first | (cases h;done) | skip
  split at h <;> first | (cases h;done) | skip
  split at h <;> first | (cases h;done) | skip
  split at h <;> first | (cases h;done) | skip
  simp only [zaa,zad] at h;rw [<-h.2];exact .new _ _
 | makeMap ty r=>
  cases r with
  | none=>
   simp only [opA,tX] at h;split at h <;> first | (cases h;done) | skip
   simp only [zaa,zad] at h;rw [<-h.2];exact .new _ _
  | some r=> cases h
 | makeSlice ty l c=>
  simp only [opA,nI] at h;split at h <;> first | (cases h;done) | skip
  split at h <;> first | (cases h;done) | skip
  split at h <;> first | (cases h;done) | skip
  simp only [zaa,zad] at h;rw [<-h.2];exact .new _ _
 | call c=>
  simp only [qC] at hq;simp only [kQ] at hc;cases Nk:c.callee <;> simp_all
 | _=> cases hq
theorem CJ(hC:jM C)(h:opG P C t o H=some (v,H')):Np H H'/\∃H1,opA P C t o H.guard=some (v,H1)/\H'={ H1 with base:=H.base }:=by
 unfold opG at h;split at h <;> first | (cases h;done) | skip
 rename_i u H1 h1;simp only [zaa,zad] at h;obtain⟨rfl,rfl⟩:=h;have hk:=AL hC h1;exact⟨⟨rfl,hk.next,λr hr=> hk.get r hr hr⟩,H1,h1,rfl⟩
theorem Ym(hc:Au o.op=true)(h:opA P C t o H=some (v,H')):
  ∃(ty:TypeId) (z:List AV) (mk:Nat->AV),v=mk H.next/\H'=H.new (.blk 0 ty z)/\
   ∀(ρ:Ren) (G:Nat->Nat) (w:World) (a:Act),∃(cs:Array Value) (cv:Value),(execOp a.eval o).run P w=.ok (.value cv) (w.alloc (.cells cs ty))/\(RVs ρ G w z cs.toList/\ty < gB)/\
    ∀(ρ':Ren) (G':Nat->Nat) (r:Nat),G' r=0->ρ' r=some (w.heap.size,0)->RV ρ' G' (w.alloc (.cells cs ty)) (mk r) cv:=by
 obtain⟨dst,op,type,pos,after,guard⟩:=o;cases op with
 | alloc e=>
  simp only [opA,Fe,uH] at h;cases hz:wE P e with
  | none=> simp [hz] at h
  | some z=>
   simp only [hz,zaf] at h;split at h <;> first | (cases h;done) | skip
   simp only [zaa,zad] at h;refine⟨e,_,λr=> .ref r 0 0,h.1.symm,h.2.symm,fun ρ G w a=> ⟨z.cells,.pointer (some ⟨w.heap.size,0,none⟩),?_,⟨fJ _,qF hz⟩,fun ρ' G' r hg hr=> ?_⟩⟩
   ·simp [execOp,Instr.alloc,eU hz,newVar,newRow]
   ·simp only [RV];exact⟨_,rfl,by omega,λ_=> ⟨_,0,hr,by simp⟩⟩
 | buildSlice ty n ps=>
  simp only [Au] at hc;simp only [opA] at h;have hparts:∀(a:Act) (p:Nat × Operand),p∈ps.toList->∃u,p.2=.const u:=by
   intro a p hp;have:=zcr.1 hc p (by simpa using hp);cases hp2:p.2 with
   | const u=> exact⟨u,rfl⟩
   | _=> rw [hp2] at this;cases this
  have hev:∀(ρ:Ren) (G:Nat->Nat) (w:World) (a:Act),∀x∈(ps.toList.map (·.2)).toArray,RV ρ G w (cO t x) (a.eval x):=by
   intro ρ G w a x hx;simp only [List.mem_toArray,zaD] at hx;obtain⟨p,hp,rfl⟩:=hx;obtain⟨u,hu⟩:=hparts a p hp;rw [hu];simp only [cO,Act.eval,RV]
  unfold cZ at h;cases he:wC P ty with
  | none=> simp [he] at h
  | some e=>
   simp only [he] at h;cases hs:szT P e with
   | none=> simp [hs] at h
   | some m=>
    cases hz:uH P e with
    | none=> simp [hs,hz] at h
    | some z=>
     simp only [hs,hz] at h;obtain⟨zv,hzv,rfl⟩:=wH hz;split at h <;> first | (cases h;done) | skip
     rename_i hcond;obtain⟨hzl,hbig⟩:=hcond;simp at hzl;split at h <;> first | (cases h;done) | skip
     rename_i cells hf;split at h <;> first | (cases h;done) | skip
     simp only [zaa,zad] at h;refine⟨e,cells,λr=> .sl r 0 0 m n n true,h.1.symm,h.2.symm,fun ρ G w a=> ?_⟩;obtain⟨hi,hp⟩:=Hl (ρ:=ρ) (w:=w) (G:=G) (t:=t) (a:=a) ps (hev ρ G w a);obtain⟨zc,hzr,hz0⟩:∃zc:Array Value,RVs ρ G w (dh (zv.cells.toList.map .s) n) ((Array.range (n*m)).map (zc[· % zc.size]!)).toList/\((n*m=0/\zc=#[])∨(¬n*m=0/\zc=zv.cells)):=by
      by_cases h0:n*m=0
      ·refine⟨#[],?_,.inl ⟨h0,rfl⟩⟩;rw [h0];have:dh (zv.cells.toList.map .s) n=[]:=zan (by rw [gV];simp [hzl,h0]);rw [this];simp [RVs]
      ·refine⟨zv.cells,?_,.inr ⟨h0,rfl⟩⟩;have:=rW (ρ:=ρ) (G:=G) (w:=w) zv n;rw [hzl] at this ⊢;exact this
     obtain⟨cs,h1,h2⟩:=Cm _ _ _ _ cells hi hp hzr hf;have hfl:cs.size=n*m:=by
      have hsz:∀(place:Nat->Option (Nat × Nat)) (l:List (Nat × Value)) (a b:Array Value),Instr.fill place a l=some b->b.size=a.size:=by
       intro place l
       induction l with
       | nil=> intro a b h;simp [Instr.fill] at h;rw [h]
       | cons p l ih=>
        intro a b h;obtain⟨i,x⟩:=p;simp only [Instr.fill] at h;split at h
        ·cases h
        ·split at h
         ·cases h
         ·rw [ih _ _ h,<-zcq,zc9,tY,dJ]
      rw [hsz _ _ _ _ h1];simp
     refine⟨cs,.slice (some ⟨w.heap.size,0,none⟩) n n,?_,⟨h2,qF hzv⟩,fun ρ' G' r hg hr=> ?_⟩
     ·have hnb:¬n*m > 2 ^ 24:=by omega
      simp only [execOp,Instr.buildSlice,Sem.run_bind,run_underlying (mD he),Result.andThen_ok,dK hs,hnb,if_false];rcases hz0 with⟨h0,rfl⟩ | ⟨h0,rfl⟩
      ·rw [if_pos h0];simp only [Result.andThen_ok,h1,Sem.run_bind,newRow,run_newObj,Sem.run_pure];rfl
      ·rw [if_neg h0];simp only [Result.andThen_ok,h1,Sem.run_bind,newRow,run_newObj,Sem.run_pure,eU hzv];rfl
     ·simp only [RV];refine⟨w.heap.size,0,n,rfl,zac _,zac _,λ_=> rfl,by omega,λ_=> ⟨0,e,cs.size,hr,λ_=> rfl,?_,by rw [hfl];omega⟩⟩;rw [dP,jh];rfl
 | _=> cases hc
end
theorem qK {ops:List Oper}{L:Nat->Prop}(hdown:∀j o,ops[j]?=some o->L j->∀e∈o.after,Region.binds .any e=true->L e.on):
  ∀i j,kW ops i j=true->L j->L i:=by
 have key:∀(l pre:List Oper) (acc:Array Nat),pre.length=acc.size->(∀i j,(acc.getD j 0).testBit i=true->(pre++l=ops)->L j->L i)->pre++l=ops->
   ∀i j,((l.foldl (init:=acc) λacc o=> acc.push (o.after.foldl (λs e=> if Region.binds .any e then s ||| 2 ^ e.on ||| acc.getD e.on 0 else s) 0)).getD j 0).testBit i=true->L j->L i:=by
  intro l
  induction l with
  | nil=>
   intro pre acc _ h he i j hb hl;exact h i j hb he hl
  | cons o l ih=>
   intro pre acc hsz h he i j hb hl;simp only [zcp] at hb;refine ih (pre++[o]) _ (by simp [hsz]) ?_ (by simpa using he) i j hb hl;intro i j hb he' hl;by_cases hj:j < acc.size
   ·refine h i j ?_ he hl
    simpa [Array.getD,hj,Nat.lt_succ_of_lt hj,Array.getElem_push_lt hj] using hb
   ·by_cases hj':j=acc.size
    ·subst hj';have hoj:ops[acc.size]?=some o:=by rw [<-he,<-hsz];simp
     have hs:((acc.push (o.after.foldl (λs e=> if Region.binds .any e then s ||| 2 ^ e.on ||| acc.getD e.on 0 else s) 0)).getD acc.size 0)=o.after.foldl (λs e=> if Region.binds .any e then s ||| 2 ^ e.on ||| acc.getD e.on 0 else s) 0:=by simp
     rw [hs] at hb;have inner:∀(es:List Edge) (s:Nat),(∀e∈es,e∈o.after)->(s.testBit i=true->L i)->(es.foldl (λs e=> if Region.binds .any e then s ||| 2 ^ e.on ||| acc.getD e.on 0 else s) s).testBit i=true->L i:=by
      intro es
      induction es with
      | nil=> intro s _ hs hb;exact hs hb
      | cons e es ih2=>
       intro s hin hs hb;simp only [zcp] at hb;refine ih2 _ (λe' h'=> hin e' (by simp [h'])) ?_ hb;intro hb2;split at hb2
       ·rename_i hbi;simp only [zci,zbc,zcI] at hb2;have hle:=hdown _ o hoj hl e (hin e (by simp)) hbi;rcases hb2 with(hb2 | hb2) | hb2
        ·exact hs hb2
        ·simp at hb2;rw [<-hb2];exact hle
        ·exact h i e.on hb2 he hle
       ·exact hs hb2
     refine inner o.after.toList 0 (λe he=> by simpa using he) (λhz=> by simp at hz) ?_;rw [zcq];exact hb
    ·have:(acc.push (o.after.foldl (λs e=> if Region.binds .any e then s ||| 2 ^ e.on ||| acc.getD e.on 0 else s) 0)).getD j 0=0:=by
      simp [Array.getD,show¬j < acc.size+1 by omega]
     rw [this] at hb;simp at hb
 intro i j hb hl;refine key ops [] #[] rfl (λi j hb=> by simp at hb) rfl i j ?_ hl;unfold kW Region.before at hb;rw [<-zcq] at hb;exact hb
theorem jk {n:Nat}{f:Nat->Bool}(h:Aj n f=true){i:Nat}(hi:i < n):f i=true:=by
 unfold Aj at h;exact za0.1 h i (zaY.2 hi)
structure CO(ops:List Oper):Prop where
 edges:∀j o,ops[j]?=some o->∀e∈o.after,Region.binds .any e=true->e.on < ops.length/\BX ops e.on j=true
 ais:∀(i j:Nat) (oi oj:Oper) (d:Tmp),ops[i]?=some oi->ops[j]?=some oj->oi.dst=some d->oj.dst=some d->i=j
 uses:∀(i j:Nat) (oi oj:Oper) (d:Tmp),i≠j->ops[i]?=some oi->ops[j]?=some oj->oi.dst=some d->d∈oj.looksAt ops.toArray->(kW ops i j=true/\BX ops i j=true)∨(kW ops j i=true/\BX ops j i=true)
 chain:∀i j,i < j->j < ops.length->chn ops i=true->chn ops j=true->kW ops i j=true
 const:∀j o,ops[j]?=some o->cst ops j=true->o.guard=none/\o.dst.isSome=true
 loose:∀j e,j < ops.length->e < ops.length->cst ops j=true->chn ops e=true->kW ops j e=false->(qC (nO ops e)=true∨acs (nO ops e)=true)/\kW ops e j=false
theorem bZ {α:Type}{l:List α}{i:Nat}{x:α}(h:l[i]?=some x):i < l.length:=(zah.1 h).1
theorem qL {ops:List Oper}{j:Nat}{o:Oper}(h:ops[j]?=some o):nO ops j=o.op:=by simp [nO,h]
theorem CQ {ops:List Oper}{j:Nat}{o:Oper}(h:ops[j]?=some o):Fg ops j=o.dst:=by simp [Fg,h]
theorem zD {ops:List Oper}(h:PG ops=true):CO ops:=by
 unfold PG at h;simp only [zae] at h;obtain⟨⟨⟨⟨⟨h1,h2⟩,h3⟩,h4⟩,h5⟩,h6⟩:=h;refine⟨λj o ho e he hb=> ?_,λi j oi oj d hi hj di dj=> ?_,λi j oi oj d hne hi hj di hd=> ?_,λi j hij hj ci cj=> ?_,λj o ho hc=> ?_,λj e hj he hc hch hb=> ?_⟩
 ·have:=jk h1 (bZ ho);simp only [ho,zaf,zax] at this;have:=zcr.1 this e he
  simpa [hb] using this
 ·have aux:∀(i j:Nat) (oi oj:Oper),ops[i]?=some oi->ops[j]?=some oj->oi.dst=some d->oj.dst=some d->¬i < j:=by
   intro i j oi oj hi hj di dj hlt;have:=jk (jk h2 (bZ hi)) (bZ hj);rw [CQ hi,CQ hj,di,dj] at this;simp [hlt] at this
  have a1:=aux i j oi oj hi hj di dj;have a2:=aux j i oj oi hj hi dj di;omega
 ·have:=jk (jk h3 (bZ hi)) (bZ hj);rw [CQ hi,di,hj] at this;simp only [zbc,beq_iff_eq,za9,zae] at this;rcases this with h | (h | h) | h
  ·exact absurd h hne
  ·have hc:(oj.looksAt ops.toArray).contains d=true:=List.contains_iff_mem.2 hd;rw [hc] at h;cases h
  ·exact .inl h
  ·exact .inr h
 ·have:=jk (jk h4 (Nat.lt_trans hij hj)) hj
  simpa [ci,cj,hij] using this
 ·have:=jk h5 (bZ ho);simp only [hc,zar,zbK,ho,zaf,zax,zae] at this;exact⟨Option.isNone_iff_eq_none.1 this.1,this.2⟩
 ·have:=jk (jk h6 hj) he;simp only [hc,hch,hb,zaB,zcn,zar,zbK,zae,za9,zbc] at this;exact this
theorem uO {P:Program}{C:ak}{ops:List Oper}:∀(l m:List Nat) (t:eu) (H:ah),
  dW P C ops (l++m) t H=(dW P C ops l t H).bind λs=> dW P C ops m s.1 s.2
 | [],m,t,H=> rfl
 | i::l,m,t,H=> by
  simp only [zbf,dW];cases ops[i]? with
  | none=> rfl
  | some o=>
   simp only;cases kU P C ops (loose ops i && kQ o.op) o t H with
   | none=> rfl
   | some r=> exact uO l m _ _
theorem yC(f:Nat->Bool)(p:Nat):(List.range (p+1)).filter f=(List.range p).filter f++(if f p then [p] else []):=by
 rw [zbV,zcs]
 congr 1
 simp only [zby,List.filter_nil]
theorem rZ {P:Program}{C:ak}{ops:List Oper}{p:Nat}{t:eu}{H:ah}:BZ P C ops (p+1) t H=
  (BZ P C ops p t H).bind λs=> if cst ops p then some s else dW P C ops [p] s.1 s.2:=by
 unfold BZ;rw [yC,uO]
 congr 1
 funext s
 cases cst ops p <;> rfl
theorem UD {P:Program}{C:ak}{ops:List Oper}{t:eu}{H:ah}{n:Nat}{s:eu × ah}(h:BZ P C ops n t H=some s):∀k p,p+k=n->∃s',BZ P C ops p t H=some s':=by
 intro k
 induction k generalizing n s with
 | zero=> intro p hp;simp at hp;subst hp;exact⟨s,h⟩
 | succ k ih=>
  intro p hp;cases n with
  | zero=> omega
  | succ n=>
   rw [rZ] at h;cases hn:BZ P C ops n t H with
   | none=> rw [hn] at h;cases h
   | some s'=> exact ih hn p (by omega)
structure yD(P:Program)(C:ak)(ops:List Oper)(t0:eu)(H0:ah)(T:Nat->eu)(Hp:Nat->ah)(val:Nat->AV):Prop where
 zero:T 0=t0/\Hp 0=H0
 at_:∀p,p<=ops.length->BZ P C ops p t0 H0=some (T p,Hp p)
 skip:∀p,p < ops.length->cst ops p=true->T (p+1)=T p/\Hp (p+1)=Hp p
 step:∀p o,ops[p]?=some o->cst ops p=false->kU P C ops (loose ops p && kQ o.op) o (T p) (Hp p)=some (val p,Hp (p+1))/\T (p+1)=rO (T p) o.dst (val p)
theorem Fq {P:Program}{C:ak}{ops:List Oper}{t0:eu}{H0:ah}{s:eu × ah}(h:dW P C ops (kY ops) t0 H0=some s)(vc:Nat->AV):
  ∃T Hp val,yD P C ops t0 H0 T Hp val/\(T ops.length,Hp ops.length)=s/\∀p,cst ops p=true->val p=vc p:=by
 have hn:BZ P C ops ops.length t0 H0=some s:=h;let S:Nat->eu × ah:=λp=> (BZ P C ops p t0 H0).getD (t0,H0)
 have hS:∀p,p<=ops.length->BZ P C ops p t0 H0=some (S p):=λp hp=> by
  obtain⟨s',hs'⟩:=UD hn (ops.length - p) p (by omega);simp only [S,hs',zax]
 have hstep:∀p o,ops[p]?=some o->cst ops p=false->∃v,kU P C ops (loose ops p && kQ o.op) o (S p).1 (S p).2=some (v,(S (p+1)).2)/\(S (p+1)).1=rO (S p).1 o.dst v:=by
  intro p o ho hc;have hp:=bZ ho;have h1:=hS (p+1) hp;rw [rZ,hS p (by omega)] at h1;simp only [zaX,hc,zaj,if_false,dW,ho] at h1;cases hst:kU P C ops (loose ops p && kQ o.op) o (S p).1 (S p).2 with
  | none=> rw [hst] at h1;cases h1
  | some r=>
   rw [hst] at h1;simp only [zaa] at h1;exact⟨r.1,by rw [<-h1],by rw [<-h1]⟩
 refine⟨λp=> (S p).1,λp=> (S p).2,λp=> if cst ops p then vc p else match ops[p]? with
  | some o=> (match kU P C ops (loose ops p && kQ o.op) o (S p).1 (S p).2 with | some r=> r.1 | none=> aV)
  | none=> aV,⟨⟨rfl,rfl⟩,hS,λp hp hc=> ?_,λp o ho hc=> ?_⟩,?_,λp hc=> by simp [hc]⟩
 ·have h1:=hS (p+1) hp;rw [rZ,hS p (by omega)] at h1;simp only [zaX,hc,if_true,zaa] at h1;rw [<-h1];exact⟨rfl,rfl⟩
 ·obtain⟨v,h1,h2⟩:=hstep p o ho hc;simp only [hc,zaj,if_false,ho,h1,h2,and_self]
 ·have:=hS ops.length (zac _);rw [hn] at this;cases this;rfl
structure J7(P:Program)(o:Oper)(v:AV)(r:Nat)(ob:eP):Prop where
 ex:∃(ty:TypeId) (z:List AV) (mk:Nat->AV),v=mk r/\ob=.blk 0 ty z/\
   ∀(ρ:Ren) (G:Nat->Nat) (w:World) (a:Act),∃(cs:Array Value) (cv:Value),(execOp a.eval o).run P w=.ok (.value cv) (w.alloc (.cells cs ty))/\(RVs ρ G w z cs.toList/\ty < gB)/\
    ∀(ρ':Ren) (G':Nat->Nat) (r:Nat),G' r=0->ρ' r=some (w.heap.size,0)->RV ρ' G' (w.alloc (.cells cs ty)) (mk r) cv
theorem kM(t:eu)(d:Option Tmp)(v:AV):(rO t d v).length=t.length:=by cases d <;> simp [rO]
theorem Hr(t:eu)(d:Option Tmp)(v:AV)(i:Nat):(rO t d v)[i]?=if d=some i/\i < t.length then some v else t[i]?:=by
 cases d with
 | none=> simp [rO]
 | some d=>
  simp only [rO,zcQ,zaa];by_cases h:d=i
  ·subst h;by_cases hl:d < t.length
   ·simp [hl]
   ·simp [hl]
  ·simp [h]
theorem qM {P:Program}{C:ak}{ops:List Oper}:∀(is:List Nat) (t:eu) (H:ah) (t0:eu) (H0:ah),is.Nodup->(∀j∈is,cst ops j=true)->
  (∀i∈is,∀j∈is,∀(oi oj:Oper) (d:Tmp),ops[i]?=some oi->ops[j]?=some oj->oi.dst=some d->oj.dst=some d->i=j)->gy P C ops is t H=some (t0,H0)->
  Np H H0/\(∀r,H.next<=r->H.gen r=0->H0.gen r=0)/\t0.length=t.length/\∃(nm:Nat->Nat) (vl:Nat->AV),(∀j∈is,∃o,ops[j]?=some o/\H.next<=nm j/\nm j < H0.next/\J7 P o (vl j) (nm j) (H0.get (nm j))/\∀d,o.dst=some d->d < t.length->t0[d]?=some (vl j))/\
   (∀i∈is,∀j∈is,nm i=nm j->i=j)/\∀d,(∀j∈is,∀o,ops[j]?=some o->o.dst≠some d)->t0[d]?=t[d]?
 | [],t,H,t0,H0,_,_,_,h=> by
  simp only [gy,zaa,zad] at h;obtain⟨rfl,rfl⟩:=h;exact⟨⟨rfl,zac _,λ_ _=> rfl⟩,λ_ _ h=> h,rfl,λ_=> 0,λ_=> aV,by simp,by simp,λ_ _=> rfl⟩
 | i::is,t,H,t0,H0,hnd,akU,hdst,h=> by
  simp only [gy] at h;cases ho:ops[i]? with
  | none=> rw [ho] at h;cases h
  | some o=>
   rw [ho] at h;simp only at h;cases hop:opA P C t o H with
   | none=> rw [hop] at h;cases h
   | some r=>
    obtain⟨v,H1⟩:=r;rw [hop] at h;simp only at h;have hco:Au o.op=true:=by have:=akU i (by simp);simpa [cst,qL ho] using this
    obtain⟨ty,z,mk,rfl,rfl,hrun⟩:=Ym hco hop;obtain⟨hf,hg,hlen,nm,vl,h1,h2,h3⟩:=qM is _ _ t0 H0 (zaW.1 hnd).2 (λj hj=> akU j (by simp [hj])) (λa ha b hb=> hdst a (by simp [ha]) b (by simp [hb])) h;have hni:i∉is:=(zaW.1 hnd).1;have hget:H0.get H.next=.blk 0 ty z:=by
     rw [hf.2.2 H.next (by simp [ah.new])];simp [ah.new]
    refine⟨⟨hf.1,zaC (by simp [ah.new]) hf.2.1,λr hr=> ?_⟩,λr hr hgr=> ?_,by rw [hlen,kM],λj=> if j=i then H.next else nm j,λj=> if j=i then mk H.next else vl j,λj hj=> ?_,λa ha b hb hab=> ?_,λd hd=> ?_⟩
    ·rw [hf.2.2 r (by simp [ah.new];omega)];simp [ah.new,show r≠H.next by omega]
    ·rcases zaP H.next r with hlt | hge
     ·refine hg r (by simp [ah.new];omega) ?_;rw [MV,if_neg (by omega)];exact hgr
     ·have:r=H.next:=by omega
      subst this;simp [ah.gen,hget,eP.gen]
    ·by_cases hji:j=i
     ·subst hji;simp only [if_true];refine⟨o,ho,zac _,zaw (by simp [ah.new]) hf.2.1,⟨ty,z,mk,rfl,hget,hrun⟩,λd hd hlt=> ?_⟩;rw [h3 d (λk hk ok hok hkd=> hni (by
       have:=hdst j (by simp) k (by simp [hk]) o ok d ho hok hd hkd;rw [this];exact hk)),Hr,if_pos ⟨hd,hlt⟩]
     ·simp only [if_neg hji];obtain⟨oj,hoj,q1,q2,q3,q4⟩:=h1 j (by
       rcases zai.1 hj with e | e
       ·exact absurd e hji
       ·exact e)
      refine⟨oj,hoj,zaC (by simp [ah.new]) q1,q2,q3,λd hd hlt=> q4 d hd (by rw [kM];exact hlt)⟩
    ·by_cases ha':a=i <;> by_cases hb':b=i
     ·rw [ha',hb']
     ·simp only [ha',if_true,if_neg hb'] at hab;obtain⟨_,_,q1,_⟩:=h1 b (by exact(zai.1 hb).resolve_left hb');simp [ah.new] at q1;omega
     ·simp only [hb',if_true,if_neg ha'] at hab;obtain⟨_,_,q1,_⟩:=h1 a (by exact(zai.1 ha).resolve_left ha');simp [ah.new] at q1;omega
     ·simp only [if_neg ha',if_neg hb'] at hab;exact h2 a (by exact(zai.1 ha).resolve_left ha') b (by exact(zai.1 hb).resolve_left hb') hab
    ·rw [h3 d (λj hj=> hd j (by simp [hj])),Hr,if_neg (λhc=> hd i (by simp) o ho hc.1)]
structure TOn(ρ:Ren)(G:Nat->Nat)(w:World)(D:Tmp->Prop)(t:eu)(a:Act):Prop where
 size:a.tmps.size=t.length
 get:∀d,D d->d < t.length->RV ρ G w (t.getD d aV) (a.tmps.getD d undef)
section
variable {P:Program}{C:ak}{ops:List Oper}{H H':ah}{t:eu}{a:Act}{w:World}{ρ:Ren}{G:Nat->Nat}{o:Oper}{v:AV}
theorem TOn.any {D:Tmp->Prop}(h:TOn ρ G w D t a)(d:Tmp)(hd:D d):RV ρ G w (t.getD d aV) (a.tmps.getD d undef):=by
 by_cases hl:d < t.length
 ·exact h.get d hd hl
 ·have h1:t.getD d aV=aV:=by simp [List.getD,zaN (zdn.1 hl)]
  have h2:a.tmps.getD d undef=undef:=by
   have:¬d < a.tmps.size:=by rw [h.size];exact hl
   simp [Array.getD,this]
  rw [h1,h2];exact AB
theorem TOn.eval(h:TOn ρ G w (· ∈o.looksAt ops.toArray) t a):∀x∈o.op.operands,RV ρ G w (cO t x) (a.eval x):=by
 intro x hx;cases x with
 | tmp d=>
  exact h.any d (zc5 _ (List.mem_filterMap.2 ⟨.tmp d,by simpa using hx,rfl⟩))
 | const v=> simp [cO,Act.eval,RV]
 | global g=> simp [cO,Act.eval,RV]
 | func f=> simp [cO,Act.eval,RV,RVs]
theorem TOn.wanted {b:Bool}(h:TOn ρ G w (· ∈o.looksAt ops.toArray) t a)(hw:qB ops t o=some b):Region.wanted o (yielded ops.toArray a.tmps)=b:=by
 unfold qB at hw;unfold Region.wanted;cases hg:o.guard with
 | none=> rw [hg] at hw;simpa using hw
 | some gw=>
  obtain⟨j,want⟩:=gw;rw [hg] at hw;simp only at hw;cases hj:ops[j]? with
  | none=> rw [hj] at hw;cases hw
  | some p=>
   rw [hj] at hw;simp only at hw;cases hd:p.dst with
   | none=> rw [hd] at hw;cases hw
   | some d=>
    rw [hd] at hw;simp only at hw;have hmem:d∈o.looksAt ops.toArray:=by
     unfold Oper.looksAt;refine List.mem_append_right _ ?_;simp [hg,hj,hd]
    cases htd:t[d]? with
    | none=> rw [htd] at hw;cases hw
    | some x=>
     have hlt:d < t.length:=(zah.1 htd).1;have hrv:=h.get d hmem hlt;have hx:t.getD d aV=x:=by simp [List.getD,htd]
     have hlt':d < a.tmps.size:=by rw [h.size];exact hlt
     have hav:a.tmps[d]?=some (a.tmps.getD d undef):=by simp [Array.getD,hlt']
     rw [hx] at hrv;rw [htd] at hw;have hy:yielded ops.toArray a.tmps j=(match a.tmps.getD d undef with | .bool b=> some b | _=> none):=by
      unfold yielded;have:(ops.toArray[j]?).bind (·.dst)=some d:=by simp [hj,hd]
      rw [this,zaX,hav];cases a.tmps.getD d undef <;> rfl
     simp only;split at hw <;> first | (cases hw;done) | skip
     ·rename_i hbx;cases hbx;simp only [RV] at hrv;rw [hy,hrv];simp only [zaa] at hw;rw [<-hw];rename_i b0;cases b0 <;> cases want <;> rfl
     ·rename_i hbx;cases hbx;simp only [RV,RVs] at hrv;obtain⟨cs,hcs,_⟩:=hrv;rw [hy,hcs]
      simpa using hw
theorem TOn.put {D:Tmp->Prop}(h:TOn ρ G w D t a)(d:Option Tmp){cv:Value}(hv:RV ρ G w v cv):TOn ρ G w D (rO t d v) (a.put d cv):=by
 refine⟨?_,λx hx hl=> ?_⟩
 ·rw [kM,<-h.size];cases d <;> simp [Act.put]
 ·rw [kM] at hl;have hl':x < a.tmps.size:=by rw [h.size];exact hl
  cases d with
  | none=> exact h.get x hx hl
  | some d=>
   by_cases e:d=x
   ·subst e;have h1:(rO t (some d) v).getD d aV=v:=by simp [rO,List.getD,hl]
    have h2:(a.put (some d) cv).tmps.getD d undef=cv:=by simp [Act.put,Array.getD,hl']
    rw [h1,h2];exact hv
   ·have h1:(rO t (some d) v).getD x aV=t.getD x aV:=by simp [rO,List.getD,e]
    have h2:(a.put (some d) cv).tmps.getD x undef=a.tmps.getD x undef:=by
     simp [Act.put,zbm e]
    rw [h1,h2];exact h.get x hx hl
theorem TOn.keep {ρ':Ren}{w':World}{D:Tmp->Prop}(h:TOn ρ H.gen w D t a)(E:Ext ρ H w ρ' H' w'):TOn ρ' H'.gen w' D t a:=
 ⟨h.size,λd hd hl=> RV.mono E.toMono _ _ (h.get d hd hl)⟩
theorem TOn.sub {D D':Tmp->Prop}(h:TOn ρ G w D t a)(hs:∀d,D' d->D d):TOn ρ G w D' t a:=⟨h.size,λd hd=> h.get d (hs d hd)⟩
theorem Ht(hC:oC P C){lo:Bool}(h:kU P C ops lo o t H=some (v,H'))(R:Rel ρ H w)(T:TOn ρ H.gen w (· ∈o.looksAt ops.toArray) t a){i:Nat}(ho:ops[i]?=some o)
  {K:Act->World->Prop} {Q:Exit->Act->World->Prop} (hK:∀cv ρ' w',Rel ρ' H' w'->RV ρ' H'.gen w' v cv->Ext ρ H w ρ' H' w'->K (a.put o.dst cv) w'):wpOp P ops.toArray Q i K a w:=by
 unfold wpOp;have hoa:ops.toArray[i]?=some o:=by simpa using ho
 simp only [hoa];unfold kU at h;split at h <;> first | (cases h;done) | skip
 ·rename_i hw;rw [T.wanted hw,if_pos rfl];left;split at h
  ·unfold opG at h;split at h <;> first | (cases h;done) | skip
   rename_i u H1 h1;simp only [zaa,zad] at h;obtain⟨rfl,rfl⟩:=h;exact Ho hC h1 (H:=H.guard) ⟨R.out,R.obj,R.inj,R.gl⟩ T.eval λcv ρ' w' r e x=>
    hK cv ρ' w' ⟨r.out,r.obj,r.inj,r.gl⟩ e ⟨x.next,x.mono,x.same,x.kept,x.range,x.size,x.frame,x.shape,x.os,x.tape,x.output⟩
  ·exact Ho hC h R T.eval hK
 ·rename_i hw;rw [T.wanted hw];simp only [zaa,zad] at h;obtain⟨rfl,rfl⟩:=h;simp only [zaj,if_false];exact hK undef ρ w R AB (Ext.refl _ _ _)
theorem J8 {X:Prop}(h:o.wp P a w (λ_ _=> X) (λ_ _ _=> False)):X:=by
 unfold Oper.wp at h;generalize (execOp a.eval o).run P w=r at h;cases r with
 | ok n w'=>
  cases n <;> simp only [Oper.upon] at h <;> first | exact h | skip
  ·obtain⟨e,w',fr,hR,_⟩:=h [];cases e <;> simp only [LetsOut,exists_false] at hR;exact hR
  ·obtain⟨_,_,hR,_⟩:=h (Frame.ofRow P "" #[] .normal) []
   exact hR
 | halt x w'=> cases x <;> exact False.elim h
theorem Ns {X:Prop}{i:Nat}{arr:Array Oper}(h:wpOp P arr (λ_ _ _=> False) i (λ_ _=> X) a w):X:=by
 unfold wpOp at h;split at h
 ·exact h
 ·split at h
  ·rcases h with h | ⟨_,a,w,h⟩
   ·exact J8 h
   ·exact h.elim
  ·exact h
theorem vC(hC:oC P C):∀(is:List Nat) (t:eu) (H:ah) (t0:eu) (H0:ah) (ρ:Ren) (w:World) (a:Act),gy P C ops is t H=some (t0,H0)->Rel ρ H w->TOn ρ H.gen w (λ_=> True) t a->
  ∃ρ' w' a',Rel ρ' H0 w'/\TOn ρ' H0.gen w' (λ_=> True) t0 a'
 | [],t,H,t0,H0,ρ,w,a,h,R,T=> by
  simp only [gy,zaa,zad] at h;obtain⟨rfl,rfl⟩:=h;exact⟨ρ,w,a,R,T⟩
 | i::is,t,H,t0,H0,ρ,w,a,h,R,T=> by
  simp only [gy] at h;cases ho:ops[i]? with
  | none=> rw [ho] at h;cases h
  | some o=>
   rw [ho] at h;simp only at h;cases hop:opA P C t o H with
   | none=> rw [hop] at h;cases h
   | some r=>
    rw [hop] at h;simp only at h;obtain⟨ρ',w',cv,r1,r2⟩:∃ρ' w' cv,Rel ρ' r.2 w'/\TOn ρ' r.2.gen w' (λ_=> True) (rO t o.dst r.1) (a.put o.dst cv):=
     J8 (Ho hC hop R ((T.sub (D':=(· ∈o.looksAt ops.toArray)) λ_ _=> trivial).eval) (Q:=λ_ _ _=> False)
      λcv ρ' w' r1 r2 r3=> ⟨ρ',w',cv,r1,(T.keep r3).put _ r2⟩)
    exact vC hC is _ _ t0 H0 ρ' w' _ h r1 r2
theorem Fv(hC:oC P C){t0:eu}{H0:ah}{T:Nat->eu}{Hp:Nat->ah}{val:Nat->AV}(S:yD P C ops t0 H0 T Hp val)(R:Rel ρ H0 w)(TR:TOn ρ H0.gen w (λ_=> True) t0 a):
  ∀p,p<=ops.length->∃ρ' w' a',Rel ρ' (Hp p) w'/\TOn ρ' (Hp p).gen w' (λ_=> True) (T p) a':=by
 intro p
 induction p with
 | zero=> intro _;rw [S.zero.1,S.zero.2];exact⟨ρ,w,a,R,TR⟩
 | succ p ih=>
  intro hp;obtain⟨ρ1,w1,a1,R1,T1⟩:=ih (by omega);cases hc:cst ops p with
  | true=> obtain⟨h1,h2⟩:=S.skip p (by omega) hc;rw [h1,h2];exact⟨ρ1,w1,a1,R1,T1⟩
  | false=>
   have ho:ops[p]?=some (ops[p]'(by omega)):=zab _;obtain⟨h1,h2⟩:=S.step p _ ho hc;rw [h2];exact Ns (Ht hC h1 R1 (T1.sub λ_ _=> trivial) ho (Q:=λ_ _ _=> False) λcv ρ' w' r1 r2 r3=> ⟨ρ',w',_,r1,(T1.keep r3).put _ r2⟩)
theorem J9 {x:AV}{n r:Nat}(h:NV n x)(hw:dO x=some r):r < n:=by
 cases x <;> simp only [dO] at hw <;> first | (cases hw;done) | (cases hw;simpa only [NV] using h)
theorem PS {n r:Nat}(h:∀x∈o.op.operands,NV n (cO t x))(hw:jT t o.op=some r):r < n:=by
 obtain⟨dst,op,type,pos,after,guard⟩:=o;cases op <;> simp only [jT] at hw <;> first | (cases hw;done) | skip
 case call c=>
  split at hw
  ·rename_i x hx;refine J9 (h x ?_) hw;have:x∈c.args:=by
    have:x∈c.args.toList:=by rw [hx];simp
    simpa using this
   simp [Op.operands,Call.operands,this]
  ·cases hw
 all_goals exact J9 (h _ (by simp [Op.operands])) hw
theorem Yn {n:Nat}(h:∀d,NV n (t.getD d aV))(x:Operand):NV n (cO t x):=by
 cases x with
 | tmp d=> exact h d
 | _=> simp [cO,NV,NVs]
end
end
end Go.Proofs.YtgplhpgkompkmaaGreat
