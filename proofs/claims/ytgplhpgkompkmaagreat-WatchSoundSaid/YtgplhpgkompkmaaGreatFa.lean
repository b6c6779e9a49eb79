/-
  Own work, a part.
-/
import Derived.Calls
import Derived.Orders
import Derived.Laws.World
import Derived.Laws.Entries
import Derived.Laws.Slices
import Derived.Laws.Append
import Derived.Laws.MakeOwn
import Derived.Laws.BytesString
set_option linter.all false
namespace Go.Proofs.YtgplhpgkompkmaaGreat
open Option renaming some->ZC,none->Z1
open Bool renaming true->Z0,false->ZV
open Decidable renaming decide->u,decide->YM
universe uQ vQ wQ xQ
def zaa:=@Prod.mk.injEq.{uQ,vQ}
def zab:=@decide_eq_true_eq
def zac:=@trivial
def zad:=@if_true.{uQ}
def zae:=@run_underlying
def zaf:=@if_false.{uQ}
def zah:=@decide_eq_true
def zai:=@Result.andThen_ok
def zaj:=@congrArg.{uQ,vQ}
def zak:=@Sem.run_bind
def zal:=@funext.{uQ,vQ}
def zam:=@decide_eq_false
def zan:=@or_false
def zao:=@Sem.run_pure
def zaq:=@congr.{uQ,vQ}
def zar:=@Classical.byContradiction
def zas:=@decide_eq_false_iff_not
def zat:=@BitVec.xor_assoc
def zau:=@and_true
def zav:=@BitVec.getLsbD_shiftLeft
def zaw:=@BitVec.eq_of_getLsbD_eq
def zax:=@decide_true
def zay:=@BitVec.toNat_ofNat
def zaz:=@eq_self.{uQ}
def zaA:=@BitVec.xor_self
def zaB:=@of_decide_eq_true
def zaC:=@Classical.choose_spec.{uQ}
def zaD:=@true_and
def zaE:=@decide_eq_decide
def zaF:=@BitVec.getLsbD_ushiftRight
def zaG:=@eq_false
def zaH:=@Function.comp_def.{uQ,vQ,wQ}
def zaI:=@BitVec.xor_zero
def zaJ:=@exists_eq_left'.{uQ}
abbrev XN:=TypeId
abbrev XX:=Program
abbrev Xs:=World
abbrev XS:=Value
abbrev Q(α:Type uQ):=List α
abbrev Z2(α:Type uQ):=List α
abbrev M(α:Type uQ):=Option α
abbrev Z6(α:Type uQ):=Option α
def F:=@if_neg.{uQ}
def Ys:=@if_neg.{uQ}
def y:=@if_pos.{uQ}
def YY:=@if_pos.{uQ}
def W{α:Sort uQ}{a:α}:a=a:=rfl
def Z3{α:Sort uQ}{a:α}:a=a:=rfl
def V{p:Prop}(h:p:=by omega):p:=h
def Zs{p:Prop}(h:p:=by omega):p:=h
def O{p:Prop}(h:p:=by simp):p:=h
def ZZ{p:Prop}(h:p:=by simp):p:=h
noncomputable section
structure Fix where
 blocks:List Nat
 ok:World->Prop
 frame:∀w w':World,(∀b∈blocks,w'.heap[b]?=w.heap[b]?)->ok w->ok w'
def fx:Fix:=⟨[],λ_=>True,λ_ _ _ h=>h⟩
inductive AV where
 |s (v:Value)
 |ref (r g off:Nat)
 |sl (r g off esz len cap:Nat) (ex:Bool)
 |ip (cells:List AV)
 |vs (n esz:Nat) (cells:List AV)
 |mp (r:Nat)
 |fn (f:Fn) (first captured:List AV)
 |agg (cells:List AV)
 |tup (cells:List AV)
 deriving Inhabited
inductive gG where
 |blk (g:Nat) (ty:TypeId) (cells:List AV)
 |map (k:IntKind) (es:List (Int × AV))
 deriving Inhabited
def gG.gen:gG->Nat
 |.blk g _ _=>g
 |.map _ _=>0
structure ah where
 next:Nat
 base:Nat
 get:Nat->gG
def ah.gen(H:ah)(r:Nat):Nat:=(H.get r).gen
def ah.put(H:ah)(r:Nat)(o:gG):ah:={ H with get:=λx=>if x=r then o else H.get x }
def ah.new(H:ah)(o:gG):ah:={ next:=H.next+1,base:=H.base,get:=λx=>if x=H.next then o else H.get x }
def ah.guard(H:ah):ah:={ H with base:=H.next }
def ah.empty:ah:={ next:=0,base:=0,get:=λ_=>.blk 0 0 [] }
abbrev Ren:=Nat->Option (Nat × Nat)
def Imm(ρ:Ren)(b:Nat):Prop:=∀r d,ρ r≠ZC (b,d)
mutual
def RV(ρ:Ren)(G:Nat->Nat)(w:Xs):AV->XS->Prop
 |.s v,cv=>cv=v
 |.ref r g off,cv=>∃a,cv=.pointer (ZC a)/\g<=G r/\(G r=g->∃b j,ρ r=ZC (b,j)/\a=⟨b,j+off,Z1⟩)
 |.sl r g off h len i ex,cv=>∃b o c,cv=.slice (ZC ⟨b,o,Z1⟩) len c/\len<=i/\i<=c/\(ex=Z0->c=i)/\g<=G r/\
   (G r=g->∃j e n,ρ r=ZC (b,j)/\(0<c->o=j+off)/\w.shape? b=ZC (e,n)/\o+c*h<=n)
 |.ip cells,cv=>∃b o,cv=.pointer (ZC ⟨b,o,Z1⟩)/\b<w.heap.size/\Imm ρ b/\RVc ρ G w cells b o
 |.vs n h cells,cv=>∃b o c,cv=.slice (ZC ⟨b,o,Z1⟩) n c/\n<=c/\cells.length=n*h/\b<w.heap.size/\Imm ρ b/\RVc ρ G w cells b o
 |.mp r,cv=>∃b,cv=.map (ZC b)/\(G r=0->ρ r=ZC (b,0))
 |.fn f first d,cv=>∃a c,cv=.func f a c/\RVs ρ G w first a.toList/\RVs ρ G w d c.toList
 |.agg cells,cv=>∃cs,cv=.agg cs/\RVs ρ G w cells cs.toList
 |.tup cells,cv=>∃cs,cv=.tuple cs/\RVs ρ G w cells cs.toList
def RVs(ρ:Ren)(G:Nat->Nat)(w:Xs):Q AV->Q XS->Prop
 |[],l=>l=[]
 |x::xs,l=>∃y b,l=y::b/\RV ρ G w x y/\RVs ρ G w xs b
def RVc(ρ:Ren)(G:Nat->Nat)(w:Xs):Q AV->Nat->Nat->Prop
 |[],_,_=>True
 |x::xs,b,o=>(∃v,w.cell? ⟨b,o,Z1⟩=ZC v/\RV ρ G w x v)/\RVc ρ G w xs b (o+1)
end
def RVm(ρ:Ren)(G:Nat->Nat)(w:Xs)(k:IntKind):Q (Int × AV)->Q MapEntry->Prop
 |[],l=>l=[]
 |(n,x)::xs,l=>∃e b,l=e::b/\e.key=.int k n/\RV ρ G w x e.val/\RVm ρ G w k xs b
def Born(es:Q MapEntry)(dN:Nat):Prop:=(∀x∈es,x.born<dN)/\(es.map (·.born)).Nodup
def gW:Nat:=1000000000
def Xct(ty e sh n l:Nat):Prop:=(ty<gW->e=ty/\sh=0/\n=l)/\(gW<=ty->ty<gW+gW->ty=e+gW/\sh=0)
def Xct.low {e n l:Nat}(h:e<gW)(b:n=l):Xct e e 0 n l:=⟨λ_=>⟨W,W,b⟩,λd=>absurd d (Nat.not_le.2 h)⟩
def Xct.grown {e n l:Nat}:Xct (e+gW) e 0 n l:=⟨λh=>absurd h (Nat.not_lt.2 (Nat.le_add_left _ _)),λ_ _=>⟨W,W⟩⟩
def Xct.void {e sh n l:Nat}:Xct (gW+gW) e sh n l:=⟨λh=>absurd h (Nat.not_lt.2 (Nat.le_add_left _ _)),λ_ h=>absurd h (Nat.lt_irrefl _)⟩
def grT(e ty off:Nat):Nat:=if(ty=e∨ty=e+gW)/\off=0 then e+gW else gW+gW
def ajF {e ty off n l:Nat}:Xct (grT e ty off) e 0 n l:=by
 unfold grT;split
 ·exact Xct.grown
 ·exact Xct.void
def ajG {e e' ty sh off n l n' b:Nat}(d:e<gW)(h:Xct ty e' sh n l):Xct (grT e ty off) e' (sh+off) n' b:=by
 unfold grT;split
 ·rename_i g;obtain⟨i,rfl⟩:=g;rcases i with rfl|rfl
  ·obtain⟨rfl,rfl,_⟩:=h.1 d;exact Xct.grown
  ·obtain⟨j,rfl⟩:=h.2 (Nat.le_add_left _ _) V;have:e'=e:=V
   subst this;exact Xct.grown
 ·exact Xct.void
def yP(ρ:Ren)(G:Nat->Nat)(w:Xs)(o:gG)(b sh:Nat):Prop:=
 match o with
 |.blk _ g cells=>∃cs e,w.heap[b]?=ZC (.cells cs e (0,0))/\sh+cells.length<=cs.size/\RVc ρ G w cells b sh/\Xct g e sh cs.size cells.length
 |.map k h=>∃d dN,w.heap[b]?=ZC (.map d dN)/\sh=0/\RVm ρ G w k h d.toList/\Born d.toList dN
def ad6(ρ:Ren)(w:Xs):Prop:=(∀b∈fx.blocks,b<w.heap.size/\Imm ρ b)/\fx.ok w
structure Rel(ρ:Ren)(H:ah)(w:World):Prop where
 out:∀r,H.next<=r->ρ r=none/\H.gen r=0
 obj:∀r b sh,ρ r=some (b,sh)->yP ρ H.gen w (H.get r) b sh
 inj:∀r r' b sh sh',ρ r=some (b,sh)->ρ r'=some (b,sh')->r=r'
 gl:ad6 ρ w
structure Ext(ρ:Ren)(H:ah)(w:World)(ρ':Ren)(H':ah)(w':World):Prop where
 next:H.next<=H'.next
 mono:∀r,H.gen r<=H'.gen r
 same:∀r x,ρ r=some x->H'.gen r=H.gen r->ρ' r=some x
 kept:∀r,r<H.next->ρ r=none->ρ' r=none
 range:∀r b sh,ρ' r=some (b,sh)->w.heap.size<=b∨∃sh',ρ r=some (b,sh')
 size:w.heap.size<=w'.heap.size
 frame:∀b,b<w.heap.size->Imm ρ b->w'.heap[b]?=w.heap[b]?
 shape:∀b,b<w.heap.size->w'.shape? b=w.shape? b
 os:w'.os=w.os
 tape:w'.tape=w.tape
 output:w'.output=w.output
def ad6.of {ρ ρ':Ren}{w w':Xs}(h:ad6 ρ w)(d:w.heap.size<=w'.heap.size)(g:∀r b sh,ρ' r=ZC (b,sh)->w.heap.size<=b∨∃r' sh',ρ r'=ZC (b,sh'))(i:∀b,b<w.heap.size->Imm ρ b->w'.heap[b]?=w.heap[b]?):ad6 ρ' w':=by
 refine⟨λb hb=>?_,fx.frame w w' (λb hb=>i b (h.1 b hb).1 (h.1 b hb).2) h.2⟩;have⟨j,k⟩:=h.1 b hb;refine⟨Nat.lt_of_lt_of_le j d,λr sh e=>?_⟩;rcases g r b sh e with h|⟨r',sh',h⟩
 ·omega
 ·exact k r' sh' h
def ad6.ext {ρ ρ':Ren}{H H':ah}{w w':Xs}(h:ad6 ρ w)(E:Ext ρ H w ρ' H' w'):ad6 ρ' w':=
 h.of E.size (λr b g e=>(E.range r b g e).imp id λ⟨d,h⟩=>⟨r,d,h⟩) E.frame
mutual
def AV.val?:AV->M XS
 |.s v=>ZC v
 |.agg l=>(vals? l).map λvs=>.agg vs.toArray
 |.tup l=>(vals? l).map λvs=>.tuple vs.toArray
 |.ref ..=>Z1
 |.sl ..=>Z1
 |.ip ..=>Z1
 |.vs ..=>Z1
 |.mp ..=>Z1
 |.fn ..=>Z1
def vals?:Q AV->M (Q XS)
 |[]=>ZC []
 |x::xs=>match x.val?,vals? xs with
  |some v,some vs=>ZC (v::vs)
  |_,_=>Z1
end
def AV.cells:AV->Q AV
 |.agg l=>l
 |.s v=>v.cells.toList.map .s
 |x=>[x]
def AV.aU:AV->Bool
 |.agg _=>ZV
 |.tup _=>ZV
 |.s (.agg _)=>ZV
 |.s (.tuple _)=>ZV
 |_=>Z0
def aX:AV:=.tup []
def aI(cells:Q AV)(off:Nat)(xs:Q AV):Q AV:=cells.take off++(xs++cells.drop (off+xs.length))
def je {α:Type}(P:XX):Sem α->M α
 |.pure a=>ZC a
 |.program k=>je P (k P)
 |_=>Z1
def szT(P:XX)(t:XN):M Nat:=(P.info? t).map (·.size)
def yQ(P:XX)(t:XN):M Nat:=(P.info? t).map (·.bytes)
def ami(P:XX)(t:XN):M Bool:=
 match P.underlying t with
 |some (.struct _)=>ZC Z0
 |some (.array _ _)=>ZC Z0
 |some _=>ZC ZV
 |none=>Z1
def JE(P:XX)(t:XN):M TypeId:=
 match P.underlying t with
 |some (.slice e)=>ZC e
 |_=>Z1
def zZ(P:XX)(t:XN):M Value:=if t<gW then(P.info? t).bind (·.zero)else Z1
def yG(P:XX)(t:XN):M (Q AV):=(zZ P t).map λv=>v.cells.toList.map .s
def VD(P:XX)(t:XN)(i:Nat):M Field:=
 match P.underlying t with
 |some (.struct b)=>b[i]?
 |_=>Z1
def JF(P:XX)(t:XN)(cells:Q AV)(off:Nat):M AV:=
 match ami P t,szT P t with
 |some true,some n=>if off+n<=cells.length then ZC (.agg ((cells.drop off).take n))else Z1
 |some false,some _=>cells[off]?
 |_,_=>Z1
def fO(b:Nat->M (Nat × Nat))(cells:Q AV):Q (Nat × AV)->M (Q AV)
 |[]=>ZC cells
 |(i,v)::rest=>
  match b i with
  |none=>Z1
  |some (off,size)=>
   if v.cells.length=size/\off+v.cells.length<=cells.length then fO b (aI cells off v.cells) rest else Z1
def PE(P:XX)(b:Array Field)(i:Nat):M (Nat × Nat):=
 match b[i]? with
 |some f=>(szT P f.type).map λn=>(f.offset,n)
 |none=>Z1
def fV(P:XX)(t:XN)(b:Q (Nat × AV)):M AV:=
 match yG P t,P.underlying t with
 |some z,some (.struct d)=>if d.all (λf=>(szT P f.type).isSome)then(fO (PE P d) z b).map .agg else Z1
 |some z,some (.array _ e)=>match szT P e with
  |some n=>(fO (λi=>ZC (i*n,n)) z b).map .agg
  |none=>Z1
 |_,_=>Z1
def PG(P:XX)(t:XN)(x y:AV):M Bool:=
 match P.underlying t with
 |some (.slice _)=>match x,y with
  |.sl ..,.s (.slice none _ _)=>ZC ZV
  |.vs ..,.s (.slice none _ _)=>ZC ZV
  |.s (.slice none _ _),.sl ..=>ZC ZV
  |.s (.slice none _ _),.vs ..=>ZC ZV
  |_,_=>Z1
 |some (.pointer _)=>match x,y with
  |.ref ..,.s (.pointer none)=>ZC ZV
  |.ip ..,.s (.pointer none)=>ZC ZV
  |.s (.pointer none),.ref ..=>ZC ZV
  |.s (.pointer none),.ip ..=>ZC ZV
  |_,_=>Z1
 |some (.map _ _)=>match x,y with
  |.mp ..,.s (.map none)=>ZC ZV
  |.s (.map none),.mp ..=>ZC ZV
  |_,_=>Z1
 |some (.func _ _ _)=>match x,y with
  |.fn ..,.s .nilFunc=>ZC ZV
  |.s .nilFunc,.fn ..=>ZC ZV
  |_,_=>Z1
 |_=>Z1
def qj(P:XX)(op:BinOp)(t:XN)(x y:AV):M AV:=
 match x.val?,y.val? with
 |some a,some b=>(je P (do eqGuard op t (.tmp 0) (.tmp 0) a b;binOp op t a b)).map .s
 |_,_=>match op with
  |.eql=>(PG P t x y).map λb=>.s (.bool b)
  |.neq=>(PG P t x y).map λb=>.s (.bool !b)
  |_=>Z1
def auF(P:XX)(op:BinOp)(t:XN)(x:AV):M AV:=
 match x.val? with
 |some a=>(je P (do eqGuard op t (.tmp 0) (.const .nilIface) a .nilIface;binOp op t a .nilIface)).map .s
 |none=>Z1
def VE:Operand->Bool
 |.const .nilIface=>Z0
 |_=>ZV
def amj(P:XX)(op:BinOp)(t:XN)(b:Operand)(x y:AV):M AV:=
 match VE b with
 |true=>auF P op t x
 |false=>qj P op t x y
def unA(P:XX)(op:UnOp)(x:AV):M AV:=
 match x.val? with
 |some a=>(je P (Op.unary op a)).map .s
 |none=>Z1
def tC(P:XX)(t:XN)(x:AV)(i:Nat):M AV:=
 match VD P t i with
 |some f=>match szT P f.type with
  |some (_+1)=>match x with
   |.ref r g off=>ZC (.ref r g (off+f.offset))
   |.ip cells=>ZC (.ip (cells.drop f.offset))
   |_=>Z1
  |_=>Z1
 |none=>Z1
def PI(P:XX)(t:XN)(x:AV)(i:Nat):M AV:=
 match VD P t i,x with
 |some f,.agg cells=>JF P f.type cells f.offset
 |some f,.s (.agg cs)=>JF P f.type (cs.toList.map .s) f.offset
 |_,_=>Z1
def PK(P:XX)(t:XN)(x i:AV):M AV:=
 match P.underlying t,x,i with
 |some .string,.s (.string s),.s (.int _ n)=>match(if 0<=n then s[n.toNat]? else Z1)with
  |some b=>ZC (.s (.int .u8 b.toNat))
  |none=>Z1
 |some (.array len e),.agg cells,.s (.int _ n)=>match szT P e with
  |some m=>if 0<=n/\n<len then JF P e cells (n.toNat*m)else Z1
  |none=>Z1
 |some (.array len e),.s (.agg cs),.s (.int _ n)=>match szT P e with
  |some m=>if 0<=n/\n<len then JF P e (cs.toList.map .s) (n.toNat*m)else Z1
  |none=>Z1
 |_,_,_=>Z1
def aG(x:AV)(i:Nat):M AV:=
 match x with
 |.tup l=>l[i]?
 |.s (.tuple vs)=>(vs[i]?).map .s
 |_=>Z1
def jc:M AV->Nat->M Nat
 |none,d=>ZC d
 |some (.s (.int _ n)),_=>if 0<=n then ZC n.toNat else Z1
 |_,_=>Z1
def isNone {α:Type}:M α->Bool
 |none=>Z0
 |some _=>ZV
def PL(P:XX)(t:XN)(x:AV)(lo hi d:M AV):M AV:=
 match P.underlying t with
 |some (.slice e)=>match x,szT P e with
  |.s (.slice none 0 0),some _=>match jc lo 0,jc hi 0,jc d 0 with
   |some 0,some 0,some 0=>if hi=Z1->d=Z1 then ZC (.s (.slice Z1 0 0))else Z1
   |_,_,_=>Z1
  |.sl r g off b len i ex,some m=>match jc lo 0,jc hi len,jc d i with
   |some l,some h,some k=>
    if b=m/\l<=h/\h<=k/\k<=i/\(hi=Z1->d=Z1)then ZC (.sl r g (off+l*b) b (h-l) (k-l) (ex || !isNone d))else Z1
   |_,_,_=>Z1
  |.vs n b cells,some m=>match jc lo 0,jc hi n,d with
   |some l,some h,none=>if b=m/\l<=h/\h<=n then ZC (.vs (h-l) b ((cells.drop (l*b)).take ((h-l)*b)))else Z1
   |_,_,_=>Z1
  |_,_=>Z1
 |some .string=>match x,jc lo 0,d with
  |.s (.string s),some l,none=>match jc hi s.size with
   |some h=>if l<=h/\h<=s.size then ZC (.s (.string (s.extract l h)))else Z1
   |none=>Z1
  |_,_,_=>Z1
 |_=>Z1
abbrev AM(α:Type):=ah->Option (α × ah)
def fU {α:Type}(x:M α):AM α:=λH=>x.map λv=>(v,H)
def bT:AV->M Nat
 |.ref r _ _=>ZC r
 |.sl r _ _ _ _ _ _=>ZC r
 |.mp r=>ZC r
 |_=>Z1
def kV(f:M gG->M AV)(x:AV):AM AV:=λH=>(f ((bT x).map H.get)).map λv=>(v,H)
def ajH(P:XX)(t:XN)(x:AV)(b:M gG):M AV:=
 match x with
 |.ref _ g off=>match b with
  |some (.blk g' _ cells)=>if g'=g then JF P t cells off else Z1
  |_=>Z1
 |.ip cells=>JF P t cells 0
 |_=>Z1
def Tz(P:XX)(t:XN)(x:AV):AM AV:=kV (ajH P t x) x
def PN(P:XX)(t:XN)(x v:AV):AM AV:=λH=>
 match x with
 |.ref r g off=>match H.get r with
  |.blk g' b cells=>
   if g'=g/\H.base<=r/\szT P t=ZC v.cells.length/\v.cells.all AV.aU=Z0/\off+v.cells.length<=cells.length then
    ZC (aX,H.put r (.blk g b (aI cells off v.cells)))
   else Z1
  |.map ..=>Z1
 |_=>Z1
def JW(P:XX)(t:XN):AM AV:=λH=>
 match yG P t with
 |some z=>if z.all AV.aU=Z0 then ZC (.ref H.next 0 0,H.new (.blk 0 t z))else Z1
 |none=>Z1
def fK(t:XN)(v:AV):AM AV:=λH=>
 if v.cells.all AV.aU=Z0/\t<gW then ZC (.ref H.next 0 0,H.new (.blk 0 t v.cells))else Z1
def dM(z:Q AV):Nat->Q AV
 |0=>[]
 |n+1=>z++dM z n
def dI(P:XX)(t:XN)(len:Nat)(b:Q (Nat × AV)):AM AV:=λH=>
 match JE P t with
 |some e=>match szT P e,yG P e with
  |some m,some z=>
   if z.length=m/\len*m<=16777216 then
    match fO (λi=>ZC (i*m,m)) (dM z len) b with
    |some cells=>if cells.all AV.aU=Z0 then ZC (.sl H.next 0 0 m len len Z0,H.new (.blk 0 e cells))else Z1
    |none=>Z1
   else Z1
  |_,_=>Z1
 |none=>Z1
def ql(P:XX)(t:XN)(len cap:AV):AM AV:=λH=>
 match JE P t,len,cap with
 |some e,.s (.int _ l),.s (.int _ c)=>match szT P e,yQ P e,yG P e with
  |some m,some by_,some z=>
   if z.length=m/\z.all AV.aU=Z0/\0<=l/\l<=c/\c<=140737488355328/\by_*c<=140737488355328 then
    ZC (.sl H.next 0 0 m l.toNat c.toNat Z0,H.new (.blk 0 e (dM z c.toNat)))
   else Z1
  |_,_,_=>Z1
 |_,_,_=>Z1
def arI:M gG->Nat
 |some o=>o.gen
 |none=>0
def JX(P:XX)(t:XN)(x i:AV)(d:M gG):M AV:=
 match P.underlying t with
 |some (.slice e)=>match x with
  |.sl r g off b len _ _=>match i with
   |.s (.int _ n)=>if szT P e=ZC b/\arI d=g/\0<=n/\n<len then ZC (.ref r g (off+n.toNat*b))else Z1
   |_=>Z1
  |.vs len b cells=>match i with
   |.s (.int _ n)=>if szT P e=ZC b/\0<=n/\n<len then ZC (.ip (cells.drop (n.toNat*b)))else Z1
   |_=>Z1
  |_=>Z1
 |some (.array len e)=>match szT P e with
  |some m=>match x with
   |.ref r g off=>match i with
    |.s (.int _ n)=>if 0<=n/\n<len then ZC (.ref r g (off+n.toNat*m))else Z1
    |_=>Z1
   |.ip cells=>match i with
    |.s (.int _ n)=>if 0<=n/\n<len then ZC (.ip (cells.drop (n.toNat*m)))else Z1
    |_=>Z1
   |_=>Z1
  |none=>Z1
 |_=>Z1
def Cm(P:XX)(t:XN)(x i:AV):AM AV:=kV (JX P t x i) x
def al8(P:XX)(t:XN):M (IntKind × XN):=
 match P.underlying t with
 |some (.map k e)=>match P.underlying k with
  |some (.int b)=>ZC (b,e)
  |_=>Z1
 |_=>Z1
def xQ(P:XX)(t:XN):AM AV:=λH=>
 match al8 P t with
 |some (k,_)=>ZC (.mp H.next,H.new (.map k []))
 |none=>Z1
def qA:Q (Int × AV)->Int->M AV
 |[],_=>Z1
 |(k,v)::b,n=>if k=n then ZC v else qA b n
def MJ:Q (Int × AV)->Int->AV->Q (Int × AV)
 |[],n,x=>[(n,x)]
 |(k,v)::b,n,x=>if k=n then(n,x)::b else(k,v)::MJ b n x
def Aa:Q (Int × AV)->Int->Q (Int × AV)
 |[],_=>[]
 |(k,v)::b,n=>if k=n then b else(k,v)::Aa b n
def ZI(P:XX)(t:XN)(x i:AV)(ok:Bool)(d:M gG):M AV:=
 match al8 P t with
 |some (k,e)=>match zZ P e with
  |some z=>match x with
   |.mp _=>match i with
    |.s (.int k' n)=>match d with
     |some (.map b g)=>
      if k'=k/\b=k then
       match qA g n with
       |some v=>ZC (if ok then .tup [v,.s (.bool Z0)]else v)
       |none=>ZC (if ok then .tup [.s z,.s (.bool ZV)]else .s z)
      else Z1
     |_=>Z1
    |_=>Z1
   |_=>Z1
  |none=>Z1
 |none=>Z1
def TA(P:XX)(t:XN)(x i:AV)(ok:Bool):AM AV:=kV (ZI P t x i ok) x
def tJ(P:XX)(t:XN)(x i v:AV):AM AV:=λH=>
 match al8 P t,x,i with
 |some (k,_),.mp r,.s (.int k' n)=>match H.get r with
  |.map b d=>if k'=k/\b=k/\H.base<=r then ZC (aX,H.put r (.map k (MJ d n v)))else Z1
  |_=>Z1
 |_,_,_=>Z1
def cZ(H:ah):AV->M (Q AV)
 |.sl r g off d len _ _=>match H.get r with
  |.blk g' _ cells=>if g'=g/\off+len*d<=cells.length then ZC ((cells.drop off).take (len*d))else Z1
  |.map ..=>Z1
 |.vs _ _ cells=>ZC cells
 |.s (.slice none _ _)=>ZC []
 |.s (.string s)=>ZC (s.data.toList.map λb=>.s (.int .u8 b.toNat))
 |_=>Z1
def kL:AV->M Nat
 |.sl _ _ _ _ len _ _=>ZC len
 |.vs n _ _=>ZC n
 |.s (.slice none n _)=>ZC n
 |.s (.string s)=>ZC s.size
 |_=>Z1
def most:Nat:=140737488355328
def dV(e:XN)(m by_:Nat)(x:AV)(n:Nat)(new:Q AV):AM AV:=λH=>
 if new.length=n*m/\new.all AV.aU=Z0 then
  match x with
  |.s (.slice none 0 0)=>
   if n=0 then ZC (x,H)
   else if n<=most/\n*by_<=most then ZC (.sl H.next 0 0 m n n ZV,H.new (.blk 0 (e+gW) new))
   else Z1
  |.sl r g off d len b ex=>match H.get r with
   |.blk g' h cells=>
    if d=m/\g'=g/\off+len*m<=cells.length then
     if n=0 then ZC (x,H)
     else if len+n<=b then
      (if H.base<=r/\off+(len+n)*m<=cells.length then ZC (.sl r g off m (len+n) b ex,H.put r (.blk g h (aI cells (off+len*m) new)))else Z1)
     else if len+n<=most/\(len+n)*by_<=most then
      if ex then ZC (.sl H.next 0 0 m (len+n) (len+n) ZV,H.new (.blk 0 (e+gW) ((cells.drop off).take (len*m)++new)))
      else if H.base<=r then ZC (.sl r (g+1) 0 m (len+n) (len+n) ZV,H.put r (.blk (g+1) (grT e h off) ((cells.drop off).take (len*m)++new)))
      else Z1
     else Z1
    else Z1
   |.map ..=>Z1
  |_=>Z1
 else Z1
def MK(P:XX)(t u:XN)(x y:AV):AM AV:=λH=>
 match JE P t,P.underlying u with
 |some e,some d=>match szT P e,yQ P e,yG P e with
  |some m,some by_,some z=>
   if z.length=m then
    match d with
    |.int _=>match y with
     |.s (.int _ n)=>if 0<=n/\n<=most/\n*by_<=most then dV e m by_ x n.toNat (dM z n.toNat) H else Z1
     |_=>Z1
    |_=>match kL y,cZ H y with
     |some n,some new=>dV e m by_ x n new H
     |_,_=>Z1
   else Z1
  |_,_,_=>Z1
 |_,_=>Z1
def aea(P:XX)(t:XN)(x y:AV):AM AV:=λH=>
 match JE P t with
 |some e=>match szT P e,kL x,kL y,cZ H y with
  |some m,some d,some n,some new=>
   let k:=min n d
   if new.length=n*m/\new.all AV.aU=Z0 then
    if k=0 then(match x with|.s (.string _)=>Z1|_=>ZC (.s (.int .i64 0),H))else
    match x with
    |.sl r g off b len _ _=>match H.get r with
     |.blk g' h cells=>
      if b=m/\g'=g/\H.base<=r/\off+len*m<=cells.length then
       ZC (.s (.int .i64 k),H.put r (.blk g h (aI cells off (new.take (k*m)))))
      else Z1
     |.map ..=>Z1
    |_=>Z1
   else Z1
  |_,_,_,_=>Z1
 |none=>Z1
def VF(P:XX)(t:XN)(x:AV):AM AV:=λH=>
 match JE P t with
 |some e=>match szT P e,yG P e,x with
  |some m,some z,.sl r g off b len _ _=>
   if len=0 then ZC (.tup [],H)else
   match H.get r with
   |.blk g' d cells=>
    if b=m/\g'=g/\H.base<=r/\z.length=m/\z.all AV.aU=Z0/\off+len*m<=cells.length then
     ZC (.tup [],H.put r (.blk g d (aI cells off (dM z len))))
    else Z1
   |.map ..=>Z1
  |some _,some _,.s (.slice none _ _)=>ZC (.tup [],H)
  |_,_,_=>Z1
 |none=>Z1
def ML(P:XX)(t:XN)(x i:AV):AM AV:=λH=>
 match al8 P t,x,i with
 |some (k,_),.mp r,.s (.int k' n)=>match H.get r with
  |.map b d=>if k'=k/\b=k/\H.base<=r then ZC (.tup [],H.put r (.map k (Aa d n)))else Z1
  |_=>Z1
 |_,_,_=>Z1
def ar5(P:XX)(t:XN)(x:AV)(b:M gG):M AV:=
 match P.underlying t with
 |some (.slice _)=>match x with
  |.sl _ _ _ _ len _ _=>ZC (.s (.int .i64 len))
  |.vs n _ _=>ZC (.s (.int .i64 n))
  |.s (.slice _ n _)=>ZC (.s (.int .i64 n))
  |_=>Z1
 |some .string=>match x with
  |.s (.string s)=>ZC (.s (.int .i64 s.size))
  |_=>Z1
 |some (.map _ _)=>match x with
  |.mp _=>match b with
   |some (.map _ d)=>ZC (.s (.int .i64 d.length))
   |_=>Z1
  |.s (.map none)=>ZC (.s (.int .i64 0))
  |_=>Z1
 |_=>Z1
def ar6(P:XX)(t:XN)(x:AV):AM AV:=kV (ar5 P t x) x
def agL(P:XX)(t:XN)(x:AV):M AV:=
 match P.underlying t with
 |some (.slice _)=>match x with
  |.sl _ _ _ _ _ b true=>ZC (.s (.int .i64 b))
  |.s (.slice none _ c)=>ZC (.s (.int .i64 c))
  |_=>Z1
 |_=>Z1
def oL:Q AV->M (Q Int)
 |[]=>ZC []
 |x::xs=>match x with
  |.s (.int .u8 n)=>match oL xs with
   |some l=>ZC (n::l)
   |none=>Z1
  |_=>Z1
def PO(b:Q Int):ByteArray:=b.foldl (λs n=>s.push (UInt8.ofNat n.toNat)) ByteArray.empty
def al9(x:AV)(d:M gG):M ByteArray:=
 match x with
 |.sl _ g off b len _ _=>if b=1 then match d with
   |some (.blk g' _ cells)=>if g'=g/\off+len*b<=cells.length then(oL ((cells.drop off).take (len*b))).map PO else Z1
   |_=>Z1
  else Z1
 |.vs _ b cells=>if b=1 then(oL cells).map PO else Z1
 |.s (.slice none _ _)=>ZC ByteArray.empty
 |_=>Z1
def Gw(P:XX)(src dst:XN):Bool:=
 match P.underlying src,P.underlying dst with
 |some (.slice e),some .string=>match P.underlying e with
  |some (.int .u8)=>Z0
  |_=>ZV
 |_,_=>ZV
def Ac(P:XX)(src dst:XN)(x:AV)(b:M gG):M AV:=
 if Gw P src dst=Z0 then(al9 x b).map λs=>.s (.string s)
 else match x.val? with
  |some v=>(je P (convert src dst v)).map .s
  |none=>Z1
def kM(P:XX)(src dst:XN)(x:AV):AM AV:=kV (Ac P src dst x) x
def bV(H:ah)(n:Nat):Nat->AV->M AV
 |0,_=>Z1
 |d+1,x=>match x with
  |.s v=>ZC (.s v)
  |.ref r g off=>if r<n then ZC (.ref r g off)else Z1
  |.mp r=>if r<n then ZC (.mp r)else Z1
  |.sl r g off b len e ex=>
   if r<n then ZC (.sl r g off b len e ex)
   else match cZ H (.sl r g off b len e ex)with
    |some cells=>(cells.mapM (bV H n d)).map λl=>.vs len b l
    |none=>Z1
  |.ip cells=>(cells.mapM (bV H n d)).map .ip
  |.vs k b cells=>(cells.mapM (bV H n d)).map (.vs k b)
  |.fn f a c=>match a.mapM (bV H n d),c.mapM (bV H n d)with
   |some a,some c=>ZC (.fn f a c)
   |_,_=>Z1
  |.agg cells=>(cells.mapM (bV H n d)).map .agg
  |.tup cells=>(cells.mapM (bV H n d)).map .tup
abbrev aA:=FuncId->List AV->AM AV
abbrev gB:=List AV
def dR(t:gB):Operand->AV
 |.tmp i=>t.getD i aX
 |.const v=>.s v
 |.global g=>.s (.pointer (ZC ⟨g,0,Z1⟩))
 |.func f=>.fn (.func f) [] []
def wC(t:gB)(dst:M Tmp)(v:AV):gB:=
 match dst with
 |some d=>t.set d v
 |none=>t
def qB(P:XX)(f:FuncId):Bool:=
 match P.funcs[f]? with
 |some fn=>!(fn.name=="runtime.NumGoroutine") && fn.body.isSome
 |none=>ZV
def qC(P:XX)(C:aA)(f:AV)(args:Q AV):AM AV:=
 match f with
 |.fn (.func f) first b=>if qB P f=Z0 then C f (first++args++b)else λ_=>Z1
 |.s (.func (.func f) first b)=>if qB P f=Z0 then C f (first.toList.map .s++args++b.toList.map .s)else λ_=>Z1
 |_=>λ_=>Z1
def bQ(c a b:AV):M AV:=
 match c with
 |.s (.bool true)=>ZC a
 |.s (.bool false)=>ZC b
 |_=>Z1
def ay(x:AV):M AV:=
 match x with
 |.ref ..=>ZC x
 |.ip ..=>ZC x
 |.fn (.func _) _ _=>ZC x
 |.s (.pointer (some _))=>ZC x
 |_=>Z1
def kH(P:XX)(d:Bool)(b:Array XN)(type:XN)(args:Q AV):M AV:=
 match vals? args with
 |some vs=>(je P (if d then Builtin.max_ b type vs.toArray else Builtin.min_ b type vs.toArray)).map .s
 |none=>Z1
def iW(P:XX)(b:Builtin)(d:Array XN)(type:XN)(args:Q AV):AM AV:=λH=>
 match b,d.toList,args with
 |.append,[t,u],[x,y]=>MK P t u x y H
 |.len,[t],[x]=>ar6 P t x H
 |.cap,[t],[x]=>fU (agL P t x) H
 |.copy,t::_,[x,y]=>aea P t x y H
 |.clear,[t],[x]=>VF P t x H
 |.delete,t::_,[x,y]=>ML P t x y H
 |.max,_,args=>fU (kH P Z0 d type args) H
 |.min,_,args=>fU (kH P ZV d type args) H
 |_,_,_=>Z1
def wF(P:XX)(C:aA)(t:gB)(c:Call)(type:XN):AM AV:=λH=>
 match c.callee with
 |.value f=>qC P C (dR t f) (c.args.toList.map (dR t)) H
 |.builtin b=>iW P b c.argTypes type (c.args.toList.map (dR t)) H
 |.invoke _ _=>Z1
def opA(P:XX)(C:aA)(t:gB)(o:Oper):AM AV:=
 match o.op with
 |.move x=>fU (ZC (dR t x))
 |.assign x=>fU (ZC (dR t x))
 |.pick c a b=>fU (bQ (dR t c) (dR t a) (dR t b))
 |.alloc e=>JW P e
 |.box e x=>fK e (dR t x)
 |.build d ps=>fU (fV P d (ps.toList.map λp=>(p.1,dR t p.2)))
 |.buildSlice d n ps=>dI P d n (ps.toList.map λp=>(p.1,dR t p.2))
 |.load d x=>Tz P d (dR t x)
 |.store d x v=>PN P d (dR t x) (dR t v)
 |.nilCheck x=>fU (ay (dR t x))
 |.binOp op d x y _=>fU (amj P op d y (dR t x) (dR t y))
 |.unOp op _ x=>fU (unA P op (dR t x))
 |.convert src dst x=>kM P src dst (dR t x)
 |.makeFunc f a c=>fU (ZC (.fn f (a.toList.map (dR t)) (c.toList.map (dR t))))
 |.makeMap d none=>xQ P d
 |.makeSlice d l c=>ql P d (dR t l) (dR t c)
 |.slice d x lo hi g=>fU (PL P d (dR t x) (lo.map (dR t)) (hi.map (dR t)) (g.map (dR t)))
 |.fieldAddr d x i=>fU (tC P d (dR t x) i)
 |.field d x i=>fU (PI P d (dR t x) i)
 |.indexAddr d x i=>Cm P d (dR t x) (dR t i)
 |.index d x i=>fU (PK P d (dR t x) (dR t i))
 |.lookup d x i ok=>TA P d (dR t x) (dR t i) ok
 |.mapUpdate d m k v=>tJ P d (dR t m) (dR t k) (dR t v)
 |.extract x i=>fU (aG (dR t x) i)
 |.call c=>wF P C t c o.type
 |_=>λ_=>Z1
def uI(ops:Q Oper)(t:gB)(o:Oper):M Bool:=
 match o.guard with
 |none=>ZC Z0
 |some (j,e)=>match ops[j]? with
  |some p=>match p.dst with
   |some d=>match t[d]? with
    |some (.s (.bool b))=>ZC (b==e)
    |some (.tup [])=>ZC ZV
    |_=>Z1
   |none=>Z1
  |none=>Z1
def PS(P:XX)(C:aA)(ops:Q Oper):Q Oper->gB->AM gB
 |[],t,H=>ZC (t,H)
 |o::rest,t,H=>match uI ops t o with
  |some true=>match opA P C t o H with
   |some (v,H')=>PS P C ops rest (wC t o.dst v) H'
   |none=>Z1
  |some false=>PS P C ops rest (wC t o.dst aX) H
  |none=>Z1
def amk:Q Nat:=[
 191,
 48,
 198,
 15,
 49,
 199,
 22,
 0]
def aeb:Operand->Bool
 |.const _=>Z0
 |_=>ZV
def EL:Op->Bool
 |.alloc _=>Z0
 |.buildSlice _ _ ps=>ps.all λp=>aeb p.2
 |_=>ZV
def rC:Op->Bool
 |.move _=>Z0
 |.assign _=>Z0
 |.pick _ _ _=>Z0
 |.build _ _=>Z0
 |.nilCheck _=>Z0
 |.binOp _ _ _ _ _=>Z0
 |.unOp _ _ _=>Z0
 |.makeFunc _ _ _=>Z0
 |.slice _ _ _ _ _=>Z0
 |.fieldAddr _ _ _=>Z0
 |.field _ _ _=>Z0
 |.index _ _ _=>Z0
 |.extract _ _=>Z0
 |.load _ _=>Z0
 |.lookup _ _ _ _=>Z0
 |.indexAddr _ _ _=>Z0
 |.convert _ _ _=>Z0
 |.call c=>match c.callee with
  |.builtin .len=>Z0
  |.builtin .cap=>Z0
  |.builtin .max=>Z0
  |.builtin .min=>Z0
  |_=>ZV
 |_=>ZV
def ar7:Operand->Bool
 |.func f=>amk.contains f
 |_=>ZV
def uJ:Op->Bool
 |.box _ _=>Z0
 |.buildSlice _ _ _=>Z0
 |.makeMap _ _=>Z0
 |.makeSlice _ _ _=>Z0
 |.call c=>match c.callee with
  |.value x=>!ar7 x
  |_=>ZV
 |_=>ZV
def mJ:Op->Bool
 |.call c=>match c.callee with
  |.value x=>!ar7 x
  |_=>ZV
 |_=>ZV
def ajI:Op->Bool
 |.call c=>match c.callee with
  |.value x=>ar7 x
  |_=>ZV
 |_=>ZV
def MN:Op->Bool
 |.load _ _=>Z0
 |.lookup _ _ _ _=>Z0
 |.indexAddr _ _ _=>Z0
 |.convert _ _ _=>Z0
 |.call c=>match c.callee with
  |.builtin .len=>Z0
  |_=>ZV
 |_=>ZV
def lM(t:gB):Op->M Nat
 |.load _ x=>bT (dR t x)
 |.lookup _ x _ _=>bT (dR t x)
 |.indexAddr _ x _=>bT (dR t x)
 |.convert _ _ x=>bT (dR t x)
 |.call c=>match c.args.toList with
  |[x]=>bT (dR t x)
  |_=>Z1
 |_=>Z1
def mV(ops:Q Oper)(i j:Nat):Bool:=((Region.before ops.toArray).getD j 0).testBit i
def qE(ops:Q Oper)(i:Nat):Op:=(ops[i]?.map (·.op)).getD (.alloc 0)
def JY(ops:Q Oper)(i:Nat):M Tmp:=ops[i]?.bind (·.dst)
def cst(ops:Q Oper)(i:Nat):Bool:=EL (qE ops i)
def flo(ops:Q Oper)(i:Nat):Bool:=rC (qE ops i)
def chn(ops:Q Oper)(i:Nat):Bool:=!cst ops i && !flo ops i
def Gx(ops:Q Oper)(i j:Nat):Bool:=if cst ops i==cst ops j then u (i<j)else cst ops i
def EC(n:Nat)(f:Nat->Bool):Bool:=(List.range n).all f
def Yd(ops:Q Oper)(j e:Nat):Bool:=chn ops e && flo ops j && MN (qE ops j) && !mV ops j e && !mV ops e j
def loose(ops:Q Oper)(e:Nat):Bool:=(List.range ops.length).any λj=>Yd ops j e || (cst ops j && chn ops e && !mV ops j e)
def lV(ops:Q Oper):Q (Nat × Nat):=
 (List.range ops.length).flatMap λj=>((List.range ops.length).filter λe=>(Yd ops j e && !uJ (qE ops e)) || (cst ops j && chn ops e && !mV ops j e && ajI (qE ops e))).map λe=>(j,e)
def VG(ops:Q Oper):Bool:=
 let n:=ops.length
 (EC n λj=>(ops[j]?.map λo=>o.after.all λe=>!Region.binds .any e || (u (e.on<n) && Gx ops e.on j)).getD ZV) &&
 (EC n λi=>EC n λj=>!(u (i<j)) || (JY ops i).isNone || !(JY ops i==JY ops j)) &&
 (EC n λi=>EC n λj=>i==j || (match JY ops i,ops[j]? with
  |some d,some o=>!(o.looksAt ops.toArray).contains d || (mV ops i j && Gx ops i j) || (mV ops j i && Gx ops j i)
  |_,_=>Z0)) &&
 (EC n λi=>EC n λj=>!(chn ops i && chn ops j && u (i<j)) || mV ops i j) &&
 (EC n λj=>!cst ops j || ((ops[j]?.map λo=>o.guard.isNone && o.dst.isSome).getD ZV)) &&
 (EC n λj=>EC n λe=>!(cst ops j && chn ops e && !mV ops j e) || ((uJ (qE ops e) || ajI (qE ops e)) && !mV ops e j))
def opG(P:XX)(C:aA)(t:gB)(o:Oper):AM AV:=λH=>
 match opA P C t o H.guard with
 |some (v,H')=>ZC (v,{ H' with base:=H.base })
 |none=>Z1
def mQ(P:XX)(C:aA)(ops:Q Oper)(lo:Bool)(o:Oper)(t:gB):AM AV:=λH=>
 match uI ops t o with
 |some true=>if lo then opG P C t o H else opA P C t o H
 |some false=>ZC (aX,H)
 |none=>Z1
def iY(P:XX)(C:aA)(ops:Q Oper):Q Nat->gB->ah->M (gB × ah)
 |[],t,H=>ZC (t,H)
 |i::is,t,H=>match ops[i]? with
  |some o=>match opA P C t o H with
   |some (v,H')=>iY P C ops is (wC t o.dst v) H'
   |none=>Z1
  |none=>Z1
def fZ(P:XX)(C:aA)(ops:Q Oper):Q Nat->gB->ah->M (gB × ah)
 |[],t,H=>ZC (t,H)
 |i::is,t,H=>match ops[i]? with
  |some o=>match mQ P C ops (loose ops i && mJ o.op) o t H with
   |some (v,H')=>fZ P C ops is (wC t o.dst v) H'
   |none=>Z1
  |none=>Z1
def oM(ops:Q Oper):Q Nat:=(List.range ops.length).filter (cst ops)
def mW(ops:Q Oper):Q Nat:=(List.range ops.length).filter λi=>!cst ops i
def Gy(P:XX)(C:aA)(ops:Q Oper)(p:Nat)(t:gB)(H:ah):M (gB × ah):=
 fZ P C ops ((List.range p).filter λi=>!cst ops i) t H
def agree(P:XX)(C:aA)(ops:Q Oper)(s:Nat)(t:gB)(H:ah)(p:Nat × Nat):Prop:=
 if cst ops p.1=Z0 then
  ∀g e d b,Gy P C ops p.2 t H=ZC (g,e)->Gy P C ops (p.2+1) t H=ZC (d,b)->∀r,s<=r->r<H.next->b.get r=e.get r
 else
 ∀h i g e d b,Gy P C ops p.1 t H=ZC (h,i)->Gy P C ops p.2 t H=ZC (g,e)->Gy P C ops (p.2+1) t H=ZC (d,b)->
  ∀r,lM h (qE ops p.1)=ZC r->b.get r=e.get r
open Classical in
def y7(P:XX)(C:aA)(ops:Q Oper)(t:gB)(H:ah):M (gB × ah):=
 if VG ops=Z0 then
  match iY P C ops (oM ops) t H with
  |some (t0,H0)=>match lV ops with
   |[]=>fZ P C ops (mW ops) t0 H0
   |ps=>if∀p∈ps,agree P C ops H.next t0 H0 p then fZ P C ops (mW ops) t0 H0 else Z1
  |none=>Z1
 else Z1
mutual
def NV(n:Nat):AV->Prop
 |.s _=>True
 |.ref r _ _=>r<n
 |.sl r _ _ _ _ _ _=>r<n
 |.ip cells=>NVs n cells
 |.vs _ _ cells=>NVs n cells
 |.mp r=>r<n
 |.fn _ a c=>NVs n a/\NVs n c
 |.agg cells=>NVs n cells
 |.tup cells=>NVs n cells
def NVs(n:Nat):Q AV->Prop
 |[]=>True
 |x::xs=>NV n x/\NVs n xs
end
mutual
def RV.nv {ρ:Ren}{G:Nat->Nat}{w:Xs}{n:Nat}(out:∀r,n<=r->ρ r=Z1/\G r=0):∀(x:AV) (v:XS),RV ρ G w x v->NV n x
 |.s _,_,_=>by simp[NV]
 |.ref r g off,v,h=>by
  obtain⟨a,_,d,j⟩:=(by simpa only[RV]using h)
  simp only[NV];rcases Nat.lt_or_ge r n with i|i
  ·exact i
  ·have⟨k,p⟩:=out r i;have⟨b,u,hb,_⟩:=j V;rw[k]at hb;cases hb
 |.sl r g off q len y ex,v,h=>by
  obtain⟨b,o,c,_,_,_,_,d,j⟩:=(by simpa only[RV]using h)
  simp only[NV];rcases Nat.lt_or_ge r n with i|i
  ·exact i
  ·have⟨k,p⟩:=out r i;have⟨u,e,m,hb,_⟩:=j V;rw[k]at hb;cases hb
 |.ip cells,v,h=>by
  obtain⟨b,o,_,_,_,d⟩:=(by simpa only[RV]using h)
  simp only[NV];exact RVc.nv out cells b o d
 |.vs m q cells,v,h=>by
  obtain⟨b,o,c,_,_,_,_,_,d⟩:=(by simpa only[RV]using h)
  simp only[NV];exact RVc.nv out cells b o d
 |.mp r,v,h=>by
  obtain⟨b,_,d⟩:=(by simpa only[RV]using h)
  simp only[NV];rcases Nat.lt_or_ge r n with i|i
  ·exact i
  ·have⟨k,p⟩:=out r i;have:=d p;rw[k]at this;cases this
 |.fn f a c,v,h=>by
  obtain⟨a',c',_,d,j⟩:=(by simpa only[RV]using h)
  simp only[NV];exact⟨RVs.nv out a _ d,RVs.nv out c _ j⟩
 |.agg cells,v,h=>by
  obtain⟨cs,_,d⟩:=(by simpa only[RV]using h)
  simp only[NV];exact RVs.nv out cells _ d
 |.tup cells,v,h=>by
  obtain⟨cs,_,d⟩:=(by simpa only[RV]using h)
  simp only[NV];exact RVs.nv out cells _ d
def RVs.nv {ρ:Ren}{G:Nat->Nat}{w:Xs}{n:Nat}(out:∀r,n<=r->ρ r=Z1/\G r=0):∀(xs:Q AV) (l:Q XS),RVs ρ G w xs l->NVs n xs
 |[],_,_=>by simp[NVs]
 |x::xs,l,h=>by
  obtain⟨y,b,_,d,e⟩:=(by simpa only[RVs]using h)
  simp only[NVs];exact⟨RV.nv out x y d,RVs.nv out xs b e⟩
def RVc.nv {ρ:Ren}{G:Nat->Nat}{w:Xs}{n:Nat}(out:∀r,n<=r->ρ r=Z1/\G r=0):∀(xs:Q AV) (b o:Nat),RVc ρ G w xs b o->NVs n xs
 |[],_,_,_=>by simp[NVs]
 |x::xs,b,o,h=>by
  obtain⟨⟨y,_,d⟩,e⟩:=(by simpa only[RVc]using h)
  simp only[NVs];exact⟨RV.nv out x y d,RVc.nv out xs b (o+1) e⟩
end
structure agM(ρ:Ren)(G:Nat->Nat)(w:World)(ρ':Ren)(G':Nat->Nat)(w':World):Prop where
 mono:∀r,G r<=G' r
 same:∀r x,ρ r=some x->G' r=G r->ρ' r=some x
 imm:∀b,b<w.heap.size->Imm ρ b->b<w'.heap.size/\Imm ρ' b/\∀o,w'.cell? ⟨b,o,none⟩=w.cell? ⟨b,o,none⟩
 shape:∀b e m,w.shape? b=some (e,m)->w'.shape? b=some (e,m)
mutual
def RV.mono {ρ ρ':Ren}{G G':Nat->Nat}{w w':Xs}(M:agM ρ G w ρ' G' w'):∀(x:AV) (v:XS),RV ρ G w x v->RV ρ' G' w' x v
 |.s _,_,h=>by simpa only[RV]using h
 |.ref r g off,v,h=>by
  obtain⟨a,e,d,n⟩:=(by simpa only[RV]using h)
  simp only[RV];have m:=M.mono r;refine⟨a,e,V,λz=>?_⟩;have p:G r=g:=V
  have⟨b,q,A,ha⟩:=n p;exact⟨b,q,M.same r _ A V,ha⟩
 |.sl r g off u len C ex,v,h=>by
  obtain⟨b,o,c,e,k1,y,D,d,n⟩:=(by simpa only[RV]using h)
  simp only[RV];have m:=M.mono r;refine⟨b,o,c,e,k1,y,D,V,λz=>?_⟩;have p:G r=g:=V
  have⟨q,E,k,F,H,K,L⟩:=n p;exact⟨q,E,k,M.same r _ F V,H,M.shape _ _ _ K,L⟩
 |.ip cells,v,h=>by
  obtain⟨b,o,e,hb,hi,d⟩:=(by simpa only[RV]using h)
  simp only[RV];have⟨i,j,hc⟩:=M.imm b hb hi;exact⟨b,o,e,i,j,RVc.mono M cells b o (λo v hv=>by rw[hc];exact hv) d⟩
 |.vs m u cells,v,h=>by
  obtain⟨b,o,c,e,k1,y,hb,hi,d⟩:=(by simpa only[RV]using h)
  simp only[RV];have⟨i,j,hc⟩:=M.imm b hb hi;exact⟨b,o,c,e,k1,y,i,j,RVc.mono M cells b o (λo v hv=>by rw[hc];exact hv) d⟩
 |.mp r,v,h=>by
  obtain⟨b,e,d⟩:=(by simpa only[RV]using h)
  simp only[RV];have m:=M.mono r;refine⟨b,e,λz=>?_⟩;have p:G r=0:=V
  exact M.same r _ (d p) V
 |.fn f a c,v,h=>by
  obtain⟨a',c',e,d,n⟩:=(by simpa only[RV]using h)
  simp only[RV];exact⟨a',c',e,RVs.mono M a _ d,RVs.mono M c _ n⟩
 |.agg cells,v,h=>by
  obtain⟨cs,e,d⟩:=(by simpa only[RV]using h)
  simp only[RV];exact⟨cs,e,RVs.mono M cells _ d⟩
 |.tup cells,v,h=>by
  obtain⟨cs,e,d⟩:=(by simpa only[RV]using h)
  simp only[RV];exact⟨cs,e,RVs.mono M cells _ d⟩
def RVs.mono {ρ ρ':Ren}{G G':Nat->Nat}{w w':Xs}(M:agM ρ G w ρ' G' w'):∀(xs:Q AV) (l:Q XS),RVs ρ G w xs l->RVs ρ' G' w' xs l
 |[],_,h=>by simpa only[RVs]using h
 |x::xs,l,h=>by
  obtain⟨y,b,e,d,g⟩:=(by simpa only[RVs]using h)
  simp only[RVs];exact⟨y,b,e,RV.mono M x y d,RVs.mono M xs b g⟩
def RVc.mono {ρ ρ':Ren}{G G':Nat->Nat}{w w':Xs}(M:agM ρ G w ρ' G' w'):∀(xs:Q AV) (b o:Nat),(∀o v,w.cell? ⟨b,o,Z1⟩=ZC v->w'.cell? ⟨b,o,Z1⟩=ZC v)->RVc ρ G w xs b o->RVc ρ' G' w' xs b o
 |[],_,_,_,_=>by simp only[RVc]
 |x::xs,b,o,hc,h=>by
  obtain⟨⟨y,e,d⟩,g⟩:=(by simpa only[RVc]using h)
  simp only[RVc];exact⟨⟨y,hc _ _ e,RV.mono M x y d⟩,RVc.mono M xs b (o+1) hc g⟩
end
structure Back(n:Nat)(ρ:Ren)(G:Nat->Nat)(ρ':Ren)(G':Nat->Nat):Prop where
 gen:∀r,r<n->G' r=G r
 same:∀r,r<n->ρ' r=none∨ρ' r=ρ r
 sub:∀r x,ρ' r=some x->ρ r=some x
def Back.imm {n:Nat}{ρ ρ':Ren}{G G':Nat->Nat}(B:Back n ρ G ρ' G'){b:Nat}(h:Imm ρ b):Imm ρ' b:=λr d e=>h r d (B.sub r _ e)
mutual
def RV.back {n:Nat}{ρ ρ':Ren}{G G':Nat->Nat}{w w0:Xs}(B:Back n ρ G ρ' G')(out:∀r,n<=r->ρ' r=Z1/\G' r=0):∀(x:AV) (v y:XS),RV ρ' G' w0 x y->RV ρ G w x v->RV ρ' G' w x v
 |.s _,_,_,_,h=>by simpa only[RV]using h
 |.ref r g off,v,y,d,h=>by
  have j:=RV.nv out _ _ d;simp only[NV]at j;obtain⟨a0,_,p,A⟩:=(by simpa only[RV]using d)
  obtain⟨a,e,i,C⟩:=(by simpa only[RV]using h)
  simp only[RV];refine⟨a,e,by rw[B.gen r j];exact i,λz=>?_⟩;have⟨D,L,u,_⟩:=A z;have⟨b,E,M,ha⟩:=C (by rw[<-B.gen r j];exact z);refine⟨b,E,?_,ha⟩;rcases B.same r j with q|q
  ·rw[q]at u;cases u
  ·rw[q];exact M
 |.sl r g off F len Q ex,v,y,d,h=>by
  have j:=RV.nv out _ _ d;simp only[NV]at j;obtain⟨_,_,_,_,_,_,_,_,A⟩:=(by simpa only[RV]using d)
  obtain⟨b,o,c,e,k1,H,R,i,C⟩:=(by simpa only[RV]using h)
  simp only[RV];refine⟨b,o,c,e,k1,H,R,by rw[B.gen r j];exact i,λz=>?_⟩;have⟨_,_,_,u,_⟩:=A z;have⟨E,T,k,W,X,q3,q4⟩:=C (by rw[<-B.gen r j];exact z);refine⟨E,T,k,?_,X,q3,q4⟩;rcases B.same r j with q|q
  ·rw[q]at u;cases u
  ·rw[q];exact W
 |.ip cells,v,y,d,h=>by
  obtain⟨D,K,_,_,_,p⟩:=(by simpa only[RV]using d)
  obtain⟨b,o,e,hb,hi,i⟩:=(by simpa only[RV]using h)
  simp only[RV];exact⟨b,o,e,hb,B.imm hi,RVc.back B out cells b o D K p i⟩
 |.vs m F cells,v,y,d,h=>by
  obtain⟨D,K,_,_,_,_,_,_,p⟩:=(by simpa only[RV]using d)
  obtain⟨b,o,c,e,k1,H,hb,hi,i⟩:=(by simpa only[RV]using h)
  simp only[RV];exact⟨b,o,c,e,k1,H,hb,B.imm hi,RVc.back B out cells b o D K p i⟩
 |.mp r,v,y,d,h=>by
  have j:=RV.nv out _ _ d;simp only[NV]at j;obtain⟨_,_,p⟩:=(by simpa only[RV]using d)
  obtain⟨b,e,i⟩:=(by simpa only[RV]using h)
  simp only[RV];refine⟨b,e,λz=>?_⟩;have:=p z;rcases B.same r j with q|q
  ·rw[q]at this;cases this
  ·rw[q];exact i (by rw[<-B.gen r j];exact z)
 |.fn f a c,v,y,d,h=>by
  obtain⟨_,_,_,p,A⟩:=(by simpa only[RV]using d)
  obtain⟨a',c',e,i,C⟩:=(by simpa only[RV]using h)
  simp only[RV];exact⟨a',c',e,RVs.back B out a _ _ p i,RVs.back B out c _ _ A C⟩
 |.agg cells,v,y,d,h=>by
  obtain⟨_,_,p⟩:=(by simpa only[RV]using d)
  obtain⟨cs,e,i⟩:=(by simpa only[RV]using h)
  simp only[RV];exact⟨cs,e,RVs.back B out cells _ _ p i⟩
 |.tup cells,v,y,d,h=>by
  obtain⟨_,_,p⟩:=(by simpa only[RV]using d)
  obtain⟨cs,e,i⟩:=(by simpa only[RV]using h)
  simp only[RV];exact⟨cs,e,RVs.back B out cells _ _ p i⟩
def RVs.back {n:Nat}{ρ ρ':Ren}{G G':Nat->Nat}{w w0:Xs}(B:Back n ρ G ρ' G')(out:∀r,n<=r->ρ' r=Z1/\G' r=0):∀(xs:Q AV) (l l0:Q XS),RVs ρ' G' w0 xs l0->RVs ρ G w xs l->RVs ρ' G' w xs l
 |[],_,_,_,h=>by simpa only[RVs]using h
 |x::xs,l,l0,d,h=>by
  obtain⟨_,_,_,g,i⟩:=(by simpa only[RVs]using d)
  obtain⟨y,b,e,j,k⟩:=(by simpa only[RVs]using h)
  simp only[RVs];exact⟨y,b,e,RV.back B out x y _ g j,RVs.back B out xs b _ i k⟩
def RVc.back {n:Nat}{ρ ρ':Ren}{G G':Nat->Nat}{w w0:Xs}(B:Back n ρ G ρ' G')(out:∀r,n<=r->ρ' r=Z1/\G' r=0):∀(xs:Q AV) (b o d g:Nat),RVc ρ' G' w0 xs d g->RVc ρ G w xs b o->RVc ρ' G' w xs b o
 |[],_,_,_,_,_,_=>by simp only[RVc]
 |x::xs,b,o,d,g,i,h=>by
  obtain⟨⟨_,_,j⟩,k⟩:=(by simpa only[RVc]using i)
  obtain⟨⟨y,e,m⟩,p⟩:=(by simpa only[RVc]using h)
  simp only[RVc];exact⟨⟨y,e,RV.back B out x y _ j m⟩,RVc.back B out xs b (o+1) d (g+1) k p⟩
end
def RVm.mono {ρ ρ':Ren}{G G':Nat->Nat}{w w':Xs}(M:agM ρ G w ρ' G' w'){k:IntKind}:∀(xs:Q (Int × AV)) (l:Q MapEntry),RVm ρ G w k xs l->RVm ρ' G' w' k xs l
 |[],_,h=>by simpa only[RVm]using h
 |(m,x)::xs,l,h=>by
  obtain⟨e,b,d,g,i,j⟩:=(by simpa only[RVm]using h)
  simp only[RVm];exact⟨e,b,d,g,RV.mono M x _ i,RVm.mono M xs b j⟩
def RVm.back {n:Nat}{ρ ρ':Ren}{G G':Nat->Nat}{w w0:Xs}(B:Back n ρ G ρ' G')(out:∀r,n<=r->ρ' r=Z1/\G' r=0){k:IntKind}:∀(xs:Q (Int × AV)) (l l0:Q MapEntry),RVm ρ' G' w0 k xs l0->RVm ρ G w k xs l->RVm ρ' G' w k xs l
 |[],_,_,_,h=>by simpa only[RVm]using h
 |(m,x)::xs,l,l0,d,h=>by
  obtain⟨_,_,_,_,g,i⟩:=(by simpa only[RVm]using d)
  obtain⟨e,b,j,o,p,q⟩:=(by simpa only[RVm]using h)
  simp only[RVm];exact⟨e,b,j,o,RV.back B out x _ _ g p,RVm.back B out xs b _ i q⟩
def cell?_of_block {w w':Xs}{b o:Nat}(h:w'.heap[b]?=w.heap[b]?):w'.cell? ⟨b,o,Z1⟩=w.cell? ⟨b,o,Z1⟩:=by
 simp only[World.cell?,h]
def Gz {w:Xs}{b:Nat}{e:XN}{m:Nat}(h:w.shape? b=ZC (e,m)):b<w.heap.size:=by
 rcases Nat.lt_or_ge b w.heap.size with hb|hb
 ·exact hb
 ·simp[World.shape?,Array.getElem?_eq_none hb]at h
def Ext.toMono {ρ ρ':Ren}{H H':ah}{w w':Xs}(E:Ext ρ H w ρ' H' w'):agM ρ H.gen w ρ' H'.gen w' where
 mono:=E.mono
 same:=E.same
 imm:=λb hb hi=>⟨Nat.lt_of_lt_of_le hb E.size,λr g i=>by
   rcases E.range r b g i with h|⟨d,h⟩
   ·omega
   ·exact hi r d h,λo=>cell?_of_block (E.frame b hb hi)⟩
 shape:=λb e m h=>by rw[E.shape b (Gz h)];exact h
def Ext.refl(ρ:Ren)(H:ah)(w:Xs):Ext ρ H w ρ H w where
 next:=Nat.le_refl _
 mono:=λ_=>Nat.le_refl _
 same:=λ_ _ h _=>h
 kept:=λ_ _ h=>h
 range:=λ_ _ b h=>.inr ⟨b,h⟩
 size:=Nat.le_refl _
 frame:=λ_ _ _=>rfl
 shape:=λ_ _=>rfl
 os:=rfl
 tape:=rfl
 output:=rfl
def Ext.trans {ρ ρ' d:Ren}{H H' H'':ah}{w w' e:Xs}(E:Ext ρ H w ρ' H' w')(F:Ext ρ' H' w' d H'' e):Ext ρ H w d H'' e where
 next:=Nat.le_trans E.next F.next
 mono:=λr=>Nat.le_trans (E.mono r) (F.mono r)
 same:=λr x g h=>by
  have k:=E.mono r;have m:=F.mono r;exact F.same r x (E.same r x g V) V
 kept:=λr g h=>F.kept r (Nat.lt_of_lt_of_le g E.next) (E.kept r g h)
 range:=λr b j h=>by
  rcases F.range r b j h with h|⟨i,h⟩
  ·exact .inl (Nat.le_trans E.size h)
  ·exact E.range r b i h
 size:=Nat.le_trans E.size F.size
 frame:=λb hb hi=>by
  rw[F.frame b (Nat.lt_of_lt_of_le hb E.size) (E.toMono.imm b hb hi).2.1,E.frame b hb hi]
 shape:=λb hb=>by rw[F.shape b (Nat.lt_of_lt_of_le hb E.size),E.shape b hb]
 os:=F.os.trans E.os
 tape:=F.tape.trans E.tape
 output:=F.output.trans E.output
def Rel.keep {ρ ρ':Ren}{H H':ah}{w w':Xs}(_R:Rel ρ H w)(E:Ext ρ H w ρ' H' w'){x:AV}{v:XS}(h:RV ρ H.gen w x v):RV ρ' H'.gen w' x v:=
 RV.mono E.toMono x v h
def jD {ρ:Ren}{G:Nat->Nat}{w:Xs}:RVs ρ G w [] []:=by simp only[RVs]
def jA {ρ:Ren}{G:Nat->Nat}{w:Xs}{x:AV}{y:XS}{xs:Q AV}{ys:Q XS}(h:RV ρ G w x y)(t:RVs ρ G w xs ys):RVs ρ G w (x::xs) (y::ys):=by
 simp only[RVs];exact⟨y,ys,W,h,t⟩
def dO {ρ:Ren}{G:Nat->Nat}{w:Xs}:∀{xs:Q AV} {l:Q XS},RVs ρ G w xs l->l.length=xs.length
 |[],l,h=>by simp only[RVs]at h;subst h;rfl
 |x::xs,l,h=>by
  simp only[RVs]at h;obtain⟨y,d,rfl,_,b⟩:=h;simp[dO b]
def jP {ρ:Ren}{G:Nat->Nat}{w:Xs}:∀{xs:Q AV} {l:Q XS},RVs ρ G w xs l->∀{i:Nat} {x:AV},xs[i]?=ZC x->∃v,l[i]?=ZC v/\RV ρ G w x v
 |[],l,h,i,x,b=>by simp at b
 |y::xs,l,h,i,x,b=>by
  simp only[RVs]at h;obtain⟨z,g,rfl,d,e⟩:=h;cases i with
  |zero=>simp at b;subst b;exact⟨z,W,d⟩
  |succ i=>simp at b;simpa using jP e b
def tK {ρ:Ren}{G:Nat->Nat}{w:Xs}:∀{xs:Q AV} {l:Q XS},l.length=xs.length->(∀(i:Nat) (x:AV),xs[i]?=ZC x->∃v,l[i]?=ZC v/\RV ρ G w x v)->RVs ρ G w xs l
 |[],l,h,_=>by cases l with|nil=>exact jD|cons a l=>simp at h
 |x::xs,l,h,b=>by
  cases l with
  |nil=>simp at h
  |cons y g=>
   have⟨v,hv,d⟩:=b 0 x W;simp at hv;subst hv;exact jA d (tK (by simpa using h) λi x e=>by simpa using b (i+1) x (by simpa using e))
def qm {ρ:Ren}{G:Nat->Nat}{w:Xs}:∀{xs ys:Q AV} {l m:Q XS},RVs ρ G w xs l->RVs ρ G w ys m->RVs ρ G w (xs++ys) (l++m)
 |[],ys,l,m,h,b=>by simp only[RVs]at h;subst h;simpa using b
 |x::xs,ys,l,m,h,b=>by
  simp only[RVs]at h;obtain⟨z,g,rfl,d,e⟩:=h;exact jA d (qm e b)
def aec {ρ:Ren}{G:Nat->Nat}{w:Xs}(n:Nat):∀{xs:Q AV} {l:Q XS},RVs ρ G w xs l->RVs ρ G w (xs.take n) (l.take n):=by
 intro xs l h;refine tK (by simp[dO h]) λi x b=>?_;rw[List.getElem?_take]at b;split at b
 ·have⟨v,hv,d⟩:=jP h b;exact⟨v,by rw[List.getElem?_take,y ‹_›];exact hv,d⟩
 ·cases b
def aed {ρ:Ren}{G:Nat->Nat}{w:Xs}(n:Nat):∀{xs:Q AV} {l:Q XS},RVs ρ G w xs l->RVs ρ G w (xs.drop n) (l.drop n):=by
 intro xs l h;refine tK (by simp[dO h]) λi x b=>?_;rw[List.getElem?_drop]at b;have⟨v,hv,d⟩:=jP h b;exact⟨v,by rw[List.getElem?_drop];exact hv,d⟩
def iC {ρ:Ren}{G:Nat->Nat}{w:Xs}:∀(l:Q XS),RVs ρ G w (l.map .s) l
 |[]=>jD
 |v::l=>jA (by simp only[RV]) (iC l)
def y8 {ρ:Ren}{G:Nat->Nat}{w:Xs}:∀{xs:Q AV} {b o:Nat},RVc ρ G w xs b o->∀{i:Nat} {x:AV},xs[i]?=ZC x->∃v,w.cell? ⟨b,o+i,Z1⟩=ZC v/\RV ρ G w x v
 |[],b,o,h,i,x,d=>by simp at d
 |y::xs,b,o,h,i,x,d=>by
  simp only[RVc]at h;have⟨⟨v,hv,e⟩,g⟩:=h;cases i with
  |zero=>simp at d;subst d;exact⟨v,hv,e⟩
  |succ i=>simp at d;have:=y8 g d;rwa [show o+1+i=o+(i+1)from by omega]at this
def qo {ρ:Ren}{G:Nat->Nat}{w:Xs}:∀{xs:Q AV} {b o:Nat},(∀(i:Nat) (x:AV),xs[i]?=ZC x->∃v,w.cell? ⟨b,o+i,Z1⟩=ZC v/\RV ρ G w x v)->RVc ρ G w xs b o
 |[],_,_,_=>by simp only[RVc]
 |x::xs,b,o,h=>by
  simp only[RVc];exact⟨h 0 x W,qo λi y d=>by have:=h (i+1) y (by simpa using d);rwa [show o+(i+1)=o+1+i from by omega]at this⟩
def rD {ρ:Ren}{G:Nat->Nat}{w:Xs}{xs:Q AV}{b o:Nat}(n:Nat)(h:RVc ρ G w xs b o):RVc ρ G w (xs.drop n) b (o+n):=
 qo λi x d=>by
  rw[List.getElem?_drop]at d;have:=y8 h d
  rwa [show o+(n+i)=o+n+i from by omega]at this
def uK {ρ:Ren}{G:Nat->Nat}{w:Xs}{xs:Q AV}{b o:Nat}(n:Nat)(h:RVc ρ G w xs b o):RVc ρ G w (xs.take n) b o:=
 qo λi x d=>by
  rw[List.getElem?_take]at d;split at d
  ·exact y8 h d
  ·cases d
def Ye {ρ:Ren}{G:Nat->Nat}{w:Xs}{xs ys:Q AV}{b o:Nat}(h:RVc ρ G w xs b o)(e:RVc ρ G w ys b (o+xs.length)):RVc ρ G w (xs++ys) b o:=
 qo λi x d=>by
  rw[List.getElem?_append]at d;split at d
  ·exact y8 h d
  ·rename_i hi;have:=y8 e d
   rwa [show o+xs.length+(i-xs.length)=o+i from by omega]at this
def rE {ρ:Ren}{G:Nat->Nat}{w:Xs}{b o:Nat}{cs:Array XS}{e:XN}{d:Nat × Nat}(hb:w.heap[b]?=ZC (.cells cs e d)){xs:Q AV}
  (h:∀(i:Nat) (x:AV),xs[i]?=ZC x->∃v,cs[o+i]?=ZC v/\RV ρ G w x v):RVc ρ G w xs b o:=
 qo λi x g=>by
  have⟨v,hv,j⟩:=h i x g;exact⟨v,by simp[World.cell?,hb,hv],j⟩
def wG {ρ:Ren}{G:Nat->Nat}{w:Xs}{b o:Nat}{cs:Array XS}{e:XN}{d:Nat × Nat}(hb:w.heap[b]?=ZC (.cells cs e d)){xs:Q AV}
  (h:RVc ρ G w xs b o):∀{i:Nat} {x:AV},xs[i]?=ZC x->∃v,cs[o+i]?=ZC v/\RV ρ G w x v:=by
 intro i x g;have⟨v,hv,j⟩:=y8 h g;exact⟨v,by simpa [World.cell?,hb]using hv,j⟩
def jW(b o n:Nat):Addr.add ⟨b,o,Z1⟩ n=⟨b,o+n,Z1⟩:=Addr.add_lit b o n
def TB {P:XX}{w:Xs}{a:Addr}{v:XS}(h:w.cell? a=ZC v):(load a).run P w=.ok v w:=by simp[h]
def tN {P:Program}{ρ:Ren}{G:Nat->Nat}{w:World}{b o:Nat}:∀(xs:List AV) (i:Nat) (d:Array Value),RVc ρ G w xs b (o+i)->
  ∃l:List Value,(loadCellsFrom ⟨b,o,none⟩ i xs.length d).run P w=.ok (d++l.toArray) w/\RVs ρ G w xs l
 |[],i,d,_=>⟨[],by simp[loadCellsFrom],jD⟩
 |x::xs,i,d,h=>by
  simp only[RVc]at h;obtain⟨⟨v,hv,e⟩,g⟩:=h;obtain⟨l,j,k⟩:=tN (P:=P) xs (i+1) (d.push v) (by rw[<-Nat.add_assoc];exact g);refine⟨v::l,?_,jA e k⟩;simp only[List.length_cons,loadCellsFrom,Sem.run_bind,jW,TB hv,Result.andThen_ok];rw[j];simp
def mX {P:Program}{ρ:Ren}{G:Nat->Nat}{w:World}{b o:Nat}{xs:List AV}(h:RVc ρ G w xs b o):
  ∃l:List Value,(loadCells ⟨b,o,none⟩ xs.length).run P w=.ok l.toArray w/\RVs ρ G w xs l:=by
 obtain⟨l,d,e⟩:=tN (P:=P) xs 0 #[] (by simpa using h);exact⟨l,by simpa [loadCells]using d,e⟩
def EM {P:XX}{t:XN}{i:TypeInfo}(h:P.info? t=ZC i)(w:Xs):(typeInfo t).run P w=.ok i w:=by
 simp[typeInfo,h]
def fB {P:XX}{t:XN}{n:Nat}(h:szT P t=ZC n)(w:Xs):(sizeOf t).run P w=.ok n w:=by
 unfold szT at h;cases hi:P.info? t with
 |none=>simp[hi]at h
 |some i=>simp[hi]at h;subst h;simp[sizeOf,EM hi]
def PU {P:XX}{t:XN}{z:XS}(h:(if t<gW then(P.info? t).bind (·.zero)else Z1)=ZC z):t<gW:=by
 split at h
 ·assumption
 ·cases h
def uM {P:XX}{t:XN}{z:XS}(h:zZ P t=ZC z):t<gW:=PU h
def aee {P:XX}{t:XN}{z:XS}(h:zZ P t=ZC z):(P.info? t).bind (·.zero)=ZC z:=by
 have:=uM h;unfold zZ at h
 rwa [y this]at h
def gV {P:XX}{t:XN}{z:XS}(h:zZ P t=ZC z)(w:Xs):(zeroValue t).run P w=.ok z w:=by
 unfold zZ at h;rw[y (PU h)]at h;cases hi:P.info? t with
 |none=>simp[hi]at h
 |some i=>simp[hi]at h;simp[zeroValue,EM hi,h]
def Ad {P:XX}{t:XN}{b:Bool}(h:ami P t=ZC b)(w:Xs):(isAgg t).run P w=.ok b w:=by
 unfold ami at h;cases e:P.underlying t with
 |none=>simp[e]at h
 |some d=>cases d <;> simp[e]at h <;> subst h <;> simp[isAgg,zae e]
def GH {P:XX}{ρ:Ren}{G:Nat->Nat}{w:Xs}{b o:Nat}{cells:Q AV}(h:RVc ρ G w cells b o){t:XN}{off:Nat}{v:AV}(d:JF P t cells off=ZC v):
  ∃cv,(loadVar t ⟨b,o+off,Z1⟩).run P w=.ok cv w/\RV ρ G w v cv:=by
 unfold JF at d;cases ha:ami P t with
 |none=>simp[ha]at d
 |some k=>
  cases g:szT P t with
  |none=>simp[ha,g]at d
  |some n=>
   cases k with
   |true=>
    simp[ha,g]at d;obtain⟨m,rfl⟩:=d;have⟨l,j,i⟩:=mX (P:=P) (uK n (rD off h));refine⟨.agg l.toArray,?_,?_⟩
    ·have e:(List.take n (List.drop off cells)).length=n:=by simp;omega
     rw[e]at j;simp[loadVar,Ad ha,fB g,j]
    ·simp only[RV];exact⟨_,W,i⟩
   |false=>
    simp[ha,g]at d;have⟨cv,hc,i⟩:=y8 h d;exact⟨cv,by simp[loadVar,Ad ha,hc],i⟩
def jX(w:Xs)(b:Nat)(o:Obj):World:={ w with heap:=w.heap.setIfInBounds b o }
def updρ(ρ:Ren)(r:Nat)(x:Nat × Nat):Ren:=λy=>if y=r then ZC x else ρ y
def lW {w:Xs}{b:Nat}{o:Obj}(h:b<w.heap.size):(jX w b o).heap[b]?=ZC o:=by
 simp[jX,h]
def GI {w:Xs}{b d:Nat}{o:Obj}(h:d≠b):(jX w b o).heap[d]?=w.heap[d]?:=by
 simp[jX,Array.getElem?_setIfInBounds_ne (Ne.symm h)]
def MP(w:Xs)(b:Nat)(o d:Obj):jX (jX w b o) b d=jX w b d:=by
 simp[jX]
def TD {w:Xs}{b:Nat}{o:Obj}(h:w.heap[b]?=ZC o):jX w b o=w:=by
 have hb:b<w.heap.size:=by
  rcases Nat.lt_or_ge b w.heap.size with hb|hb
  ·exact hb
  ·simp[Array.getElem?_eq_none hb]at h
 have:w.heap.setIfInBounds b o=w.heap:=by
  apply Array.ext_getElem?
  intro i;by_cases hi:b=i
  ·subst hi;rw[Array.getElem?_eq_getElem hb]at h;simp only[Array.getElem?_setIfInBounds_self_of_lt hb,Array.getElem?_eq_getElem hb,h]
  ·simp[Array.getElem?_setIfInBounds_ne hi]
 simp[jX,this]
def nX {w:Xs}{b:Nat}{o:Obj}(h:w.heap[b]?=ZC o):b<w.heap.size:=by
 rcases Nat.lt_or_ge b w.heap.size with hb|hb
 ·exact hb
 ·simp[Array.getElem?_eq_none hb]at h
def Rel.lt {ρ:Ren}{H:ah}{w:Xs}(R:Rel ρ H w){r b sh:Nat}(h:ρ r=ZC (b,sh)):r<H.next:=by
 rcases Nat.lt_or_ge r H.next with d|d
 ·exact d
 ·rw[(R.out r d).1]at h;cases h
def Rel.block {ρ:Ren}{H:ah}{w:Xs}(R:Rel ρ H w){r b sh:Nat}(h:ρ r=ZC (b,sh)):b<w.heap.size:=by
 have:=R.obj r b sh h;unfold yP at this;split at this
 ·have⟨cs,e,hb,_⟩:=this;exact nX hb
 ·have⟨cs,e,hb,_⟩:=this;exact nX hb
def DT:Obj->M (XN × Nat)
 |.cells c e _=>ZC (e,c.size)
 |_=>Z1
def fE(w:Xs)(b:Nat):w.shape? b=(w.heap[b]?).bind DT:=by
 unfold World.shape? DT;cases w.heap[b]? with
 |none=>rfl
 |some o=>cases o <;> rfl
def uN(H:ah)(r x:Nat)(o:gG):(H.put r o).gen x=if x=r then o.gen else H.gen x:=by
 simp only[ah.gen,ah.put];split <;> rfl
def TF(H:ah)(x:Nat)(o:gG):(H.new o).gen x=if x=H.next then o.gen else H.gen x:=by
 simp only[ah.gen,ah.new];split <;> rfl
def ZJ {ρ:Ren}{H:ah}{w:Xs}{r b sh sh':Nat}{co co':Obj}{o:gG}(g:ρ r=ZC (b,sh))(hb:w.heap[b]?=ZC co)
  (m:DT co'=DT co) (n:H.gen r<=o.gen) (i:o.gen=H.gen r->sh'=sh):Ext ρ H w (updρ ρ r (b,sh')) (H.put r o) (jX w b co') where
 next:=Nat.le_refl _
 mono:=λx=>by rw[uN];split <;> simp_all
 same:=λx y k h=>by
  rw[uN]at h;unfold updρ
  split
  ·rename_i e;subst e;simp at h;rw[i h,<-g,k]
  ·exact k
 kept:=λx _ h=>by
  unfold updρ
  split
  ·rename_i e;subst e;rw[g]at h;cases h
  ·exact h
 range:=λx j s h=>by
  unfold updρ at h;split at h
  ·cases h;rename_i e;subst e;exact .inr ⟨_,g⟩
  ·exact .inr ⟨_,h⟩
 size:=by simp[jX]
 frame:=λj d hi=>GI λe=>hi r sh (e ▸ g)
 shape:=λj d=>by
  rw[fE,fE];by_cases e:j=b
  ·subst e;rw[lW d,hb];exact m
  ·rw[GI e]
 os:=rfl
 tape:=rfl
 output:=rfl
def yP.mono {ρ ρ':Ren}{G G':Nat->Nat}{w w':Xs}(M:agM ρ G w ρ' G' w'){o:gG}{b sh:Nat}(hb:w'.heap[b]?=w.heap[b]?)(h:yP ρ G w o b sh):yP ρ' G' w' o b sh:=by
 unfold yP at*;split at h
 ·have⟨cs,e,g,i,d⟩:=h;exact⟨cs,e,by rw[hb];exact g,i,RVc.mono M _ _ _ (λo v hv=>by rw[cell?_of_block hb];exact hv) d.1,d.2⟩
 ·have⟨cs,e,g,i,d⟩:=h;exact⟨cs,e,by rw[hb];exact g,i,RVm.mono M _ _ d.1,d.2⟩
def ZK {ρ:Ren}{H:ah}{w:Xs}(R:Rel ρ H w){r b sh sh':Nat}{co':Obj}{o:gG}(i:ρ r=ZC (b,sh))
  (E:Ext ρ H w (updρ ρ r (b,sh')) (H.put r o) (jX w b co'))
  (m:yP (updρ ρ r (b,sh')) (H.put r o).gen (jX w b co') o b sh'):Rel (updρ ρ r (b,sh')) (H.put r o) (jX w b co') where
 out:=λx k=>by
  have d:x≠r:=λe=>by have:=R.lt i;subst e;exact absurd k (by simpa [ah.put]using this)
  rw[uN,F d];unfold updρ;rw[F d];exact R.out x k
 obj:=λx j s h=>by
  unfold updρ at h;by_cases e:x=r
  ·subst e;simp at h;obtain⟨rfl,rfl⟩:=h
   simpa [ah.put]using m
  ·rw[F e]at h;have d:j≠b:=λn=>e (R.inj x r j s sh h (n ▸ i));have:(H.put r o).get x=H.get x:=by simp[ah.put,e]
   rw[this];exact yP.mono E.toMono (GI d) (R.obj x j s h)
 inj:=λx y j s p h g=>by
  unfold updρ at h g;split at h <;> split at g
  ·simp_all
  ·cases h;rename_i e _;subst e;exact(R.inj _ _ _ _ _ g i).symm
  ·cases g;rename_i _ e;subst e;exact R.inj _ _ _ _ _ h i
  ·exact R.inj _ _ _ _ _ h g
 gl:=R.gl.ext E
def MQ {ρ:Ren}{H:ah}{w:Xs}(R:Rel ρ H w){co:Obj}{o:gG}:Ext ρ H w (updρ ρ H.next (w.heap.size,0)) (H.new o) (w.alloc co) where
 next:=by simp[ah.new]
 mono:=λx=>by
  rw[TF];split
  ·rename_i e;subst e;rw[(R.out _ (Nat.le_refl _)).2];exact Nat.zero_le _
  ·exact Nat.le_refl _
 same:=λx y hx _=>by
  have hne:x≠H.next:=λe=>by subst e;rw[(R.out _ (Nat.le_refl _)).1]at hx;cases hx
  unfold updρ;rw[F hne];exact hx
 kept:=λx hx h=>by
  unfold updρ
  rw[F (by omega)];exact h
 range:=λx b' s h=>by
  unfold updρ at h;split at h
  ·cases h;exact .inl (Nat.le_refl _)
  ·exact .inr ⟨_,h⟩
 size:=by simp
 frame:=λb hb _=>by simp only[World.alloc,Array.getElem?_push,F (Nat.ne_of_lt hb)]
 shape:=λb hb=>by
  rw[fE,fE];simp only[World.alloc,Array.getElem?_push,F (Nat.ne_of_lt hb)]
 os:=rfl
 tape:=rfl
 output:=rfl
def ZL {ρ:Ren}{H:ah}{w:Xs}(R:Rel ρ H w){co:Obj}{o:gG}
  (ho:yP (updρ ρ H.next (w.heap.size,0)) (H.new o).gen (w.alloc co) o w.heap.size 0):Rel (updρ ρ H.next (w.heap.size,0)) (H.new o) (w.alloc co) where
 out:=λx hx=>by
  have hx1:H.next+1<=x:=hx
  have hne:x≠H.next:=V
  have hx':H.next<=x:=V
  rw[TF,F hne];unfold updρ;rw[F hne];exact R.out x hx'
 obj:=λx b' s h=>by
  unfold updρ at h;by_cases e:x=H.next
  ·subst e;simp at h;obtain⟨rfl,rfl⟩:=h
   simpa [ah.new]using ho
  ·rw[F e]at h;have:(H.new o).get x=H.get x:=by simp[ah.new,e]
   rw[this];have hb:=R.block h;exact yP.mono (MQ R (o:=o) (co:=co)).toMono (by simp only[World.alloc,Array.getElem?_push,F (Nat.ne_of_lt hb)]) (R.obj x b' s h)
 inj:=λx y b' s s' h h'=>by
  unfold updρ at h h';split at h <;> split at h'
  ·simp_all
  ·cases h;have:=R.block h';omega
  ·cases h';have:=R.block h;omega
  ·exact R.inj _ _ _ _ _ h h'
 gl:=R.gl.ext (MQ R (o:=o) (co:=co))
def kD(w:Xs)(o:Obj):(w.alloc o).heap[w.heap.size]?=ZC o:=by
 show(w.heap.push o)[w.heap.size]?=ZC o;simp
def ZM {ρ:Ren}{H:ah}{w:Xs}(R:Rel ρ H w){e ty:XN}{cells:Q AV}{cs:Array XS}(hl:cells.length<=cs.size)
  (hc:∀(i:Nat) (x:AV),cells[i]?=ZC x->∃v,cs[i]?=ZC v/\RV ρ H.gen w x v) (hX:Xct ty e 0 cs.size cells.length):
  Rel (updρ ρ H.next (w.heap.size,0)) (H.new (.blk 0 ty cells)) (w.alloc (.cells cs e))/\Ext ρ H w (updρ ρ H.next (w.heap.size,0)) (H.new (.blk 0 ty cells)) (w.alloc (.cells cs e)):=by
 have E:=MQ R (o:=.blk 0 ty cells) (co:=.cells cs e);refine⟨ZL R ⟨cs,e,kD w _,V,?_,hX⟩,E⟩;refine rE (kD w _) λi x hx=>?_;have⟨v,hv,h1⟩:=hc i x hx;exact⟨v,by simpa using hv,R.keep E h1⟩
def GL {ρ:Ren}{H:ah}{w:Xs}(R:Rel ρ H w){r b sh sh' g':Nat}{ty':XN}{cells':Q AV}{cs cs':Array XS}{e:XN}(d:ρ r=ZC (b,sh))
  (hb:w.heap[b]?=ZC (.cells cs e (0,0))) (h:cs'.size=cs.size) (j:H.gen r<=g') (g:g'=H.gen r->sh'=sh) (n:sh'+cells'.length<=cs.size)
  (hc:∀(i:Nat) (x:AV),cells'[i]?=ZC x->∃v,cs'[sh'+i]?=ZC v/\RV ρ H.gen w x v) (hX:Xct ty' e sh' cs'.size cells'.length):
  Rel (updρ ρ r (b,sh')) (H.put r (.blk g' ty' cells')) (jX w b (.cells cs' e (0,0)))/\Ext ρ H w (updρ ρ r (b,sh')) (H.put r (.blk g' ty' cells')) (jX w b (.cells cs' e (0,0))):=by
 have E:=ZJ (ρ:=ρ) (H:=H) (w:=w) (r:=r) (b:=b) (sh:=sh) (sh':=sh') (co:=.cells cs e (0,0)) (co':=.cells cs' e (0,0)) (o:=.blk g' ty' cells') d hb (by simp[DT,h]) j g;refine⟨ZK R d E ⟨cs',e,lW (R.block d),V,?_,hX⟩,E⟩;refine rE (lW (R.block d)) λi x k=>?_;have⟨v,hv,m⟩:=hc i x k;exact⟨v,hv,R.keep E m⟩
def MR {ρ:Ren}{H:ah}{w:World}(R:Rel ρ H w){r b:Nat}{k:IntKind}{es es':List (Int × AV)}{d ad7:Array MapEntry}{cl cl':Nat}(h:ρ r=some (b,0))(g:H.get r=.map k es)
  (hb:w.heap[b]?=some (.map d cl)) (hc:RVm ρ H.gen w k es' ad7.toList) (i:Born ad7.toList cl'):
  Rel ρ (H.put r (.map k es')) (jX w b (.map ad7 cl'))/\Ext ρ H w ρ (H.put r (.map k es')) (jX w b (.map ad7 cl')):=by
 have m:updρ ρ r (b,0)=ρ:=by
  funext x;unfold updρ;split
  ·rename_i e;subst e;exact h.symm
  ·rfl
 have j:H.gen r=0:=by simp[ah.gen,g,gG.gen]
 have E:=ZJ (ρ:=ρ) (H:=H) (w:=w) (r:=r) (b:=b) (sh:=0) (sh':=0) (co:=.map d cl) (co':=.map ad7 cl') (o:=.map k es') h hb rfl (by simp[j]) (λ_=>rfl);have:=ZK R h E ⟨ad7,cl',lW (R.block h),rfl,RVm.mono E.toMono _ _ hc,i⟩;rw[m]at this E;exact⟨this,E⟩
def lC(cs:Array XS)(o:Nat):Q XS->Array XS
 |[]=>cs
 |v::vs=>lC (cs.setIfInBounds o v) (o+1) vs
def eX:∀(vs:Q XS) (cs:Array XS) (o:Nat),(lC cs o vs).size=cs.size
 |[],_,_=>rfl
 |v::vs,cs,o=>by simp[lC,eX vs]
def lX:∀(vs:Q XS) (cs:Array XS) (o i:Nat),o+vs.length<=cs.size->(lC cs o vs)[i]?=if o<=i/\i<o+vs.length then vs[i-o]? else cs[i]?
 |[],cs,o,i,h=>by
  simp only[lC,List.length_nil,Nat.add_zero];rw[F V]
 |v::vs,cs,o,i,h=>by
  simp only[List.length_cons]at h;simp only[lC,List.length_cons];rw[lX vs _ (o+1) i (by simp;omega)];by_cases b:o=i
  ·subst b;rw[F V,y V];simp[show o<cs.size from by omega]
  ·by_cases d:o+1<=i/\i<o+1+vs.length
   ·rw[y d,y V,show i-o=(i-(o+1))+1 from by omega];rfl
   ·rw[F d,F V,Array.getElem?_setIfInBounds_ne b]
def GN {P:Program}{w:World}{b o:Nat}{cs:Array Value}{e:TypeId}{v:Value}(hb:w.heap[b]?=some (.cells cs e (0,0)))(g:o<cs.size)(hv:v.oneCell'=true):
  (store ⟨b,o,none⟩ v).run P w=.ok () (jX w b (.cells (cs.setIfInBounds o v) e (0,0))):=by
 have hc:w.cell? ⟨b,o,none⟩=some cs[o]:=by simp[World.cell?,hb,g]
 have h:w.frozen? ⟨b,o,none⟩=false:=by simp[World.frozen?,hb]
 rw[run_store P w _ v _ hv,hc];simp only[h,if_false,Bool.false_eq_true];have d:=nX hb;have:w.setCell ⟨b,o,none⟩ v=jX w b (.cells (cs.setIfInBounds o v) e (0,0)):=by
  simp only[World.setCell,jX]
  congr 1
  apply Array.ext_getElem?
  intro i;rw[Array.getElem?_modify];by_cases hi:b=i
  ·subst hi;rw[hb];simp[d]
  ·simp[hi,Array.getElem?_setIfInBounds_ne hi]
 rw[this]
def kE {P:XX}{b o:Nat}{e:XN}:∀(vs:Q XS) (w:Xs) (cs:Array XS) (i:Nat),w.heap[b]?=ZC (.cells cs e (0,0))->o+i+vs.length<=cs.size->(∀v∈vs,v.oneCell'=Z0)->
  (storeCells ⟨b,o,Z1⟩ vs i).run P w=.ok () (jX w b (.cells (lC cs (o+i) vs) e (0,0)))
 |[],w,cs,i,hb,_,_=>by simp[storeCells,lC,TD hb]
 |v::vs,w,cs,i,hb,d,hv=>by
  simp only[List.length_cons]at d;simp only[storeCells,zak,jW,GN hb (show o+i<cs.size by omega) (hv v O),zai];rw[kE vs _ (cs.setIfInBounds (o+i) v) (i+1) (lW (nX hb)) (by simp;omega) (λu g=>hv u (by simp[g])),MP];rfl
def Yf {ρ:Ren}{G:Nat->Nat}{w:Xs}{x:AV}{v:XS}(e:x.aU=Z0)(h:RV ρ G w x v):v.oneCell'=true:=by
 cases x with
 |s u=>
  simp only[RV]at h;subst h;cases v <;> simp_all[AV.aU,Value.oneCell']
 |ref r g off=>simp only[RV]at h;obtain⟨a,rfl,_⟩:=h;rfl
 |sl r g off d len i ex=>simp only[RV]at h;obtain⟨b,o,c,rfl,_⟩:=h;rfl
 |ip cells=>simp only[RV]at h;obtain⟨b,o,rfl,_⟩:=h;rfl
 |vs n d cells=>simp only[RV]at h;obtain⟨b,o,c,rfl,_⟩:=h;rfl
 |mp r=>simp only[RV]at h;obtain⟨b,rfl,_⟩:=h;rfl
 |fn f a c=>simp only[RV]at h;obtain⟨a,c,rfl,_⟩:=h;rfl
 |agg l=>simp[AV.aU]at e
 |tup l=>simp[AV.aU]at e
def qF {ρ:Ren}{G:Nat->Nat}{w:Xs}{xs:Q AV}{l:Q XS}(e:xs.all AV.aU=Z0)(h:RVs ρ G w xs l):∀v∈l,v.oneCell'=true:=by
 intro v hv;obtain⟨i,hi,rfl⟩:=List.getElem_of_mem hv;have j:=dO h;have b:xs[i]?=ZC (xs[i]' V):=List.getElem?_eq_getElem _;have⟨u,d,g⟩:=jP h b;rw[List.getElem?_eq_getElem hi]at d;cases d;exact Yf (List.all_eq_true.1 e _ (List.getElem_mem _)) g
def MS {ρ:Ren}{G:Nat->Nat}{w:Xs}{x:AV}{v:XS}(h:RV ρ G w x v):RVs ρ G w x.cells v.cells.toList:=by
 cases x with
 |s u=>simp only[RV]at h;subst h;exact iC _
 |agg l=>simp only[RV]at h;obtain⟨cs,rfl,i⟩:=h;exact i
 |ref r g off=>
  have d:=h;simp only[RV]at h;obtain⟨a,rfl,_⟩:=h;exact jA d jD
 |sl r g off e len j ex=>have d:=h;simp only[RV]at h;obtain⟨b,o,c,rfl,_⟩:=h;exact jA d jD
 |ip cells=>have d:=h;simp only[RV]at h;obtain⟨b,o,rfl,_⟩:=h;exact jA d jD
 |vs n e cells=>have d:=h;simp only[RV]at h;obtain⟨b,o,c,rfl,_⟩:=h;exact jA d jD
 |mp r=>have d:=h;simp only[RV]at h;obtain⟨b,rfl,_⟩:=h;exact jA d jD
 |fn f a c=>have d:=h;simp only[RV]at h;obtain⟨a,c,rfl,_⟩:=h;exact jA d jD
 |tup l=>have d:=h;simp only[RV]at h;obtain⟨cs,rfl,_⟩:=h;exact jA d jD
def wH(cells:List AV)(off:Nat)(xs:List AV)(h:off+xs.length<=cells.length)(i:Nat):(aI cells off xs)[i]?=if off<=i/\i<off+xs.length then xs[i-off]? else cells[i]?:=by
 unfold aI;rw[List.getElem?_append];simp only[List.length_take];rw[Nat.min_eq_left V];by_cases b:i<off
 ·rw[if_pos b,if_neg V,List.getElem?_take,if_pos b]
 ·rw[if_neg b,List.getElem?_append];by_cases d:i-off<xs.length
  ·rw[if_pos d,if_pos V]
  ·rw[if_neg d,if_neg V,List.getElem?_drop]
   congr 1;omega
def jg(cells:Q AV)(off:Nat)(xs:Q AV)(h:off+xs.length<=cells.length):(aI cells off xs).length=cells.length:=by
 simp[aI];omega
def Ok(P:XX)(ρ:Ren)(H:ah)(w:Xs)(s:Sem XS)(v:AV)(H':ah):Prop:=
 ∃cv ρ' w',s.run P w=.ok cv w'/\Rel ρ' H' w'/\RV ρ' H'.gen w' v cv/\Ext ρ H w ρ' H' w'
def OkP(P:XX)(ρ:Ren)(G:Nat->Nat)(w:Xs)(s:Sem XS)(v:AV):Prop:=∃cv,s.run P w=.ok cv w/\RV ρ G w v cv
def OkP.ok {P:XX}{ρ:Ren}{H:ah}{w:Xs}{s:Sem XS}{v:AV}(h:OkP P ρ H.gen w s v)(R:Rel ρ H w):Ok P ρ H w s v H:=
 let⟨cv,h1,h2⟩:=h;⟨cv,ρ,w,h1,R,h2,Ext.refl _ _ _⟩
def lY {α:Type}{P:XX}{s:Sem α}{a:α}(h:je P s=ZC a)(w:Xs):s.run P w=.ok a w:=by
 induction s with
 |pure b=>simp[je]at h;subst h;rfl
 |program k d=>exact d P h
 |_=>simp[je]at h
mutual
def JZ {ρ:Ren}{G:Nat->Nat}{w:Xs}:∀(x:AV) (v u:XS),RV ρ G w x v->x.val?=ZC u->v=u
 |.s _,v,u,h,b=>by simp only[RV]at h;simp only[AV.val?,Option.some.injEq]at b;rw[h,b]
 |.agg l,v,u,h,b=>by
  obtain⟨cs,rfl,d⟩:=(by simpa only[RV]using h)
  simp only[AV.val?]at b;cases hv:vals? l with
  |none=>simp[hv]at b
  |some vs=>simp[hv]at b;subst b;rw[<-MV l _ _ d hv]
 |.tup l,v,u,h,b=>by
  obtain⟨cs,rfl,d⟩:=(by simpa only[RV]using h)
  simp only[AV.val?]at b;cases hv:vals? l with
  |none=>simp[hv]at b
  |some vs=>simp[hv]at b;subst b;rw[<-MV l _ _ d hv]
 |.ref ..,_,_,_,b=>by simp[AV.val?]at b
 |.sl ..,_,_,_,b=>by simp[AV.val?]at b
 |.ip ..,_,_,_,b=>by simp[AV.val?]at b
 |.vs ..,_,_,_,b=>by simp[AV.val?]at b
 |.mp ..,_,_,_,b=>by simp[AV.val?]at b
 |.fn ..,_,_,_,b=>by simp[AV.val?]at b
def MV {ρ:Ren}{G:Nat->Nat}{w:Xs}:∀(xs:Q AV) (l e:Q XS),RVs ρ G w xs l->vals? xs=ZC e->l=e
 |[],l,e,h,b=>by simp only[RVs]at h;simp only[vals?,Option.some.injEq]at b;rw[h,b]
 |x::xs,l,e,h,b=>by
  obtain⟨y,i,rfl,j,k⟩:=(by simpa only[RVs]using h)
  simp only[vals?]at b;cases g:x.val? with
  |none=>simp[g]at b
  |some v=>
   cases d:vals? xs with
   |none=>simp[g,d]at b
   |some vs=>simp[g,d]at b;subst b;rw[JZ x y v j g,MV xs i vs k d]
end
section
variable {P:Program}{ρ:Ren}{H H':ah}{w:World}{v:AV}
def uO {f:M gG->M AV}{x:AV}(h:kV f x H=ZC (v,H')):f ((bT x).map H.get)=ZC v/\H'=H:=by
 unfold kV at h;cases b:f ((bT x).map H.get)with
 |none=>rw[b]at h;cases h
 |some u=>rw[b]at h;simp only[Option.map_some,Option.some.injEq,zaa]at h;exact⟨by rw[h.1],h.2.symm⟩
def ZN(R:Rel ρ H w){t:XN}{x:AV}{p:XS}(d:RV ρ H.gen w x p)(h:Tz P t x H=ZC (v,H')):H'=H/\OkP P ρ H.gen w (Instr.loadAt t p) v:=by
 have⟨q,y⟩:=uO h
 clear h
 subst y;have h:=q
 clear q
 refine⟨W,?_⟩;unfold ajH at h;cases x with
 |ref r g off=>
  simp only[bT,Option.map_some]at h;cases i:H'.get r with
  |map k D=>simp[i]at h
  |blk g' E cells=>
   simp only[i]at h;by_cases m:g'=g
   ·rw[YY m]at h;simp only[RV]at d;obtain⟨a,rfl,_,z⟩:=d;obtain⟨b,A,C,rfl⟩:=z (by simp[ah.gen,i,gG.gen,m]);have u:=R.obj r b A C;simp only[yP,i]at u;have⟨cs,e,_,_,hc,_⟩:=u;have⟨cv,j,n⟩:=GH (P:=P) hc h;exact⟨cv,by simp[Instr.loadAt,Instr.sureAddr,j],n⟩
   ·rw[F m]at h;cases h
 |ip cells=>
  simp only at h;simp only[RV]at d;obtain⟨b,o,rfl,_,_,hc⟩:=d;have⟨cv,j,n⟩:=GH (P:=P) hc h;exact⟨cv,by simp[Instr.loadAt,Instr.sureAddr]at j ⊢;simp[j],n⟩
 |_=>simp at h
def bP {α:Type}(a:Array α):a.toList.length=a.size:=rfl
def aef(R:Rel ρ H w){t:XN}{x y:AV}{E cy:XS}(F:RV ρ H.gen w x E)(M:RV ρ H.gen w y cy)(h:PN P t x y H=ZC (v,H')):
  v=aX/\∃ρ' w',(Instr.storeAt t E cy).run P w=.ok () w'/\Rel ρ' H' w'/\Ext ρ H w ρ' H' w':=by
 unfold PN at h;cases x with
 |ref r g off=>
  simp only at h;cases z:H.get r with
  |map k es=>simp[z]at h
  |blk g' Q cells=>
   simp only[z]at h;split at h
   ·rename_i hc;obtain⟨rfl,_,T,m,n⟩:=hc;simp only[Option.some.injEq,zaa]at h;obtain⟨rfl,rfl⟩:=h;simp only[RV]at F;obtain⟨a,rfl,_,W⟩:=F;obtain⟨b,q,G,rfl⟩:=W (by simp[ah.gen,z,gG.gen]);have K:=R.obj r b q G;simp only[yP,z]at K;have⟨cs,e,hb,X,D,hX⟩:=K;have p:=MS M;have d:=dO p;rw[bP]at d;have A:=kE (P:=P) (o:=q+off) cy.cells.toList w cs 0 hb (by rw[bP];omega) (qF m p);have L:H.gen r=g':=by simp[ah.gen,z,gG.gen]
    have j:=GL (ty':=Q) (cells':=aI cells off y.cells) (cs':=lC cs (q+off) cy.cells.toList) (g':=g') (sh':=q) R G hb (eX _ _ _) V (λ_=>rfl)
     (by rw[jg _ _ _ n];exact X) (by
      intro i u C;rw[wH _ _ _ n]at C;rw[lX _ _ _ _ (by rw[bP];omega),bP];by_cases hi:off<=i/\i<off+y.cells.length
      ·rw[YY hi]at C;rw[YY V,show q+i-(q+off)=i-off from by omega];exact jP p C
      ·rw[Ys hi]at C;rw[Ys V];exact wG hb D C) (by rw[eX,jg _ _ _ n];exact hX)
    refine⟨Z3,_,_,?_,j.1,j.2⟩;simp only[Instr.storeAt,Instr.sureAddr,storeVar,zak,zao,zai,fB T,d,ne_eq,not_true,zaf]
    simpa using A
   ·cases h
 |_=>simp at h
def PV(R:Rel ρ H w)(t:XN)(d:t<gW){cells:Q AV}{cv:XS}(hc:RVs ρ H.gen w cells cv.cells.toList):
  Ok P ρ H w (do pure (.pointer (ZC (<-newVar t cv)))) (.ref H.next 0 0) (H.new (.blk 0 t cells)):=by
 have b:=ZM (e:=t) (ty:=t) (cells:=cells) (cs:=cv.cells) R (by rw[<-bP,dO hc];exact Nat.le_refl _) (λi x g=>by
  have⟨u,h,j⟩:=jP hc g;exact⟨u,by simpa using h,j⟩) (Xct.low d (by have:=dO hc;rw[bP]at this;omega))
 refine⟨.pointer (ZC ⟨w.heap.size,0,Z1⟩),_,_,?_,b.1,?_,b.2⟩
 ·simp[newVar,newRow]
 ·simp only[RV];exact⟨_,W,V,λ_=>⟨w.heap.size,0,by simp[updρ],O⟩⟩
def aml(R:Rel ρ H w){t:XN}{x:AV}{b:XS}(d:RV ρ H.gen w x b)(h:fK t x H=ZC (v,H')):Ok P ρ H w (Instr.box t b) v H':=by
 unfold fK at h;split at h
 ·rename_i e;simp only[Option.some.injEq,zaa]at h;obtain⟨rfl,rfl⟩:=h;exact PV R t e.2 (MS d)
 ·cases h
def aeg(R:Rel ρ H w){t:XN}(h:JW P t H=ZC (v,H')):Ok P ρ H w (Instr.alloc t Z0 (.tuple #[])) v H':=by
 unfold JW yG at h;cases b:zZ P t with
 |none=>simp[b]at h
 |some z=>
  simp only[b,Option.map_some]at h;split at h
  ·simp only[Option.some.injEq,zaa]at h;obtain⟨rfl,rfl⟩:=h;have⟨cv,ρ',w',d,e,g,i⟩:=PV (P:=P) R t (uM b) (cells:=z.cells.toList.map .s) (cv:=z) (iC _);exact⟨cv,ρ',w',by simpa [Instr.alloc,gV b]using d,e,g,i⟩
  ·cases h
def JG {f:Field}{n:Nat}{a:Addr}(h:szT P f.type=ZC (n+1)):(fieldPlace a f).run P w=.ok (a.add f.offset) w:=by
 simp[fieldPlace,fB h]
def PW {t:XN}{i:Nat}{x:AV}{y:XS}(j:RV ρ H.gen w x y)(h:tC P t x i=ZC v):OkP P ρ H.gen w (Instr.fieldAt t y i) v:=by
 unfold tC VD at h;cases k:P.underlying t with
 |none=>simp[k]at h
 |some d=>
  cases d with
  |struct z=>
   simp only[k]at h;cases p:z[i]? with
   |none=>simp[p]at h
   |some f=>
    simp only[p]at h;cases m:szT P f.type with
    |none=>simp[m]at h
    |some n=>
     cases n with
     |zero=>simp[m]at h
     |succ n=>
      simp only[m]at h;have e:∀a,(Instr.fieldAt t (.pointer (ZC a)) i).run P w=.ok (.pointer (ZC (a.add f.offset))) w:=λa=>by
       simp[Instr.fieldAt,zae k,p,Instr.sureAddr,JG m]
      cases x with
      |ref r g off=>
       simp only[Option.some.injEq]at h;subst h;simp only[RV]at j;obtain⟨a,rfl,q,u⟩:=j;refine⟨_,e a,?_⟩;simp only[RV];refine⟨_,W,q,λA=>?_⟩;obtain⟨b,C,D,rfl⟩:=u A;exact⟨b,C,D,by rw[jW,Nat.add_assoc]⟩
      |ip cells=>
       simp only[Option.some.injEq]at h;subst h;simp only[RV]at j;obtain⟨b,o,rfl,q,u,E⟩:=j;refine⟨_,e _,?_⟩;simp only[RV];exact⟨b,o+f.offset,by rw[jW],q,u,rD _ E⟩
      |_=>simp at h
  |_=>simp[k]at h
def PX(_R:Rel ρ H w){t:XN}{x i:AV}{M Q:XS}(d:RV ρ H.gen w x M)(hi:RV ρ H.gen w i Q)(h:Cm P t x i H=ZC (v,H')):
  H'=H/\OkP P ρ H.gen w (Instr.indexAt t M Q) v:=by
 have⟨R,T⟩:=uO h
 clear h
 subst T;have h:=R
 clear R
 refine⟨Z3,?_⟩;unfold JX at h;split at h
 ·rename_i e y;split at h
  ·rename_i r g off j len W ex;split at h <;> try(cases h;done)
   rename_i k n;split at h <;> try(cases h;done)
   rename_i hc;have⟨u,D,p,q⟩:=hc;simp only[Option.some.injEq]at h;subst h;simp only[RV]at hi d;subst hi;obtain⟨b,o,c,rfl,z,A,C,E,F⟩:=d;have⟨G,ty,m,K,X,aa,ab⟩:=F D;have L:=X V;refine⟨.pointer (ZC ⟨b,o+n.toNat*j,Z1⟩),?_,?_⟩
   ·simp[Instr.indexAt,asIntOf,zae y,fB u,jW,p,q]
   ·simp only[RV];exact⟨_,Z3,E,λ_=>⟨b,G,K,by rw[L,Nat.add_assoc]⟩⟩
  ·rename_i len j cells;split at h <;> try(cases h;done)
   rename_i k n;split at h <;> try(cases h;done)
   rename_i hc;have⟨u,p,q⟩:=hc;simp only[Option.some.injEq]at h;subst h;simp only[RV]at hi d;subst hi;obtain⟨b,o,c,rfl,z,A,C,E,F⟩:=d;refine⟨.pointer (ZC ⟨b,o+n.toNat*j,Z1⟩),?_,?_⟩
   ·simp[Instr.indexAt,asIntOf,zae y,fB u,jW,p,q]
   ·simp only[RV];exact⟨b,_,Z3,C,E,rD _ F⟩
  ·cases h
 ·rename_i len e y;split at h <;> try(cases h;done)
  rename_i m u;split at h
  ·rename_i r g off;split at h <;> try(cases h;done)
   rename_i k n;split at h <;> try(cases h;done)
   rename_i hc;have⟨p,q⟩:=hc;simp only[Option.some.injEq]at h;subst h;simp only[RV]at hi d;subst hi;obtain⟨a,rfl,z,A⟩:=d;refine⟨.pointer (ZC (a.add (n.toNat*m))),?_,?_⟩
   ·simp[Instr.indexAt,asIntOf,zae y,fB u,p,q,Instr.sureAddr]
   ·simp only[RV];refine⟨_,Z3,z,λD=>?_⟩;obtain⟨b,G,K,rfl⟩:=A D;exact⟨b,G,K,by rw[jW,Nat.add_assoc]⟩
  ·rename_i cells;split at h <;> try(cases h;done)
   rename_i k n;split at h <;> try(cases h;done)
   rename_i hc;have⟨p,q⟩:=hc;simp only[Option.some.injEq]at h;subst h;simp only[RV]at hi d;subst hi;obtain⟨b,o,rfl,z,A,C⟩:=d;refine⟨.pointer (ZC ⟨b,o+n.toNat*m,Z1⟩),?_,?_⟩
   ·simp[Instr.indexAt,asIntOf,zae y,fB u,p,q,Instr.sureAddr,jW]
   ·simp only[RV];exact⟨b,_,Z3,z,A,rD _ C⟩
  ·cases h
 ·cases h
end
section
variable {P:Program}{ρ:Ren}{G:Nat->Nat}{w:World}{v:AV}
def EN {t:XN}{cells:Q AV}{cs:Array XS}{off:Nat}(hc:RVs ρ G w cells cs.toList)(h:JF P t cells off=ZC v):OkP P ρ G w (part t cs off) v:=by
 unfold JF at h;cases ha:ami P t with
 |none=>simp[ha]at h
 |some k=>
  cases b:szT P t with
  |none=>simp[ha,b]at h
  |some n=>
   cases k with
   |true=>
    simp[ha,b]at h;obtain⟨e,rfl⟩:=h;refine⟨.agg (cs.extract off (off+n)),by simp[part,Ad ha,fB b],?_⟩;simp only[RV];refine⟨_,W,?_⟩;have:=aec n (aed off hc);rw[Array.toList_extract]
    simpa [List.extract]using this
   |false=>
    simp[ha,b]at h;have⟨cv,d,g⟩:=jP hc h;refine⟨cv,?_,g⟩;have:cs[off]?=ZC cv:=by simpa using d
    simp[part,Ad ha,this]
def aeh {t:XN}{i:Nat}{x:AV}{o:XS}(e:RV ρ G w x o)(h:PI P t x i=ZC v):OkP P ρ G w (Instr.field t o i) v:=by
 unfold PI VD at h;cases b:P.underlying t with
 |none=>simp[b]at h
 |some d=>
  cases d with
  |struct p=>
   simp only[b]at h;cases j:p[i]? with
   |none=>simp[j]at h
   |some f=>
    simp only[j]at h;split at h
    ·rename_i g cells k;cases k;simp only[RV]at e;obtain⟨cs,rfl,q⟩:=e;have⟨cv,m,n⟩:=EN (P:=P) q h;exact⟨cv,by simp[Instr.field,zae b,j,asAgg,m],n⟩
    ·rename_i g cs k;cases k;simp only[RV]at e;subst e;have⟨cv,m,n⟩:=EN (P:=P) (iC (ρ:=ρ) (G:=G) (w:=w) cs.toList) h;exact⟨cv,by simp[Instr.field,zae b,j,asAgg,m],n⟩
    ·cases h
  |_=>simp[b]at h
def aei {t:XN}{x i:AV}{q u:XS}(g:RV ρ G w x q)(hi:RV ρ G w i u)(h:PK P t x i=ZC v):OkP P ρ G w (Instr.index t q u) v:=by
 unfold PK at h;split at h
 ·rename_i s k n j;simp only[RV]at g hi;subst g hi;split at h
  ·rename_i b hb;simp only[Option.some.injEq]at h;subst h;exact⟨.int .u8 b.toNat,by simp[Instr.index,asIntOf,zae j,hb],by simp only[RV]⟩
  ·cases h
 ·rename_i len e cells k n j;simp only[RV]at g hi;subst hi;obtain⟨cs,rfl,y⟩:=g;cases d:szT P e with
  |none=>simp[d]at h
  |some m=>
   simp only[d]at h;split at h
   ·rename_i hc;have⟨cv,o,p⟩:=EN (P:=P) y h;exact⟨cv,by simp[Instr.index,asIntOf,zae j,fB d,hc,o],p⟩
   ·cases h
 ·rename_i len e cs k n j;simp only[RV]at g hi;subst g hi;cases d:szT P e with
  |none=>simp[d]at h
  |some m=>
   simp only[d]at h;split at h
   ·rename_i hc;have⟨cv,o,p⟩:=EN (P:=P) (iC (ρ:=ρ) (G:=G) (w:=w) cs.toList) h;exact⟨cv,by simp[Instr.index,asIntOf,zae j,fB d,hc,o],p⟩
   ·cases h
 ·cases h
def Yg {x:AV}{i:Nat}{e:XS}(b:RV ρ G w x e)(h:aG x i=ZC v):OkP P ρ G w (Instr.extract e i) v:=by
 unfold aG at h;split at h
 ·rename_i l;simp only[RV]at b;obtain⟨cs,rfl,g⟩:=b;have⟨cv,d,j⟩:=jP g h;have:cs[i]?=ZC cv:=by simpa using d
  exact⟨cv,by simp[Instr.extract,this],j⟩
 ·rename_i vs;simp only[RV]at b;subst b;cases hv:vs[i]? with
  |none=>simp[hv]at h
  |some u=>simp[hv]at h;subst h;exact⟨u,by simp[Instr.extract,hv],by simp only[RV]⟩
 ·cases h
def ajJ {c a b:AV}{e ca d:XS}(hc:RV ρ G w c e)(ha:RV ρ G w a ca)(hb:RV ρ G w b d)(h:bQ c a b=ZC v):
  OkP P ρ G w (do pure (if<-asBool e then ca else d)) v:=by
 unfold bQ at h;split at h
 ·simp only[RV]at hc;subst hc;simp only[Option.some.injEq]at h;subst h;exact⟨ca,by simp[asBool],ha⟩
 ·simp only[RV]at hc;subst hc;simp only[Option.some.injEq]at h;subst h;exact⟨d,by simp[asBool],hb⟩
 ·cases h
def ar8 {op:UnOp}{x:AV}{b:XS}(e:RV ρ G w x b)(h:unA P op x=ZC v):OkP P ρ G w (Op.unary op b) v:=by
 unfold unA at h;cases hv:x.val? with
 |none=>simp[hv]at h
 |some a=>
  simp only[hv]at h;rw[JZ x b a e hv];cases d:je P (Op.unary op a)with
  |none=>simp[d]at h
  |some u=>simp[d]at h;subst h;exact⟨u,lY d w,by simp only[RV]⟩
def lN {t:XN}{e cy:XS}{b:Bool}(h:∀d,(Op.equalIn (d+1) t e cy).run P w=.ok b w):(Op.equal t e cy).run P w=.ok b w:=h 9999
def VH {t:XN}{x y:AV}{cx cy:XS}{b:Bool}(hx:RV ρ G w x cx)(hy:RV ρ G w y cy)(h:PG P t x y=ZC b):
  (Op.equal t cx cy).run P w=.ok b w/\(∀op u z,eqGuard op t u z cx cy=pure ())/\(binOp .eql t cx cy=(do pure (.bool (<-Op.equal t cx cy))))/\(binOp .neq t cx cy=(do pure (.bool (!(<-Op.equal t cx cy))))):=by
 unfold PG at h;cases hu:P.underlying t with
 | none=> simp [hu] at h
 | some d=>
  cases d with
  | slice e=>
   simp only [hu] at h;split at h <;> first
    | (cases h;done)
    | (simp only [Option.some.injEq] at h;subst h
       simp only [RV] at hx hy
       first
          | (obtain⟨_,_,_,rfl,_⟩:=hx;subst hy;exact⟨lN λd=> by simp [Op.equalIn,zae hu],λop _ _=> by cases op <;> rfl,W,W⟩)
          | (obtain⟨_,_,_,rfl,_⟩:=hy;subst hx;exact⟨lN λd=> by simp [Op.equalIn,zae hu],λop _ _=> by cases op <;> rfl,W,W⟩))
  | pointer e=>
   simp only [hu] at h;split at h <;> first
    | (cases h;done)
    | (simp only [Option.some.injEq] at h;subst h
       simp only [RV] at hx hy
       first
          | (obtain⟨_,rfl,_⟩:=hx;subst hy;exact⟨lN λd=> by simp [Op.equalIn,zae hu],λop _ _=> by cases op <;> rfl,W,W⟩)
          | (obtain⟨_,rfl,_⟩:=hy;subst hx;exact⟨lN λd=> by simp [Op.equalIn,zae hu],λop _ _=> by cases op <;> rfl,W,W⟩)
          | (obtain⟨_,_,rfl,_⟩:=hx;subst hy;exact⟨lN λd=> by simp [Op.equalIn,zae hu],λop _ _=> by cases op <;> rfl,W,W⟩)
          | (obtain⟨_,_,rfl,_⟩:=hy;subst hx;exact⟨lN λd=> by simp [Op.equalIn,zae hu],λop _ _=> by cases op <;> rfl,W,W⟩))
  | map k e=>
   simp only [hu] at h;split at h <;> first
    | (cases h;done)
    | (simp only [Option.some.injEq] at h;subst h
       simp only [RV] at hx hy
       first
          | (obtain⟨_,rfl,_⟩:=hx;subst hy;exact⟨lN λd=> by simp [Op.equalIn,zae hu],λop _ _=> by cases op <;> rfl,W,W⟩)
          | (obtain⟨_,rfl,_⟩:=hy;subst hx;exact⟨lN λd=> by simp [Op.equalIn,zae hu],λop _ _=> by cases op <;> rfl,W,W⟩))
  | func ps rs vd=>
   simp only [hu] at h;split at h <;> first
    | (cases h;done)
    | (simp only [Option.some.injEq] at h;subst h
       simp only [RV] at hx hy
       first
          | (obtain⟨_,_,rfl,_⟩:=hx;subst hy;exact⟨lN λd=> by simp [Op.equalIn,zae hu],λop _ _=> by cases op <;> rfl,W,W⟩)
          | (obtain⟨_,_,rfl,_⟩:=hy;subst hx;exact⟨lN λd=> by simp [Op.equalIn,zae hu],λop _ _=> by cases op <;> rfl,W,W⟩))
  | _=> simp [hu] at h
def TG {op:BinOp}{t:XN}{a b:XS}{x y:Operand}(h:(eqGuard op t (.tmp 0) (.tmp 0) a b).run P w=.ok () w):(eqGuard op t x y a b).run P w=.ok () w:=by
 cases op <;> first
  |rfl
  |(cases a <;> first
    |rfl
    |(cases b <;> first
      |rfl
      |exact h
      |(cases x <;> cases y <;> first|rfl|exact h)))
def PY {z:Operand}(h:VE z=Z0):z=.const .nilIface:=by
 unfold VE at h;split at h
 ·rfl
 ·cases h
def TJ {op:BinOp}{t:XN}{a:XS}{x:Operand}:eqGuard op t x (.const .nilIface) a .nilIface=eqGuard op t (.tmp 0) (.const .nilIface) a .nilIface:=by
 cases op <;> first
  |rfl
  |(cases a <;> first
    |rfl
    |(cases x <;> rfl))
def amm {op:BinOp}{t:XN}{x y:AV}{o cy:XS}{u z:Operand}(q:RV ρ G w x o)(A:RV ρ G w y cy)(h:qj P op t x y=ZC v):
  OkP P ρ G w (do eqGuard op t u z o cy;binOp op t o cy) v:=by
 unfold qj at h;split at h
 ·rename_i a b ha hb;rw[JZ x o a q ha,JZ y cy b A hb];cases p:je P (do eqGuard op t (.tmp 0) (.tmp 0) a b;binOp op t a b)with
  |none=>simp[p]at h
  |some r=>
   simp[p]at h;subst h;have i:=lY p w;rw[zak]at i;cases E:(eqGuard op t (.tmp 0) (.tmp 0) a b).run P w with
   |halt e w'=>rw[E]at i;cases i
   |ok c w'=>
    have j:∀w,(eqGuard op t (.tmp 0) (.tmp 0) a b).run P w=.ok c w:=by
     have C:∀{α β:Type} (s:Sem α) (f:α->Sem β) (r:β),je P (s.bind f)=ZC r->∃a,je P s=ZC a:=by
      intro α β s f r
      induction s with
      |pure a=>intro _;exact⟨a,W⟩
      |program k K=>intro h;exact K P h
      |_=>intro h;simp[Sem.bind,je]at h
     have⟨c',m⟩:=C _ _ _ p;intro w0;have n:=lY m w0;have g:=lY m w;rw[E]at g;cases g;exact n
    have D:=TG (x:=u) (y:=z) (by simpa using j w);refine⟨r,?_,by simp only[RV]⟩;rw[zak,D];rw[j w]at i;exact i
 ·split at h
  ·cases d:PG P t x y with
   |none=>simp[d]at h
   |some b=>
    simp[d]at h;subst h;have⟨n,g,F,H⟩:=VH q A d;exact⟨.bool b,by rw[g,F];simp[n],by simp only[RV]⟩
  ·cases d:PG P t x y with
   |none=>simp[d]at h
   |some b=>
    simp[d]at h;subst h;have⟨n,g,F,H⟩:=VH q A d;exact⟨.bool !b,by rw[g,H];simp[n],by simp only[RV]⟩
  ·cases h
def ajK {op:BinOp}{t:XN}{x y:AV}{b cy:XS}{u z:Operand}(g:RV ρ G w x b)(j:RV ρ G w y cy)(k:VE z=Z0->cy=.nilIface)(h:amj P op t z x y=ZC v):
  OkP P ρ G w (do eqGuard op t u z b cy;binOp op t b cy) v:=by
 unfold amj at h;split at h
 ·rename_i i;have e:=k i;have m:=PY i;subst e m;unfold auF at h;split at h
  ·rename_i a ha;rw[JZ x b a g ha,TJ];cases d:je P (do eqGuard op t (.tmp 0) (.const .nilIface) a .nilIface;binOp op t a .nilIface)with
   |none=>simp[d]at h
   |some r=>
    simp[d]at h;subst h;exact⟨r,lY d w,by simp only[RV]⟩
  ·cases h
 ·exact amm g j h
def oN {x:M AV}{b:M XS}{d n:Nat}(e:match x,b with|some a,some c=>RV ρ G w a c|none,none=>True|_,_=>False)(h:jc x d=ZC n):
  (x=Z1/\b=Z1/\n=d)∨∃k i,x=ZC (.s (.int k i))/\b=ZC (.int k i)/\0<=i/\n=i.toNat:=by
 unfold jc at h;split at h
 ·cases b with
  |none=>cases h;exact .inl ⟨W,W,W⟩
  |some c=>exact e.elim
 ·rename_i k i;split at h
  ·cases b with
   |none=>exact e.elim
   |some c=>
    simp only[RV]at e;subst e;cases h;exact .inr ⟨k,i,W,W,‹_›,W⟩
  ·cases h
 ·cases h
def mY {k:IntKind}{i:Int}{y:Nat}{b:BoundsCode}(h0:0<=i)(d:i<=y):(Instr.sliceBound (.int k i) y b).run P w=.ok i.toNat w:=
 run_sliceBound w k i y b h0 d
end
section
variable {P:Program}{ρ:Ren}{H H':ah}{w:World}{v:AV}
def TK(ρ:Ren)(G:Nat->Nat)(w:Xs)(x:M AV)(b:M XS):Prop:=match x,b with|some a,some c=>RV ρ G w a c|none,none=>True|_,_=>False
def mZ {s:Bool}{len c l h m:Nat}{g j e:M XS}
  (hm:(e=Z1/\m=c)∨∃k i,e=ZC (.int k i)/\0<=i/\m=i.toNat/\m<=c)
  (D:(j=Z1/\e=Z1/\h=len)∨∃k i,j=ZC (.int k i)/\0<=i/\h=i.toNat/\h<=m)
  (z:(g=Z1/\l=0)∨∃k i,g=ZC (.int k i)/\0<=i/\l=i.toNat/\l<=h):(Instr.sliceBounds s len c g j e).run P w=.ok (l,h,m) w:=by
 rcases hm with⟨rfl,rfl⟩|⟨K,y,rfl,p,rfl,F⟩
 ·rcases D with⟨rfl,_,rfl⟩|⟨G,n,rfl,b,rfl,A⟩
  ·rcases z with⟨rfl,rfl⟩|⟨E,q,rfl,d,rfl,u⟩
   ·simp[Instr.sliceBounds]
   ·have v:q<=(h:Int):=V
    simp[Instr.sliceBounds,mY d v]
  ·have o:n<=(m:Int):=V
   rcases z with⟨rfl,rfl⟩|⟨E,q,rfl,d,rfl,u⟩
   ·simp[Instr.sliceBounds,mY b o]
   ·have v:q<=(n.toNat:Int):=V
    simp only[Instr.sliceBounds,zak,zao,zai,mY b o];simp[mY d v]
 ·rcases D with⟨_,H,_⟩|⟨G,n,rfl,b,rfl,A⟩
  ·cases H
  ·rcases z with⟨rfl,rfl⟩|⟨E,q,rfl,d,rfl,u⟩
   ·have C:y<=(c:Int):=V
    have o:n<=(y.toNat:Int):=V
    simp only[Instr.sliceBounds,zak,zao,zai,mY p C,mY b o]
   ·have C:y<=(c:Int):=V
    have o:n<=(y.toNat:Int):=V
    have v:q<=(n.toNat:Int):=V
    simp only[Instr.sliceBounds,zak,zao,zai,mY p C,mY b o,mY d v]
def ng {t e:XN}{len c l h m n:Nat}{a:M Addr}{b d g:M XS}(i:P.underlying t=ZC (.slice e))(j:szT P e=ZC n)
  (hb:(Instr.sliceBounds Z0 len c b d g).run P w=.ok (l,h,m) w):
  (Instr.sliceAt t (.slice a len c) b d g).run P w=.ok (.slice (if m=l then a else a.map (·.add (l*n))) (h-l) (m-l)) w:=by
 simp only[Instr.sliceAt,zak,zae i,zai,Instr.slice,hb,fB j,zao]
def aej {t:XN}{x:AV}{lo hi mx:Z6 AV}{cx:XS}{aa ab z:Z6 XS}(A:RV ρ H.gen w x cx)(E:TK ρ H.gen w lo aa)(F:TK ρ H.gen w hi ab)(G:TK ρ H.gen w mx z)
  (h:PL P t x lo hi mx=ZC v):OkP P ρ H.gen w (Instr.sliceAt t cx aa ab z) v:=by
 unfold PL at h;cases L:P.underlying t with
 |none=>simp[L]at h
 |some d=>
  cases d with
  |slice e=>
   simp only[L]at h;split at h
   ·rename_i n hs;split at h <;> try(cases h;done)
    rename_i Q R h3;split at h <;> try(cases h;done)
    rename_i u;simp only[Option.some.injEq]at h;subst h;simp only[RV]at A;subst A;have T:=oN (x:=lo) E Q;have W:=oN (x:=hi) F R;have b3:=oN (x:=mx) G h3;refine⟨.slice Z1 0 0,?_,by simp only[RV]⟩;rw[ng L hs (mZ (l:=0) (h:=0) (m:=0) (by
       rcases b3 with⟨_,q,_⟩|⟨k,i,_,q,y,X⟩
       ·exact .inl ⟨q,Z3⟩
       ·exact .inr ⟨k,i,q,y,X,V⟩) (by
       rcases W with⟨p,q,_⟩|⟨k,i,_,q,y,X⟩
       ·refine .inl ⟨q,?_,Z3⟩;have:=u p;rcases b3 with⟨_,q',_⟩|⟨k,i,p',_⟩
        ·exact q'
        ·rw[this]at p';cases p'
       ·exact .inr ⟨k,i,q,y,X,V⟩) (by
       rcases T with⟨_,q,_⟩|⟨k,i,_,q,y,X⟩
       ·exact .inl ⟨q,Z3⟩
       ·exact .inr ⟨k,i,q,y,X,V⟩))]
    simp
   ·rename_i r g off j len ae ex m hs;split at h <;> try(cases h;done)
    rename_i l D k Q R h3;split at h <;> try(cases h;done)
    rename_i u;obtain⟨rfl,c1,c2,c3,c4⟩:=u;simp only[Option.some.injEq]at h;subst h;simp only[RV]at A;obtain⟨b,o,c,rfl,X,q2,q3,q4,q5⟩:=A;have T:=oN (x:=lo) E Q;have W:=oN (x:=hi) F R;have b3:=oN (x:=mx) G h3
    -- the capacity then
    have⟨m,hm,af,ag,ad⟩:∃m,((z=Z1/\m=c)∨∃k i,z=ZC (.int k i)/\0<=i/\m=i.toNat/\m<=c)/\k<=m/\m<=c/\((ex || !isNone mx)=Z0->m=k):=by
     rcases b3 with⟨p,q,r⟩|⟨k',i,p,q,y,r⟩
     ·refine⟨c,.inl ⟨q,Z3⟩,V,Nat.le_refl _,λA=>?_⟩;subst p;simp[isNone]at A;rw[q3 A,r]
     ·exact⟨k,.inr ⟨k',i,q,y,r,V⟩,Nat.le_refl _,V,λ_=>rfl⟩
    have hb:=mZ (P:=P) (w:=w) (s:=Z0) (len:=len) (c:=c) (l:=l) (h:=D) (m:=m) hm (by
       rcases W with⟨p,q,r⟩|⟨k',i,_,q,y,r⟩
       ·refine .inl ⟨q,?_,r⟩;have:=c4 p;rcases b3 with⟨_,q',_⟩|⟨_,_,p',_⟩
        ·exact q'
        ·rw[this]at p';cases p'
       ·exact .inr ⟨k',i,q,y,r,V⟩) (by
       rcases T with⟨_,q,r⟩|⟨k',i,_,q,y,r⟩
       ·exact .inl ⟨q,r⟩
       ·exact .inr ⟨k',i,q,y,r,V⟩)
    refine⟨_,ng L hs hb,?_⟩;simp only[RV];by_cases C:m=l
    ·refine⟨b,o,m-l,by simp[C],V,V,λA=>by rw[ad A],q4,λhg=>?_⟩;have⟨sh,ty,n,p1,p2,p3,p4⟩:=q5 hg;refine⟨sh,ty,n,p1,λhc=>V,p3,?_⟩;have:(m-l)*j<=c*j:=Nat.mul_le_mul_right _ V;omega
    ·refine⟨b,o+l*j,m-l,by simp[C,jW],V,V,λA=>by rw[ad A],q4,λhg=>?_⟩;have⟨sh,ty,n,p1,p2,p3,p4⟩:=q5 hg;refine⟨sh,ty,n,p1,λ_=>by rw[p2 V];omega,p3,?_⟩;have:l*j+(m-l)*j<=c*j:=by rw[<-Nat.add_mul];exact Nat.mul_le_mul_right _ V
     omega
   ·rename_i n j cells m hs;split at h <;> try(cases h;done)
    rename_i l D Q R;split at h <;> try(cases h;done)
    rename_i u;obtain⟨rfl,c1,c2⟩:=u;simp only[Option.some.injEq]at h;subst h;simp only[RV]at A;obtain⟨b,o,c,rfl,X,q2,q3,q4,q5⟩:=A;have T:=oN (x:=lo) E Q;have W:=oN (x:=hi) F R;have K:z=none:=by
     cases z with
     |none=>rfl
     |some c=>exact G.elim
    have hb:=mZ (P:=P) (w:=w) (s:=Z0) (len:=n) (c:=c) (l:=l) (h:=D) (m:=c) (.inl ⟨K,Z3⟩) (by
       rcases W with⟨p,q,r⟩|⟨k',i,_,q,y,r⟩
       ·exact .inl ⟨q,K,r⟩
       ·exact .inr ⟨k',i,q,y,r,V⟩) (by
       rcases T with⟨_,q,r⟩|⟨k',i,_,q,y,r⟩
       ·exact .inl ⟨q,r⟩
       ·exact .inr ⟨k',i,q,y,r,V⟩)
    refine⟨_,ng L hs hb,?_⟩;simp only[RV];have M:(List.take ((D-l)*j) (List.drop (l*j) cells)).length=(D-l)*j:=by
     simp only[List.length_take,List.length_drop,q2];have:(D-l)*j+l*j<=n*j:=by rw[<-Nat.add_mul];exact Nat.mul_le_mul_right _ V
     omega
    by_cases C:c=l
    ·have:D-l=0:=V
     refine⟨b,o,c-l,by simp[C],V,M,q3,q4,?_⟩;rw[this];simp[RVc]
    ·exact⟨b,o+l*j,c-l,by simp[C,jW],V,M,q3,q4,uK _ (rD _ q5)⟩
   ·cases h
  |string=>
   simp only[L]at h;split at h
   ·rename_i s l Q;split at h <;> try(cases h;done)
    rename_i D R;split at h <;> try(cases h;done)
    rename_i u;simp only[Option.some.injEq]at h;subst h;simp only[RV]at A;subst A;have T:=oN (x:=lo) E Q;have W:=oN (x:=hi) F R;have K:z=none:=by
     cases z with
     |none=>rfl
     |some c=>exact G.elim
    subst K;have hb:=mZ (P:=P) (w:=w) (s:=ZV) (len:=s.size) (c:=s.size) (l:=l) (h:=D) (m:=s.size) (.inl ⟨Z3,Z3⟩) (by
       rcases W with⟨p,q,r⟩|⟨k',i,_,q,y,r⟩
       ·exact .inl ⟨q,Z3,r⟩
       ·exact .inr ⟨k',i,q,y,r,V⟩) (by
       rcases T with⟨_,q,r⟩|⟨k',i,_,q,y,r⟩
       ·exact .inl ⟨q,r⟩
       ·exact .inr ⟨k',i,q,y,r,V⟩)
    refine⟨.string (s.extract l D),?_,by simp only[RV]⟩;simp only[Instr.sliceAt,zak,zae L,zai,Instr.slice,Option.isSome_none,Bool.false_eq_true,zaf,hb,zao]
   ·cases h
  |_=>simp[L]at h
end
def xR(off:Nat):∀(l:Q XS) (k:Nat) (cs:Array XS),(l.zipIdx k).foldl (λcs (p:XS × Nat)=>cs.setIfInBounds (off+p.2) p.1) cs=lC cs (off+k) l
 |[],_,_=>rfl
 |v::l,k,cs=>by
  simp only[List.zipIdx_cons,List.foldl_cons,lC];exact xR off l (k+1) _
section
variable {P:Program}{ρ:Ren}{G:Nat->Nat}{H H':ah}{w:World}{v:AV}
def ZO {cells xs:Q AV}{cs vs:Q XS}{off:Nat}(hc:RVs ρ G w cells cs)(j:RVs ρ G w xs vs)(d:off+xs.length<=cells.length):RVs ρ G w (aI cells off xs) (lC cs.toArray off vs).toList:=by
 have k:=dO hc;have m:=dO j;refine tK (by rw[jg _ _ _ d,bP,eX];simp[k]) λi x hi=>?_;rw[wH _ _ _ d]at hi;have b:=lX vs cs.toArray off i (by simp;omega);rw[m]at b;by_cases e:off<=i/\i<off+xs.length
 ·rw[y e]at hi b;have⟨u,g,h⟩:=jP j hi;exact⟨u,by rw[Array.getElem?_toList,b,g],h⟩
 ·rw[F e]at hi b;have⟨u,g,h⟩:=jP hc hi;exact⟨u,by rw[Array.getElem?_toList,b];simpa using g,h⟩
def GR {d:Nat->Option (Nat × Nat)}:∀(b:List (Nat × AV)) (n:List (Nat × Value)) (cells:List AV) (cs:Array Value) (cells':List AV),
  b.map (·.1)=n.map (·.1)->RVs ρ G w (b.map (·.2)) (n.map (·.2))->RVs ρ G w cells cs.toList->fO d cells b=some cells'->
  ∃cs',Instr.fill d cs n=some cs'/\RVs ρ G w cells' cs'.toList
 |[],[],cells,cs,cells',_,_,hc,h=>by
  simp only[fO,Option.some.injEq]at h;subst h;exact⟨cs,rfl,hc⟩
 |[],_::_,_,_,_,hi,_,_,_=>by simp at hi
 |_::_,[],_,_,_,hi,_,_,_=>by simp at hi
 |(i,x)::b,(j,y)::n,cells,cs,cells',hi,v,hc,h=>by
  simp only[List.map_cons,List.cons.injEq]at hi;obtain⟨rfl,hi⟩:=hi;simp only[List.map_cons,RVs]at v;obtain⟨_,_,e,z,A⟩:=v;cases e;simp only[fO]at h;cases k:d i with
  |none=>simp[k]at h
  |some os=>
   obtain⟨off,size⟩:=os;simp only[k]at h;split at h
   ·rename_i m;obtain⟨E,q⟩:=m;have g:=MS z;have o:=dO g;rw[bP]at o;have u:=dO hc;rw[bP]at u;have p:=ZO hc g q;obtain⟨cs',C,D⟩:=GR b n _ _ cells' hi A p h;refine⟨cs',?_,D⟩;simp only[Instr.fill,k];rw[if_neg (by simp;omega)];rw[<-C]
    congr 1
    rw[<-Array.foldl_toList,Array.toList_zipIdx];exact xR off y.cells.toList 0 _
   ·cases h
def Yh {b:Array Field}(h:b.all (λf=>(szT P f.type).isSome)=true):
  (b.mapM λf=>do pure (f.offset,<-sizeOf f.type):Sem (Array (Nat × Nat))).run P w=.ok (b.map λf=>(f.offset,(szT P f.type).getD 0)) w:=by
 rw[Array.mapM_eq_mapM_toList];have key:∀l:List Field,(∀f∈l,(szT P f.type).isSome=true)->(l.mapM λf=>do pure (f.offset,<-sizeOf f.type):Sem (List (Nat × Nat))).run P w=.ok (l.map λf=>(f.offset,(szT P f.type).getD 0)) w:=by
  intro l
  induction l with
  |nil=>intro _;simp
  |cons f l i=>
   intro e;have j:=e f O;cases d:szT P f.type with
   |none=>simp[d]at j
   |some n=>
    rw[List.mapM_cons];simp only[Sem.run_bind,fB d,Sem.run_pure,Result.andThen_ok,i (λg k=>e g (by simp[k])),List.map_cons,d,Option.getD_some]
 rw[Sem.run_map,key b.toList (λf m=>by
  have:=Array.all_eq_true'.1 h f (by simpa using m);exact this)]
 simp only[Result.andThen_ok]
 congr 1
 exact(Array.toList_inj.1 O)
def aek {t:TypeId}{b:List (Nat × AV)}{q:Array (Nat × Value)}(hi:b.map (·.1)=q.toList.map (·.1))(E:RVs ρ G w (b.map (·.2)) (q.toList.map (·.2)))
  (h:fV P t b=some v):OkP P ρ G w (Instr.build t q) v:=by
 unfold fV yG at h;cases j:zZ P t with
 |none=>simp[j]at h
 |some z=>
  cases o:P.underlying t with
  |none=>simp[j,o]at h
  |some d=>
   cases d with
   |struct u=>
    simp only[j,o,Option.map_some]at h;split at h
    ·rename_i g;cases k:fO (PE P u) (z.cells.toList.map .s) b with
     |none=>simp[k]at h
     |some cells=>
      simp only[k,Option.map_some,Option.some.injEq]at h;subst h;obtain⟨cs,y,A⟩:=GR (ρ:=ρ) (G:=G) (w:=w) b q.toList _ z.cells cells hi E (iC _) k;refine⟨.agg cs,?_,by simp only[RV];exact⟨cs,rfl,A⟩⟩;have C:(λi=>(u.map λf=>(f.offset,(szT P f.type).getD 0))[i]?)=PE P u:=by
       funext i
       simp only[PE,Array.getElem?_map];cases D:u[i]? with
       |none=>simp
       |some f=>
        have F:=Array.all_eq_true'.1 g f (Array.mem_of_getElem? D);cases p:szT P f.type with
        |none=>simp[p]at F
        |some n=>simp[p]
      simp only[Instr.build,Sem.run_bind,gV j,run_underlying o,Result.andThen_ok,Yh g];rw[C,y];simp
    ·cases h
   |array n e=>
    simp only[j,o,Option.map_some]at h;cases p:szT P e with
    |none=>simp[p]at h
    |some m=>
     simp only[p]at h;cases k:fO (λi=>some (i*m,m)) (z.cells.toList.map .s) b with
     |none=>simp[k]at h
     |some cells=>
      simp only[k,Option.map_some,Option.some.injEq]at h;subst h;obtain⟨cs,y,A⟩:=GR (ρ:=ρ) (G:=G) (w:=w) b q.toList _ z.cells cells hi E (iC _) k;refine⟨.agg cs,?_,by simp only[RV];exact⟨cs,rfl,A⟩⟩;simp only[Instr.build,Sem.run_bind,gV j,run_underlying o,Result.andThen_ok,fB p,y,Sem.run_pure]
   |_=>simp[j,o]at h
def J3(z:Q AV)(d:0<z.length):∀(n i:Nat),i<n*z.length->(dM z n)[i]?=z[i % z.length]?
 |0,i,h=>by simp at h
 |n+1,i,h=>by
  simp only[dM];rw[List.getElem?_append];by_cases hi:i<z.length
  ·rw[y hi,Nat.mod_eq_of_lt hi]
  ·have b:(i-z.length) % z.length=i % z.length:=by rw[Nat.mod_eq_sub_mod (a:=i) V]
   rw[F hi,J3 z d n (i-z.length) (by rw[Nat.add_mul,Nat.one_mul]at h;omega),b]
def jh(z:Q AV):∀n,(dM z n).length=n*z.length
 |0=>by simp[dM]
 |n+1=>by simp[dM,jh z n,Nat.add_mul];omega
def wI(z:XS)(n:Nat):RVs ρ G w (dM (z.cells.toList.map .s) n) ((Array.range (n*z.cells.size)).map (z.cells[· % z.cells.size]!)).toList:=by
 have d:(z.cells.toList.map AV.s).length=z.cells.size:=O
 refine tK (by rw[jh,d];simp) λi x e=>?_;have hi:i<n*z.cells.size:=by
  rcases Nat.lt_or_ge i (n*z.cells.size)with h|h
  ·exact h
  ·rw[List.getElem?_eq_none (by rw[jh,d];exact h)]at e;cases e
 have b:0<z.cells.size:=by
  rcases Nat.eq_zero_or_pos z.cells.size with h|h
  ·rw[h,Nat.mul_zero]at hi;omega
  ·exact h
 rw[J3 _ (by rw[d];exact b) n i (by rw[d];exact hi),d]at e;have hm:i % z.cells.size<z.cells.size:=Nat.mod_lt _ b;refine⟨z.cells[i % z.cells.size],?_,?_⟩
 ·simp[hi,hm]
 ·have:x=.s z.cells[i % z.cells.size]:=by
   simp[hm]at e;exact e.symm
  subst this;simp only[RV]
def oO {t e:XN}(h:JE P t=ZC e):P.underlying t=ZC (.slice e):=by
 unfold JE at h;split at h
 ·rename_i b;cases h;exact b
 ·cases h
def Ae {t:XN}{z:Q AV}(h:yG P t=ZC z):∃v,zZ P t=ZC v/\z=v.cells.toList.map .s:=by
 unfold yG at h;cases b:zZ P t with
 |none=>simp[b]at h
 |some v=>simp[b]at h;exact⟨v,W,h.symm⟩
def uP(R:Rel ρ H w){e:XN}{cells:Q AV}{cs:Array XS}{m len cap c:Nat}{ex:Bool}(hc:RVs ρ H.gen w cells (cs.toList.take cells.length))(d:cells.length<=cs.size)(h:len<=cap)(j:cap<=c)(k:ex=Z0->c=cap)(p:c*m<=cs.size){ty:XN}(hX:Xct ty e 0 cs.size cells.length):
  ∃ρ',Rel ρ' (H.new (.blk 0 ty cells)) (w.alloc (.cells cs e))/\RV ρ' (H.new (.blk 0 ty cells)).gen (w.alloc (.cells cs e)) (.sl H.next 0 0 m len cap ex) (.slice (ZC ⟨w.heap.size,0,Z1⟩) len c)/\Ext ρ H w ρ' (H.new (.blk 0 ty cells)) (w.alloc (.cells cs e)):=by
 have g:=ZM (e:=e) (ty:=ty) (cells:=cells) (cs:=cs) R d (λi x n=>by
  have⟨u,b,o⟩:=jP hc n;rw[List.getElem?_take]at b;split at b
  ·exact⟨u,by simpa using b,o⟩
  ·cases b) hX
 refine⟨_,g.1,?_,g.2⟩;simp only[RV];refine⟨w.heap.size,0,c,W,h,j,k,V,λ_=>⟨0,e,cs.size,by simp[updρ],λ_=>rfl,?_,V⟩⟩;rw[fE,kD];rfl
def ZP {xs:Q AV}{l:Q XS}(h:RVs ρ G w xs l):RVs ρ G w xs (l.take xs.length):=by
 rw[List.take_of_length_le (by rw[dO h];exact Nat.le_refl _)];exact h
def MW(R:Rel ρ H w){t:XN}{len:Nat}{d:Z2 (Nat × AV)}{y:Array (Nat × XS)}(hi:d.map (·.1)=y.toList.map (·.1))(W:RVs ρ H.gen w (d.map (·.2)) (y.toList.map (·.2)))
  (h:dI P t len d H=ZC (v,H')):Ok P ρ H w (Instr.buildSlice t len y) v H':=by
 unfold dI at h;cases C:JE P t with
 |none=>simp[C]at h
 |some e=>
  simp only[C]at h;cases A:szT P e with
  |none=>simp[A]at h
  |some m=>
   cases D:yG P e with
   |none=>simp[A,D]at h
   |some z=>
    simp only[A,D]at h;obtain⟨zv,q,rfl⟩:=Ae D;split at h <;> try(cases h;done)
    rename_i n;have⟨o,Q⟩:=n;simp at o;split at h <;> try(cases h;done)
    rename_i cells X;split at h <;> try(cases h;done)
    simp only[Option.some.injEq,zaa]at h;obtain⟨rfl,rfl⟩:=h
    -- the zero cells
    have⟨u,E,F⟩:∃u:Array XS,RVs ρ H.gen w (dM (zv.cells.toList.map .s) len) ((Array.range (len*m)).map (u[· % u.size]!)).toList/\((len*m=0/\u=#[])∨(¬len*m=0/\u=zv.cells)):=by
     by_cases j:len*m=0
     ·refine⟨#[],?_,.inl ⟨j,Z3⟩⟩;rw[j];have:dM (zv.cells.toList.map .s) len=[]:=List.eq_nil_of_length_eq_zero (by rw[jh];simp[o,j]);rw[this];simp[RVs]
     ·refine⟨zv.cells,?_,.inr ⟨j,Z3⟩⟩;have:=wI (ρ:=ρ) (G:=H.gen) (w:=w) zv len;rw[o]at this ⊢;exact this
    have⟨cs,K,T⟩:=GR d y.toList _ _ cells hi W E X;have k:=dO T;have L:cs.size=len*m:=by
     have hsz:∀(g:Nat->Z6 (Nat × Nat)) (l:Z2 (Nat × XS)) (a b:Array XS),Instr.fill g a l=ZC b->b.size=a.size:=by
      intro g l
      induction l with
      |nil=>intro a b h;simp[Instr.fill]at h;rw[h]
      |cons p l ih=>
       intro a b h;have⟨i,x⟩:=p;simp only[Instr.fill]at h;split at h
       ·cases h
       ·split at h
        ·cases h
        ·rw[ih _ _ h,<-Array.foldl_toList,Array.toList_zipIdx,xR,eX]
     rw[hsz _ _ _ _ K];simp
    have⟨ρ',q1,q2,q3⟩:=uP (ty:=e) (hX:=Xct.low (uM q) (by have:=k;rw[bP]at this;omega)) (e:=e) (cells:=cells) (cs:=cs) (m:=m) (len:=len) (cap:=len) (c:=len) (ex:=Z0) R (ZP T) (by rw[<-k,bP];exact Nat.le_refl _) (Nat.le_refl _) (Nat.le_refl _) (λ_=>rfl) (by rw[L];exact Nat.le_refl _);refine⟨_,ρ',_,?_,q1,q2,q3⟩;have M:¬len*m > 2 ^ 24:=V
    simp only[Instr.buildSlice,zak,zae (oO C),zai,fB A,M,zaf];rcases F with⟨j,rfl⟩|⟨j,rfl⟩
    ·rw[YY j];simp only[zai,K,zak,newRow,run_newObj,zao];rfl
    ·rw[Ys j];simp only[zai,K,zak,newRow,run_newObj,zao,gV q];rfl
def PZ(R:Rel ρ H w){t:XN}{x y:AV}{E cy:XS}(F:RV ρ H.gen w x E)(K:RV ρ H.gen w y cy)(h:ql P t x y H=ZC (v,H')):Ok P ρ H w (Instr.makeSlice t E cy) v H':=by
 unfold ql at h;split at h <;> try(cases h;done)
 rename_i e k1 l L c M;simp only[RV]at F K;subst F K;cases g:szT P e with
 |none=>simp[g]at h
 |some m=>
  cases hb:yQ P e with
  |none=>simp[g,hb]at h
  |some by_=>
   cases u:yG P e with
   |none=>simp[g,hb,u]at h
   |some z=>
    simp only[g,hb,u]at h;obtain⟨zv,n,rfl⟩:=Ae u;split at h <;> try(cases h;done)
    rename_i i;have⟨j,A,Q,T,h2,h3⟩:=i;simp at j;simp only[Option.some.injEq,zaa]at h;obtain⟨rfl,rfl⟩:=h;cases b:P.info? e with
    |none=>simp[szT,b]at g
    |some d=>
     simp[szT,b]at g;simp[yQ,b]at hb;have C:d.zero=ZC zv:=by simpa [b]using aee n
     have o:=run_make (P:=P) (w:=w) t e d zv (oO M) b C k1 L l c Q T (by rw[hb];omega) V;have p:=wI (ρ:=ρ) (G:=H.gen) (w:=w) zv c.toNat;have D:((Array.range (c.toNat*zv.cells.size)).map (zv.cells[· % zv.cells.size]!))=madeCells zv.cells (c.toNat*d.size):=by
      rw[madeCells,g,j]
     have k:(madeCells zv.cells (c.toNat*d.size)).size=c.toNat*m:=by rw[size_madeCells,g]
     have q:(dM (zv.cells.toList.map .s) c.toNat).length=c.toNat*m:=by rw[jh];simp[j]
     have⟨ρ',W,X,q3⟩:=uP (ty:=e) (hX:=Xct.low (uM n) (by rw[k,q])) (e:=e) (cells:=dM (zv.cells.toList.map .s) c.toNat) (cs:=madeCells zv.cells (c.toNat*d.size)) (m:=m) (len:=l.toNat) (cap:=c.toNat) (c:=c.toNat) (ex:=Z0) R
      (ZP (by rw[D]at p;exact p)) (by rw[k,q];exact Nat.le_refl _) V (Nat.le_refl _) (λ_=>rfl) (by rw[k];exact Nat.le_refl _)
     exact⟨_,ρ',_,o,W,X,q3⟩
end
section
variable {P:Program}{ρ:Ren}{G:Nat->Nat}{H H':ah}{w:World}{v:AV}
def TL {t:XN}{k:IntKind}{e:XN}(h:al8 P t=ZC (k,e)):∃b,P.underlying t=ZC (.map b e)/\P.underlying b=ZC (.int k):=by
 unfold al8 at h;split at h
 ·rename_i b g d;split at h
  ·rename_i i hk;simp only[Option.some.injEq,zaa]at h;obtain⟨rfl,rfl⟩:=h;exact⟨b,d,hk⟩
  ·cases h
 ·cases h
def nZ {b:Nat}{d:Array MapEntry}{cl:Nat}(h:w.heap[b]?=ZC (.map d cl)):(getObj b).run P w=.ok (.map d cl) w:=by
 simp[getObj,Sem.run,h]
def xU {b:Nat}{d:Array MapEntry}{cl:Nat}{o:Obj}(h:w.heap[b]?=ZC (.map d cl)):(setObj b o).run P w=.ok () (jX w b o):=by
 simp[setObj,Sem.run,h,jX]
def wJ {b:XN}{k:IntKind}{n:Int}(hk:P.underlying b=ZC (.int k))(e:Bool)(d:Nat):(Instr.checkKey e (d+1) b (.int k n)).run P w=.ok () w:=by
 simp[Instr.checkKey,zae hk]
def rG {k:IntKind}{n:Int}:∀(es:Q (Int × AV)) (l:Q MapEntry) (i:Nat),RVm ρ G w k es l->qA es n=Z1->Instr.findNow (.int k) (.int k n) l i=ZC Z1
 |[],l,i,h,_=>by simp only[RVm]at h;subst h;rfl
 |(m,x)::es,l,i,h,b=>by
  obtain⟨e,d,rfl,hk,_,g⟩:=(by simpa only[RVm]using h)
  simp only[qA]at b;split at b
  ·cases b
  ·rename_i j;simp only[Instr.findNow,hk,Instr.sameNow];have:(n==m)=false:=by simp;omega
   simp[this,rG es d (i+1) g b]
def rH {k:IntKind}{n:Int}{x:AV}:∀(es:Q (Int × AV)) (l:Q MapEntry) (i:Nat),RVm ρ G w k es l->qA es n=ZC x->
  ∃j e,Instr.findNow (.int k) (.int k n) l i=ZC (ZC (i+j,e.val))/\l[j]?=ZC e/\e.key=.int k n/\RV ρ G w x e.val/\
   (∀y cy,RV ρ G w y cy->RVm ρ G w k (MJ es n y) (l.modify j λe=>{ e with key:=.int k n,val:=cy }))/\RVm ρ G w k (Aa es n) (l.eraseIdx j)
 |[],l,i,h,b=>by simp[qA]at b
 |(m,z)::es,l,i,h,b=>by
  obtain⟨e,u,rfl,hk,g,o⟩:=(by simpa only[RVm]using h)
  simp only[qA]at b;split at b
  ·rename_i p;cases b;subst p;refine⟨0,e,?_,W,hk,g,λy cy q=>?_,?_⟩
   ·simp[Instr.findNow,hk,Instr.sameNow]
   ·simp only[MJ,zad,List.modify_zero_cons,RVm];exact⟨_,_,W,W,q,o⟩
   ·simpa only[Aa,zad,List.eraseIdx_zero,List.tail_cons]using o
  ·rename_i d;have⟨j,v,A,C,D,E,F,H⟩:=rH es u (i+1) o b;refine⟨j+1,v,?_,by simpa using C,D,E,λy cy q=>?_,?_⟩
   ·have:(n==m)=false:=by simp;omega
    simp only[Instr.findNow,hk,Instr.sameNow,zad,this];rw[A,show i+1+j=i+(j+1)from by omega]
   ·simp only[MJ,Ys d,List.modify_succ_cons,RVm];exact⟨_,_,W,hk,g,F y cy q⟩
   ·simp only[Aa,Ys d,List.eraseIdx_cons_succ,RVm];exact⟨_,_,W,hk,g,H⟩
def P5 {k:IntKind}{n:Int}{y:AV}{cy:XS}{born:Nat}(g:RV ρ G w y cy):∀(es:Q (Int × AV)) (l:Q MapEntry),RVm ρ G w k es l->qA es n=Z1->RVm ρ G w k (MJ es n y) (l++[{ key:=.int k n,val:=cy,born }])
 |[],l,h,_=>by
  simp only[RVm]at h;subst h;simp only[MJ,List.nil_append,RVm];exact⟨_,_,W,W,g,W⟩
 |(m,z)::es,l,h,b=>by
  obtain⟨e,i,rfl,hk,j,o⟩:=(by simpa only[RVm]using h)
  simp only[qA]at b;split at b
  ·cases b
  ·rename_i d;simp only[MJ,F d,List.cons_append,RVm];exact⟨_,_,W,hk,j,P5 g es i o b⟩
def J4 {n:Int}:∀(es:Q (Int × AV)),qA es n=Z1->Aa es n=es
 |[],_=>rfl
 |(m,z)::es,b=>by
  simp only[qA]at b;split at b
  ·cases b
  ·rename_i d;simp only[Aa,F d,J4 es b]
def oh {b:XN}{k:IntKind}{n:Int}{l:Q MapEntry}{r:M (Nat × XS)}(hk:P.underlying b=ZC (.int k))(h:Instr.findNow (.int k) (.int k n) l 0=ZC r):
  (Instr.findKey b (.int k n) l).run P w=.ok r w:=by
 simp[Instr.findKey,zae hk,h]
def Born.push {es:Q MapEntry}{cl:Nat}(h:Born es cl){key val:XS}:Born (es++[{ key,val,born:=cl }]) (cl+1):=by
 have⟨d,e⟩:=h;refine⟨λx b=>?_,?_⟩
 ·rcases List.mem_append.1 b with b|b
  ·exact Nat.lt_succ_of_lt (d x b)
  ·rw[List.mem_singleton]at b;subst b;exact Nat.lt_succ_self _
 ·rw[List.map_append];refine List.nodup_append.2 ⟨e,O,λa ha c hc=>?_⟩;simp only[List.map_cons,List.map_nil,List.mem_singleton]at hc;subst hc;obtain⟨x,b,rfl⟩:=List.mem_map.1 ha;exact Nat.ne_of_lt (d x b)
def wK {g:MapEntry->MapEntry}(b:∀e,(g e).born=e.born):∀(es:Q MapEntry) (j:Nat),(es.modify j g).map (·.born)=es.map (·.born)
 |[],j=>by simp
 |e::es,0=>by simp[b]
 |e::es,j+1=>by simp[wK b es j]
def Born.modify {es:Q MapEntry}{cl:Nat}(h:Born es cl){j:Nat}{g:MapEntry->MapEntry}(b:∀e,(g e).born=e.born):Born (es.modify j g) cl:=by
 have hm:=wK b es j;refine⟨λx d=>?_,by rw[hm];exact h.2⟩;have:x.born∈es.map (·.born):=by rw[<-hm];exact List.mem_map.2 ⟨x,d,W⟩
 have⟨y,i,e⟩:=List.mem_map.1 this;have:=h.1 y i;rw[<-e];exact this
def Born.erase {es:Q MapEntry}{cl:Nat}(h:Born es cl){j:Nat}:Born (es.eraseIdx j) cl:=
 ⟨λx b=>h.1 x ((List.eraseIdx_sublist _ _).mem b),h.2.sublist ((List.eraseIdx_sublist _ _).map _)⟩
def MZ(R:Rel ρ H w){r:Nat}{k:IntKind}{es:Q (Int × AV)}{g:XS}(h:RV ρ H.gen w (.mp r) g)(i:H.get r=.map k es):
  ∃b d cl,g=.map (ZC b)/\ρ r=ZC (b,0)/\w.heap[b]?=ZC (.map d cl)/\RVm ρ H.gen w k es d.toList/\Born d.toList cl:=by
 simp only[RV]at h;obtain⟨b,rfl,e⟩:=h;have e:=e (by simp[ah.gen,i,gG.gen]);have j:=R.obj r b 0 e;simp only[yP,i]at j;have⟨d,cl,m,_,n,o⟩:=j;exact⟨b,d,cl,W,e,m,n,o⟩
def ZQ(R:Rel ρ H w){t:XN}{x i:AV}{ok:Bool}{D E:XS}(Q:RV ρ H.gen w x D)(hi:RV ρ H.gen w i E)(h:TA P t x i ok H=ZC (v,H')):H'=H/\OkP P ρ H.gen w (Instr.lookup t D E ok) v:=by
 have⟨F,T⟩:=uO h
 clear h
 subst T;have h:=F
 clear F
 refine⟨Z3,?_⟩;unfold ZI at h;split at h <;> try(cases h;done)
 rename_i k e hm;have⟨W,G,hk⟩:=TL hm;split at h <;> try(cases h;done)
 rename_i z X;split at h <;> try(cases h;done)
 rename_i r;split at h <;> try(cases h;done)
 rename_i k' n;split at h <;> try(cases h;done)
 rename_i q u K;simp only[bT,Option.map_some,Option.some.injEq]at K;split at h <;> try(cases h;done)
 rename_i A;obtain⟨rfl,rfl⟩:=A;obtain⟨b,g,cl,rfl,hr,hb,m,aa⟩:=MZ R Q K;simp only[RV]at hi;subst hi;have o:∀C,(Instr.checkKey C 10000 W (.int q n)).run P w=.ok () w:=λC=>wJ hk C 9999;cases p:qA u n with
 |none=>
  simp only[p,Option.some.injEq]at h;subst h;have d:=oh (P:=P) (w:=w) hk (rG u g.toList 0 m p);refine⟨if ok then .tuple #[z,.bool ZV]else z,?_,?_⟩
  ·simp only[Instr.lookup,zak,zae G,zai,nZ hb,zao,o,d,gV X]
  ·cases ok
   ·simp only[RV,Bool.false_eq_true,zaf]
   ·simp only[RV,zad];exact⟨_,Z3,jA (by simp only[RV]) (jA (by simp only[RV]) jD)⟩
 |some y=>
  simp only[p,Option.some.injEq]at h;subst h;have⟨j,L,p1,p2,p3,M,_⟩:=rH u g.toList 0 m p;have d:=oh (P:=P) (w:=w) hk p1;refine⟨if ok then .tuple #[L.val,.bool Z0]else L.val,?_,?_⟩
  ·simp only[Instr.lookup,zak,zae G,zai,nZ hb,zao,o,d]
  ·cases ok
   ·simpa only[Bool.false_eq_true,zaf]using M
   ·simp only[RV,zad];exact⟨_,Z3,jA M (jA (by simp only[RV]) jD)⟩
def P6(R:Rel ρ H w){t:XN}{x i y:AV}{G K cy:XS}(X:RV ρ H.gen w x G)(hi:RV ρ H.gen w i K)(L:RV ρ H.gen w y cy)(h:tJ P t x i y H=ZC (v,H')):
  v=aX/\∃ρ' w',(Instr.mapUpdate t G K cy).run P w=.ok () w'/\Rel ρ' H' w'/\Ext ρ H w ρ' H' w':=by
 unfold tJ at h;split at h <;> try(cases h;done)
 rename_i k e r k' n hm;have⟨kt,M,hk⟩:=TL hm;split at h <;> try(cases h;done)
 rename_i m q C;split at h <;> try(cases h;done)
 rename_i D;obtain⟨rfl,rfl,_⟩:=D;simp only[Option.some.injEq,zaa]at h;obtain⟨rfl,rfl⟩:=h;obtain⟨b,o,cl,rfl,Q,hb,p,u⟩:=MZ R X C;simp only[RV]at hi;subst hi;have A:(Instr.checkKey ZV 10000 kt (.int m n)).run P w=.ok () w:=wJ hk ZV 9999;cases E:qA q n with
 |none=>
  have g:=oh (P:=P) (w:=w) hk (rG q o.toList 0 p E);have d:=MR (es':=MJ q n y) (ad7:=o.push { key:=.int m n,val:=cy,born:=cl }) (cl':=cl+1) R Q C hb (by rw[Array.toList_push];exact P5 L q _ p E) (by rw[Array.toList_push];exact u.push);refine⟨Z3,ρ,_,?_,d.1,d.2⟩;simp only[Instr.mapUpdate,zak,zae M,zai,nZ hb,A,g,xU hb]
 |some z=>
  have⟨j,T,W,p2,p3,p4,p5,_⟩:=rH q o.toList 0 p E;rw[Nat.zero_add]at W;have g:=oh (P:=P) (w:=w) hk W;have d:=MR (es':=MJ q n y) (ad7:=o.modify j λe=>{ e with key:=.int m n,val:=cy }) (cl':=cl) R Q C hb (by rw[Array.toList_modify];exact p5 y cy L) (by rw[Array.toList_modify];exact u.modify λ_=>rfl);refine⟨Z3,ρ,_,?_,d.1,d.2⟩;have hg:o[j]?=ZC T:=by simpa using p2
  have F:Instr.keyThatStays T.key (.int m n)=pure (.int m n):=by
   rw[p3];simp[Instr.keyThatStays,Instr.sameBits]
  simp only[Instr.mapUpdate,zak,zae M,zai,nZ hb,A,g,hg,Option.map_some,Option.getD_some,F,zao,xU hb]
def ZR(R:Rel ρ H w){t ty:XN}{F:Array XN}{x i:AV}{G K:XS}(L:F[0]?=ZC t)(X:RV ρ H.gen w x G)(hi:RV ρ H.gen w i K)(h:ML P t x i H=ZC (v,H')):
  Ok P ρ H w (Builtin.delete_ F ty #[G,K]) v H':=by
 unfold ML at h;split at h <;> try(cases h;done)
 rename_i k e r k' n hm;have⟨kt,M,hk⟩:=TL hm;split at h <;> try(cases h;done)
 rename_i o q A;split at h <;> try(cases h;done)
 rename_i C;obtain⟨rfl,rfl,_⟩:=C;simp only[Option.some.injEq,zaa]at h;obtain⟨rfl,rfl⟩:=h;obtain⟨b,d,cl,rfl,Q,hb,p,u⟩:=MZ R X A;simp only[RV]at hi;subst hi;have y:∀D,(Instr.checkKey D 10000 kt (.int o n)).run P w=.ok () w:=λD=>wJ hk D 9999;have a0:(#[Value.map (ZC b),Value.int o n]:Array XS)[0]?=ZC (.map (ZC b)):=rfl;have T:(#[Value.map (ZC b),Value.int o n]:Array XS)[1]?=ZC (.int o n):=rfl;cases E:qA q n with
 |none=>
  have m:=oh (P:=P) (w:=w) hk (rG q d.toList 0 p E);have g:=MR (es':=Aa q n) (ad7:=d) (cl':=cl) R Q A hb (by rw[J4 q E];exact p) u;refine⟨.tuple #[],ρ,_,?_,g.1,by simp only[RV];exact⟨_,Z3,jD⟩,g.2⟩;simp only[Builtin.delete_,L,a0,T,zak,zae M,zai,nZ hb,y,m,xU hb,zao]
 |some z=>
  have⟨j,en,W,p2,p3,p4,_,p6⟩:=rH q d.toList 0 p E;rw[Nat.zero_add]at W;have m:=oh (P:=P) (w:=w) hk W;have g:=MR (es':=Aa q n) (ad7:=d.eraseIdxIfInBounds j) (cl':=cl) R Q A hb (by
   have:(d.eraseIdxIfInBounds j).toList=d.toList.eraseIdx j:=O
   rw[this];exact p6) (by
   have:(d.eraseIdxIfInBounds j).toList=d.toList.eraseIdx j:=O
   rw[this];exact u.erase)
  refine⟨.tuple #[],ρ,_,?_,g.1,by simp only[RV];exact⟨_,Z3,jD⟩,g.2⟩;simp only[Builtin.delete_,L,a0,T,zak,zae M,zai,nZ hb,y,m,xU hb,zao]
def Yi(R:Rel ρ H w){t:XN}(h:xQ P t H=ZC (v,H')):Ok P ρ H w (Instr.makeMap t Z1) v H':=by
 unfold xQ at h;split at h <;> try(cases h;done)
 rename_i k e hm;simp only[Option.some.injEq,zaa]at h;obtain⟨rfl,rfl⟩:=h;have E:=MQ R (o:=.map k []) (co:=.map #[] 0);refine⟨.map (ZC w.heap.size),_,_,by simp[Instr.makeMap],ZL R ⟨#[],0,kD w _,W,by simp[RVm],by simp[Born]⟩,?_,E⟩;simp only[RV];exact⟨_,W,λ_=>by simp[updρ]⟩
def amo(R:Rel ρ H w){t ty:XN}{x:AV}{n:XS}(i:RV ρ H.gen w x n)(h:ar6 P t x H=ZC (v,H')):H'=H/\OkP P ρ H.gen w (Builtin.len_ #[t] ty #[n]) v:=by
 have a0:(#[t]:Array XN)[0]?=ZC t:=rfl;have A:(#[n]:Array XS)[0]?=ZC n:=rfl;have⟨u,C⟩:=uO h
 clear h
 subst C;have h:=u
 clear u
 refine⟨W,?_⟩;unfold ar5 at h;cases g:P.underlying t with
 |none=>simp[g]at h
 |some d=>
  cases d with
  |slice e=>
   simp only[g]at h;split at h <;> try(cases h;done)
   all_goals
    simp only[Option.some.injEq]at h;subst h;simp only[RV]at i
   ·obtain⟨_,_,_,rfl,_⟩:=i;exact⟨_,by simp[Builtin.len_,zae g];rfl,by simp only[RV,goInt]⟩
   ·obtain⟨_,_,_,rfl,_⟩:=i;exact⟨_,by simp[Builtin.len_,zae g];rfl,by simp only[RV,goInt]⟩
   ·subst i;exact⟨_,by simp[Builtin.len_,zae g];rfl,by simp only[RV,goInt]⟩
  |string=>
   simp only[g]at h;split at h <;> try(cases h;done)
   simp only[Option.some.injEq]at h;subst h;simp only[RV]at i;subst i;exact⟨_,by simp[Builtin.len_,zae g];rfl,by simp only[RV,goInt]⟩
  |map L e=>
   simp only[g]at h;split at h <;> try(cases h;done)
   ·split at h <;> try(cases h;done)
    rename_i k j y;simp only[bT,Option.map_some,Option.some.injEq]at y;simp only[Option.some.injEq]at h;subst h;obtain⟨b,o,cl,rfl,M,hb,q,D⟩:=MZ R i y;have E:o.size=j.length:=by
     have:∀(j:Q (Int × AV)) (l:Q MapEntry),RVm ρ H'.gen w k j l->l.length=j.length:=by
      intro j
      induction j with
      |nil=>intro l h;simp only[RVm]at h;subst h;rfl
      |cons p j F=>
       intro l h;have⟨m,z⟩:=p;obtain⟨e,G,rfl,_,_,K⟩:=(by simpa only[RVm]using h)
       simp[F G K]
     rw[<-this j _ q,bP]
    refine⟨.int .i64 j.length,?_,by simp only[RV]⟩;simp only[Builtin.len_,a0,A,zak,zae g,zai,nZ hb,zao,goInt,E]
   ·simp only[Option.some.injEq]at h;subst h;simp only[RV]at i;subst i;exact⟨.int .i64 0,by simp[Builtin.len_,zae g,goInt],by simp only[RV]⟩
  |_=>simp[g]at h
def amq {t ty:XN}{x:AV}{i:XS}(g:RV ρ G w x i)(h:agL P t x=ZC v):OkP P ρ G w (Builtin.cap_ #[t] ty #[i]) v:=by
 unfold agL at h;cases b:P.underlying t with
 |none=>simp[b]at h
 |some d=>
  cases d with
  |slice e=>
   simp only[b]at h;split at h <;> try(cases h;done)
   all_goals
    simp only[Option.some.injEq]at h;subst h;simp only[RV]at g
   ·obtain⟨_,_,c,rfl,_,_,j,_⟩:=g;rw[j zac];exact⟨_,by simp[Builtin.cap_,zae b];rfl,by simp only[RV,goInt]⟩
   ·subst g;exact⟨_,by simp[Builtin.cap_,zae b];rfl,by simp only[RV,goInt]⟩
  |_=>simp[b]at h
def P7 {d:Bool}{b:Array XN}{ty:XN}{xs:Q AV}{cs:Array XS}(g:RVs ρ G w xs cs.toList)(h:kH P d b ty xs=ZC v):
  OkP P ρ G w (if d then Builtin.max_ b ty cs else Builtin.min_ b ty cs) v:=by
 unfold kH at h;cases hv:vals? xs with
 |none=>simp[hv]at h
 |some vs=>
  simp only[hv]at h;have i:=MV xs _ vs g hv;have:cs=vs.toArray:=by rw[<-i]
  rw[this];cases e:je P (if d=Z0 then Builtin.max_ b ty vs.toArray else Builtin.min_ b ty vs.toArray)with
  |none=>simp[e]at h
  |some u=>simp[e]at h;subst h;exact⟨u,lY e w,by simp only[RV]⟩
end
def Ext.drew(ρ:Ren)(H:ah)(w:Xs):Ext ρ H w ρ H w.drew where
 next:=Nat.le_refl _
 mono:=λ_=>Nat.le_refl _
 same:=λ_ _ h _=>h
 kept:=λ_ _ h=>h
 range:=λ_ _ b h=>.inr ⟨b,h⟩
 size:=Nat.le_refl _
 frame:=λ_ _ _=>rfl
 shape:=λ_ _=>rfl
 os:=rfl
 tape:=rfl
 output:=rfl
def Rel.drew {ρ:Ren}{H:ah}{w:Xs}(R:Rel ρ H w):Rel ρ H w.drew where
 out:=R.out
 obj:=λr b d h=>yP.mono (Ext.drew ρ H w).toMono W (R.obj r b d h)
 inj:=R.inj
 gl:=R.gl.ext (Ext.drew ρ H w)
def Nh {ρ:Ren}{H:ah}{w:Xs}{r:Nat}{y:Nat × Nat}(d:ρ r=ZC y){co:Obj}{o:gG}(g:H.gen r<o.gen):Ext ρ H w (updρ ρ r (w.heap.size,0)) (H.put r o) (w.alloc co) where
 next:=Nat.le_refl _
 mono:=λx=>by rw[uN];split <;> simp_all;omega
 same:=λx y d h=>by
  rw[uN]at h;unfold updρ
  split
  ·rename_i e;subst e;simp at h;omega
  ·exact d
 kept:=λx _ h=>by
  unfold updρ
  split
  ·rename_i e;subst e;rw[d]at h;cases h
  ·exact h
 range:=λx i s h=>by
  unfold updρ at h;split at h
  ·cases h;exact .inl (Nat.le_refl _)
  ·exact .inr ⟨_,h⟩
 size:=O
 frame:=λb hb _=>by simp only[World.alloc,Array.getElem?_push,F (Nat.ne_of_lt hb)]
 shape:=λb hb=>by
  rw[fE,fE];simp only[World.alloc,Array.getElem?_push,F (Nat.ne_of_lt hb)]
 os:=rfl
 tape:=rfl
 output:=rfl
def ael {ρ:Ren}{H:ah}{w:Xs}(R:Rel ρ H w){r:Nat}(hr:r<H.next){y:Nat × Nat}(hy:ρ r=ZC y){co:Obj}{o:gG}(hg:H.gen r<o.gen)
  (ho:yP (updρ ρ r (w.heap.size,0)) (H.put r o).gen (w.alloc co) o w.heap.size 0):Rel (updρ ρ r (w.heap.size,0)) (H.put r o) (w.alloc co) where
 out:=λx hx=>by
  have hx':H.next<=x:=hx
  have hne:x≠r:=V
  rw[uN,F hne];unfold updρ;rw[F hne];exact R.out x hx'
 obj:=λx b' s h=>by
  unfold updρ at h;by_cases e:x=r
  ·subst e;simp at h;obtain⟨rfl,rfl⟩:=h
   simpa [ah.put]using ho
  ·rw[F e]at h;have:(H.put r o).get x=H.get x:=by simp[ah.put,e]
   rw[this];have hb:=R.block h;exact yP.mono (Nh (ρ:=ρ) (w:=w) (co:=co) hy hg).toMono (by simp only[World.alloc,Array.getElem?_push,F (Nat.ne_of_lt hb)]) (R.obj x b' s h)
 inj:=λx y b' s s' h h'=>by
  unfold updρ at h h';split at h <;> split at h'
  ·simp_all
  ·cases h;have:=R.block h';omega
  ·cases h';have:=R.block h;omega
  ·exact R.inj _ _ _ _ _ h h'
 gl:=R.gl.ext (Nh (ρ:=ρ) (w:=w) (co:=co) hy hg)
def aem {ρ:Ren}{H:ah}{w:Xs}(R:Rel ρ H w){r g':Nat}(hr:r<H.next){y:Nat × Nat}(hy:ρ r=ZC y)(hg:H.gen r<g'){ty e:XN}{cells:Q AV}{cs:Array XS}(hl:cells.length<=cs.size)
  (hc:∀(i:Nat) (x:AV),cells[i]?=ZC x->∃v,cs[i]?=ZC v/\RV ρ H.gen w x v) (hX:Xct ty e 0 cs.size cells.length):
  Rel (updρ ρ r (w.heap.size,0)) (H.put r (.blk g' ty cells)) (w.alloc (.cells cs e))/\Ext ρ H w (updρ ρ r (w.heap.size,0)) (H.put r (.blk g' ty cells)) (w.alloc (.cells cs e)):=by
 have E:=Nh (ρ:=ρ) (H:=H) (w:=w) (r:=r) (o:=.blk g' ty cells) (co:=.cells cs e) hy hg;refine⟨ael R hr hy hg ⟨cs,e,kD w _,V,?_,hX⟩,E⟩;refine rE (kD w _) λi x hx=>?_;have⟨v,hv,h1⟩:=hc i x hx;exact⟨v,by simpa using hv,R.keep E h1⟩
section
variable {P:Program}{ρ:Ren}{H H':ah}{w:World}{v:AV}
def jQ(R:Rel ρ H w){y:AV}{cy:XS}{n m:Nat}{new:Z2 AV}(j:RV ρ H.gen w y cy)(d:kL y=ZC n)(hc:cZ H y=ZC new)(D:new.length=n*m):
  (Builtin.lenOf cy).run P w=.ok n w/\∃arr:Array XS,(Builtin.firstCells m n cy).run P w=.ok arr w/\RVs ρ H.gen w new arr.toList:=by
 unfold kL at d;split at d <;> try(cases d;done)
 ·simp only[Option.some.injEq]at d;subst d;rename_i r g off q len L ex;simp only[RV]at j;obtain⟨b,o,c,rfl,M,Q,T,W,u⟩:=j;simp only[cZ]at hc;split at hc <;> try(cases hc;done)
  rename_i g' ty cells E;split at hc <;> try(cases hc;done)
  rename_i p;obtain⟨rfl,X⟩:=p;simp only[Option.some.injEq]at hc;subst hc;have⟨F,e,k,hr,v,aa,G⟩:=u (by simp[ah.gen,E,gG.gen]);have K:=R.obj r b F hr;simp only[yP,E]at K;have⟨cs,e',hb,hz,z,_⟩:=K;refine⟨by simp[Builtin.lenOf],?_⟩;by_cases h0:len=0
  ·subst h0;refine⟨#[],?_,by simp[RVs]⟩;simp[Builtin.firstCells,loadCells,loadCellsFrom]
  ·have A:=v V;have i:RVc ρ H.gen w ((cells.drop off).take (len*q)) b (F+off):=uK _ (rD _ z);have⟨l,h,C⟩:=mX (P:=P) i;rw[D]at h;exact⟨l.toArray,by simp only[Builtin.firstCells,A];exact h,by simpa using C⟩
 ·simp only[Option.some.injEq]at d;subst d;simp only[RV]at j;obtain⟨b,o,c,rfl,M,Q,T,W,u⟩:=j;simp only[cZ,Option.some.injEq]at hc;subst hc;refine⟨by simp[Builtin.lenOf],?_⟩;have⟨l,h,C⟩:=mX (P:=P) u;rw[D]at h;exact⟨l.toArray,by simp only[Builtin.firstCells];exact h,by simpa using C⟩
 ·simp only[Option.some.injEq]at d;subst d;simp only[RV]at j;subst j;simp only[cZ,Option.some.injEq]at hc;subst hc;exact⟨by simp[Builtin.lenOf],#[],by simp[Builtin.firstCells],by simp[RVs]⟩
 ·simp only[Option.some.injEq]at d;subst d;simp only[RV]at j;subst j;simp only[cZ,Option.some.injEq]at hc;subst hc;rename_i s;refine⟨by simp[Builtin.lenOf],(s.data.map λb=>.int .u8 b.toNat),?_,?_⟩
  ·have:s.extract 0 s.size=s:=by
    apply ByteArray.ext
    simp
   simp[Builtin.firstCells,this]
  ·have:(s.data.map λb=>Value.int .u8 b.toNat).toList=s.data.toList.map λb=>.int .u8 b.toNat:=O
   rw[this];have h2:(s.data.toList.map λb=>AV.s (.int .u8 b.toNat))=(s.data.toList.map λb=>Value.int .u8 b.toNat).map .s:=O
   rw[h2];exact iC _
def sQ(elem:XN)(size:Nat)(zeros:Bool)(n:Nat)(appended:Sem (Array XS))(base:M Addr)(sLen sCap:Nat)(s x:XS):Sem Value:=do
 let need:=sLen+n
 if need<=sCap then
  let new<-appended
  if let ZC a:=base then storeCells (a.add (sLen*size)) new.toList
  pure (.slice base need sCap)
 else
  if(need:Int) > IntKind.i64.max∧(zeros∨(←typeInfo elem).bytes=0)then runtimePanic (.error "growslice: len out of range")
  if Builtin.nextslicecap need sCap*(←typeInfo elem).bytes > 2 ^ 48 then(if zeros then runtimePanic (.error "growslice: len out of range")else do
   if !(<-Builtin.mayShare size sLen n base x)then mark .noRoom
   unsupported (.resourceLimit "append: a slice or a string whose bytes no memory bears"))
  let newCap<-choose (.appendCap need sCap elem)
  askRoom (newCap*(<-typeInfo elem).bytes)
  let old<-Builtin.firstCells size sLen s;let new<-appended;let rest:=Builtin.zeroCells (<-zeroValue elem).cells (newCap-need)
  pure (.slice (ZC (<-newRow elem (old++new++rest))) need newCap)
def agO {α:Type}(a b:α):(if ZV=Z0 then a else b)=b:=rfl
def amr {α:Type}(a b:α):(if Z0=Z0 then a else b)=a:=rfl
def GU {t u ty e:XN}{d:TypeDesc}{m n sLen sCap:Nat}{base:M Addr}{cy:XS}(hu:P.underlying t=ZC (.slice e))(hs:szT P e=ZC m)(hd:P.underlying u=ZC d)(hnd:∀k,d≠.int k)
  (hl:(Builtin.lenOf cy).run P w=.ok n w):
  (Builtin.append_ #[t,u] ty #[.slice base sLen sCap,cy]).run P w=(sQ e m ZV n (Builtin.firstCells m n cy) base sLen sCap (.slice base sLen sCap) cy).run P w:=by
 have a0:(#[t,u]:Array XN)[0]?=ZC t:=rfl;have a1:(#[t,u]:Array XN)[1]?=ZC u:=rfl;have a2:(#[Value.slice base sLen sCap,cy]:Array XS)[0]?=ZC (.slice base sLen sCap):=rfl;have a3:(#[Value.slice base sLen sCap,cy]:Array XS)[1]?=ZC cy:=rfl;cases d
 case int k=>exact absurd W (hnd k)
 all_goals
  simp only[Builtin.append_,a0,a1,a2,a3,zak,zae hu,zai,fB hs,zae hd,zao,agO,hl];rfl
def ED {t u ty e:TypeId}{k:IntKind}{m by_ sLen sCap:Nat}{base:Option Addr}{k':IntKind}{n:Int}(hu:P.underlying t=some (.slice e))(hs:szT P e=some m)(hb:yQ P e=some by_)(hd:P.underlying u=some (.int k))
  (h0:0<=n) (h1:n<=most) (h2:n*by_<=most):
  (Builtin.append_ #[t,u] ty #[.slice base sLen sCap,.int k' n]).run P w=
   (sQ e m true n.toNat (if n.toNat*m=0 then pure #[]else do pure (Builtin.zeroCells (<-zeroValue e).cells n.toNat)) base sLen sCap (.slice base sLen sCap) (.int k' n)).run P w:=by
 have a0:(#[t,u]:Array TypeId)[0]?=some t:=rfl;have a1:(#[t,u]:Array TypeId)[1]?=some u:=rfl;have a2:(#[Value.slice base sLen sCap,.int k' n]:Array Value)[0]?=some (.slice base sLen sCap):=rfl;have a3:(#[Value.slice base sLen sCap,.int k' n]:Array Value)[1]?=some (.int k' n):=rfl;have hw:IntKind.i64.wrap n=n:=by rw[IntKind.wrap_i64];unfold most at h1;omega
 have ajL:∃i,P.info? e=some i/\i.bytes=by_:=by
  unfold yQ at hb;cases hi:P.info? e with
  |none=>simp[hi]at hb
  |some i=>simp[hi]at hb;exact⟨i,rfl,hb⟩
 obtain⟨i,hi,rfl⟩:=ajL;have hn:¬n<0:=V
 have hnb:¬n*(i.bytes:Int) > 2 ^ 48:=by unfold most at h2;omega
 simp only[-eq_self,Builtin.append_,a0,a1,a2,a3,Sem.run_bind,run_underlying hu,Result.andThen_ok,fB hs,run_underlying hd,Sem.run_pure,amr,asInt,asIntOf,hw,hn,if_false,EM hi,hnb];rfl
end
section
variable {P:Program}{ρ:Ren}{H H':ah}{w:World}{v:AV}
def ZT {e:XN}{b:Nat}(h:yQ P e=ZC b):∃i,P.info? e=ZC i/\i.bytes=b:=by
 unfold yQ at h;cases hi:P.info? e with
 |none=>simp[hi]at h
 |some i=>simp[hi]at h;exact⟨i,W,h⟩
def VI {e:XN}{m n by_ sLen sCap:Nat}{zeros:Bool}{appended:Sem (Array XS)}{base:M Addr}{s x zv:XS}{old arr:Array XS}(hb:yQ P e=ZC by_)(o:zZ P e=ZC zv)
  (k:¬sLen+n<=sCap) (d:sLen+n<=most) (b:(sLen+n)*by_<=most) (g:(Builtin.firstCells m sLen s).run P w.drew=.ok old w.drew) (j:appended.run P w.drew=.ok arr w.drew):
  ∃c,sLen+n<=c/\(sQ e m zeros n appended base sLen sCap s x).run P w=
   .ok (.slice (ZC ⟨w.heap.size,0,Z1⟩) (sLen+n) c) (w.drew.alloc (.cells (old++arr++Builtin.zeroCells zv.cells (c-(sLen+n))) e)):=by
 obtain⟨i,hi,rfl⟩:=ZT hb;unfold most at d b;have p:¬(((sLen+n:Nat):Int) > IntKind.i64.max/\((zeros:Prop)∨i.bytes=0)):=by
  rintro⟨h,_⟩;rw[IntKind.max_i64]at h;omega
 have q:¬Builtin.nextslicecap (sLen+n) sCap*i.bytes > 2 ^ 48:=by
  have:=growslice_fits (need:=sLen+n) (old:=sCap) (bytes:=i.bytes) V b;omega
 have u:(Question.appendCap (sLen+n) sCap e).forced=false:=rfl;refine⟨(Question.appendCap (sLen+n) sCap e).cut (w.tape w.drawn (Question.appendCap (sLen+n) sCap e)),by simp[Question.cut],?_⟩;simp only[sQ,F k,zak,EM hi,zai,F p,F q,zao,run_choose,u,agO,run_askRoom,World.drew_eq,g,j,gV o,newRow,run_newObj,World.alloc_eq];rfl
def EP(R:Rel ρ H w){r g off h len cap:Nat}{ex:Bool}{ty:XN}{cells:Q AV}{m:XS}(n:RV ρ H.gen w (.sl r g off h len cap ex) m)(p:H.get r=.blk g ty cells):
  ∃b o c sh cs e,m=.slice (ZC ⟨b,o,Z1⟩) len c/\len<=cap/\cap<=c/\(ex=Z0->c=cap)/\ρ r=ZC (b,sh)/\(0<c->o=sh+off)/\w.heap[b]?=ZC (.cells cs e (0,0))/\o+c*h<=cs.size/\
   sh+cells.length<=cs.size/\RVc ρ H.gen w cells b sh:=by
 simp only[RV]at n;obtain⟨b,o,c,rfl,y,z,A,F,C⟩:=n;have⟨sh,D,k,q,i,d,u⟩:=C (by simp[ah.gen,p,gG.gen]);have v:=R.obj r b sh q;simp only[yP,p]at v;have⟨cs,e,hb,E,j,_⟩:=v;have:cs.size=k:=by
  rw[fE,hb]at d;simp[DT]at d;exact d.2
 exact⟨b,o,c,sh,cs,e,W,y,z,A,q,i,hb,V,E,j⟩
def yR(R:Rel ρ H w){e:TypeId}{m n by_:Nat}{zeros:Bool}{appended:Sem (Array Value)}{x:AV}{cx cy zv:Value}{new:List AV}(hs:szT P e=some m)(hb:yQ P e=some by_)(hz:zZ P e=some zv)(af:zv.cells.size=m)
  (hx:RV ρ H.gen w x cx) (z:∀w',w'=w∨w'=w.drew->∃arr:Array Value,appended.run P w'=.ok arr w'/\RVs ρ H.gen w' new arr.toList)
  (h:dV e m by_ x n new H=some (v,H')):
  ∃base sLen sCap,cx=.slice base sLen sCap/\Ok P ρ H w (sQ e m zeros n appended base sLen sCap cx cy) v H':=by
 unfold dV at h;split at h <;> try(cases h;done)
 rename_i ag;obtain⟨j,L⟩:=ag;split at h
 ·-- nil
  simp only[RV]at hx;subst hx;refine⟨none,0,0,rfl,?_⟩;by_cases h0:n=0
  ·subst h0;simp only[if_true,Option.some.injEq,Prod.mk.injEq]at h;obtain⟨rfl,rfl⟩:=h;obtain⟨arr,ha,_⟩:=z w (.inl rfl);refine OkP.ok ⟨.slice none 0 0,?_,by simp only[RV]⟩ R;simp[sQ,ha]
  ·rw[if_neg h0]at h;split at h <;> try(cases h;done)
   rename_i F;simp only[Option.some.injEq,Prod.mk.injEq]at h;obtain⟨rfl,rfl⟩:=h;obtain⟨arr,ha,Q⟩:=z w.drew (.inr rfl);obtain⟨c,hc,q⟩:=VI (P:=P) (w:=w) (e:=e) (m:=m) (n:=n) (by_:=by_) (sLen:=0) (sCap:=0) (zeros:=zeros) (appended:=appended) (base:=none) (s:=.slice none 0 0) (x:=cy) (zv:=zv) (old:=#[]) (arr:=arr) hb hz (by omega) (by omega) (by simpa using F.2) (by simp[Builtin.firstCells]) ha;have p:=dO Q;rw[bP,j]at p;obtain⟨ρ',q1,q2,q3⟩:=uP (ty:=e+gW) (hX:=Xct.grown) (e:=e) (cells:=new) (cs:=#[]++arr++Builtin.zeroCells zv.cells (c-(0+n))) (m:=m) (len:=n) (cap:=n) (c:=c) (ex:=false) R.drew
    (by
     have:(#[]++arr++Builtin.zeroCells zv.cells (c-(0+n))).toList.take new.length=arr.toList:=by
      rw[j,<-p];simp
     rw[this];exact Q) (by rw[j];simp[p]) (Nat.le_refl _) (by omega) (by simp) (by
     have h3:(Builtin.zeroCells zv.cells (c-(0+n))).size=(c-n)*m:=by simp[Builtin.zeroCells,af]
     rw[Array.size_append,h3];simp only[Array.size_append,List.size_toArray,List.length_nil,p];rw[Nat.zero_add,<-Nat.add_mul];have:n+(c-n)=c:=by omega
     rw[this];exact Nat.le_refl _)
   refine⟨_,ρ',_,q,q1,?_,(Ext.drew ρ H w).trans q3⟩
   simpa using q2
 ·rename_i r g off d len cap ex;split at h <;> try(cases h;done)
  rename_i g' ty cells ho;split at h <;> try(cases h;done)
  rename_i F;obtain⟨rfl,rfl,ax⟩:=F;have az:=EP R hx ho;obtain⟨b,o,c,T,cs,e',aD,q1,q2,q3,Q,ai,y,al,aE,am⟩:=az;subst aD;refine⟨some ⟨b,o,none⟩,len,c,rfl,?_⟩;have a3:H.gen r=g':=by simp[ah.gen,ho,gG.gen]
  have W:∀w',(w'=w∨w'=w.drew)->∃arr:Array Value,(Builtin.firstCells d len (.slice (some ⟨b,o,none⟩) len c)).run P w'=.ok arr w'/\RVs ρ H.gen w' ((cells.drop off).take (len*d)) arr.toList:=by
   intro w' ao;have R':Rel ρ H w':=by
    rcases ao with rfl|rfl
    ·exact R
    ·exact R.drew
   have aL:RV ρ H.gen w' (.sl r g' off d len cap ex) (.slice (some ⟨b,o,none⟩) len c):=by
    rcases ao with rfl|rfl
    ·exact hx
    ·exact R.keep (Ext.drew ρ H w) hx
   exact(jQ (P:=P) (m:=d) R' aL rfl (by simp[cZ,ho,ax]) (by simp;omega)).2
  by_cases h0:n=0
  ·subst h0;simp only[if_true,Option.some.injEq,Prod.mk.injEq]at h;obtain⟨rfl,rfl⟩:=h;obtain⟨arr,ha,k⟩:=z w (.inl rfl);have ap:arr.toList=[]:=by
    have:=dO k;rw[j]at this
    simpa using this
   refine OkP.ok ⟨.slice (some ⟨b,o,none⟩) len c,?_,hx⟩ R;simp[sQ,ha,ap,storeCells,show len<=c by omega]
  ·rw[if_neg h0]at h;by_cases X:len+n<=cap
   ·rw[if_pos X]at h;split at h <;> try(cases h;done)
    rename_i aq;simp only[Option.some.injEq,Prod.mk.injEq]at h;obtain⟨rfl,rfl⟩:=h;obtain⟨arr,ha,k⟩:=z w (.inl rfl);have p:=dO k;rw[j]at p;have G:o=T+off:=ai (by omega);have ab:(len+n)*d=len*d+n*d:=Nat.add_mul _ _ _;have M:=kE (P:=P) (o:=o+len*d) arr.toList w cs 0 y (by
     rw[p];have:(len+n)*d<=c*d:=Nat.mul_le_mul_right _ (by omega);omega) (qF L k)
    have kX:Xct ty e' T cs.size cells.length:=by
     have tV:=R.obj r b T Q;simp only[yP,ho]at tV;obtain⟨aM,e2,k1,_,_,k4⟩:=tV;rw[y]at k1;cases k1;exact k4
    have C:=GL (hX:=by rw[eX,jg _ _ _ (by rw[j];omega)];exact kX) (ty':=ty) (cells':=aI cells (off+len*d) new) (cs':=lC cs (o+len*d) arr.toList) (g':=g') (sh':=T) R Q y (eX _ _ _) (by omega) (λ_=>rfl)
     (by rw[jg _ _ _ (by rw[j];omega)];exact aE) (by
      intro i u K;rw[wH _ _ _ (by rw[j];omega)]at K;rw[lX _ _ _ _ (by rw[p];omega),p];by_cases hi:off+len*d<=i/\i<off+len*d+new.length
      ·rw[if_pos hi]at K;rw[j]at hi;rw[if_pos (by omega),show T+i-(o+len*d)=i-(off+len*d)from by omega];exact jP k K
      ·rw[if_neg hi]at K;rw[j]at hi;rw[if_neg (by omega)];exact wG y am K)
    refine⟨.slice (some ⟨b,o,none⟩) (len+n) c,_,_,?_,C.1,?_,C.2⟩
    ·simp only[sQ,if_pos (show len+n<=c by omega),Sem.run_bind,ha,Result.andThen_ok,jW];simp only[Nat.add_zero]at M;simp[M]
    ·simp only[RV];refine⟨b,o,c,rfl,X,q2,q3,?_,λ_=>⟨T,e',cs.size,by simp[updρ],λ_=>G,?_,al⟩⟩
     ·rw[uN];simp[gG.gen]
     ·rw[fE,lW (nX y)];simp[DT,eX]
   ·rw[if_neg X]at h;split at h <;> try(cases h;done)
    rename_i aq;obtain⟨aR,a0⟩:=aq;have ab:(len+n)*d=len*d+n*d:=Nat.add_mul _ _ _;have D:((cells.drop off).take (len*d)).length=len*d:=by simp;omega
    -- the way that makes a new row
    have ad:¬len+n<=c->∃c' old arr,len+n<=c'/\(sQ e d zeros n appended (some ⟨b,o,none⟩) len c (.slice (some ⟨b,o,none⟩) len c) cy).run P w=
      .ok (.slice (some ⟨w.heap.size,0,none⟩) (len+n) c') (w.drew.alloc (.cells (old++arr++Builtin.zeroCells zv.cells (c'-(len+n))) e))/\RVs ρ H.gen w.drew ((cells.drop off).take (len*d)) old.toList/\RVs ρ H.gen w.drew new arr.toList:=by
     intro a1;obtain⟨old,ar,E⟩:=W w.drew (.inr rfl);obtain⟨arr,ha,k⟩:=z w.drew (.inr rfl);obtain⟨c',A,q⟩:=VI (P:=P) (w:=w) (e:=e) (m:=d) (n:=n) (by_:=by_) (sLen:=len) (sCap:=c) (zeros:=zeros) (appended:=appended) (base:=some ⟨b,o,none⟩) (s:=.slice (some ⟨b,o,none⟩) len c) (x:=cy) (zv:=zv) (old:=old) (arr:=arr) hb hz a1 aR a0 ar ha;exact⟨c',old,arr,A,q,E,k⟩
    have whole:∀(c':Nat) (old arr:Array Value),len+n<=c'->RVs ρ H.gen w.drew ((cells.drop off).take (len*d)) old.toList->RVs ρ H.gen w.drew new arr.toList->
      RVs ρ H.gen w.drew ((cells.drop off).take (len*d)++new) ((old++arr++Builtin.zeroCells zv.cells (c'-(len+n))).toList.take ((cells.drop off).take (len*d)++new).length)/\
      ((cells.drop off).take (len*d)++new).length<=(old++arr++Builtin.zeroCells zv.cells (c'-(len+n))).size/\c'*d<=(old++arr++Builtin.zeroCells zv.cells (c'-(len+n))).size:=by
     intro c' old arr A E k;have l1:=dO E;have l2:=dO k;rw[D]at l1;rw[j]at l2;have h3:(Builtin.zeroCells zv.cells (c'-(len+n))).size=(c'-(len+n))*d:=by simp[Builtin.zeroCells,af]
     have hsz:(old++arr++Builtin.zeroCells zv.cells (c'-(len+n))).size=c'*d:=by
      rw[Array.size_append,Array.size_append,h3,<-bP old,<-bP arr,l1,l2,<-Nat.add_mul,<-Nat.add_mul]
      congr 1;omega
     refine⟨?_,?_,by rw[hsz];exact Nat.le_refl _⟩
     ·have:(old++arr++Builtin.zeroCells zv.cells (c'-(len+n))).toList.take ((cells.drop off).take (len*d)++new).length=old.toList++arr.toList:=by
       have a2:((cells.drop off).take (len*d)++new).length=(old.toList++arr.toList).length:=by
        rw[List.length_append,List.length_append,l1,l2,D,j]
       rw[a2,Array.toList_append,Array.toList_append,List.take_left]
      rw[this];exact qm E k
     ·rw[hsz,List.length_append,D,j,<-ab];exact Nat.mul_le_mul_right _ A
    by_cases ae:ex=true
    ·rw[if_pos ae]at h;simp only[Option.some.injEq,Prod.mk.injEq]at h;obtain⟨rfl,rfl⟩:=h;obtain⟨c',old,arr,A,q,E,k⟩:=ad (by rw[q3 ae];exact X);obtain⟨w1,w2,w3⟩:=whole c' old arr A E k;obtain⟨ρ',p1,p2,p3⟩:=uP (ty:=e+gW) (hX:=Xct.grown) (e:=e) (m:=d) (len:=len+n) (cap:=len+n) (c:=c') (ex:=false) R.drew w1 w2 (Nat.le_refl _) A (by simp) w3;refine⟨_,ρ',_,q,p1,?_,(Ext.drew ρ H w).trans p3⟩
     simpa using p2
    ·rw[if_neg ae]at h;split at h <;> try(cases h;done)
     simp only[Option.some.injEq,Prod.mk.injEq]at h;obtain⟨rfl,rfl⟩:=h;by_cases hc:len+n<=c
     ·-- in place
      obtain⟨arr,ha,k⟩:=z w (.inl rfl);have p:=dO k;rw[j]at p;have G:o=T+off:=ai (by omega);have a4:(len+n)*d<=c*d:=Nat.mul_le_mul_right _ hc;have M:=kE (P:=P) (o:=o+len*d) arr.toList w cs 0 y (by rw[p];omega) (qF L k);have kX:Xct ty e' T cs.size cells.length:=by
       have tV:=R.obj r b T Q;simp only[yP,ho]at tV;obtain⟨aM,e2,k1,_,_,k4⟩:=tV;rw[y]at k1;cases k1;exact k4
      have C:=GL (hX:=by rw[G];exact ajG (uM hz) kX) (ty':=grT e ty off) (cells':=(cells.drop off).take (len*d)++new) (cs':=lC cs (o+len*d) arr.toList) (g':=g'+1) (sh':=o) R Q y (eX _ _ _) (by omega) (λhh=>by omega)
       (by rw[List.length_append,D,j];omega) (by
        intro i u K;rw[List.getElem?_append,D]at K;rw[lX _ _ _ _ (by rw[p];omega),p];by_cases hi:i<len*d
        ·rw[if_pos hi,List.getElem?_take,if_pos hi,List.getElem?_drop]at K;rw[if_neg (by omega),G,Nat.add_assoc];exact wG y am K
        ·rw[if_neg hi]at K;have a5:i-len*d<n*d:=by
          rw[<-j];exact(List.getElem?_eq_some_iff.1 K).1
         rw[if_pos (by omega),show o+i-(o+len*d)=i-len*d from by omega];exact jP k K)
      refine⟨.slice (some ⟨b,o,none⟩) (len+n) c,_,_,?_,C.1,?_,C.2⟩
      ·simp only[sQ,if_pos hc,Sem.run_bind,ha,Result.andThen_ok,jW];simp only[Nat.add_zero]at M;simp[M]
      ·simp only[RV];refine⟨b,o,c,rfl,Nat.le_refl _,hc,by simp,?_,λ_=>⟨o,e',cs.size,by simp[updρ],λ_=>rfl,?_,al⟩⟩
       ·rw[uN];simp[gG.gen]
       ·rw[fE,lW (nX y)];simp[DT,eX]
     ·-- a new row
      obtain⟨c',old,arr,A,q,E,k⟩:=ad hc;obtain⟨w1,w2,w3⟩:=whole c' old arr A E k;have aw:=aem (hX:=ajF) (r:=r) (g':=g'+1) (ty:=grT e ty off) (e:=e) (cells:=(cells.drop off).take (len*d)++new) R.drew (R.lt Q) Q (by omega) w2 (by
       intro i u K;obtain⟨cv,aa,h1⟩:=jP w1 K;rw[List.getElem?_take]at aa;split at aa
       ·exact⟨cv,by rw[<-Array.getElem?_toList];exact aa,h1⟩
       ·cases aa)
      refine⟨_,_,_,q,aw.1,?_,(Ext.drew ρ H w).trans aw.2⟩;simp only[RV];refine⟨w.heap.size,0,c',rfl,Nat.le_refl _,A,by simp,?_,λ_=>⟨0,e,_,by simp[updρ],λ_=>rfl,?_,by rw[Nat.zero_add];exact w3⟩⟩
      ·rw[uN];simp[gG.gen]
      ·rw[fE];have:(w.drew.alloc (.cells (old++arr++Builtin.zeroCells zv.cells (c'-(len+n))) e)).heap[w.heap.size]?=some (.cells (old++arr++Builtin.zeroCells zv.cells (c'-(len+n))) e):=kD w.drew _;rw[this];rfl
 ·cases h
end
section
variable {P:Program}{ρ:Ren}{H H':ah}{w:World}{v:AV}
def ZU(R:Rel ρ H w){t u ty:XN}{x y:AV}{X cy:XS}(hx:RV ρ H.gen w x X)(C:RV ρ H.gen w y cy)(h:MK P t u x y H=ZC (v,H')):Ok P ρ H w (Builtin.append_ #[t,u] ty #[X,cy]) v H':=by
 unfold MK at h;split at h <;> try(cases h;done)
 rename_i e d he hd;split at h <;> try(cases h;done)
 rename_i m by_ z F hb hz;split at h <;> try(cases h;done)
 rename_i j;obtain⟨zv,o,rfl⟩:=Ae hz;simp at j;split at h
 ·rename_i k;split at h <;> try(cases h;done)
  rename_i k' n;split at h <;> try(cases h;done)
  rename_i p;have⟨h0,h1,h2⟩:=p;simp only[RV]at C;subst C;have b:∀w',w'=w∨w'=w.drew->∃g:Array XS,(if n.toNat*m=0 then pure #[]else do pure (Builtin.zeroCells (<-zeroValue e).cells n.toNat):Sem (Array XS)).run P w'=.ok g w'/\RVs ρ H.gen w' (dM (zv.cells.toList.map .s) n.toNat) g.toList:=by
   intro w' _;by_cases G:n.toNat*m=0
   ·rw[YY G];have:dM (zv.cells.toList.map .s) n.toNat=[]:=List.eq_nil_of_length_eq_zero (by rw[jh];simp[j,G]);exact⟨#[],Z3,by rw[this];exact jD⟩
   ·rw[Ys G];exact⟨Builtin.zeroCells zv.cells n.toNat,by simp[gV o],wI zv n.toNat⟩
  obtain⟨base,D,E,rfl,q⟩:=yR (P:=P) (zeros:=Z0) (cy:=.int k' n) R F hb o j hx b h;have⟨cv,ρ',w',K,L,M,Q⟩:=q;exact⟨cv,ρ',w',by rw[ED (oO he) F hb hd h0 h1 h2];exact K,L,M,Q⟩
 ·rename_i T;split at h <;> try(cases h;done)
  rename_i n new W i;have A:new.length=n*m:=by
   unfold dV at h;split at h
   ·rename_i hc;exact hc.1
   ·cases h
  have hl:=(jQ (P:=P) R C W i A).1;have b:∀w',w'=w∨w'=w.drew->∃g:Array XS,(Builtin.firstCells m n cy).run P w'=.ok g w'/\RVs ρ H.gen w' new g.toList:=by
   rintro w' (rfl|rfl)
   ·exact(jQ (P:=P) R C W i A).2
   ·exact(jQ (P:=P) R.drew (R.keep (Ext.drew ρ H w) C) W i A).2
  obtain⟨base,D,E,rfl,q⟩:=yR (P:=P) (zeros:=ZV) (cy:=cy) R F hb o j hx b h;have⟨cv,ρ',w',K,L,M,Q⟩:=q;exact⟨cv,ρ',w',by rw[GU (oO he) F hd (λk hk=>T k hk) hl];exact K,L,M,Q⟩
def ajM(R:Rel ρ H w){ts:Array XN}{t ty:XN}{x y:AV}{cx cy:XS}(ht:ts[0]?=ZC t)(hx:RV ρ H.gen w x cx)(hy:RV ρ H.gen w y cy)(h:aea P t x y H=ZC (v,H')):Ok P ρ H w (Builtin.copy_ ts ty #[cx,cy]) v H':=by
 have a0:(#[cx,cy]:Array XS)[0]?=ZC cx:=rfl;have a1:(#[cx,cy]:Array XS)[1]?=ZC cy:=rfl;unfold aea at h;split at h <;> try(cases h;done)
 rename_i e he;split at h <;> try(cases h;done)
 rename_i m d n new hs hd hn hnew;simp only at h;split at h <;> try(cases h;done)
 rename_i hcond;have⟨hnl,hcell⟩:=hcond;have⟨hl,_⟩:=jQ (P:=P) R hy hn hnew hnl
 -- the aen length
 have hdst:∀{base:M Addr} {dl dc:Nat},cx=.slice base dl dc->dl=d:=by
  intro base dl dc hcx;subst hcx;unfold kL at hd;split at hd <;> try(cases hd;done)
  ·simp only[RV]at hx;have⟨_,_,_,h1,_⟩:=hx;cases h1;cases hd;rfl
  ·simp only[RV]at hx;have⟨_,_,_,h1,_⟩:=hx;cases h1;cases hd;rfl
  ·simp only[RV]at hx;cases hx;cases hd;rfl
  ·simp only[RV]at hx;cases hx
 have first:∃arr:Array XS,(Builtin.firstCells m (min n d) cy).run P w=.ok arr w/\RVs ρ H.gen w (new.take (min n d*m)) arr.toList:=by
  -- the first cells of the source
  unfold kL at hn;split at hn <;> try(cases hn;done)
  ·rename_i r g off esz len cap ex;simp only[Option.some.injEq]at hn;subst hn;simp only[cZ]at hnew;split at hnew <;> try(cases hnew;done)
   rename_i g' ty' cells ho;split at hnew <;> try(cases hnew;done)
   rename_i hc2;obtain⟨rfl,hle⟩:=hc2;simp only[Option.some.injEq]at hnew;subst hnew;obtain⟨b,o,c,sh,cs,e',rfl,q1,q2,q3,hr,hoo,hbk,hcs,hz',hcc⟩:=EP R hy ho;have hlen:((cells.drop off).take (len*esz)).length=len*esz:=by simp;omega
   by_cases h0:min len d*m=0
   ·refine⟨#[],?_,by rw[h0];simp[RVs]⟩;simp[Builtin.firstCells,h0,loadCells,loadCellsFrom]
   ·have hpos:0<min len d:=Nat.pos_of_ne_zero λhh=>h0 (by rw[hh,Nat.zero_mul]);have ho':=hoo (by omega);have hcells:RVc ρ H.gen w (((cells.drop off).take (len*esz)).take (min len d*m)) b (sh+off):=uK _ (uK _ (rD _ hcc));have⟨l,hl',h1⟩:=mX (P:=P) hcells;have hll:(((cells.drop off).take (len*esz)).take (min len d*m)).length=min len d*m:=by
     rw[List.length_take,hnl];have:min len d*m<=len*m:=Nat.mul_le_mul_right _ (Nat.min_le_left _ _);omega
    rw[hll]at hl';exact⟨l.toArray,by simp only[Builtin.firstCells,ho'];exact hl',by simpa using h1⟩
  ·rename_i n' esz cells;simp only[Option.some.injEq]at hn;subst hn;simp only[cZ,Option.some.injEq]at hnew;subst hnew;simp only[RV]at hy;obtain⟨b,o,c,rfl,q1,q2,q3,q4,q5⟩:=hy;have⟨l,hl',h1⟩:=mX (P:=P) (uK (min n' d*m) q5);have hll:(cells.take (min n' d*m)).length=min n' d*m:=by
    rw[List.length_take,hnl];have:min n' d*m<=n'*m:=Nat.mul_le_mul_right _ (Nat.min_le_left _ _);omega
   rw[hll]at hl';exact⟨l.toArray,by simp only[Builtin.firstCells];exact hl',by simpa using h1⟩
  ·simp only[RV]at hy;subst hy;simp only[cZ,Option.some.injEq]at hnew;subst hnew;exact⟨#[],by simp[Builtin.firstCells],by simp[RVs]⟩
  ·rename_i s;simp only[Option.some.injEq]at hn;subst hn;simp only[RV]at hy;subst hy;simp only[cZ,Option.some.injEq]at hnew;subst hnew;refine⟨((s.extract 0 (min s.size d)).data.map λb=>.int .u8 b.toNat),by simp[Builtin.firstCells],?_⟩;have hm:m=1∨s.size=0:=by
    have h3:s.data.toList.length=s.size:=rfl;rw[List.length_map,h3]at hnl;rcases Nat.eq_zero_or_pos s.size with h|h
    ·exact .inr h
    ·left;rcases m with _|_|m
     ·rw[Nat.mul_zero]at hnl;omega
     ·rfl
     ·have:s.size*2<=s.size*(m+1+1):=Nat.mul_le_mul_left _ (by omega);omega
   have h2:((s.data.toList.map λb=>AV.s (.int .u8 b.toNat)).take (min s.size d*m))=(((s.extract 0 (min s.size d)).data.map λb=>Value.int .u8 b.toNat).toList).map .s:=by
    rcases hm with rfl|h0
    ·simp[ByteArray.data_extract,List.map_take];rfl
    ·have h3:s.data.toList=[]:=List.eq_nil_of_length_eq_zero h0;have h4:s.data=#[]:=by simpa using h3
     simp[ByteArray.data_extract,h4]
   rw[h2];exact iC _
 have⟨arr,ha,hra⟩:=first
 by_cases hk:min n d=0
 ·rw[YY hk]at h;split at h <;> try(cases h;done)
  rename_i hns;simp only[Option.some.injEq,zaa]at h;obtain⟨rfl,rfl⟩:=h;have harr:arr.toList=[]:=by
   have:=dO hra;rw[hk,Nat.zero_mul]at this
   simpa using this
  obtain⟨base,dl,dc,rfl⟩:∃base dl dc,cx=.slice base dl dc:=by
   unfold kL at hd;split at hd <;> try(cases hd;done)
   ·simp only[RV]at hx;obtain⟨_,_,_,rfl,_⟩:=hx;exact⟨_,_,_,W⟩
   ·simp only[RV]at hx;obtain⟨_,_,_,rfl,_⟩:=hx;exact⟨_,_,_,W⟩
   ·simp only[RV]at hx;subst hx;exact⟨_,_,_,W⟩
   ·exact(hns _ W).elim
  obtain rfl:=hdst W;refine OkP.ok ⟨.int .i64 0,?_,by simp only[RV]⟩ R;have hmin:Nat.min n dl=min n dl:=rfl;simp only[Builtin.copy_,ht,a0,a1,zak,zae (oO he),zai,hl,fB hs,hmin,ha];cases base with
  |none=>simp[goInt,hk]
  |some a=>simp[goInt,hk,harr,storeCells]
 ·rw[F hk]at h;split at h <;> try(cases h;done)
  rename_i r g off esz len cap ex;split at h <;> try(cases h;done)
  rename_i g' ty' cells ho;split at h <;> try(cases h;done)
  rename_i hc2;obtain⟨rfl,rfl,hbase,hle⟩:=hc2;simp only[Option.some.injEq,zaa]at h;obtain⟨rfl,rfl⟩:=h;obtain⟨b,o,c,sh,cs,e',rfl,q1,q2,q3,hr,hoo,hbk,hcs,hz',hcc⟩:=EP R hx ho;obtain rfl:=hdst W;have hgen:H.gen r=g':=by simp[ah.gen,ho,gG.gen]
  have hoff:o=sh+off:=hoo (by omega);have hal:=dO hra;have htl:(new.take (min n len*esz)).length=min n len*esz:=by
   rw[List.length_take,hnl];have:min n len*esz<=n*esz:=Nat.mul_le_mul_right _ (Nat.min_le_left _ _);omega
  rw[htl]at hal;have hml:min n len*esz<=len*esz:=Nat.mul_le_mul_right _ (Nat.min_le_right _ _);have hlc:len*esz<=c*esz:=Nat.mul_le_mul_right _ (by omega);have hcell':(new.take (min n len*esz)).all AV.aU=true:=by
   rw[List.all_eq_true]at hcell ⊢;intro a ha';exact hcell a (List.mem_of_mem_take ha')
  have hst:=kE (P:=P) (o:=o) arr.toList w cs 0 hbk (by rw[hal];omega) (qF hcell' hra);have kX:Xct ty' e' sh cs.size cells.length:=by
   have tV:=R.obj r b sh hr;simp only[yP,ho]at tV;have⟨cs2,e2,k1,_,_,k4⟩:=tV;rw[hbk]at k1;cases k1;exact k4
  have hput:=GL (hX:=by rw[eX,jg _ _ _ (by rw[htl];omega)];exact kX) (ty':=ty') (cells':=aI cells off (new.take (min n len*esz))) (cs':=lC cs o arr.toList) (g':=g') (sh':=sh) R hr hbk (eX _ _ _) (by omega) (λ_=>rfl)
   (by rw[jg _ _ _ (by rw[htl];omega)];exact hz') (by
    intro i u hu;rw[wH _ _ _ (by rw[htl];omega),htl]at hu;rw[lX _ _ _ _ (by rw[hal];omega),hal];by_cases hi:off<=i/\i<off+min n len*esz
    ·rw[YY hi]at hu;rw[YY (by omega),show sh+i-o=i-off from by omega];exact jP hra hu
    ·rw[F hi]at hu;rw[F (by omega)];exact wG hbk hcc hu)
  refine⟨.int .i64 ((min n len:Nat):Int),_,_,?_,hput.1,by simp only[RV],hput.2⟩;have hmin:Nat.min n len=min n len:=rfl;simp only[Nat.add_zero]at hst;simp only[Builtin.copy_,ht,a0,a1,zak,zae (oO he),zai,hl,fB hs,hmin,ha,hst,zao,goInt]
def aeo(R:Rel ρ H w){t ty:XN}{x:AV}{M:XS}(C:RV ρ H.gen w x M)(h:VF P t x H=ZC (v,H')):Ok P ρ H w (Builtin.clear_ #[t] ty #[M]) v H':=by
 have a0:(#[t]:Array XN)[0]?=ZC t:=rfl;have a1:(#[M]:Array XS)[0]?=ZC M:=rfl;unfold VF at h;split at h <;> try(cases h;done)
 rename_i e Q;split at h <;> try(cases h;done)
 ·rename_i m z r g off d len am ex hs hz;obtain⟨zv,T,rfl⟩:=Ae hz;by_cases h0:len=0
  ·subst h0;simp only[zad,Option.some.injEq,zaa]at h;obtain⟨rfl,rfl⟩:=h;simp only[RV]at C;obtain⟨b,o,c,rfl,_⟩:=C;refine OkP.ok ⟨.tuple #[],?_,by simp only[RV];exact⟨_,Z3,jD⟩⟩ R;simp[Builtin.clear_,zae (oO Q)]
  ·rw[Ys h0]at h;split at h <;> try(cases h;done)
   rename_i g' ty' cells W;split at h <;> try(cases h;done)
   rename_i X;obtain⟨rfl,rfl,aa,D,A,ao⟩:=X;simp only[Option.some.injEq,zaa]at h;obtain⟨rfl,rfl⟩:=h;simp at D;obtain⟨b,o,c,E,cs,e',rfl,q1,q2,q3,hr,ab,j,ap,ad,ae⟩:=EP R C W;have ai:H.gen r=g':=by simp[ah.gen,W,gG.gen]
   have al:o=E+off:=ab V;have aq:len*d<=c*d:=Nat.mul_le_mul_right _ V;have p:=wI (ρ:=ρ) (G:=H.gen) (w:=w) zv len;have af:((Array.range (len*zv.cells.size)).map (zv.cells[· % zv.cells.size]!))=Builtin.zeroCells zv.cells len:=rfl;rw[af]at p;have F:(dM (zv.cells.toList.map .s) len).length=len*d:=by rw[jh];simp[D]
   have q:=dO p;rw[F]at q;have ag:(dM (zv.cells.toList.map .s) len).all AV.aU=true:=by
    have key:∀n,(dM (zv.cells.toList.map .s) n).all AV.aU=true:=by
     intro n
     induction n with
     |zero=>rfl
     |succ n ih=>simp only[dM,List.all_append,ih,A,Bool.and_self]
    exact key len
   have K:=kE (P:=P) (o:=o) (Builtin.zeroCells zv.cells len).toList w cs 0 j (by rw[q];omega) (qF ag p);have kX:Xct ty' e' E cs.size cells.length:=by
    have tV:=R.obj r b E hr;simp only[yP,W]at tV;have⟨ar,e2,k1,_,_,k4⟩:=tV;rw[j]at k1;cases k1;exact k4
   have y:=GL (hX:=by rw[eX,jg _ _ _ (by rw[F];omega)];exact kX) (ty':=ty') (cells':=aI cells off (dM (zv.cells.toList.map .s) len)) (cs':=lC cs o (Builtin.zeroCells zv.cells len).toList) (g':=g') (sh':=E) R hr j (eX _ _ _) V (λ_=>rfl)
    (by rw[jg _ _ _ (by rw[F];omega)];exact ad) (by
     intro i u L;rw[wH _ _ _ (by rw[F];omega),F]at L;rw[lX _ _ _ _ (by rw[q];omega),q];by_cases hi:off<=i/\i<off+len*d
     ·rw[YY hi]at L;rw[YY V,show E+i-o=i-off from by omega];exact jP p L
     ·rw[Ys hi]at L;rw[Ys V];exact wG j ae L)
   refine⟨.tuple #[],_,_,?_,y.1,by simp only[RV];exact⟨_,Z3,jD⟩,y.2⟩;simp only[Nat.add_zero]at K;obtain⟨len,rfl⟩:∃k,len=k+1:=⟨len-1,V⟩
   simp only[Builtin.clear_,a0,a1,zak,zae (oO Q),zai,gV T,K,zao]
 ·simp only[Option.some.injEq,zaa]at h;obtain⟨rfl,rfl⟩:=h;simp only[RV]at C;subst C;refine OkP.ok ⟨.tuple #[],?_,by simp only[RV];exact⟨_,Z3,jD⟩⟩ R;simp[Builtin.clear_,zae (oO Q)]
end
section
variable {P:Program}{ρ:Ren}{H H':ah}{w:World}{v:AV}
def y9 {G:Nat->Nat}:∀(xs:Q AV) (l:Q XS) (d:Q Int),RVs ρ G w xs l->oL xs=ZC d->l=d.map (Value.int .u8)
 |[],l,d,h,b=>by
  simp only[RVs]at h;subst h;simp only[oL,Option.some.injEq]at b;subst b;rfl
 |x::xs,l,d,h,b=>by
  obtain⟨y,i,rfl,g,j⟩:=(by simpa only[RVs]using h)
  simp only[oL]at b;split at b <;> try(cases b;done)
  split at b <;> try(cases b;done)
  rename_i k e;simp only[Option.some.injEq]at b;subst b;simp only[RV]at g;subst g;rw[y9 xs i k j e];rfl
def ams(R:Rel ρ H w){x:AV}{q:XS}{s:ByteArray}(e:RV ρ H.gen w x q)(h:al9 x ((bT x).map H.get)=ZC s):(Conv.bytesToString q).run P w=.ok (.string s) w/\∃a l c,q=.slice a l c:=by
 unfold al9 at h;split at h <;> try(cases h;done)
 ·rename_i r g off u len v ex;split at h <;> try(cases h;done)
  rename_i y;subst y;split at h <;> try(cases h;done)
  rename_i g' G cells E;simp only[bT,Option.map_some,Option.some.injEq]at E;split at h <;> try(cases h;done)
  rename_i i;obtain⟨rfl,z⟩:=i;cases hb:oL ((cells.drop off).take (len*1))with
  |none=>rw[hb]at h;cases h
  |some j=>
   simp only[hb,Option.map_some,Option.some.injEq]at h;subst h;have hc:cZ H (.sl r g' off 1 len v ex)=ZC ((cells.drop off).take (len*1)):=by simp only[cZ,E];rw[YY ⟨zac,z⟩]
   have p:((cells.drop off).take (len*1)).length=len*1:=by simp;omega
   have⟨_,A,ha,k⟩:=jQ (P:=P) (m:=1) R e W hc p;have d:=y9 _ _ j k hb;simp only[RV]at e;obtain⟨b,o,c,rfl,_⟩:=e;have C:(loadCells ⟨b,o,Z1⟩ len).run P w=.ok (j.map (Value.int .u8)).toArray w:=by
    simp only[Builtin.firstCells,Nat.mul_one]at ha;rw[ha,<-d]
   exact⟨run_bytesToString w ⟨b,o,Z1⟩ len c j C,_,_,_,W⟩
 ·rename_i n u cells;split at h <;> try(cases h;done)
  rename_i y;subst y;cases hb:oL cells with
  |none=>simp[hb]at h
  |some j=>
   simp only[hb,Option.map_some,Option.some.injEq]at h;subst h;have D:=e;simp only[RV]at e;obtain⟨b,o,c,rfl,K,F,_⟩:=e;have⟨_,A,ha,k⟩:=jQ (P:=P) (m:=1) R D W W F;have d:=y9 _ _ j k hb;have C:(loadCells ⟨b,o,Z1⟩ n).run P w=.ok (j.map (Value.int .u8)).toArray w:=by
    simp only[Builtin.firstCells,Nat.mul_one]at ha;rw[ha,<-d]
   exact⟨run_bytesToString w ⟨b,o,Z1⟩ n c j C,_,_,_,W⟩
 ·simp only[Option.some.injEq]at h;subst h;simp only[RV]at e;subst e;exact⟨by simp[Conv.bytesToString],_,_,_,W⟩
def Yj {src dst:XN}(h:Gw P src dst=Z0):∃e,P.underlying src=ZC (.slice e)/\P.underlying dst=ZC .string/\P.underlying e=ZC (.int .u8):=by
 unfold Gw at h;split at h <;> try(cases h;done)
 rename_i e b hd;split at h <;> try(cases h;done)
 rename_i d;exact⟨e,b,hd,d⟩
def Yk(R:Rel ρ H w){src dst:XN}{x:AV}{g:XS}(j:RV ρ H.gen w x g)(h:kM P src dst x H=ZC (v,H')):H'=H/\OkP P ρ H.gen w (convert src dst g) v:=by
 have⟨k,m⟩:=uO h
 clear h
 subst m;have h:=k
 clear k
 refine⟨W,?_⟩;unfold Ac at h;split at h
 ·rename_i hb;have⟨e,n,hd,o⟩:=Yj hb;cases b:al9 x ((bT x).map H'.get)with
  |none=>simp[b]at h
  |some s=>
   simp only[b,Option.map_some,Option.some.injEq]at h;subst h;obtain⟨d,a,l,c,rfl⟩:=ams (P:=P) R j b;exact⟨.string s,by rw[run_convert_bytes_string w src dst e _ _ _ n o hd];exact d,by simp only[RV]⟩
 ·split at h <;> try(cases h;done)
  rename_i u p;rw[JZ x g u j p];cases i:je P (convert src dst u)with
  |none=>simp[i]at h
  |some r=>
   simp only[i,Option.map_some,Option.some.injEq]at h;subst h;exact⟨r,lY i w,by simp only[RV]⟩
def P8 {G:Nat->Nat}{x:AV}{g:XS}(e:RV ρ G w x g)(h:ay x=ZC v):v=x/\(match g with
  |.pointer none|.nilIface|.nilFunc=>(runtimePanic .nilDeref:Sem Next)
  |.func (.method name) first d=>
   match(first[0]?:M XS)with
   |some .nilIface=>runtimePanic .nilDeref
   |some (.iface t w)=>do
    if(<-nilAhead ((<-program).types.size+Made.depth) t w name) !=ZC ZV then
     unsupported (.noEntry "op/nilCheck.the method's receiver behind this interface value is a nil pointer, or cannot be seen to be none, and the arguments act or may panic (ledger 612)")
    pure (.value (.func (.method name) first d))
   |_=>pure (.value (.func (.method name) first d))
  |x=>pure (.value x)).run P w=.ok (.value g) w:=by
 unfold ay at h;split at h <;> try(cases h;done)
 all_goals
  simp only[Option.some.injEq]at h;subst h;refine⟨W,?_⟩;simp only[RV]at e
 ·obtain⟨a,rfl,_⟩:=e;rfl
 ·obtain⟨b,o,rfl,_⟩:=e;rfl
 ·obtain⟨a,c,rfl,_⟩:=e;rfl
 ·subst e;rfl
end
def qX(P:XX)(C:aA):Prop:=
 ∀f b H v H',C f b H=ZC (v,H')->∀(ρ:Ren) (w:Xs) (d:Array XS),Rel ρ H w->RVs ρ H.gen w b d.toList->
  Calls P f d w λe w'=>∃cv ρ',e=.returned cv/\Rel ρ' H' w'/\RV ρ' H'.gen w' v cv/\Ext ρ H w ρ' H' w'
section
variable {P:Program}{ρ:Ren}{H H':ah}{w:World}{v:AV}
def aep {o:Oper}{a:Act}{K:Act->Xs->Prop}{Q:Exit->Act->Xs->Prop}{s:Sem XS}{cv:XS}{w':Xs}(b:execOp a.eval o=(do pure (.value (<-s))))(d:s.run P w=.ok cv w')(hk:K (a.put o.dst cv) w'):
  o.wp P a w K Q:=by
 unfold Oper.wp;rw[b,zak,d];exact hk
def ajN {o:Oper}{a:Act}{K:Act->Xs->Prop}{Q:Exit->Act->Xs->Prop}{s:Sem Unit}{w':Xs}(b:execOp a.eval o=(do s;pure .skip))(d:s.run P w=.ok () w')(hk:K (a.put o.dst undef) w'):
  o.wp P a w K Q:=by
 unfold Oper.wp;rw[b,zak,d];exact hk
def ajO {o:Oper}{a:Act}{K:Act->Xs->Prop}{Q:Exit->Act->Xs->Prop}{s:Sem Next}{cv:XS}{w':Xs}(b:execOp a.eval o=s)(d:s.run P w=.ok (.value cv) w')(hk:K (a.put o.dst cv) w'):
  o.wp P a w K Q:=by
 unfold Oper.wp;rw[b,d];exact hk
def ER {G:Nat->Nat}:RV ρ G w aX undef:=by
 unfold aX undef;simp only[RV];exact⟨_,W,jD⟩
def CB {G:Nat->Nat}{t:gB}{a:Act}:∀(xs:Q Operand),(∀x∈xs,RV ρ G w (dR t x) (a.eval x))->RVs ρ G w (xs.map (dR t)) (xs.map a.eval)
 |[],_=>jD
 |x::xs,h=>jA (h x O) (CB xs λy b=>h y (by simp[b]))
def GV {G:Nat->Nat}{t:gB}{a:Act}{x:Option Operand}(h:∀y∈x.toArray,RV ρ G w (dR t y) (a.eval y)):TK ρ G w (x.map (dR t)) (x.map a.eval):=by
 cases x with
 |none=>trivial
 |some y=>exact h y O
def P9 {f:FuncId}{args:Array XS}(h:qB P f=Z0):(callFunc f args).run P w=.ok (.enter f args) w:=by
 unfold qB at h;cases d:P.funcs[f]? with
 |none=>simp[d]at h
 |some fn=>
  simp only[d,Bool.and_eq_true,Bool.not_eq_true']at h;have hb:fn.body.isNone=false:=by
   cases e:fn.body with
   |none=>simp[e]at h
   |some b=>rfl
  simp only[callFunc,zak,run_program,zai,d,h.1,Bool.false_eq_true,zaf,hb,zao]
def ajP {C:aA}(y:qX P C){o:Oper}{c:Call}{f:Operand}(n:o.op=.call c)(z:c.callee=.value f){a:Act}{K:Act->Xs->Prop}{Q:Exit->Act->Xs->Prop}{x:AV}{args:Z2 AV}(R:Rel ρ H w)
  (m:RV ρ H.gen w x (a.eval f)) (g:RVs ρ H.gen w args (c.args.map a.eval).toList) (h:qC P C x args H=ZC (v,H'))
  (A:∀cv ρ' w',Rel ρ' H' w'->RV ρ' H'.gen w' v cv->Ext ρ H w ρ' H' w'->K (a.put o.dst cv) w'):o.wp P a w K Q:=by
 have key:∀(d:FuncId) (first b:Array XS) (xs:Z2 AV),a.eval f=.func (.func d) first b->qB P d=Z0->C d xs H=ZC (v,H')->RVs ρ H.gen w xs (first++c.args.map a.eval++b).toList->o.wp P a w K Q:=by
  intro d first b xs j i hc p
  have k:(execOp a.eval o).run P w=.ok (.enter d (first++c.args.map a.eval++b)) w:=by
   unfold execOp;rw[n];simp only[resolve,z,j,Deferred.ofValue,zak,zao,zai,invoke];exact P9 i
  unfold Oper.wp;rw[k];refine(y d xs H v H' hc ρ w _ R p).mono λe w' D=>?_;obtain⟨cv,ρ',rfl,q,u,E⟩:=D;exact A cv ρ' w' q u E
 unfold qC at h;split at h <;> try(cases h;done)
 ·rename_i d first b
  split at h <;> try(cases h;done)
  rename_i i;simp only[RV]at m;have⟨F,ca,j,q,u⟩:=m;refine key d F ca _ j i h ?_;rw[Array.toList_append,Array.toList_append];exact qm (qm q g) u
 ·rename_i d first b
  split at h <;> try(cases h;done)
  rename_i i;simp only[RV]at m;refine key d first b _ m i h ?_
  rw[Array.toList_append,Array.toList_append];exact qm (qm (iC _) g) (iC _)
def uQ {α:Type}{x:M α}{u:α}(h:fU x H=ZC (u,H')):x=ZC u/\H'=H:=by
 unfold fU at h;cases x with
 |none=>cases h
 |some y=>simp only[Option.map_some,Option.some.injEq,zaa]at h;exact⟨by rw[h.1],h.2.symm⟩
def Yl(R:Rel ρ H w){b:Builtin}{p:Array XN}{ty:XN}{consts:Array Bool}{args:Q AV}{q:Array XS}(g:RVs ρ H.gen w args q.toList)(h:iW P b p ty args H=ZC (v,H')):
  ∃s:Sem XS,builtin b p ty consts q=(do pure (.value (<-s)))/\Ok P ρ H w s v H':=by
 have two:∀{x y:AV},args=[x,y]->∃i n,q=#[i,n]/\RV ρ H.gen w x i/\RV ρ H.gen w y n:=by
  intro x y o;subst o;obtain⟨i,l,e,j,m⟩:=(by simpa only[RVs]using g)
  obtain⟨n,E,A,C,D⟩:=(by simpa only[RVs]using m)
  subst A D;exact⟨i,n,Array.toList_inj.1 (by simpa using e),j,C⟩
 have one:∀{x:AV},args=[x]->∃i,q=#[i]/\RV ρ H.gen w x i:=by
  intro x o;subst o;obtain⟨i,l,e,j,m⟩:=(by simpa only[RVs]using g)
  subst m;exact⟨i,Array.toList_inj.1 (by simpa using e),j⟩
 have k:∀{l:Q XN},p.toList=l->p=l.toArray:=λh=>by rw[<-h]
 unfold iW at h;split at h
 ·rename_i t u x y d;obtain⟨i,n,rfl,j,m⟩:=two W;rw[k d];exact⟨_,W,ZU R j m h⟩
 ·rename_i t x d;obtain⟨i,rfl,j⟩:=one W;rw[k d];obtain⟨rfl,m⟩:=amo (ty:=ty) R j h;exact⟨_,W,m.ok R⟩
 ·rename_i t x d;obtain⟨i,rfl,j⟩:=one W;rw[k d];unfold fU at h;cases hc:agL P t x with
  |none=>simp[hc]at h
  |some u=>
   simp only[hc,Option.map_some,Option.some.injEq,zaa]at h;obtain⟨rfl,rfl⟩:=h;exact⟨_,W,(amq (ty:=ty) j hc).ok R⟩
 ·rename_i t z x y d;obtain⟨i,n,rfl,j,m⟩:=two W;exact⟨_,W,ajM R (by rw[k d];rfl) j m h⟩
 ·rename_i t x d;obtain⟨i,rfl,j⟩:=one W;rw[k d];exact⟨_,W,aeo R j h⟩
 ·rename_i t z x y d;obtain⟨i,n,rfl,j,m⟩:=two W;exact⟨_,W,ZR R (by rw[k d];rfl) j m h⟩
 ·obtain⟨hc,rfl⟩:=uQ h;have:=P7 g hc;simp only[zad]at this;exact⟨_,W,this.ok R⟩
 ·obtain⟨hc,rfl⟩:=uQ h;have:=P7 g hc;simp only[Bool.false_eq_true,zaf]at this;exact⟨_,W,this.ok R⟩
 ·cases h
def Nk {G:Nat->Nat}{t:gB}{a:Act}(ps:Array (Nat × Operand))(h:∀x∈(ps.toList.map (·.2)).toArray,RV ρ G w (dR t x) (a.eval x)):
  (ps.toList.map λp=>(p.1,dR t p.2)).map (·.1)=((ps.map λ(i,x)=>(i,a.eval x)).toList).map (·.1)/\RVs ρ G w ((ps.toList.map λp=>(p.1,dR t p.2)).map (·.2)) (((ps.map λ(i,x)=>(i,a.eval x)).toList).map (·.2)):=by
 refine⟨by simp[zaH],?_⟩;have b:(ps.toList.map λp=>(p.1,dR t p.2)).map (·.2)=(ps.toList.map (·.2)).map (dR t):=by simp[zaH]
 have d:((ps.map λ(i,x)=>(i,a.eval x)).toList).map (·.2)=(ps.toList.map (·.2)).map a.eval:=by simp[zaH]
 rw[b,d];exact CB _ λx e=>h x (by simpa using e)
def Nl {C:aA}(hC:qX P C){t:gB}{o:Oper}(h:opA P C t o H=ZC (v,H'))(R:Rel ρ H w){a:Act}(d:∀x∈o.op.operands,RV ρ H.gen w (dR t x) (a.eval x)){K:Act->Xs->Prop}{Q:Exit->Act->Xs->Prop}
  (hK:∀cv ρ' w',Rel ρ' H' w'->RV ρ' H'.gen w' v cv->Ext ρ H w ρ' H' w'->K (a.put o.dst cv) w'):o.wp P a w K Q:=by
 have⟨dst,op,q,u,after,guard⟩:=o;simp only at d hK;have TN:∀{s:Sem XS},execOp a.eval ⟨dst,op,q,u,after,guard⟩=(do pure (.value (<-s)))->Ok P ρ H w s v H'->(⟨dst,op,q,u,after,guard⟩:Oper).wp P a w K Q:=by
  intro s A D;have⟨cv,ρ',w',g,j,L,h4⟩:=D;exact aep A g (hK cv ρ' w' j L h4)
 have T:∀{s:Sem XS},execOp a.eval ⟨dst,op,q,u,after,guard⟩=(do pure (.value (<-s)))->H'=H->OkP P ρ H.gen w s v->(⟨dst,op,q,u,after,guard⟩:Oper).wp P a w K Q:=by
  intro s A hh D;subst hh;exact TN A (D.ok R)
 have aa:∀{s:Sem Unit},execOp a.eval ⟨dst,op,q,u,after,guard⟩=(do s;pure .skip)->(v=aX/\∃ρ' w',s.run P w=.ok () w'/\Rel ρ' H' w'/\Ext ρ H w ρ' H' w')->(⟨dst,op,q,u,after,guard⟩:Oper).wp P a w K Q:=by
  intro s A D;obtain⟨rfl,ρ',w',g,j,L⟩:=D;exact ajN A g (hK undef ρ' w' j ER L)
 have M:∀{s:Sem XS} {x:Z6 AV},execOp a.eval ⟨dst,op,q,u,after,guard⟩=(do pure (.value (<-s)))->fU x H=ZC (v,H')->(x=ZC v->OkP P ρ H.gen w s v)->(⟨dst,op,q,u,after,guard⟩:Oper).wp P a w K Q:=by
  intro s x A hl D;have⟨g,j⟩:=uQ hl;exact T A j (D g)
 have W:∀{x:Operand},op.operands=#[x]->RV ρ H.gen w (dR t x) (a.eval x):=λA=>d _ (by rw[A];simp);have i2:∀{x y:Operand},op.operands=#[x,y]->RV ρ H.gen w (dR t x) (a.eval x)/\RV ρ H.gen w (dR t y) (a.eval y):=λA=>⟨d _ (by rw[A];simp),d _ (by rw[A];simp)⟩
 have i3:∀{x y z:Operand},op.operands=#[x,y,z]->RV ρ H.gen w (dR t x) (a.eval x)/\RV ρ H.gen w (dR t y) (a.eval y)/\RV ρ H.gen w (dR t z) (a.eval z):=λA=>⟨d _ (by rw[A];simp),d _ (by rw[A];simp),d _ (by rw[A];simp)⟩
 cases op with
 |move x=>
  refine M (s:=pure (a.eval x)) Z3 h λp=>?_;cases p;exact⟨_,Z3,W Z3⟩
 |assign x=>
  refine M (s:=pure (a.eval x)) Z3 h λp=>?_;cases p;exact⟨_,Z3,W Z3⟩
 |pick c x y=>
  have⟨g,j,L⟩:=i3 Z3;refine M (s:=do pure (if<-asBool (a.eval c)then a.eval x else a.eval y)) ?_ h λp=>ajJ g j L p;simp[execOp]
 |alloc e=>exact TN Z3 (aeg R h)
 |box e x=>exact TN Z3 (aml R (W Z3) h)
 |build F ps=>
  have⟨g,j⟩:=Nk (ρ:=ρ) (w:=w) (G:=H.gen) (t:=t) (a:=a) ps d;exact M Z3 h λp=>aek g j p
 |buildSlice F n ps=>
  have⟨g,j⟩:=Nk (ρ:=ρ) (w:=w) (G:=H.gen) (t:=t) (a:=a) ps d;exact TN Z3 (MW R g j h)
 |load F x=>
  have⟨g,j⟩:=ZN R (W Z3) h;exact T Z3 g j
 |store F x y=>
  have⟨g,j⟩:=i2 Z3;exact aa Z3 (aef R g j h)
 |nilCheck x=>
  have⟨g,j⟩:=uQ h;subst j;obtain⟨rfl,L⟩:=P8 (P:=P) (W Z3) g;exact ajO Z3 L (hK _ ρ w R (W Z3) (Ext.refl _ _ _))
 |binOp b F x y ag=>
  have⟨g,j⟩:=i2 Z3;exact M Z3 h λp=>ajK g j (λhn=>by rw[PY hn];rfl) p
 |unOp b F x=>exact M Z3 h λp=>ar8 (W Z3) p
 |convert src dst x=>
  have⟨g,j⟩:=Yk R (W Z3) h;exact T Z3 g j
 |makeFunc f fs cs=>
  refine M (s:=Instr.makeFunc f (fs.map a.eval) (cs.map a.eval)) Z3 h λp=>?_;cases p;refine⟨_,Z3,?_⟩;simp only[RV];refine⟨_,_,Z3,?_,?_⟩
  ·rw[Array.toList_map];exact CB _ λx p=>d x (by simp[Op.operands];exact .inl (by simpa using p))
  ·rw[Array.toList_map];exact CB _ λx p=>d x (by simp[Op.operands];exact .inr (by simpa using p))
 |makeMap F r=>
  cases r with
  |none=>exact TN Z3 (Yi R h)
  |some r=>cases h
 |makeSlice F l c=>
  have⟨g,j⟩:=i2 Z3;exact TN Z3 (PZ R g j h)
 |slice F x lo hi mx=>
  have ab:RV ρ H.gen w (dR t x) (a.eval x):=d x (by simp[Op.operands]);have ad:TK ρ H.gen w (lo.map (dR t)) (lo.map a.eval):=GV λy X=>d y (by simp[Op.operands]at X ⊢;simp[X]);have ae:TK ρ H.gen w (hi.map (dR t)) (hi.map a.eval):=GV λy X=>d y (by simp[Op.operands]at X ⊢;simp[X]);have af:TK ρ H.gen w (mx.map (dR t)) (mx.map a.eval):=GV λy X=>d y (by simp[Op.operands]at X ⊢;simp[X]);exact M Z3 h λhh=>aej ab ad ae af hh
 |fieldAddr F x i=>exact M Z3 h λp=>PW (W Z3) p
 |field F x i=>exact M Z3 h λp=>aeh (W Z3) p
 |indexAddr F x i=>
  have⟨g,j⟩:=i2 Z3;have⟨L,h4⟩:=PX R g j h;exact T Z3 L h4
 |index F x i=>
  have⟨g,j⟩:=i2 Z3;exact M Z3 h λp=>aei g j p
 |lookup F x i ok=>
  have⟨g,j⟩:=i2 Z3;have⟨L,h4⟩:=ZQ R g j h;exact T Z3 L h4
 |mapUpdate F m k x=>
  have⟨g,j,L⟩:=i3 Z3;exact aa Z3 (P6 R g j L h)
 |extract x i=>exact M Z3 h λp=>Yg (W Z3) p
 |call c=>
  simp only[opA,wF]at h;split at h
  ·rename_i f TM;have E:RVs ρ H.gen w (c.args.toList.map (dR t)) (c.args.map a.eval).toList:=by
    rw[Array.toList_map];exact CB _ λx p=>d x (by simp[Op.operands,Call.operands,TM];exact .inr (by simpa using p))
   exact ajP hC Z3 TM R (d f (by simp[Op.operands,Call.operands,TM])) E h hK
  ·rename_i b TM;have E:RVs ρ H.gen w (c.args.toList.map (dR t)) (c.args.map a.eval).toList:=by
    rw[Array.toList_map];exact CB _ λx p=>d x (by simp[Op.operands,Call.operands,TM];simpa using p)
   have⟨s,g,j⟩:=Yl (P:=P) (consts:=c.args.map fun|.const _=>Z0|_=>ZV) R E h;refine TN (s:=s) ?_ j;rw[<-g];simp only[execOp,resolve,TM];rfl
  ·cases h
 |_=>cases h
end
def ZW(o e:gG):Prop:=∀g d c,o=.blk g d c->∃g' b c',e=.blk g' b c'/\(b=d∨gW<=b)
def ZW.refl(o:gG):ZW o o:=λg b c h=>⟨g,b,c,h,.inl W⟩
def ZW.trans {a b c:gG}(h:ZW a b)(i:ZW b c):ZW a c:=λg j cs e=>by
 have⟨k,m,n,o,k1⟩:=h g j cs e;have⟨p,q,u,v,d⟩:=i k m n o;refine⟨p,q,u,v,?_⟩;rcases d with rfl|d
 ·exact k1
 ·exact .inr d
def Af {o:gG}{g g' ty:Nat}{c c':Q AV}(h:o=.blk g ty c):ZW o (.blk g' ty c'):=λ_ _ _ e=>by
 rw[h]at e;cases e;exact⟨_,_,_,W,.inl W⟩
def VJ {o:gG}{g' ty':Nat}{c':Q AV}(h:gW<=ty'):ZW o (.blk g' ty' c'):=λ_ _ _ _=>⟨_,_,_,W,.inr h⟩
def VK {o b:gG}{k:IntKind}{es:Q (Int × AV)}(h:o=.map k es):ZW o b:=λ_ _ _ e=>by rw[h]at e;cases e
def VL {e ty off:Nat}:gW<=grT e ty off:=by
 unfold grT;split <;> omega
structure Keeps(H H':ah):Prop where
 base:H'.base=H.base
 next:H.next<=H'.next
 get:∀r,r<H.base->r<H.next->H'.get r=H.get r
 types:∀r,r<H.next->ZW (H.get r) (H'.get r)
def Keeps.refl(H:ah):Keeps H H:=⟨W,Nat.le_refl _,λ_ _ _=>rfl,λ_ _=>.refl _⟩
def Keeps.trans {H H' H'':ah}(a:Keeps H H')(b:Keeps H' H''):Keeps H H'':=
 ⟨b.base.trans a.base,Nat.le_trans a.next b.next,λr d e=>(b.get r (by rw[a.base];exact d) (Nat.lt_of_lt_of_le e a.next)).trans (a.get r d e),λr h=>(a.types r h).trans (b.types r (Nat.lt_of_lt_of_le h a.next))⟩
def Keeps.new(H:ah)(o:gG):Keeps H (H.new o):=⟨W,by simp[ah.new],λr _ h=>by simp[ah.new];intro e;omega,λr h=>by
 have:(H.new o).get r=H.get r:=by simp[ah.new];intro e;omega
 rw[this];exact .refl _⟩
def Keeps.put {H:ah}{r:Nat}(o:gG)(h:H.base<=r)(b:ZW (H.get r) o):Keeps H (H.put r o):=⟨W,Nat.le_refl _,λx d _=>by simp[ah.put];intro e;omega,λx _=>by
 by_cases e:x=r
 ·subst e;simp only[ah.put,zad];exact b
 ·simp only[ah.put,e,zaf];exact .refl _⟩
def kQ(C:aA):Prop:=∀f b H v H',C f b H=ZC (v,H')->Keeps H H'
def TP(H H':ah):Prop:=H'.base=H.base/\H.next<=H'.next/\∀r,r<H.next->H'.get r=H.get r
section
variable {P:Program}{C:aA}{t:gB}{o:Oper}{H H':ah}{v:AV}
def tX {e:XN}{m b n:Nat}{x:AV}{new:Q AV}(h:dV e m b x n new H=ZC (v,H')):Keeps H H':=by
 unfold dV at h;split at h <;> try(cases h;done)
 split at h <;> try(cases h;done)
 ·split at h
  ·simp only[Option.some.injEq,zaa]at h;rw[<-h.2];exact .refl _
  ·split at h <;> try(cases h;done)
   simp only[Option.some.injEq,zaa]at h;rw[<-h.2];exact .new _ _
 ·split at h <;> try(cases h;done)
  split at h <;> try(cases h;done)
  split at h
  ·simp only[Option.some.injEq,zaa]at h;rw[<-h.2];exact .refl _
  ·split at h
   ·split at h <;> try(cases h;done)
    rename_i hc;simp only[Option.some.injEq,zaa]at h;rw[<-h.2];exact .put _ hc.1 (by first|exact VJ VL|exact Af (by assumption))
   ·split at h <;> try(cases h;done)
    split at h
    ·simp only[Option.some.injEq,zaa]at h;rw[<-h.2];exact .new _ _
    ·split at h <;> try(cases h;done)
     rename_i hc;simp only[Option.some.injEq,zaa]at h;rw[<-h.2];exact .put _ hc (by first|exact VJ VL|exact Af (by assumption))
def Ym(A:rC o.op=Z0):∃F:Z6 gG->Z6 AV,(MN o.op=ZV->∀a b,F a=F b)/\∀H:ah,opA P C t o H=(F ((lM t o.op).map H.get)).map λv=>(v,H):=by
 have⟨dst,op,e,p,after,guard⟩:=o;have d:∀{x:Z6 AV},opA P C t ⟨dst,op,e,p,after,guard⟩=fU x->∃F:Z6 gG->Z6 AV,(MN op=ZV->∀a b,F a=F b)/\∀H:ah,opA P C t ⟨dst,op,e,p,after,guard⟩ H=(F ((lM t op).map H.get)).map λv=>(v,H):=
  λ{x} L=>⟨λ_=>x,λ_ _ _=>rfl,λH=>by rw[L];rfl⟩
 cases op with
 |move x=>exact d W
 |assign x=>exact d W
 |pick c a b=>exact d W
 |build q ps=>exact d W
 |nilCheck x=>exact d W
 |binOp b q x y M=>exact d W
 |unOp b q x=>exact d W
 |makeFunc f a c=>exact d W
 |slice q x lo hi T=>exact d W
 |fieldAddr q x i=>exact d W
 |field q x i=>exact d W
 |index q x i=>exact d W
 |extract x i=>exact d W
 |load q x=>exact⟨_,(λh=>by cases h),λH=>rfl⟩
 |lookup q x i ok=>exact⟨_,(λh=>by cases h),λH=>rfl⟩
 |indexAddr q x i=>exact⟨_,(λh=>by cases h),λH=>rfl⟩
 |convert src dst x=>exact⟨_,(λh=>by cases h),λH=>rfl⟩
 |call c=>
  have w:∀H,opA P C t ⟨dst,.call c,e,p,after,guard⟩ H=wF P C t c e H:=λ_=>rfl;simp only[rC]at A;cases D:c.callee with
  |value f=>simp[D]at A
  |invoke r m=>simp[D]at A
  |builtin b=>
   have hb:∀H,wF P C t c e H=iW P b c.argTypes e (c.args.toList.map (dR t)) H:=λH=>by simp only[wF,D]
   have g:(∀H,iW P b c.argTypes e (c.args.toList.map (dR t)) H=Z1)->∃F:Z6 gG->Z6 AV,(MN (.call c)=ZV->∀a b,F a=F b)/\∀H:ah,opA P C t ⟨dst,.call c,e,p,after,guard⟩ H=(F ((lM t (.call c)).map H.get)).map λv=>(v,H):=
    λG=>⟨λ_=>Z1,λ_ _ _=>rfl,λH=>by rw[w,hb,G];rfl⟩
   have k:∀x,(∀H,iW P b c.argTypes e (c.args.toList.map (dR t)) H=fU x H)->∃F:Z6 gG->Z6 AV,(MN (.call c)=ZV->∀a b,F a=F b)/\∀H:ah,opA P C t ⟨dst,.call c,e,p,after,guard⟩ H=(F ((lM t (.call c)).map H.get)).map λv=>(v,H):=
    λx G=>⟨λ_=>x,λ_ _ _=>rfl,λH=>by rw[w,hb,G];rfl⟩
   cases b with
   |len=>
    cases j:c.argTypes.toList with
    |nil=>exact g λH=>by simp only[iW,j]
    |cons u E=>
     cases E with
     |cons Q E=>exact g λH=>by simp only[iW,j]
     |nil=>
      cases n:c.args.toList with
      |nil=>exact g λH=>by simp only[iW,j,n,List.map_nil]
      |cons y K=>
       cases K with
       |cons z R=>exact g λH=>by simp only[iW,j,n,List.map_cons]
       |nil=>
        refine⟨ar5 P u (dR t y),(λh=>by simp[MN,D]at h),λH=>?_⟩;rw[w,hb];simp only[iW,j,n,List.map_cons,List.map_nil,ar6,kV,lM]
   |cap=>
    cases j:c.argTypes.toList with
    |nil=>exact g λH=>by simp only[iW,j]
    |cons u E=>
     cases E with
     |cons Q E=>exact g λH=>by simp only[iW,j]
     |nil=>
      cases n:c.args.toList with
      |nil=>exact g λH=>by simp only[iW,j,n,List.map_nil]
      |cons y K=>
       cases K with
       |cons z R=>exact g λH=>by simp only[iW,j,n,List.map_cons]
       |nil=>exact k (agL P u (dR t y)) λH=>by simp only[iW,j,n,List.map_cons,List.map_nil]
   |max=>exact k (kH P Z0 c.argTypes e (c.args.toList.map (dR t))) λH=>rfl
   |min=>exact k (kH P ZV c.argTypes e (c.args.toList.map (dR t))) λH=>rfl
   |_=>simp[D]at A
 |_=>cases A
def Np(j:rC o.op=Z0)(h:opA P C t o H=ZC (v,H')):H'=H/\∀b:ah,(MN o.op=Z0->∀r,lM t o.op=ZC r->b.get r=H.get r)->opA P C t o b=ZC (v,b):=by
 have⟨F,k,g⟩:=Ym (P:=P) (C:=C) (t:=t) j;rw[g]at h;cases d:F ((lM t o.op).map H.get)with
 |none=>rw[d]at h;cases h
 |some u=>
  rw[d]at h;simp only[Option.map_some,Option.some.injEq,zaa]at h;refine⟨h.2.symm,λb hw=>?_⟩;rw[g];have:F ((lM t o.op).map b.get)=F ((lM t o.op).map H.get):=by
   cases i:MN o.op with
   |false=>exact k i _ _
   |true=>
    cases e:lM t o.op with
    |none=>rfl
    |some r=>simp only[Option.map_some,hw i r e]
  rw[this,d,h.1];rfl
def TQ(b:kQ C){f:AV}{args:Q AV}(h:qC P C f args H=ZC (v,H')):Keeps H H':=by
 unfold qC at h;split at h <;> try(cases h;done)
 ·split at h <;> try(cases h;done)
  exact b _ _ _ _ _ h
 ·split at h <;> try(cases h;done)
  exact b _ _ _ _ _ h
def ES(p:kQ C)(h:opA P C t o H=ZC (v,H')):Keeps H H':=by
 by_cases j:rC o.op=Z0
 ·rw[(Np j h).1];exact .refl _
 have⟨dst,op,b,g,after,guard⟩:=o;cases op with
 |alloc e=>
  simp only[opA,JW]at h;split at h <;> try(cases h;done)
  split at h <;> try(cases h;done)
  simp only[Option.some.injEq,zaa]at h;rw[<-h.2];exact .new _ _
 |box e x=>
  simp only[opA,fK]at h;split at h <;> try(cases h;done)
  simp only[Option.some.injEq,zaa]at h;rw[<-h.2];exact .new _ _
 |buildSlice d n ps=>
  simp only[opA,dI]at h;split at h <;> try(cases h;done)
  split at h <;> try(cases h;done)
  split at h <;> try(cases h;done)
  split at h <;> try(cases h;done)
  split at h <;> try(cases h;done)
  simp only[Option.some.injEq,zaa]at h;rw[<-h.2];exact .new _ _
 |store d x y=>
  simp only[opA,PN]at h;split at h <;> try(cases h;done)
  split at h <;> try(cases h;done)
  split at h <;> try(cases h;done)
  rename_i hc;simp only[Option.some.injEq,zaa]at h;rw[<-h.2];exact .put _ hc.2.1 (Af (by assumption))
 |makeMap d r=>
  cases r with
  |none=>
   simp only[opA,xQ]at h;split at h <;> try(cases h;done)
   simp only[Option.some.injEq,zaa]at h;rw[<-h.2];exact .new _ _
  |some r=>cases h
 |makeSlice d l c=>
  simp only[opA,ql]at h;split at h <;> try(cases h;done)
  split at h <;> try(cases h;done)
  split at h <;> try(cases h;done)
  simp only[Option.some.injEq,zaa]at h;rw[<-h.2];exact .new _ _
 |mapUpdate d m k x=>
  simp only[opA,tJ]at h;split at h <;> try(cases h;done)
  split at h <;> try(cases h;done)
  split at h <;> try(cases h;done)
  rename_i hc;simp only[Option.some.injEq,zaa]at h;rw[<-h.2];exact .put _ hc.2.2 (VK (by assumption))
 |call c=>
  have i:opA P C t ⟨dst,.call c,b,g,after,guard⟩=wF P C t c b:=rfl;rw[i]at h;unfold wF at h;split at h <;> try(cases h;done)
  ·exact TQ p h
  ·unfold iW at h;split at h <;> try(cases h;done)
   ·unfold MK at h;split at h <;> try(cases h;done)
    split at h <;> try(cases h;done)
    split at h <;> try(cases h;done)
    split at h
    ·split at h <;> try(cases h;done)
     split at h <;> try(cases h;done)
     exact tX h
    ·split at h <;> try(cases h;done)
     exact tX h
   ·rw[(uO h).2];exact .refl _
   ·rw[(uQ h).2];exact .refl _
   ·unfold aea at h;split at h <;> try(cases h;done)
    split at h <;> try(cases h;done)
    simp only at h;split at h <;> try(cases h;done)
    split at h
    ·split at h <;> try(cases h;done)
     simp only[Option.some.injEq,zaa]at h;rw[<-h.2];exact .refl _
    ·split at h <;> try(cases h;done)
     split at h <;> try(cases h;done)
     split at h <;> try(cases h;done)
     rename_i hc;simp only[Option.some.injEq,zaa]at h;rw[<-h.2];exact .put _ hc.2.2.1 (Af (by assumption))
   ·unfold VF at h;split at h <;> try(cases h;done)
    split at h <;> try(cases h;done)
    ·split at h
     ·simp only[Option.some.injEq,zaa]at h;rw[<-h.2];exact .refl _
     ·split at h <;> try(cases h;done)
      split at h <;> try(cases h;done)
      rename_i hc;simp only[Option.some.injEq,zaa]at h;rw[<-h.2];exact .put _ hc.2.2.1 (Af (by assumption))
    ·simp only[Option.some.injEq,zaa]at h;rw[<-h.2];exact .refl _
   ·unfold ML at h;split at h <;> try(cases h;done)
    split at h <;> try(cases h;done)
    split at h <;> try(cases h;done)
    rename_i hc;simp only[Option.some.injEq,zaa]at h;rw[<-h.2];exact .put _ hc.2.2 (VK (by assumption))
   ·rw[(uQ h).2];exact .refl _
   ·rw[(uQ h).2];exact .refl _
 |_=>first|(cases h;done)|exact absurd W j
def TP.new(H:ah)(o:gG):TP H (H.new o):=⟨W,by simp[ah.new],λr h=>by simp[ah.new];intro e;omega⟩
def TS(b:uJ o.op=Z0)(hc:mJ o.op=ZV)(h:opA P C t o H=ZC (v,H')):TP H H':=by
 have⟨dst,op,d,i,after,guard⟩:=o;cases op with
 |box e x=>
  simp only[opA,fK]at h;split at h <;> try(cases h;done)
  simp only[Option.some.injEq,zaa]at h;rw[<-h.2];exact .new _ _
 |buildSlice g n ps=>
  simp only[opA,dI]at h;split at h <;> try(cases h;done)
  split at h <;> try(cases h;done)
  split at h <;> try(cases h;done)
  split at h <;> try(cases h;done)
  split at h <;> try(cases h;done)
  simp only[Option.some.injEq,zaa]at h;rw[<-h.2];exact .new _ _
 |makeMap g r=>
  cases r with
  |none=>
   simp only[opA,xQ]at h;split at h <;> try(cases h;done)
   simp only[Option.some.injEq,zaa]at h;rw[<-h.2];exact .new _ _
  |some r=>cases h
 |makeSlice g l c=>
  simp only[opA,ql]at h;split at h <;> try(cases h;done)
  split at h <;> try(cases h;done)
  split at h <;> try(cases h;done)
  simp only[Option.some.injEq,zaa]at h;rw[<-h.2];exact .new _ _
 |call c=>
  simp only[uJ]at b;simp only[mJ]at hc;cases j:c.callee <;> simp_all
 |_=>cases b
def GX(e:kQ C)(h:opG P C t o H=ZC (v,H')):TP H H'/\∃H1,opA P C t o H.guard=ZC (v,H1)/\H'={ H1 with base:=H.base }:=by
 unfold opG at h;split at h <;> try(cases h;done)
 rename_i u H1 b;simp only[Option.some.injEq,zaa]at h;obtain⟨rfl,rfl⟩:=h;have hk:=ES e b;exact⟨⟨W,hk.next,λr d=>hk.get r d d⟩,H1,b,W⟩
def aer(hc:EL o.op=Z0)(h:opA P C t o H=ZC (v,H')):
  ∃(ty:XN) (z:Z2 AV) (mk:Nat->AV),v=mk H.next/\H'=H.new (.blk 0 ty z)/\
   ∀(ρ:Ren) (G:Nat->Nat) (w:Xs) (a:Act),∃(cs:Array XS) (cv:XS),(execOp a.eval o).run P w=.ok (.value cv) (w.alloc (.cells cs ty))/\(RVs ρ G w z cs.toList/\ty<gW)/\
    ∀(ρ':Ren) (G':Nat->Nat) (r:Nat),G' r=0->ρ' r=ZC (w.heap.size,0)->RV ρ' G' (w.alloc (.cells cs ty)) (mk r) cv:=by
 have⟨dst,op,aa,ad,after,guard⟩:=o;cases op with
 |alloc e=>
  simp only[opA,JW,yG]at h;cases j:zZ P e with
  |none=>simp[j]at h
  |some z=>
   simp only[j,Option.map_some]at h;split at h <;> try(cases h;done)
   simp only[Option.some.injEq,zaa]at h;refine⟨e,_,λr=>.ref r 0 0,h.1.symm,h.2.symm,fun ρ G w a=>⟨z.cells,.pointer (ZC ⟨w.heap.size,0,Z1⟩),?_,⟨iC _,uM j⟩,fun ρ' G' r hg hr=>?_⟩⟩
   ·simp[execOp,Instr.alloc,gV j,newVar,newRow]
   ·simp only[RV];exact⟨_,Z3,V,λ_=>⟨_,0,hr,O⟩⟩
 |buildSlice ty n ps=>
  simp only[EL]at hc;simp only[opA]at h;have g:∀(a:Act) (p:Nat × Operand),p∈ps.toList->∃u,p.2=.const u:=by
   intro a p A;have:=Array.all_eq_true'.1 hc p (by simpa using A);cases K:p.2 with
   |const u=>exact⟨u,Z3⟩
   |_=>rw[K]at this;cases this
  have L:∀(ρ:Ren) (G:Nat->Nat) (w:Xs) (a:Act),∀x∈(ps.toList.map (·.2)).toArray,RV ρ G w (dR t x) (a.eval x):=by
   intro ρ G w a x hx;simp only[List.mem_toArray,List.mem_map]at hx;obtain⟨p,A,rfl⟩:=hx;have⟨u,hu⟩:=g a p A;rw[hu];simp only[dR,Act.eval,RV]
  unfold dI at h;cases M:JE P ty with
  |none=>simp[M]at h
  |some e=>
   simp only[M]at h;cases F:szT P e with
   |none=>simp[F]at h
   |some m=>
    cases j:yG P e with
    |none=>simp[F,j]at h
    |some z=>
     simp only[F,j]at h;obtain⟨zv,D,rfl⟩:=Ae j;split at h <;> try(cases h;done)
     rename_i q;have⟨y,ab⟩:=q;simp at y;split at h <;> try(cases h;done)
     rename_i cells hf;split at h <;> try(cases h;done)
     simp only[Option.some.injEq,zaa]at h;refine⟨e,cells,λr=>.sl r 0 0 m n n Z0,h.1.symm,h.2.symm,fun ρ G w a=>?_⟩;have⟨hi,A⟩:=Nk (ρ:=ρ) (w:=w) (G:=G) (t:=t) (a:=a) ps (L ρ G w a);have⟨E,Q,R⟩:∃E:Array XS,RVs ρ G w (dM (zv.cells.toList.map .s) n) ((Array.range (n*m)).map (E[· % E.size]!)).toList/\((n*m=0/\E=#[])∨(¬n*m=0/\E=zv.cells)):=by
      by_cases k:n*m=0
      ·refine⟨#[],?_,.inl ⟨k,Z3⟩⟩;rw[k];have:dM (zv.cells.toList.map .s) n=[]:=List.eq_nil_of_length_eq_zero (by rw[jh];simp[y,k]);rw[this];simp[RVs]
      ·refine⟨zv.cells,?_,.inr ⟨k,Z3⟩⟩;have:=wI (ρ:=ρ) (G:=G) (w:=w) zv n;rw[y]at this ⊢;exact this
     have⟨cs,T,h2⟩:=GR _ _ _ _ cells hi A Q hf;have W:cs.size=n*m:=by
      have hsz:∀(d:Nat->Z6 (Nat × Nat)) (l:Z2 (Nat × XS)) (a b:Array XS),Instr.fill d a l=ZC b->b.size=a.size:=by
       intro d l
       induction l with
       |nil=>intro a b h;simp[Instr.fill]at h;rw[h]
       |cons p l ih=>
        intro a b h;have⟨i,x⟩:=p;simp only[Instr.fill]at h;split at h
        ·cases h
        ·split at h
         ·cases h
         ·rw[ih _ _ h,<-Array.foldl_toList,Array.toList_zipIdx,xR,eX]
      rw[hsz _ _ _ _ T];simp
     refine⟨cs,.slice (ZC ⟨w.heap.size,0,Z1⟩) n n,?_,⟨h2,uM D⟩,fun ρ' G' r hg hr=>?_⟩
     ·have X:¬n*m > 2 ^ 24:=V
      simp only[execOp,Instr.buildSlice,zak,zae (oO M),zai,fB F,X,zaf];rcases R with⟨k,rfl⟩|⟨k,rfl⟩
      ·rw[YY k];simp only[zai,T,zak,newRow,run_newObj,zao];rfl
      ·rw[Ys k];simp only[zai,T,zak,newRow,run_newObj,zao,gV D];rfl
     ·simp only[RV];refine⟨w.heap.size,0,n,Z3,Nat.le_refl _,Nat.le_refl _,λ_=>rfl,V,λ_=>⟨0,e,cs.size,hr,λ_=>rfl,?_,by rw[W];omega⟩⟩;rw[fE,kD];rfl
 |_=>cases hc
end
def uS {ops:Q Oper}{L:Nat->Prop}(n:∀j o,ops[j]?=ZC o->L j->∀e∈o.after,Region.binds .any e=Z0->L e.on):
  ∀i j,mV ops i j=Z0->L j->L i:=by
 have key:∀(l g:Q Oper) (b:Array Nat),g.length=b.size->(∀i j,(b.getD j 0).testBit i=Z0->(g++l=ops)->L j->L i)->g++l=ops->
   ∀i j,((l.foldl (init:=b) λb o=>b.push (o.after.foldl (λs e=>if Region.binds .any e then s ||| 2 ^ e.on ||| b.getD e.on 0 else s) 0)).getD j 0).testBit i=Z0->L j->L i:=by
  intro l
  induction l with
  |nil=>
   intro g b _ h k i j hb m;exact h i j hb k m
  |cons o l E=>
   intro g b hsz h k i j hb m;simp only[List.foldl_cons]at hb;refine E (g++[o]) _ (by simp[hsz]) ?_ (by simpa using k) i j hb m;intro i j hb F m;by_cases y:j<b.size
   ·refine h i j ?_ k m
    simpa [Array.getD,y,Nat.lt_succ_of_lt y,Array.getElem_push_lt y]using hb
   ·by_cases z:j=b.size
    ·subst z;have A:ops[b.size]?=ZC o:=by rw[<-k,<-hsz];simp
     have q:((b.push (o.after.foldl (λs e=>if Region.binds .any e then s ||| 2 ^ e.on ||| b.getD e.on 0 else s) 0)).getD b.size 0)=o.after.foldl (λs e=>if Region.binds .any e then s ||| 2 ^ e.on ||| b.getD e.on 0 else s) 0:=O
     rw[q]at hb;have p:∀(u:Q Edge) (s:Nat),(∀e∈u,e∈o.after)->(s.testBit i=Z0->L i)->(u.foldl (λs e=>if Region.binds .any e then s ||| 2 ^ e.on ||| b.getD e.on 0 else s) s).testBit i=Z0->L i:=by
      intro u
      induction u with
      |nil=>intro s _ q hb;exact q hb
      |cons e u C=>
       intro s v q hb;simp only[List.foldl_cons]at hb;refine C _ (λG H=>v G (by simp[H])) ?_ hb;intro d;split at d
       ·rename_i D;simp only[Nat.testBit_or,Bool.or_eq_true,Nat.testBit_two_pow]at d;have w:=n _ o A m e (v e O) D;rcases d with(d|d)|d
        ·exact q d
        ·simp at d;rw[<-d];exact w
        ·exact h i e.on d k w
       ·exact q d
     refine p o.after.toList 0 (λe k=>by simpa using k) (λK=>by simp at K) ?_;rw[Array.foldl_toList];exact hb
    ·have:(b.push (o.after.foldl (λs e=>if Region.binds .any e then s ||| 2 ^ e.on ||| b.getD e.on 0 else s) 0)).getD j 0=0:=by
      simp[Array.getD,show¬j<b.size+1 by omega]
     rw[this]at hb;simp at hb
 intro i j hb m;refine key ops [] #[] W (λi j hb=>by simp at hb) W i j ?_ m;unfold mV Region.before at hb;rw[<-Array.foldl_toList]at hb;exact hb
def kF {n:Nat}{f:Nat->Bool}(h:EC n f=Z0){i:Nat}(hi:i<n):f i=true:=by
 unfold EC at h;exact List.all_eq_true.1 h i (List.mem_range.2 hi)
structure GY(ops:List Oper):Prop where
 edges:∀j o,ops[j]?=some o->∀e∈o.after,Region.binds .any e=true->e.on<ops.length/\Gx ops e.on j=true
 arJ:∀(i j:Nat) (oi oj:Oper) (d:Tmp),ops[i]?=some oi->ops[j]?=some oj->oi.dst=some d->oj.dst=some d->i=j
 uses:∀(i j:Nat) (oi oj:Oper) (d:Tmp),i≠j->ops[i]?=some oi->ops[j]?=some oj->oi.dst=some d->d∈oj.looksAt ops.toArray->(mV ops i j=true/\Gx ops i j=true)∨(mV ops j i=true/\Gx ops j i=true)
 chain:∀i j,i<j->j<ops.length->chn ops i=true->chn ops j=true->mV ops i j=true
 const:∀j o,ops[j]?=some o->cst ops j=true->o.guard=none/\o.dst.isSome=true
 loose:∀j e,j<ops.length->e<ops.length->cst ops j=true->chn ops e=true->mV ops j e=false->(uJ (qE ops e)=true∨ajI (qE ops e)=true)/\mV ops e j=false
def dQ {α:Type}{l:Q α}{i:Nat}{x:α}(h:l[i]?=ZC x):i<l.length:=(List.getElem?_eq_some_iff.1 h).1
def uT {ops:Q Oper}{j:Nat}{o:Oper}(h:ops[j]?=ZC o):qE ops j=o.op:=by simp[qE,h]
def GZ {ops:Q Oper}{j:Nat}{o:Oper}(h:ops[j]?=ZC o):JY ops j=o.dst:=by simp[JY,h]
def DU {ops:Q Oper}(h:VG ops=Z0):GY ops:=by
 unfold VG at h;simp only[Bool.and_eq_true]at h;have⟨⟨⟨⟨⟨A,C⟩,D⟩,E⟩,F⟩,G⟩:=h;refine⟨λj o n e v hb=>?_,λi j k g d hi b m u=>?_,λi j k g d w hi b m hd=>?_,λi j p b H K=>?_,λj o n hc=>?_,λj e b v hc y hb=>?_⟩
 ·have:=kF A (dQ n);simp only[n,Option.map_some,Option.getD_some]at this;have:=Array.all_eq_true'.1 this e v
  simpa [hb]using this
 ·have q:∀(i j:Nat) (k g:Oper),ops[i]?=ZC k->ops[j]?=ZC g->k.dst=ZC d->g.dst=ZC d->¬i<j:=by
   intro i j k g hi b m u z;have:=kF (kF C (dQ hi)) (dQ b);rw[GZ hi,GZ b,m,u]at this;simp[z]at this
  have L:=q i j k g hi b m u;have M:=q j i g k b hi u m;omega
 ·have:=kF (kF D (dQ hi)) (dQ b);rw[GZ hi,m,b]at this;simp only[Bool.or_eq_true,beq_iff_eq,Bool.not_eq_true',Bool.and_eq_true]at this;rcases this with h|(h|h)|h
  ·exact absurd h w
  ·have hc:(g.looksAt ops.toArray).contains d=true:=List.contains_iff_mem.2 hd;rw[hc]at h;cases h
  ·exact .inl h
  ·exact .inr h
 ·have:=kF (kF E (Nat.lt_trans p b)) b
  simpa [H,K,p]using this
 ·have:=kF F (dQ n);simp only[hc,Bool.not_true,Bool.false_or,n,Option.map_some,Option.getD_some,Bool.and_eq_true]at this;exact⟨Option.isNone_iff_eq_none.1 this.1,this.2⟩
 ·have:=kF (kF G b) v;simp only[hc,y,hb,Bool.not_false,Bool.and_self,Bool.not_true,Bool.false_or,Bool.and_eq_true,Bool.not_eq_true',Bool.or_eq_true]at this;exact this
def yS {P:XX}{C:aA}{ops:Q Oper}:∀(l m:Q Nat) (t:gB) (H:ah),
  fZ P C ops (l++m) t H=(fZ P C ops l t H).bind λs=>fZ P C ops m s.1 s.2
 |[],m,t,H=>rfl
 |i::l,m,t,H=>by
  simp only[List.cons_append,fZ];cases ops[i]? with
  |none=>rfl
  |some o=>
   simp only;cases mQ P C ops (loose ops i && mJ o.op) o t H with
   |none=>rfl
   |some r=>exact yS l m _ _
def CG(f:Nat->Bool)(p:Nat):(List.range (p+1)).filter f=(List.range p).filter f++(if f p then [p]else []):=by
 rw[List.range_succ,List.filter_append]
 congr 1
 simp only[List.filter_cons,List.filter_nil]
def wL {P:Program}{C:aA}{ops:List Oper}{p:Nat}{t:gB}{H:ah}:Gy P C ops (p+1) t H=
  (Gy P C ops p t H).bind λs=>if cst ops p then some s else fZ P C ops [p] s.1 s.2:=by
 unfold Gy;rw[CG,yS]
 congr 1
 funext s
 cases cst ops p <;> rfl
def ZX {P:XX}{C:aA}{ops:Q Oper}{t:gB}{H:ah}{n:Nat}{s:gB × ah}(h:Gy P C ops n t H=ZC s):∀k p,p+k=n->∃d,Gy P C ops p t H=ZC d:=by
 intro k
 induction k generalizing n s with
 |zero=>intro p b;simp at b;subst b;exact⟨s,h⟩
 |succ k g=>
  intro p b;cases n with
  |zero=>omega
  |succ n=>
   rw[wL]at h;cases e:Gy P C ops n t H with
   |none=>rw[e]at h;cases h
   |some d=>exact g e p V
structure CJ(P:Program)(C:aA)(ops:List Oper)(t0:gB)(H0:ah)(T:Nat->gB)(Hp:Nat->ah)(val:Nat->AV):Prop where
 zero:T 0=t0/\Hp 0=H0
 at_:∀p,p<=ops.length->Gy P C ops p t0 H0=some (T p,Hp p)
 skip:∀p,p<ops.length->cst ops p=true->T (p+1)=T p/\Hp (p+1)=Hp p
 step:∀p o,ops[p]?=some o->cst ops p=false->mQ P C ops (loose ops p && mJ o.op) o (T p) (Hp p)=some (val p,Hp (p+1))/\T (p+1)=wC (T p) o.dst (val p)
def J5 {P:XX}{C:aA}{ops:Q Oper}{t0:gB}{H0:ah}{s:gB × ah}(h:fZ P C ops (mW ops) t0 H0=ZC s)(m:Nat->AV):
  ∃T Hp val,CJ P C ops t0 H0 T Hp val/\(T ops.length,Hp ops.length)=s/\∀p,cst ops p=Z0->val p=m p:=by
 have n:Gy P C ops ops.length t0 H0=ZC s:=h;let S:Nat->gB × ah:=λp=>(Gy P C ops p t0 H0).getD (t0,H0)
 have e:∀p,p<=ops.length->Gy P C ops p t0 H0=ZC (S p):=λp j=>by
  have⟨u,k⟩:=ZX n (ops.length-p) p V;simp only[S,k,Option.getD_some]
 have d:∀p o,ops[p]?=ZC o->cst ops p=ZV->∃v,mQ P C ops (loose ops p && mJ o.op) o (S p).1 (S p).2=ZC (v,(S (p+1)).2)/\(S (p+1)).1=wC (S p).1 o.dst v:=by
  intro p o g hc;have j:=dQ g;have b:=e (p+1) j;rw[wL,e p V]at b;simp only[Option.bind_some,hc,Bool.false_eq_true,zaf,fZ,g]at b;cases i:mQ P C ops (loose ops p && mJ o.op) o (S p).1 (S p).2 with
  |none=>rw[i]at b;cases b
  |some r=>
   rw[i]at b;simp only[Option.some.injEq]at b;exact⟨r.1,by rw[<-b],by rw[<-b]⟩
 refine⟨λp=>(S p).1,λp=>(S p).2,λp=>if cst ops p then m p else match ops[p]? with
  |some o=>(match mQ P C ops (loose ops p && mJ o.op) o (S p).1 (S p).2 with|some r=>r.1|none=>aX)
  |none=>aX,⟨⟨W,W⟩,e,λp j hc=>?_,λp o g hc=>?_⟩,?_,λp hc=>by simp[hc]⟩
 ·have b:=e (p+1) j;rw[wL,e p V]at b;simp only[Option.bind_some,hc,zad,Option.some.injEq]at b;rw[<-b];exact⟨W,W⟩
 ·have⟨v,b,q⟩:=d p o g hc;simp only[hc,Bool.false_eq_true,zaf,g,b,q,and_self]
 ·have:=e ops.length (Nat.le_refl _);rw[n]at this;cases this;rfl
structure Qa(P:Program)(o:Oper)(v:AV)(r:Nat)(ob:gG):Prop where
 ex:∃(ty:TypeId) (z:List AV) (mk:Nat->AV),v=mk r/\ob=.blk 0 ty z/\
   ∀(ρ:Ren) (G:Nat->Nat) (w:World) (a:Act),∃(cs:Array Value) (cv:Value),(execOp a.eval o).run P w=.ok (.value cv) (w.alloc (.cells cs ty))/\(RVs ρ G w z cs.toList/\ty<gW)/\
    ∀(ρ':Ren) (G':Nat->Nat) (r:Nat),G' r=0->ρ' r=some (w.heap.size,0)->RV ρ' G' (w.alloc (.cells cs ty)) (mk r) cv
def lZ(t:gB)(d:M Tmp)(v:AV):(wC t d v).length=t.length:=by cases d <;> simp[wC]
def Nq(t:gB)(d:M Tmp)(v:AV)(i:Nat):(wC t d v)[i]?=if d=ZC i/\i<t.length then ZC v else t[i]?:=by
 cases d with
 |none=>simp[wC]
 |some d=>
  simp only[wC,List.getElem?_set,Option.some.injEq];by_cases h:d=i
  ·subst h;by_cases b:d<t.length
   ·simp[b]
   ·simp[b]
  ·simp[h]
def uU {P:XX}{C:aA}{ops:Q Oper}:∀(is:Q Nat) (t:gB) (H:ah) (t0:gB) (H0:ah),is.Nodup->(∀j∈is,cst ops j=Z0)->
  (∀i∈is,∀j∈is,∀(oi oj:Oper) (d:Tmp),ops[i]?=ZC oi->ops[j]?=ZC oj->oi.dst=ZC d->oj.dst=ZC d->i=j)->iY P C ops is t H=ZC (t0,H0)->
  TP H H0/\(∀r,H.next<=r->H.gen r=0->H0.gen r=0)/\t0.length=t.length/\∃(nm:Nat->Nat) (vl:Nat->AV),(∀j∈is,∃o,ops[j]?=ZC o/\H.next<=nm j/\nm j<H0.next/\Qa P o (vl j) (nm j) (H0.get (nm j))/\∀d,o.dst=ZC d->d<t.length->t0[d]?=ZC (vl j))/\
   (∀i∈is,∀j∈is,nm i=nm j->i=j)/\∀d,(∀j∈is,∀o,ops[j]?=ZC o->o.dst≠ZC d)->t0[d]?=t[d]?
 |[],t,H,t0,H0,_,_,_,h=>by
  simp only[iY,Option.some.injEq,zaa]at h;obtain⟨rfl,rfl⟩:=h;exact⟨⟨W,Nat.le_refl _,λ_ _=>rfl⟩,λ_ _ h=>h,W,λ_=>0,λ_=>aX,by simp,by simp,λ_ _=>rfl⟩
 |i::is,t,H,t0,H0,hnd,auH,hdst,h=>by
  simp only[iY]at h;cases ho:ops[i]? with
  |none=>rw[ho]at h;cases h
  |some o=>
   rw[ho]at h;simp only at h;cases hop:opA P C t o H with
   |none=>rw[hop]at h;cases h
   |some r=>
    have⟨v,H1⟩:=r;rw[hop]at h;simp only at h;have hco:EL o.op=true:=by have:=auH i (by simp);simpa [cst,uT ho]using this
    obtain⟨ty,z,mk,rfl,rfl,hrun⟩:=aer hco hop;have⟨hf,hg,hlen,nm,vl,h1,h2,h3⟩:=uU is _ _ t0 H0 (List.nodup_cons.1 hnd).2 (λj hj=>auH j (by simp[hj])) (λa ha b hb=>hdst a (by simp[ha]) b (by simp[hb])) h;have hni:i∉is:=(List.nodup_cons.1 hnd).1;have hget:H0.get H.next=.blk 0 ty z:=by
     rw[hf.2.2 H.next (by simp[ah.new])];simp[ah.new]
    refine⟨⟨hf.1,Nat.le_trans (by simp[ah.new]) hf.2.1,λr hr=>?_⟩,λr hr hgr=>?_,by rw[hlen,lZ],λj=>if j=i then H.next else nm j,λj=>if j=i then mk H.next else vl j,λj hj=>?_,λa ha b hb hab=>?_,λd hd=>?_⟩
    ·rw[hf.2.2 r (by simp[ah.new];omega)];simp[ah.new,show r≠H.next by omega]
    ·rcases Nat.lt_or_ge H.next r with hlt|hge
     ·refine hg r (by simp[ah.new];omega) ?_;rw[TF,F (by omega)];exact hgr
     ·have:r=H.next:=by omega
      subst this;simp[ah.gen,hget,gG.gen]
    ·by_cases hji:j=i
     ·subst hji;simp only[zad];refine⟨o,ho,Nat.le_refl _,Nat.lt_of_lt_of_le (by simp[ah.new]) hf.2.1,⟨ty,z,mk,W,hget,hrun⟩,λd hd hlt=>?_⟩;rw[h3 d (λk hk ok hok hkd=>hni (by
       have:=hdst j (by simp) k (by simp[hk]) o ok d ho hok hd hkd;rw[this];exact hk)),Nq,y ⟨hd,hlt⟩]
     ·simp only[F hji];have⟨oj,hoj,q1,q2,q3,q4⟩:=h1 j (by
       rcases List.mem_cons.1 hj with e|e
       ·exact absurd e hji
       ·exact e)
      refine⟨oj,hoj,Nat.le_trans (by simp[ah.new]) q1,q2,q3,λd hd hlt=>q4 d hd (by rw[lZ];exact hlt)⟩
    ·by_cases ha':a=i <;> by_cases hb':b=i
     ·rw[ha',hb']
     ·simp only[ha',zad,F hb']at hab;have⟨_,_,q1,_⟩:=h1 b (by exact(List.mem_cons.1 hb).resolve_left hb');simp[ah.new]at q1;omega
     ·simp only[hb',zad,F ha']at hab;have⟨_,_,q1,_⟩:=h1 a (by exact(List.mem_cons.1 ha).resolve_left ha');simp[ah.new]at q1;omega
     ·simp only[F ha',F hb']at hab;exact h2 a (by exact(List.mem_cons.1 ha).resolve_left ha') b (by exact(List.mem_cons.1 hb).resolve_left hb') hab
    ·rw[h3 d (λj hj=>hd j (by simp[hj])),Nq,F (λhc=>hd i (by simp) o ho hc.1)]
structure TOn(ρ:Ren)(G:Nat->Nat)(w:World)(D:Tmp->Prop)(t:gB)(a:Act):Prop where
 size:a.tmps.size=t.length
 get:∀d,D d->d<t.length->RV ρ G w (t.getD d aX) (a.tmps.getD d undef)
section
variable {P:Program}{C:aA}{ops:List Oper}{H H':ah}{t:gB}{a:Act}{w:World}{ρ:Ren}{G:Nat->Nat}{o:Oper}{v:AV}
def TOn.any {D:Tmp->Prop}(h:TOn ρ G w D t a)(d:Tmp)(hd:D d):RV ρ G w (t.getD d aX) (a.tmps.getD d undef):=by
 by_cases b:d<t.length
 ·exact h.get d hd b
 ·have e:t.getD d aX=aX:=by simp[List.getD,List.getElem?_eq_none (Nat.not_lt.1 b)]
  have g:a.tmps.getD d undef=undef:=by
   have:¬d<a.tmps.size:=by rw[h.size];exact b
   simp[Array.getD,this]
  rw[e,g];exact ER
def TOn.eval(h:TOn ρ G w (· ∈o.looksAt ops.toArray) t a):∀x∈o.op.operands,RV ρ G w (dR t x) (a.eval x):=by
 intro x b;cases x with
 |tmp d=>
  exact h.any d (List.mem_append_left _ (List.mem_filterMap.2 ⟨.tmp d,by simpa using b,W⟩))
 |const v=>simp[dR,Act.eval,RV]
 |global g=>simp[dR,Act.eval,RV]
 |func f=>simp[dR,Act.eval,RV,RVs]
def TOn.wanted {b:Bool}(h:TOn ρ G w (· ∈o.looksAt ops.toArray) t a)(hw:uI ops t o=ZC b):Region.wanted o (yielded ops.toArray a.tmps)=b:=by
 unfold uI at hw;unfold Region.wanted;cases v:o.guard with
 |none=>rw[v]at hw;simpa using hw
 |some C=>
  have⟨j,k⟩:=C;rw[v]at hw;simp only at hw;cases u:ops[j]? with
  |none=>rw[u]at hw;cases hw
  |some p=>
   rw[u]at hw;simp only at hw;cases hd:p.dst with
   |none=>rw[hd]at hw;cases hw
   |some d=>
    rw[hd]at hw;simp only at hw;have m:d∈o.looksAt ops.toArray:=by
     unfold Oper.looksAt;refine List.mem_append_right _ ?_;simp[v,u,hd]
    cases g:t[d]? with
    |none=>rw[g]at hw;cases hw
    |some x=>
     have n:d<t.length:=(List.getElem?_eq_some_iff.1 g).1;have e:=h.get d m n;have D:t.getD d aX=x:=by simp[List.getD,g]
     have q:d<a.tmps.size:=by rw[h.size];exact n
     have y:a.tmps[d]?=ZC (a.tmps.getD d undef):=by simp[Array.getD,q]
     rw[D]at e;rw[g]at hw;have A:yielded ops.toArray a.tmps j=(match a.tmps.getD d undef with|.bool b=>ZC b|_=>Z1):=by
      unfold yielded;have:(ops.toArray[j]?).bind (·.dst)=ZC d:=by simp[u,hd]
      rw[this,Option.bind_some,y];cases a.tmps.getD d undef <;> rfl
     simp only;split at hw <;> try(cases hw;done)
     ·rename_i i;cases i;simp only[RV]at e;rw[A,e];simp only[Option.some.injEq]at hw;rw[<-hw];rename_i E;cases E <;> cases k <;> rfl
     ·rename_i i;cases i;simp only[RV,RVs]at e;have⟨cs,z,_⟩:=e;rw[A,z]
      simpa using hw
def TOn.put {D:Tmp->Prop}(h:TOn ρ G w D t a)(d:M Tmp){cv:XS}(hv:RV ρ G w v cv):TOn ρ G w D (wC t d v) (a.put d cv):=by
 refine⟨?_,λx k b=>?_⟩
 ·rw[lZ,<-h.size];cases d <;> simp[Act.put]
 ·rw[lZ]at b;have g:x<a.tmps.size:=by rw[h.size];exact b
  cases d with
  |none=>exact h.get x k b
  |some d=>
   by_cases e:d=x
   ·subst e;have i:(wC t (ZC d) v).getD d aX=v:=by simp[wC,List.getD,b]
    have j:(a.put (ZC d) cv).tmps.getD d undef=cv:=by simp[Act.put,Array.getD,g]
    rw[i,j];exact hv
   ·have i:(wC t (ZC d) v).getD x aX=t.getD x aX:=by simp[wC,List.getD,e]
    have j:(a.put (ZC d) cv).tmps.getD x undef=a.tmps.getD x undef:=by
     simp[Act.put,Array.getElem?_setIfInBounds_ne e]
    rw[i,j];exact h.get x k b
def TOn.keep {ρ':Ren}{w':Xs}{D:Tmp->Prop}(h:TOn ρ H.gen w D t a)(E:Ext ρ H w ρ' H' w'):TOn ρ' H'.gen w' D t a:=
 ⟨h.size,λd hd b=>RV.mono E.toMono _ _ (h.get d hd b)⟩
def TOn.sub {D D':Tmp->Prop}(h:TOn ρ G w D t a)(b:∀d,D' d->D d):TOn ρ G w D' t a:=⟨h.size,λd hd=>h.get d (b d hd)⟩
def Nr(g:qX P C){lo:Bool}(h:mQ P C ops lo o t H=ZC (v,H'))(R:Rel ρ H w)(T:TOn ρ H.gen w (· ∈o.looksAt ops.toArray) t a){i:Nat}(j:ops[i]?=ZC o)
  {K:Act->Xs->Prop} {Q:Exit->Act->Xs->Prop} (b:∀cv ρ' w',Rel ρ' H' w'->RV ρ' H'.gen w' v cv->Ext ρ H w ρ' H' w'->K (a.put o.dst cv) w'):wpOp P ops.toArray Q i K a w:=by
 unfold wpOp;have d:ops.toArray[i]?=ZC o:=by simpa using j
 simp only[d];unfold mQ at h;split at h <;> try(cases h;done)
 ·rename_i hw;rw[T.wanted hw,y W];left;split at h
  ·unfold opG at h;split at h <;> try(cases h;done)
   rename_i u H1 k;simp only[Option.some.injEq,zaa]at h;obtain⟨rfl,rfl⟩:=h;exact Nl g k (H:=H.guard) ⟨R.out,R.obj,R.inj,R.gl⟩ T.eval λcv ρ' w' r e x=>
    b cv ρ' w' ⟨r.out,r.obj,r.inj,r.gl⟩ e ⟨x.next,x.mono,x.same,x.kept,x.range,x.size,x.frame,x.shape,x.os,x.tape,x.output⟩
  ·exact Nl g h R T.eval b
 ·rename_i hw;rw[T.wanted hw];simp only[Option.some.injEq,zaa]at h;obtain⟨rfl,rfl⟩:=h;simp only[Bool.false_eq_true,zaf];exact b undef ρ w R ER (Ext.refl _ _ _)
def Qb {X:Prop}(h:o.wp P a w (λ_ _=>X) (λ_ _ _=>False)):X:=by
 unfold Oper.wp at h;generalize (execOp a.eval o).run P w=r at h;cases r with
 |ok n w'=>
  cases n <;> simp only[Oper.upon]at h <;> first|exact h|skip
  ·have⟨e,w',d,b,_⟩:=h [];cases e <;> simp only[LetsOut,exists_false]at b;exact b
  ·have⟨_,_,b,_⟩:=h (Frame.ofRow P "" #[] .normal) []
   exact b
 |halt x w'=>cases x <;> exact False.elim h
def TT {X:Prop}{i:Nat}{arr:Array Oper}(h:wpOp P arr (λ_ _ _=>False) i (λ_ _=>X) a w):X:=by
 unfold wpOp at h;split at h
 ·exact h
 ·split at h
  ·rcases h with h|⟨_,a,w,h⟩
   ·exact Qb h
   ·exact h.elim
  ·exact h
def zf(g:qX P C):∀(is:Z2 Nat) (t:gB) (H:ah) (t0:gB) (H0:ah) (ρ:Ren) (w:Xs) (a:Act),iY P C ops is t H=ZC (t0,H0)->Rel ρ H w->TOn ρ H.gen w (λ_=>True) t a->
  ∃ρ' w' a',Rel ρ' H0 w'/\TOn ρ' H0.gen w' (λ_=>True) t0 a'
 |[],t,H,t0,H0,ρ,w,a,h,R,T=>by
  simp only[iY,Option.some.injEq,zaa]at h;obtain⟨rfl,rfl⟩:=h;exact⟨ρ,w,a,R,T⟩
 |i::is,t,H,t0,H0,ρ,w,a,h,R,T=>by
  simp only[iY]at h;cases j:ops[i]? with
  |none=>rw[j]at h;cases h
  |some o=>
   rw[j]at h;simp only at h;cases b:opA P C t o H with
   |none=>rw[b]at h;cases h
   |some r=>
    rw[b]at h;simp only at h;have⟨ρ',w',cv,d,e⟩:∃ρ' w' cv,Rel ρ' r.2 w'/\TOn ρ' r.2.gen w' (λ_=>True) (wC t o.dst r.1) (a.put o.dst cv):=
     Qb (Nl g b R ((T.sub (D':=(· ∈o.looksAt ops.toArray)) λ_ _=>zac).eval) (Q:=λ_ _ _=>False)
      λcv ρ' w' d e k=>⟨ρ',w',cv,d,(T.keep k).put _ e⟩)
    exact zf g is _ _ t0 H0 ρ' w' _ h d e
def J6(i:qX P C){t0:gB}{H0:ah}{T:Nat->gB}{Hp:Nat->ah}{val:Nat->AV}(S:CJ P C ops t0 H0 T Hp val)(R:Rel ρ H0 w)(j:TOn ρ H0.gen w (λ_=>True) t0 a):
  ∀p,p<=ops.length->∃ρ' w' a',Rel ρ' (Hp p) w'/\TOn ρ' (Hp p).gen w' (λ_=>True) (T p) a':=by
 intro p
 induction p with
 |zero=>intro _;rw[S.zero.1,S.zero.2];exact⟨ρ,w,a,R,j⟩
 |succ p k=>
  intro u;have⟨ρ1,w1,m,g,b⟩:=k V;cases hc:cst ops p with
  |true=>have⟨d,e⟩:=S.skip p V hc;rw[d,e];exact⟨ρ1,w1,m,g,b⟩
  |false=>
   have h:ops[p]?=ZC (ops[p]' V):=List.getElem?_eq_getElem _;have⟨d,e⟩:=S.step p _ h hc;rw[e];exact TT (Nr i d g (b.sub λ_ _=>zac) h (Q:=λ_ _ _=>False) λcv ρ' w' n o q=>⟨ρ',w',_,n,(b.keep q).put _ o⟩)
def Qc {x:AV}{n r:Nat}(h:NV n x)(hw:bT x=ZC r):r<n:=by
 cases x <;> simp only[bT]at hw <;> first|(cases hw;done)|(cases hw;simpa only[NV]using h)
def VN {n r:Nat}(h:∀x∈o.op.operands,NV n (dR t x))(hw:lM t o.op=ZC r):r<n:=by
 have⟨dst,op,b,d,after,guard⟩:=o;cases op <;> simp only[lM]at hw <;> try(cases hw;done)
 case call c=>
  split at hw
  ·rename_i x e;refine Qc (h x ?_) hw;have:x∈c.args:=by
    have:x∈c.args.toList:=by rw[e];simp
    simpa using this
   simp[Op.operands,Call.operands,this]
  ·cases hw
 all_goals exact Qc (h _ (by simp[Op.operands])) hw
def aeu {n:Nat}(h:∀d,NV n (t.getD d aX))(x:Operand):NV n (dR t x):=by
 cases x with
 |tmp d=>exact h d
 |_=>simp[dR,NV,NVs]
end
end
end Go.Proofs.YtgplhpgkompkmaaGreat
