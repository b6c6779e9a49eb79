/-
  Own work: an interpreter over named blocks, its soundness, and what the functions of this seat compute (part 10 of 11).
  Conditions: those of the statement alone.
-/
import Derived.Test.YtgplhpgkompkmaaGreatHi
set_option linter.all false
set_option linter.unusedSectionVars false
set_option linter.unusedVariables false
set_option linter.unusedSimpArgs false
namespace Go.Proofs.YtgplhpgkompkmaaGreat
noncomputable section
section
variable {c:Cache}{aj L:Int}{e x:Ent}
theorem QF(h:c.find aj=some e):e.aj=aj:=by
 unfold Cache.find at h;have:=zbS h
 simpa using this
theorem xP(hl:Lines c.l)(h0:0<=e.aj)(h:c.find e.aj=some x)(L:Int):(c.put e).1.find L=if L=e.aj then some { e with used:=x.used } else c.find L:=by
 rw [lu hl h0 h];unfold Cache.find;simp only [List.find?_map];have hf:((λy:Ent=> decide (y.aj=L)) ∘ λy:Ent=> if y.aj=e.aj then { e with used:=x.used } else y)=λy=> decide (y.aj=L):=by
  funext y
  simp only [Function.comp];by_cases hy:y.aj=e.aj
  ·simp [hy]
  ·simp [hy]
 rw [hf];by_cases hL:L=e.aj
 ·rw [if_pos hL,hL];unfold Cache.find at h;rw [h];have:=zbS h;simp only [decide_eq_true_eq] at this;simp [this]
 ·rw [if_neg hL];cases hq:c.l.find? λy=> decide (y.aj=L) with
  | none=> rfl
  | some y=>
   have:=zbS hq;simp only [decide_eq_true_eq] at this;have hne:¬y.aj=e.aj:=λh=> hL (this.symm.trans h);simp [hne]
theorem QG(hl:Lines c.l)(h0:0<=e.aj)(hn:c.find e.aj=none)(hf:c.full e.aj=false):∃u,∀L,(c.put e).1.find L=if L=e.aj then some { e with used:=u } else c.find L:=by
 refine⟨c.bW+1,λL=> ?_⟩;have h1:=yS.2 hn;unfold Cache.put;rw [if_neg (by omega),h1];simp only [hf,zah,if_false];unfold Cache.find at hn ⊢;rw [zdF];by_cases hL:L=e.aj
 ·rw [if_pos hL,hL,hn];simp
 ·rw [if_neg hL];have:¬e.aj=L:=λh=> hL h.symm;simp [this]
theorem AY(hl:Lines c.l)(L:Int):(c.drop aj).find L=if L=aj then none else c.find L:=by
 rw [Gm hl];unfold Cache.find;simp only [List.find?_filter];by_cases hL:L=aj
 ·rw [if_pos hL,zbF];intro y _;simp only [decide_eq_true_eq,ne_eq,decide_not,za8,decide_eq_false_iff_not];rintro⟨h1,h2⟩;exact h1 (h2.trans hL)
 ·rw [if_neg hL]
  congr 1
  funext y
  by_cases hy:y.aj=L
  ·simp [hy,hL]
  ·simp [hy]
theorem XE(hl:Lines c.l)(h:c.find aj=some e)(L:Int):(c.touch aj).find L=if L=aj then some { e with used:=c.bW+1 } else c.find L:=by
 have he:=QF h;rw [xB hl h];unfold Cache.find;simp only [List.find?_map];have hf:((λy:Ent=> decide (y.aj=L)) ∘ λy:Ent=> if y.aj=aj then { e with used:=c.bW+1 } else y)=λy=> decide (y.aj=L):=by
  funext y
  simp only [Function.comp];by_cases hy:y.aj=aj
  ·simp [hy,he]
  ·simp [hy]
 rw [hf];by_cases hL:L=aj
 ·rw [if_pos hL,hL];unfold Cache.find at h;rw [h];simp [he]
 ·rw [if_neg hL];cases hq:c.l.find? λy=> decide (y.aj=L) with
  | none=> rfl
  | some y=>
   have:=zbS hq;simp only [decide_eq_true_eq] at this;have hne:¬y.aj=aj:=λh=> hL (this.symm.trans h);simp [hne]
end
section
variable {t:Turns}{aj who id L:Int}
theorem IX(h:Gs t)(h0:0<=who)(ho:t.owner aj=-1)(hw:t.ws aj=[]):(t.ask aj who id).2=true/\(∀L,(t.ask aj who id).1.owner L=if L=aj then who else t.owner L)/\∀L,(t.ask aj who id).1.ws L=t.ws L:=by
 have hd:t.owned aj=false:=by
  cases e:t.owned aj with
  | false=> rfl
  | true=> exact absurd ho ((h.owned aj).1 e)
 have ht:t.ask aj who id=({ t with fP:=lG t.fP aj who },true):=by
  unfold Turns.ask;rw [if_neg (by omega)];simp [hd,hw]
 rw [ht];refine⟨rfl,λL=> ?_,λL=> rfl⟩;unfold Turns.owner;simp only [gX];by_cases hL:L=aj
 ·simp [hL]
 ·rw [if_neg hL,if_neg (λh=> hL h.symm)]
theorem IY(h:Gs t)(h0:0<=who)(ho:t.owner aj≠-1∨t.ws aj≠[]):(t.ask aj who id).2=false/\(∀L,(t.ask aj who id).1.owner L=t.owner L)/\∀L,(t.ask aj who id).1.ws L=if L=aj then t.ws aj++[(who,id)] else t.ws L:=by
 have ht:t.ask aj who id=({ t with wait:=lG t.wait aj (t.ws aj++[(who,id)]) },false):=by
  unfold Turns.ask;rw [if_neg (by omega),if_pos];rcases ho with ho | ho
  ·rw [(h.owned aj).2 ho];simp
  ·simp [ho]
 rw [ht];refine⟨rfl,λL=> rfl,λL=> ?_⟩;unfold Turns.ws;simp only [gX];by_cases hL:L=aj
 ·simp [hL]
 ·rw [if_neg hL,if_neg (λh=> hL h.symm)]
theorem XF(h:Gs t)(ho:t.owner aj=-1){w:Int × Int}{ws:List (Int × Int)}(hw:t.ws aj=w::ws):(t.next aj).2=some w/\(∀L,(t.next aj).1.owner L=if L=aj then w.1 else t.owner L)/\∀L,(t.next aj).1.ws L=if L=aj then ws else t.ws L:=by
 have hd:t.owned aj=false:=by
  cases e:t.owned aj with
  | false=> rfl
  | true=> exact absurd ho ((h.owned aj).1 e)
 have ht:t.next aj=({ fP:=lG t.fP aj w.1,wait:=lG t.wait aj ws },some w):=by
  unfold Turns.next
  simp [hd,hw]
 rw [ht];refine⟨rfl,λL=> ?_,λL=> ?_⟩
 ·unfold Turns.owner;simp only [gX];by_cases hL:L=aj
  ·simp [hL]
  ·rw [if_neg hL,if_neg (λh=> hL h.symm)]
 ·unfold Turns.ws;simp only [gX];by_cases hL:L=aj
  ·simp [hL]
  ·rw [if_neg hL,if_neg (λh=> hL h.symm)]
theorem Ny(h:Gs t)(h0:0<=who)(ho:t.owner aj=who):(t.release aj who).2=0/\(∀L,(t.release aj who).1.owner L=if L=aj then -1 else t.owner L)/\∀L,(t.release aj who).1.ws L=t.ws L:=by
 have ha:jg t.fP aj=some who:=by
  unfold Turns.owner at ho;cases e:jg t.fP aj with
  | none=> rw [e] at ho;simp at ho;omega
  | some v=> rw [e] at ho;simp only [zar] at ho;rw [ho]
 have ht:t.release aj who=({ t with fP:=xX t.fP aj },0):=by
  unfold Turns.release;rw [if_pos ha]
 rw [ht];refine⟨rfl,λL=> ?_,λL=> rfl⟩;unfold Turns.owner;simp only [BP h.ok];by_cases hL:L=aj
 ·simp [hL]
 ·rw [if_neg hL,if_neg (λh=> hL h.symm)]
end
theorem Kq {dH:Rows}{aj:Int}{r:Row}(L:Int):jo (lG dH aj r) L=if L=aj then r else jo dH L:=by
 unfold jo;rw [gX];by_cases hL:L=aj
 ·simp [hL]
 ·rw [if_neg hL,if_neg (λh=> hL h.symm)]
def apY(s:Int):Nat:=if s=1 then 9 else if s=4 then 6 else if s=6 then 0 else 3
def loc(s:Int):Out->Nat
 | .idle=> 0
 | .req _=> 3
 | .wait=> 2
 | .ans _=> if s=3 then 4 else 1
def Dp(d:bJ)(o:Out):Nat:=if d.step=0 then 13 else apY d.step+loc d.step o+if d.aO=3∨d.step=6 then 13 else 0
def wt(d:bJ)(L:Int)(x:Option Ent):Nat:=if x=none then 0 else if d.aO=3/\d.step≠0/\d.step≠6/\d.aj=L then 3 else 16
theorem aiT {d:bJ}{L:Int}{x:Option Ent}:wt d L x<=16:=by
 unfold wt;split
 ·omega
 ·split <;> omega
theorem abA {d:bJ}{L:Int}:wt d L none=0:=rfl
theorem anU {d:bJ}{L:Int}{e:Ent}:3<=wt d L (some e):=by
 unfold wt;rw [if_neg (zdv e)];split <;> omega
theorem aiU {d:bJ}{L:Int}{e e':Ent}:wt d L (some e)=wt d L (some e'):=by
 unfold wt;simp
theorem wX {d:bJ}{L:Int}{x:Option Ent}(h:d.step=0∨d.step=6∨d.aj≠L∨d.aO≠3):wt d L x=if x=none then 0 else 16:=by
 unfold wt;split
 ·rfl
 ·rw [if_neg (by omega)]
def apZ(s s':Int):Bool:=decide (apY s'+3 < apY s+if s=3 then 4 else 1)
theorem sF {d d':bJ}{x y:Option Ent}{p q:Pkt}{L:Int}(hk:d'.aO=d.aO)(hl:d'.aj=d.aj)(h0:d.step≠0)(h6:d.step≠6)(hs:apZ d.step d'.step=true)(hx:(d'.step≠6/\d'.step≠0/\y=x)∨(d'.step=6/\d.aO=3/\y=none)):Dp d' (.req q)+wt d' L y < Dp d (.ans p)+wt d L x:=by
 have hs:=of_decide_eq_true hs;have e1:loc d'.step (.req q)=3:=rfl;have e2:loc d.step (.ans p)=if d.step=3 then 4 else 1:=rfl;rcases hx with⟨h1,h2,rfl⟩ | ⟨h1,h2,rfl⟩
 ·have hw:wt d' L y=wt d L y:=by
   unfold wt;rw [hk,hl];simp only [h0,h6,h1,h2,ne_eq,not_false_eq_true,true_and]
  rw [hw];unfold Dp;rw [if_neg h0,if_neg h2,hk];simp only [h1,h6,or_false];rw [e1,e2];omega
 ·rw [abA];unfold Dp;rw [if_neg h0,if_neg (by omega),if_pos (.inr h1),if_pos (.inl h2)];rw [e1,e2];omega
def TM(n:Int)(f:Int->Nat):Nat:=((List.range n.toNat).map λj:Nat=> f j).sum
theorem abB {f g:Nat->Nat}{i:Nat}:∀{n:Nat},i < n->(∀j,j≠i->g j=f j)->((List.range n).map g).sum+f i=((List.range n).map f).sum+g i
 | 0,h,_=> absurd h (Nat.not_lt_zero i)
 | n+1,h,hf=> by
  simp only [zck,zbj,zcG,zaw,zbC,zbX,List.sum_nil];by_cases e:i=n
  ·subst e;have:(List.range i).map g=(List.range i).map f:=zbt λj hj=> hf j (by have:=zaX.1 hj;omega);rw [this];omega
  ·have:=abB (f:=f) (g:=g) (n:=n) (by omega) hf;have:=hf n λh=> e h.symm;omega
theorem Iw {n i:Int}{f g:Int->Nat}(hi:0<=i/\i < n)(h:∀j,j≠i->g j=f j):TM n g+f i=TM n f+g i:=by
 obtain⟨k,rfl⟩:∃k:Nat,i=k:=⟨i.toNat,by omega⟩
 exact abB (f:=λj=> f j) (g:=λj=> g j) (i:=k) (by omega) λj hj=> h j (by omega)
def pot(c:Cfg)(lf:Int->Nat)(a:Abs):Nat:=TM c.aG (λj=> 33*lf j+Dp (a.aI j) (a.msg j))+TM c.aG λj=> TM c.bn λL=> wt (a.aI j) L (a.ent L j)
theorem TN {c:Cfg}{lf lf':Int->Nat}{a a':Abs}{i k L:Int}(hi:0<=i/\i < c.aG)(hk:0<=k/\k < c.aG)(hL:0<=L/\L < c.bn)(h1:∀j,j≠i->lf' j=lf j/\a'.aI j=a.aI j/\a'.msg j=a.msg j)(h2:∀j L',j≠k∨L'≠L->wt (a'.aI j) L' (a'.ent L' j)=wt (a.aI j) L' (a.ent L' j))
  (h3:33*lf' i+Dp (a'.aI i) (a'.msg i)+wt (a'.aI k) L (a'.ent L k) < 33*lf i+Dp (a.aI i) (a.msg i)+wt (a.aI k) L (a.ent L k)):pot c lf' a' < pot c lf a:=by
 have e1:=Iw (f:=λj=> 33*lf j+Dp (a.aI j) (a.msg j)) (g:=λj=> 33*lf' j+Dp (a'.aI j) (a'.msg j)) hi λj hj=> by
  obtain⟨b1,b2,b3⟩:=h1 j hj;simp only [b1,b2,b3]
 have e2:=Iw (f:=λj=> TM c.bn λL=> wt (a.aI j) L (a.ent L j)) (g:=λj=> TM c.bn λL=> wt (a'.aI j) L (a'.ent L j)) hk λj hj=> by
  have:(λL=> wt (a'.aI j) L (a'.ent L j))=λL=> wt (a.aI j) L (a.ent L j):=funext λL'=> h2 j L' (.inl hj);simp only [this]
 have e3:=Iw (f:=λL=> wt (a.aI k) L (a.ent L k)) (g:=λL=> wt (a'.aI k) L (a'.ent L k)) hL λL' h=> h2 k L' (.inr h);unfold pot;omega
theorem lD {E:vg}{i:Int}:nK E i (E i)=E:=by
 funext j
 by_cases h:j=i
 ·rw [h,fK]
 ·rw [eX h]
theorem abC {d:bJ}{p:Pkt}(hk:p.aO=BI (zD d.step))(hid:p.id=d.id)(hl:p.aj=d.aj)(hs:1<=d.step/\d.step<=6):d.fits p=true:=by
 have:d.step=1∨d.step=2∨d.step=3∨d.step=4∨d.step=5∨d.step=6:=by omega
 unfold bJ.fits;simp only [hk,hid,hl,decide_true,Bool.and_true,decide_eq_true_eq];rcases this with h | h | h | h | h | h <;> simp [h,BI,zD]
structure anV(c:Cfg)(N hm:Int)(E:vg)(r:Row)(v:List Int)(i:Int)(n:Node)(ca:Cache)(d':bJ):Prop where
 aj:d'.aj=n.aI.aj
 aO:d'.aO=n.aI.aO
 id:d'.id=n.aI.id
 step:d'.step≠0
 fall:∀p q,¬(d'.step=6/\d'.aO≠3)->Dp d' (.req q)+wt d' n.aI.aj (ca.find n.aI.aj) < Dp n.aI (.ans p)+wt n.aI n.aI.aj (n.aH.find n.aI.aj)
 other:∀L,L≠n.aI.aj->ca.find L=n.aH.find L
 miss:d'.aO=1->d'.step=1∨d'.step=2->ca.find n.aI.aj=none
 next:(¬(d'.step=6/\d'.aO≠3)/\Hold N hm (nK E i (ca.find n.aI.aj)) r v i d' (.req (d'.ask i hm)))∨
  (d'.step=6/\d'.aO≠3/\∃e,ca.find n.aI.aj=some e/\e.data=v/\
   ((n.aI.aO=1/\Hold N hm (nK E i (some e)) r v i d' (.req (d'.ask i hm)))∨
    (n.aI.aO=2/\e.bZ=true/\∀e':Ent,e'.back=e.back->e'.fwd=e.fwd->e'.bZ=e.bZ->Hold N hm (nK E i (some e')) r e'.data i d' (.req (d'.ask i hm)))))
section
variable {c:Cfg}{N hm:Int}{E:vg}{r:Row}{v:List Int}{i:Int}{n:Node}
theorem TP {ca:Cache}(hl:Lines ca.l){e:Ent}(h0:0<=e.aj)(hf:ca.full e.aj=false):∃u,∀L,(ca.put e).1.find L=if L=e.aj then some { e with used:=u } else ca.find L:=by
 cases h:ca.find e.aj with
 | none=> exact QG hl h0 h hf
 | some x=> exact⟨x.used,λL=> xP hl h0 h L⟩
theorem QH {d:bJ}{me:Int}{ca:Cache}{x:Int}(hx:x=match ca.find d.aj with
   | some own=> if d.next=me then own.fwd else d.next
   | none=> d.next):dD d me ca=if x≠-1 then(ca,{ d with next:=x,step:=3 }) else((ca.put ⟨-1,-1,d.aj,0,true,d.data⟩).1,{ d with next:=x,step:=6,aQ:=2,head:=me,data:=[] }):=by
 unfold dD;cases hc:ca.find d.aj with
 | none=>
  rw [hc] at hx;simp only at hx;subst hx;rfl
 | some own=>
  rw [hc] at hx;simp only at hx;by_cases h:d.next=me
  ·rw [if_pos h] at hx;simp only [if_pos h];subst hx;rfl
  ·rw [if_neg h] at hx;simp only [if_neg h];subst hx;rfl
theorem QI(hl:Lines n.aH.l)(hi:0<=i/\i < N)(hE:E i=n.aH.find n.aI.aj)(h0:0<=n.aI.aj)(hfull:n.aH.full n.aI.aj=false)(hk2:n.aI.aO=2)(hst:n.aI.step=1∨n.aI.step=3){d1:bJ}(k1:d1.aO=2)(k2:d1.aj=n.aI.aj)(k3:d1.id=n.aI.id){R:List Int}(L:aiP N E v i R)(hd1:E i≠none->d1.data=v)(hd2:R=[]->d1.data=v)(hn:d1.next=hdI R (-1)):
  anV c N hm E r v i n (dD d1 i n.aH).1 (dD d1 i n.aH).2:=by
 obtain⟨x,hx⟩:∃x,x=match E i with
   | some own=> if d1.next=i then own.fwd else d1.next
   | none=> d1.next:=⟨_,rfl⟩
 have hx':=hx;rw [hE,<-k2] at hx';rw [QH hx'];rcases aiQ (hm:=hm) (r:=r) hi.1 L hd1 hd2 hn hx k1 with⟨hx1,H⟩ | ⟨hx1,hdv,hall⟩
 ·rw [if_pos hx1];refine⟨k2,k1.trans hk2.symm,k3,(by decide:(3:Int)≠0),λ_ _ _=> sF (k1.trans hk2.symm) k2 (by omega) (by omega) (by rcases hst with h | h <;> rw [h] <;> rfl) (.inl ⟨(by decide:(3:Int)≠6),(by decide:(3:Int)≠0),rfl⟩),λ_ _=> rfl,λh=> absurd (show d1.aO=1 from h) (by omega),.inl ⟨λh=> absurd (show(3:Int)=6 from h.1) (by decide),?_⟩⟩;rw [<-hE,lD];exact H _ rfl k1 rfl rfl
 ·rw [if_neg (by rw [hx1];decide)];obtain⟨u,hu⟩:=TP (ca:=n.aH) hl (e:=⟨-1,-1,d1.aj,0,true,d1.data⟩) (by rw [k2];exact h0) (by rw [k2];exact hfull);simp only at hu;refine⟨k2,k1.trans hk2.symm,k3,(by decide:(6:Int)≠0),λ_ _ h=> absurd ⟨rfl,(show d1.aO≠3 by omega)⟩ h,λL hL=> by rw [hu,if_neg (by rw [k2];exact hL)],λh=> absurd (show d1.aO=1 from h) (by omega),.inr ⟨rfl,by show d1.aO≠3;omega,⟨-1,-1,d1.aj,u,true,d1.data⟩,by rw [hu,if_pos k2.symm],hdv,.inr ⟨hk2,rfl,λe' a b c'=> ?_⟩⟩⟩;exact Iq hi hall a b c' rfl rfl rfl
theorem XG(hl:Lines n.aH.l)(hi:0<=i/\i < N)(hv:v≠[])(hE:E i=n.aH.find n.aI.aj)(h0:0<=n.aI.aj)(hfull:n.aI.aO≠3->n.aH.full n.aI.aj=false)(hkr:1<=n.aI.aO/\n.aI.aO<=3)(hmiss:n.aI.aO=1->n.aI.step=1∨n.aI.step=2->E i=none){p:Pkt}(H:Hold N hm E r v i n.aI (.ans p)):
  ∃ca d',n.after i p=(ca,d',true)/\anV c N hm E r v i n ca d':=by
 obtain⟨f1,f2,f3,f4,f5,f6⟩:=H.ans;have hfit:=abC f4 f2 f3 (by omega);have one:=hkr;unfold Node.after;have hh:∃q,Out.ans p=q/\Hold N hm E r v i n.aI q:=⟨_,rfl,H⟩
 obtain⟨q,hq,H⟩:=hh;cases H with
 | granted h1 W=>
  cases hq;have hk3:n.aI.aO=1∨n.aI.aO=2∨n.aI.aO=3:=by omega
  rcases hk3 with hk | hk | hk
  ·rw [if_pos hk];unfold dU;rw [if_neg (by rw [hk,hfit];simp),if_pos h1];simp only;have hEn:=hmiss hk (.inl h1);by_cases hs:r.aQ≠0
   ·rw [if_pos hs];refine⟨_,_,rfl,rfl,rfl,rfl,(by decide:(2:Int)≠0),λ_ _ _=> sF rfl rfl (by omega) (by omega) (by rw [h1];rfl) (.inl ⟨(by decide:(2:Int)≠6),(by decide:(2:Int)≠0),rfl⟩),λ_ _=> rfl,λ_ _=> by rw [<-hE];exact hEn,.inl ⟨λh=> absurd (show(2:Int)=6 from h.1) (by decide),?_⟩⟩;rw [<-hE,lD];exact Ip (d:={ n.aI with aQ:=r.aQ,head:=r.head,told:=r.head,data:=r.data,step:=2 }) hk W hs rfl rfl
   ·rw [if_neg hs];obtain⟨u,hu⟩:=TP (ca:=n.aH) hl (e:=⟨-1,-1,n.aI.aj,0,false,r.data⟩) h0 (hfull (by omega));simp only at hu;have hr0:r.aQ=0:=Classical.not_not.1 hs;refine⟨_,_,rfl,rfl,rfl,rfl,(by decide:(6:Int)≠0),λ_ _ h=> absurd ⟨rfl,(show n.aI.aO≠3 by omega)⟩ h,λL hL=> by rw [hu,if_neg hL],λ_ h=> (h.elim (λh=> absurd (show(6:Int)=1 from h) (by decide)) λh=> absurd (show(6:Int)=2 from h) (by decide)),.inr ⟨rfl,by show n.aI.aO≠3;omega,⟨-1,-1,n.aI.aj,u,false,r.data⟩,by rw [hu,if_pos rfl],W.DZ (by rw [hr0];decide),.inl ⟨hk,?_⟩⟩⟩;exact Nq hi W hr0 rfl rfl rfl rfl rfl rfl rfl rfl
  ·rw [if_neg (by omega),if_pos hk];unfold dV;rw [if_neg (by rw [hk,hfit];simp),if_pos h1];simp only;refine⟨_,_,rfl,?_⟩;refine QI hl hi hE h0 (hfull (by omega)) hk (.inl h1) hk rfl rfl (Wf.left (i:=i) W) (λhe=> ?_) (λhl0=> ?_) W.head
   ·simp only [<-hE];cases hei:E i with
    | none=> exact absurd hei he
    | some own=> exact W.data i own hei
   ·simp only [<-hE];rw [W.empty hl0 i];exact W.DZ (by rw [W.st0.2 hl0];decide)
  ·rw [if_neg (by omega),if_neg (by omega),if_pos hk];unfold eu;rw [if_neg (by rw [hk,hfit];simp),if_pos h1];simp only;cases hc:n.aH.find n.aI.aj with
   | none=>
    simp only;refine⟨_,_,rfl,rfl,rfl,rfl,(by decide:(6:Int)≠0),λ_ _ _=> sF rfl rfl (by omega) (by omega) (by rw [h1];rfl) (.inr ⟨rfl,hk,hc⟩),λ_ _=> rfl,λh=> absurd (show n.aI.aO=1 from h) (by omega),.inl ⟨λh=> h.2 hk,?_⟩⟩;rw [<-hE,lD];exact Ns W rfl rfl rfl rfl
   | some e=>
    have hei:E i=some e:=hE.trans hc;simp only;by_cases hb:e.back=-1/\e.fwd=-1
    ·rw [if_pos hb];have hdr:=AY (aj:=n.aI.aj) hl;refine⟨_,_,rfl,rfl,rfl,rfl,(by decide:(6:Int)≠0),λ_ _ _=> sF rfl rfl (by omega) (by omega) (by rw [h1];rfl) (.inr ⟨rfl,hk,by rw [hdr,if_pos rfl]⟩),λL hL=> by rw [hdr,if_neg hL],λh=> absurd (show n.aI.aO=1 from h) (by omega),.inl ⟨λh=> h.2 hk,?_⟩⟩;rw [hdr,if_pos rfl];exact IQ W hv hei hb.1 hb.2 rfl rfl rfl rfl
    ·rw [if_neg hb];by_cases hb1:e.back=-1
     ·rw [if_pos hb1];refine⟨_,_,rfl,rfl,rfl,rfl,(by decide:(5:Int)≠0),λ_ _ _=> sF rfl rfl (by omega) (by omega) (by rw [h1];rfl) (.inl ⟨(by decide:(5:Int)≠6),(by decide:(5:Int)≠0),rfl⟩),λ_ _=> rfl,λh=> absurd (show n.aI.aO=1 from h) (by omega),.inl ⟨λh=> h.2 hk,?_⟩⟩;rw [<-hE,lD];exact IU W hei hb1 (λh=> hb ⟨hb1,h⟩) rfl hk rfl rfl rfl
     ·rw [if_neg hb1];refine⟨_,_,rfl,rfl,rfl,rfl,(by decide:(4:Int)≠0),λ_ _ _=> sF rfl rfl (by omega) (by omega) (by rw [h1];rfl) (.inl ⟨(by decide:(4:Int)≠6),(by decide:(4:Int)≠0),rfl⟩),λ_ _=> rfl,λh=> absurd (show n.aI.aO=1 from h) (by omega),.inl ⟨λh=> h.2 hk,?_⟩⟩;rw [<-hE,lD];exact IV W hei hb1 rfl hk rfl rfl rfl
 | attached h1 h2 h3 h4 R C M D X F=>
  cases hq;rw [if_pos h2];unfold dU;rw [if_neg (by rw [h2,hfit];simp),if_neg (by omega),if_pos h1];simp only;have hEn:=hmiss h2 (.inr h1);obtain⟨u,hu⟩:=TP (ca:=n.aH) hl (e:=⟨n.aI.head,-1,n.aI.aj,0,false,v⟩) h0 (hfull (by omega));simp only at hu;refine⟨_,_,rfl,rfl,rfl,rfl,(by decide:(6:Int)≠0),λ_ _ h=> absurd ⟨rfl,(show n.aI.aO≠3 by omega)⟩ h,λL hL=> by rw [hu,if_neg hL],λ_ h=> (h.elim (λh=> absurd (show(6:Int)=1 from h) (by decide)) λh=> absurd (show(6:Int)=2 from h) (by decide)),.inr ⟨rfl,by show n.aI.aO≠3;omega,⟨n.aI.head,-1,n.aI.aj,u,false,v⟩,by rw [hu,if_pos rfl],rfl,.inl ⟨h2,?_⟩⟩⟩;exact Nr hi hEn h3 h4 R C M D X F hv rfl rfl rfl rfl rfl rfl rfl rfl
 | Io h1 h2 L hcl h3=>
  cases hq;rw [if_neg (by omega),if_pos h2];unfold dV;rw [if_neg (by rw [h2,hfit];simp),if_neg (by omega),if_pos h1];simp only;refine⟨_,_,rfl,?_⟩;refine QI hl hi hE h0 (hfull (by omega)) h2 (.inr h1) h2 rfl rfl L (λhe=> ?_) (λ_=> ?_) rfl
  ·simp only [<-hE];cases hei:E i with
   | none=> exact absurd hei he
   | some own=> exact h3 he
  ·simp only [<-hE];cases hei:E i with
   | none=> rfl
   | some own=> exact h3 (by rw [hei];simp)
 | yY h1 h2 M h3 C C' h4 h5 h6=>
  cases hq;rw [if_neg (by omega),if_neg (by omega),if_pos h2];unfold eu;rw [if_neg (by rw [h2,hfit];simp),if_neg (by omega),if_pos h1];by_cases hn:n.aI.next=-1
  ·rw [if_pos hn];unfold gB;have hdr:=AY (aj:=n.aI.aj) hl;have hpost:=(M.rng.mid.2.2.2.2.1.aby).1 (h5.symm.trans hn);refine⟨_,_,rfl,rfl,rfl,rfl,(by decide:(6:Int)≠0),λ_ _ _=> sF rfl rfl (by omega) (by omega) (by rw [h1];rfl) (.inr ⟨rfl,h2,by rw [hdr,if_pos rfl]⟩),λL hL=> by rw [hdr,if_neg hL],λh=> absurd (show n.aI.aO=1 from h) (by omega),.inl ⟨λh=> h.2 h2,?_⟩⟩;rw [hdr,if_pos rfl];exact Ir M h3 C hpost rfl rfl h6 rfl
  ·rw [if_neg hn];refine⟨_,_,rfl,rfl,rfl,rfl,(by decide:(5:Int)≠0),λ_ _ _=> sF rfl rfl (by omega) (by omega) (by rw [h1];rfl) (.inl ⟨(by decide:(5:Int)≠6),(by decide:(5:Int)≠0),rfl⟩),λ_ _=> rfl,λh=> absurd (show n.aI.aO=1 from h) (by omega),.inl ⟨λh=> h.2 h2,?_⟩⟩;rw [<-hE,lD];exact IW (d:={ n.aI with step:=5 }) M (λh=> hn (by rw [h5,h];rfl)) C C' rfl h2 h4 h5 h6
 | vk h1 h2 M h3 C C' h4 h5 h6=>
  cases hq;rw [if_neg (by omega),if_neg (by omega),if_pos h2];unfold eu;rw [if_neg (by rw [h2,hfit];simp),if_neg (by omega),if_neg (by omega),if_pos h1];have hdr:=AY (aj:=n.aI.aj) hl;by_cases hh:n.aI.head=-1
  ·rw [if_pos hh];unfold gB;refine⟨_,_,rfl,rfl,rfl,rfl,(by decide:(6:Int)≠0),λ_ _ _=> sF rfl rfl (by omega) (by omega) (by rw [h1];rfl) (.inr ⟨rfl,h2,by rw [hdr,if_pos rfl]⟩),λL hL=> by rw [hdr,if_neg hL],λh=> absurd (show n.aI.aO=1 from h) (by omega),.inl ⟨λh=> h.2 h2,?_⟩⟩;rw [hdr,if_pos rfl];exact DR (h0:=n.aI.head) (nx:=n.aI.next) M h3 C C' h4 h5 rfl rfl (by rw [if_pos hh]) rfl
  ·rw [if_neg hh];unfold gB;refine⟨_,_,rfl,rfl,rfl,rfl,(by decide:(6:Int)≠0),λ_ _ _=> sF rfl rfl (by omega) (by omega) (by rw [h1];rfl) (.inr ⟨rfl,h2,by rw [hdr,if_pos rfl]⟩),λL hL=> by rw [hdr,if_neg hL],λh=> absurd (show n.aI.aO=1 from h) (by omega),.inl ⟨λh=> h.2 h2,?_⟩⟩;rw [hdr,if_pos rfl];exact DR (h0:=n.aI.head) (nx:=n.aI.next) M h3 C C' h4 h5 rfl rfl (by rw [if_neg hh];exact h6) rfl
 | attach _ _ _ _ _=> cases hq
 | IL _ _ _ _ _=> cases hq
 | front _ _ _ _ _ _ _ _=> cases hq
 | behind _ _ _ _ _ _ _ _ _=> cases hq
 | unlock _ _=> cases hq
end
def dZ.QS(m:dZ)(L:Int):vg:=λj=> (m.bG j).bind λn=> n.aH.find L
def dZ.qO(m:dZ)(L:Int):Home:=match m.bG (m.c.bf L) with
 | some n=> n.home
 | none=> ⟨[],⟨[],[]⟩⟩
def dZ.pW(m:dZ)(j:Int):bJ:=match m.bG j with
 | some n=> n.aI
 | none=> .zero
def dZ.abs(m:dZ)(msg:Int->Out)(val:Int->List Int):Abs:=
 ⟨m.QS,λL=> jo (m.qO L).dH L,λL=> (m.qO L).aT.owner L,λL=> (m.qO L).aT.ws L,m.pW,msg,val⟩
structure GInv(m:dZ)(msg:Int->Out)(val:Int->List Int):Prop where
 abs:nM m.c (m.abs msg val)
 pk:pz m.fab msg
def dZ.with_(m:dZ)(i:Nat)(n:Node)(f:Fab)(t:List Evn):dZ:={ m with aG:=m.aG.set i n,fab:=f,trace:=t }
section
variable {m:dZ}{i:Nat}{n n':Node}{f:Fab}{t:List Evn}{msg msg':Int->Out}{val val':Int->List Int}
theorem AZ(h:m.aG[i]?=some n):m.bG i=some n:=by
 unfold dZ.bG;rw [if_pos (by omega),zat];exact h
theorem A8(h:m.aG[i]?=some n)(j:Int):(m.with_ i n' f t).bG j=if j=i then some n' else m.bG j:=by
 have hlt:=(zai.1 h).1;unfold dZ.bG dZ.with_;simp only;by_cases hj:j=i
 ·rw [if_pos hj,hj,if_pos (by omega),zat,zbd hlt]
 ·rw [if_neg hj];by_cases h0:0<=j
  ·rw [if_pos h0,if_pos h0,zbm (by omega)]
  ·rw [if_neg h0,if_neg h0]
theorem Iy(h:m.aG[i]?=some n)(L:Int):(m.with_ i n' f t).QS L=nK (m.QS L) i (n'.aH.find L):=by
 funext j
 unfold dZ.QS;rw [A8 h];by_cases hj:j=i
 ·rw [if_pos hj,hj,fK];rfl
 ·rw [if_neg hj,eX hj]
theorem CY(h:m.aG[i]?=some n):(m.with_ i n' f t).pW=dK m.pW i n'.aI:=by
 funext j
 unfold dZ.pW;rw [A8 h];by_cases hj:j=i
 ·rw [if_pos hj,hj,aK]
 ·rw [if_neg hj,aS hj]
theorem xQ(h:m.aG[i]?=some n)(L:Int):(m.with_ i n' f t).qO L=if m.c.bf L=i then n'.home else m.qO L:=by
 unfold dZ.qO;have hc:(m.with_ i n' f t).c=m.c:=rfl;rw [A8 h,hc];by_cases hj:m.c.bf L=i
 ·rw [if_pos hj,if_pos hj]
 ·rw [if_neg hj,if_neg hj]
theorem oL(h:m.aG[i]?=some n){L:Int}(hL:m.c.bf L=i):m.qO L=n.home:=by
 unfold dZ.qO;rw [hL,AZ h]
theorem sG(h:m.aG[i]?=some n)(L:Int):m.QS L i=n.aH.find L:=by
 unfold dZ.QS;rw [AZ h];rfl
theorem kR(h:m.aG[i]?=some n):m.pW i=n.aI:=by
 unfold dZ.pW;rw [AZ h]
theorem qJ(h:m.aG[i]?=some n)(hh:n'.home=n.home){L:Int}(hc:∀L',L'≠L->n'.aH.find L'=n.aH.find L'):
  (m.with_ i n' f t).abs msg' val'={ m.abs msg val with ent:=dK m.QS L (nK (m.QS L) i (n'.aH.find L)),aI:=dK m.pW i n'.aI,msg:=msg',val:=val' }:=by
 have hH:∀L,(m.with_ i n' f t).qO L=m.qO L:=λL=> by
  rw [xQ h];by_cases hL:m.c.bf L=i
  ·rw [if_pos hL,hh,oL h hL]
  ·rw [if_neg hL]
 have hE:(m.with_ i n' f t).QS=dK m.QS L (nK (m.QS L) i (n'.aH.find L)):=by
  funext L'
  rw [Iy h];by_cases hL:L'=L
  ·rw [hL,aK]
  ·rw [aS hL,hc L' hL,<-sG h L',lD]
 unfold dZ.abs;simp only [hH,hE,CY h]
theorem E8(h:m.aG[i]?=some n)(hc:∀L,n'.aH.find L=n.aH.find L)(hd:n'.aI=n.aI){L:Int}(hL:m.c.bf L=i)(hr:∀L',L'≠L->jo n'.home.dH L'=jo n.home.dH L')(ho:∀L',L'≠L->n'.home.aT.owner L'=n.home.aT.owner L')(hw:∀L',L'≠L->n'.home.aT.ws L'=n.home.aT.ws L'):
  (m.with_ i n' f t).abs msg' val={ m.abs msg val with row:=dK (m.abs msg val).row L (jo n'.home.dH L),own:=dK (m.abs msg val).own L (n'.home.aT.owner L),ws:=dK (m.abs msg val).ws L (n'.home.aT.ws L),msg:=msg' }:=by
 have hE:(m.with_ i n' f t).QS=m.QS:=by
  funext L'
  rw [Iy h,hc,<-sG h L',lD]
 have hD:(m.with_ i n' f t).pW=m.pW:=by
  rw [CY h,hd,<-kR h]
  funext j
  by_cases hj:j=i
  ·rw [hj,aK]
  ·rw [aS hj]
 have h1:(λL'=> jo ((m.with_ i n' f t).qO L').dH L')=dK (λL=> jo (m.qO L).dH L) L (jo n'.home.dH L):=by
  funext L'
  rw [xQ h];by_cases e:L'=L
  ·rw [e,if_pos hL,aK]
  ·rw [aS e];by_cases e':m.c.bf L'=i
   ·rw [if_pos e',hr L' e,oL h e']
   ·rw [if_neg e']
 have h2:(λL'=> ((m.with_ i n' f t).qO L').aT.owner L')=dK (λL=> (m.qO L).aT.owner L) L (n'.home.aT.owner L):=by
  funext L'
  rw [xQ h];by_cases e:L'=L
  ·rw [e,if_pos hL,aK]
  ·rw [aS e];by_cases e':m.c.bf L'=i
   ·rw [if_pos e',ho L' e,oL h e']
   ·rw [if_neg e']
 have h3:(λL'=> ((m.with_ i n' f t).qO L').aT.ws L')=dK (λL=> (m.qO L).aT.ws L) L (n'.home.aT.ws L):=by
  funext L'
  rw [xQ h];by_cases e:L'=L
  ·rw [e,if_pos hL,aK]
  ·rw [aS e];by_cases e':m.c.bf L'=i
   ·rw [if_pos e',hw L' e,oL h e']
   ·rw [if_neg e']
 unfold dZ.abs;simp only [hE,hD,h1,h2,h3]
end
theorem abD {c:Cfg}(hc:c.ok=true){i:Int}(hi:0<=i/\i < c.aG){k L id:Int}(hL:0<=L/\L < c.bn)(hid:0<=id/\id < 4096):((bJ.begin k L id).ask i (c.bf L)).ok=true/\qK ((bJ.begin k L id).ask i (c.bf L)).aO=true/\((bJ.begin k L id).ask i (c.bf L)).src=i/\0<=((bJ.begin k L id).ask i (c.bf L)).dst/\((bJ.begin k L id).ask i (c.bf L)).dst < c.aG:=by
 obtain⟨h1,h2,_⟩:=qp hc;have hh:0<=c.bf L/\c.bf L < c.aG:=by
  unfold Cfg.bf yw;rw [if_neg (by omega)];exact⟨zb7 _ (by omega),zcj _ (by omega)⟩
 have e:(bJ.begin k L id).ask i (c.bf L)=⟨1,i,c.bf L,id,L,0,0,false,[]⟩:=rfl;rw [e];refine⟨?_,rfl,rfl,hh.1,hh.2⟩;simp only [Pkt.ok,zaf,decide_eq_true_eq,zan];omega
theorem XH {c:Cfg}(hc:c.ok=true){L:Int}(hL:0<=L):0<=c.bf L/\c.bf L < c.aG:=by
 obtain⟨h1,_⟩:=qp hc;unfold Cfg.bf yw;rw [if_neg (by omega)];exact⟨zb7 _ (by omega),zcj _ (by omega)⟩
theorem aiV {c:Cfg}(hc:c.ok=true){i:Int}(hi:0<=i/\i < c.aG){E:vg}{r:Row}{v:List Int}{d:bJ}(H:Hold c.aG (c.bf d.aj) E r v i d (.req (d.ask i (c.bf d.aj))))(hL:0<=d.aj/\d.aj < c.bn)(hid:0<=d.id/\d.id < 4096)(hd:d.data.length<=4):
  (d.ask i (c.bf d.aj)).ok=true/\qK (d.ask i (c.bf d.aj)).aO=true/\(d.ask i (c.bf d.aj)).src=i/\0<=(d.ask i (c.bf d.aj)).dst/\(d.ask i (c.bf d.aj)).dst < c.aG:=by
 obtain⟨h1,h2,_⟩:=qp hc;have hh:=XH hc hL.1;have last:∀{l:List Int},Rng c.aG l->l≠[]->0<=nC l (-1)/\nC l (-1) < c.aG:=λR hl=> R.2 _ (Il hl);have ap0:∀{l:List Int},Rng c.aG l->-1<=nC l (-1)/\nC l (-1) < c.aG:=λ{l} R=> by
  by_cases hl:l=[]
  ·rw [hl];exact⟨zba _,by show(-1:Int) < c.aG;omega⟩
  ·have:=last R hl;omega
 have hd_:∀{l:List Int},Rng c.aG l->l≠[]->0<=hdI l (-1)/\hdI l (-1) < c.aG:=λR hl=> R.2 _ (R.hd hl).1;have hdo:∀{l:List Int},Rng c.aG l->-1<=hdI l (-1)/\hdI l (-1) < c.aG:=λ{l} R=> by
  by_cases hl:l=[]
  ·rw [hl];exact⟨zba _,by show(-1:Int) < c.aG;omega⟩
  ·have:=hd_ R hl;omega
 have hq:∃q,Out.req (d.ask i (c.bf d.aj))=q/\Hold c.aG (c.bf d.aj) E r v i d q:=⟨_,rfl,H⟩
 obtain⟨q,hq,H⟩:=hq;cases H with
 | attach k1 k2 k3 k4 W=>
  have:=hd_ W.rng k3;have e:d.ask i (c.bf d.aj)=⟨3,i,d.head,d.id,d.aj,i,0,false,[]⟩:=by unfold bJ.ask;simp [k1]
  rw [e];refine⟨?_,rfl,rfl,by show 0<=d.head;omega,by show d.head < c.aG;omega⟩;simp only [Pkt.ok,zaf,decide_eq_true_eq,zan];omega
 | IL k1 k2 L k3 k4=>
  have:=L.rng.2 d.next (by simp)
  have e:d.ask i (c.bf d.aj)=⟨6,i,d.next,d.id,d.aj,0,0,false,[]⟩:=by unfold bJ.ask;simp [k1]
  rw [e];refine⟨?_,rfl,rfl,by show 0<=d.next;omega,by show d.next < c.aG;omega⟩;simp only [Pkt.ok,zaf,decide_eq_true_eq,zan];omega
 | front k1 k2 M k3 C k4 k5 k6=>
  obtain⟨_,_,_,p1,p2,_⟩:=M.rng.mid;have:=last p1 k3;have:=hdo p2;have e:d.ask i (c.bf d.aj)=⟨4,i,d.head,d.id,d.aj,d.next,0,false,[]⟩:=by unfold bJ.ask;simp [k1]
  rw [e];refine⟨?_,rfl,rfl,by show 0<=d.head;omega,by show d.head < c.aG;omega⟩;simp only [Pkt.ok,zaf,decide_eq_true_eq,zan];omega
 | behind k1 k2 M k3 C C' k4 k5 k6=>
  obtain⟨_,_,_,p1,p2,_⟩:=M.rng.mid;have:=ap0 p1;have:=hd_ p2 k3;have e:d.ask i (c.bf d.aj)=⟨5,i,d.next,d.id,d.aj,d.head,0,false,[]⟩:=by unfold bJ.ask;simp [k1]
  rw [e];refine⟨?_,rfl,rfl,by show 0<=d.next;omega,by show d.next < c.aG;omega⟩;simp only [Pkt.ok,zaf,decide_eq_true_eq,zan];omega
 | unlock k1 W=>
  have:=hdo W.rng;have h3:d.head=_:=W.head;have h4:d.aQ=0∨d.aQ=1∨d.aQ=2:=W.st;have e:d.ask i (c.bf d.aj)=⟨2,i,c.bf d.aj,d.id,d.aj,d.head,d.aQ,decide (d.data≠[]),d.data⟩:=by unfold bJ.ask;simp [k1]
  rw [e];refine⟨?_,rfl,rfl,hh.1,hh.2⟩;simp only [Pkt.ok,zaf,decide_eq_true_eq];omega
 | granted _ _=> cases hq
 | attached _ _ _ _ _ _ _ _ _ _=> cases hq
 | Io _ _ _ _ _=> cases hq
 | yY _ _ _ _ _ _ _ _ _=> cases hq
 | vk _ _ _ _ _ _ _ _ _=> cases hq
def nG(c:Cfg)(o:Opn)(val:Int->List Int):(Int->List Int) × Int:=
 let L:=c.bM o.addr;let w:=(c.dh o.addr).toNat
 if o.aO=1 then(val,(val L).getD w 0)
 else if o.aO=2 then(dK val L ((val L).set w o.value),0)
 else if o.aO=3 then(dK val L ((val L).set w (w64 ((val L).getD w 0+o.value))),(val L).getD w 0)
 else(val,0)
inductive CZ (c:Cfg) (P:Int->Nat->Option Opn):List Evn->(Int->List Int)->List Evn->(Int->List Int)->Prop
 | same {t:List Evn} {v:Int->List Int}:CZ c P t v t v
 | eF {t t':List Evn} {v v':Int->List Int} (i:Int) (k:Nat):CZ c P t v t' v'->CZ c P t v (t'++[⟨i,k,false,0⟩]) v'
 | done {t t':List Evn} {v v':Int->List Int} (i:Int) (k:Nat) (o:Opn):P i k=some o->CZ c P t v t' v'->CZ c P t v (t'++[⟨i,k,true,(nG c o v').2⟩]) (nG c o v').1
def dZ.opAt(m:dZ)(i:Int)(k:Nat):Option Opn:=match m.bG i with
 | some n=> n.bP.ops[k]?
 | none=> none
theorem abE {c:Cfg}{o:Opn}{e:Ent}{val:Int->List Int}(hk:o.aO=1∨((o.aO=2∨o.aO=3)/\e.bZ=true))(hv:e.data=val (c.bM o.addr))(hw:0<=c.dh o.addr/\c.dh o.addr < e.data.length):
  (eG e o (c.dh o.addr)).data=(nG c o val).1 (c.bM o.addr)/\(∀L,L≠c.bM o.addr->(nG c o val).1 L=val L)/\(if o.aO=2 then 0 else e.word (c.dh o.addr))=(nG c o val).2/\
  (eG e o (c.dh o.addr)).back=e.back/\(eG e o (c.dh o.addr)).fwd=e.fwd/\(eG e o (c.dh o.addr)).bZ=e.bZ/\(o.aO=1->eG e o (c.dh o.addr)=e):=by
 have hword:e.word (c.dh o.addr)=(val (c.bM o.addr)).getD (c.dh o.addr).toNat 0:=by
  unfold Ent.word;rw [if_pos hw,hv]
 unfold eG nG;rcases hk with hk | ⟨hk | hk,hd⟩
 ·rw [if_neg (by omega),if_neg (by omega),if_pos hk,if_neg (by omega)];exact⟨hv,λ_ _=> rfl,hword,rfl,rfl,rfl,λ_=> rfl⟩
 ·have hwr:∀x,e.write (c.dh o.addr) x={ e with data:=e.data.set (c.dh o.addr).toNat x }:=λx=> by
   unfold Ent.write;rw [if_pos ⟨hd,hw⟩]
  rw [if_pos hk,if_neg (by omega),if_pos hk,if_pos hk,hwr];exact⟨by simp only [aK,hv],λL hL=> aS hL,rfl,rfl,rfl,rfl,λh=> by omega⟩
 ·have hwr:∀x,e.write (c.dh o.addr) x={ e with data:=e.data.set (c.dh o.addr).toNat x }:=λx=> by
   unfold Ent.write;rw [if_pos ⟨hd,hw⟩]
  rw [if_neg (by omega),if_pos hk,if_neg (by omega),if_neg (by omega),if_pos hk,if_neg (by omega),hwr,hword];exact⟨by simp only [aK,hv],λL hL=> aS hL,rfl,rfl,rfl,rfl,λh=> by omega⟩
theorem jw {α:Type}{g:Int->α}{j:Int}:dK g j (g j)=g:=by
 funext k
 by_cases h:k=j
 ·rw [h,aK]
 ·rw [aS h]
def Node.Iz(n:Node):Nat:=n.bP.ops.length - n.bP.bH.length
def dZ.yc(m:dZ)(j:Int):Nat:=match m.bG j with
 | some n=> n.Iz
 | none=> 0
def dZ.todo(m:dZ)(msg:Int->Out):Nat:=2*pot m.c m.yc (m.abs msg λ_=> [])+m.fab.under
section
variable {m:dZ}{i:Nat}{n n':Node}{f:Fab}{t:List Evn}{msg msg':Int->Out}{val val':Int->List Int}
theorem C9(h:m.aG[i]?=some n):(m.with_ i n' f t).yc=dK m.yc i n'.Iz:=by
 funext j
 unfold dZ.yc;rw [A8 h];by_cases hj:j=i
 ·rw [if_pos hj,hj,aK]
 ·rw [if_neg hj,aS hj]
theorem Nz(h:m.aG[i]?=some n):m.yc i=n.Iz:=by
 unfold dZ.yc;rw [AZ h]
theorem TQ(hp:pot m.c (m.with_ i n' f t).yc ((m.with_ i n' f t).abs msg' val') < pot m.c m.yc (m.abs msg val))(hu:f.under<=m.fab.under+1):(m.with_ i n' f t).todo msg' < m.todo msg:=by
 have h1:(m.with_ i n' f t).todo msg'=2*pot m.c (m.with_ i n' f t).yc ((m.with_ i n' f t).abs msg' val')+f.under:=rfl;have h2:m.todo msg=2*pot m.c m.yc (m.abs msg val)+m.fab.under:=rfl;rw [h1,h2];omega
end
theorem QJ {f:Fab}{i:Int}{q:Port}(hi:f.is i=true):(f.put i q).under+((f.port i).rq.length+(f.port i).an.length)=f.under+(q.rq.length+q.an.length):=by
 have h:=fM hi;obtain⟨hlt,he⟩:=zai.1 h;unfold Fab.under Fab.all Fab.put;simp only;have key:∀(l:List Port) (k:Nat) (x:Port),l[k]?=some x->((l.set k q).flatMap λq=> q.rq++q.an).length+(x.rq.length+x.an.length)=(l.flatMap λq=> q.rq++q.an).length+(q.rq.length+q.an.length):=by
  intro l
  induction l with
  | nil=> intro k x h;simp at h
  | cons y l ih=>
   intro k x h;cases k with
   | zero=>
    simp only [zaP,zaa] at h;subst h;simp only [zb2,zaE,zao];omega
   | succ k=>
    simp only [zbb] at h;have:=ih k x h;simp only [zb3,zaE,zao];omega
 exact key _ _ _ h
theorem abG {f:Fab}{i:Int}{q:Port}(hi:f.is i=true)(h1:q.rq=(f.port i).rq)(h2:q.an=(f.port i).an):(f.put i q).all=f.all:=CX (fM hi) h1 h2
theorem Kr {f f':Fab}{i:Int}{r:Bool}{po:Option Pkt}(h:f.take i r=(f',po)):f'.under=f.under:=by
 unfold Fab.take at h;split at h
 ·rename_i hi;split at h
  ·cases h;rfl
  ·cases h;unfold Fab.under;rw [abG hi (by cases r <;> rfl) (by cases r <;> rfl)]
 ·cases h;rfl
theorem nZ(f:Fab)(p:Pkt):(f.send p).1.under<=f.under+1:=by
 unfold Fab.send;split
 ·exact za6 _
 ·rename_i h;split
  ·exact za6 _
  ·simp only;have hi:f.is p.src=true:=by
    simp only [zbk,za8,not_or,zcr] at h;exact h.1.2
   have:=QJ (q:=(f.port p.src).kC (qK p.aO) ((f.port p.src).sort (qK p.aO)++[p])) hi;cases hk:qK p.aO <;> rw [hk] at this <;> simp [Port.kC,Port.sort] at this ⊢ <;> omega
theorem NC {f:Fab}{a b m:Int}(hin:∀p∈f.all,f.is p.dst=true)(h:(f.deliver a b m).2=0):(f.deliver a b m).1.under+1=f.under:=by
 unfold Fab.deliver at h ⊢;split at h
 ·cases h
 rename_i h1;rw [if_neg h1];split at h
 ·cases h
 rename_i p hp;split at h
 ·cases h
 rename_i h2;split at h
 ·cases h
 rename_i h3;simp only [h2,h3,if_false,zah];have hd:=hin p (zaq hp);obtain⟨q,hq⟩:∃q,q=(f.port p.dst).kM (qK p.aO) ((f.port p.dst).qL (qK p.aO)++[p]):=⟨_,rfl⟩
 have ha:(f.put p.dst q).all=f.all:=abG hd (by rw [hq];cases qK p.aO <;> rfl) (by rw [hq];cases qK p.aO <;> rfl);rw [<-hq];rw [<-ha] at hp;obtain⟨i,req,k',x,f1,f2,f3⟩:=vC (i0:=0) hp;rw [za3] at f1;unfold Fab.remove;rw [f1];simp only;have hi:=abz f2;have h5:=QJ (q:=((f.put p.dst q).port i).drop req k') hi;have hx:=Nw f2;have hu:(f.put p.dst q).under=f.under:=by unfold Fab.under;rw [ha]
 rw [hx] at h5 ⊢;have hlt:=(zai.1 f3).1;cases req <;> simp [Port.drop,Port.kC,Port.sort,List.length_eraseIdx] at h5 hlt ⊢ <;> rw [if_pos hlt] at h5 <;> omega
section
variable {c:Cfg}{lf:Int->Nat}{a:Abs}{i L:Int}{x:Option Ent}{d':bJ}{msg':Int->Out}{val':Int->List Int}{k:Nat}
theorem abH(hi:0<=i/\i < c.aG)(hL:0<=L/\L < c.bn)(hm:∀j,j≠i->msg' j=a.msg j)(hr:∀L',L'≠L->∀y,wt d' L' y=wt (a.aI i) L' y)(h3:33*k+Dp d' (msg' i)+wt d' L x < 33*lf i+Dp (a.aI i) (a.msg i)+wt (a.aI i) L (a.ent L i)):
  pot c (dK lf i k) { a with ent:=dK a.ent L (nK (a.ent L) i x),aI:=dK a.aI i d',msg:=msg',val:=val' } < pot c lf a:=by
 refine TN hi hi hL (λj hj=> ⟨aS hj,aS hj,hm j hj⟩) (λj L' h=> ?_) ?_
 ·show wt (dK a.aI i d' j) L' (dK a.ent L (nK (a.ent L) i x) L' j)=wt (a.aI j) L' (a.ent L' j);by_cases hj:j=i
  ·subst hj;have hL':=h.resolve_left λh=> h rfl;rw [aK,aS hL'];exact hr L' hL' _
  ·rw [aS hj];by_cases e:L'=L
   ·rw [e,aK,eX hj]
   ·rw [aS e]
 ·show 33*dK lf i k i+Dp (dK a.aI i d' i) (msg' i)+wt (dK a.aI i d' i) L (dK a.ent L (nK (a.ent L) i x) L i) < _;rw [aK,aK,aK,fK];exact h3
theorem aiW {a':Abs}(hi:0<=i/\i < c.aG)(hl:0 < c.bn)(h1:a'.ent=a.ent)(h2:a'.aI=a.aI)(hm:∀j,j≠i->a'.msg j=a.msg j)(h3:Dp (a.aI i) (a'.msg i) < Dp (a.aI i) (a.msg i)):pot c lf a' < pot c lf a:=by
 refine TN (L:=0) hi hi ⟨zba _,hl⟩ (λj hj=> ⟨rfl,by rw [h2],hm j hj⟩) (λj L' h=> by rw [h1,h2]) ?_;rw [h1,h2];omega
theorem abI {s:Int}{q p:Pkt}{e:Ent}(hi:0<=i/\i < c.aG)(hs:0<=s/\s < c.aG)(hL:0<=L/\L < c.bn)(hm:a.msg s=.req p)(he:a.ent L i=some e)(h0:(a.aI s).step≠0)(h3:(∃e',x=some e')/\(a.aI s).step≠3∨x=none):
  pot c lf { a with ent:=dK a.ent L (nK (a.ent L) i x),msg:=dK a.msg s (.ans q) } < pot c lf a:=by
 refine TN hs hi hL (λj hj=> ⟨rfl,rfl,aS hj⟩) (λj L' h=> ?_) ?_
 ·show wt (a.aI j) L' (dK a.ent L (nK (a.ent L) i x) L' j)=wt (a.aI j) L' (a.ent L' j);by_cases e:L'=L
  ·have hj:=h.resolve_right λh=> h e;rw [e,aK,eX hj]
  ·rw [aS e]
 ·show 33*lf s+Dp (a.aI s) (dK a.msg s (.ans q) s)+wt (a.aI i) L (dK a.ent L (nK (a.ent L) i x) L i) < _;rw [aK,aK,fK,hm,he];unfold Dp;rw [if_neg h0,if_neg h0];have l1:loc (a.aI s).step (.req p)=3:=rfl;have l2:loc (a.aI s).step (.ans q)=if(a.aI s).step=3 then 4 else 1:=rfl;rcases h3 with⟨⟨e',rfl⟩,h3⟩ | rfl
  ·rw [l1,l2,if_neg h3,aiU (e:=e') (e':=e)];omega
  ·rw [l1,l2,abA];have:=anU (d:=a.aI i) (L:=L) (e:=e);split <;> omega
end
section
variable {m:dZ}{T:Nat}{i:Nat}{n n':Node}{f:Fab}{t:List Evn}{msg msg':Int->Out}{val val':Int->List Int}
theorem E9(h:m.aG[i]?=some n)(hh:n'.home=n.home)(hc:∀L,n'.aH.find L=n.aH.find L):
  (m.with_ i n' f t).abs msg' val'={ m.abs msg val with aI:=dK m.pW i n'.aI,msg:=msg',val:=val' }:=by
 rw [qJ (val:=val) (msg:=msg) h hh (L:=0) (λL _=> hc L),hc,<-sG h,lD,jw];rfl
theorem MX.range(X:MX T m)(h:m.aG[i]?=some n):0<=(i:Int)/\(i:Int) < m.c.aG:=by
 have:=X.inv.len;have:=(zai.1 h).1;omega
theorem MX.is(X:MX T m){j:Int}(h:0<=j/\j < m.c.aG){f:Fab}(hl:f.l.length=m.fab.l.length):f.is j=true:=by
 have:=X.inv.fab.len;unfold Fab.is;simp only [zaf,decide_eq_true_eq];omega
theorem ND(h:m.aG[i]?=some n){o:Opn}(hc:n.bP.cur=some o):m.opAt i n.bP.bH.length=some o:=by
 unfold dZ.opAt;rw [AZ h];exact hc
theorem Fa {o:Opn}(hc:n.bP.cur=some o)(hb:n.bP.eF=true){v:Int}(h:n'.bP=n.bP.BL v):n'.Iz+1=n.Iz:=by
 have:=(zai.1 hc).1;unfold Node.Iz;rw [h];unfold Proc.BL;rw [if_pos hb];show n.bP.ops.length - (n.bP.bH++[v]).length+1=_;rw [zao,List.length_singleton];omega
theorem og(X:MX T m)(hn:m.aG[i]?=some n){L:Int}(hL:0<=L/\L < m.c.bn)(h1:n'.home=n.home)(h2:∀L',L'≠L->n'.aH.find L'=n.aH.find L')(h4:∀L',L'≠L->∀y,wt n'.aI L' y=wt n.aI L' y)(h5:f.under<=m.fab.under+1)(hm:∀j:Int,j≠i->msg' j=msg j)
  (h6:33*n'.Iz+Dp n'.aI (msg' i)+wt n'.aI L (n'.aH.find L) < 33*n.Iz+Dp n.aI (msg i)+wt n.aI L (n.aH.find L)):(m.with_ i n' f t).todo msg' < m.todo msg:=by
 obtain⟨val,hv⟩:∃val:Int->List Int,val=λ_=> []:=⟨_,rfl⟩
 refine TQ (val:=val) (val':=val) ?_ h5;rw [C9 hn,qJ (msg:=msg) (val:=val) hn h1 h2];refine abH (c:=m.c) (lf:=m.yc) (a:=m.abs msg val) (L:=L) (x:=n'.aH.find L) (d':=n'.aI) (k:=n'.Iz) (X.range hn) hL hm (λL' hL y=> by rw [show(m.abs msg val).aI i=_ from kR hn];exact h4 L' hL y) ?_;rw [Nz hn,show(m.abs msg val).aI i=_ from kR hn,show(m.abs msg val).ent L i=_ from sG hn _];exact h6
def bJ.end_(d:bJ):bJ:={ d with step:=0 }
set_option maxHeartbeats 1000000 in
theorem GInv.answered(X:MX T m)(G:GInv m msg val)(hn:m.aG[i]?=some n){f':Fab}{p:Pkt}(ht:m.fab.take i false=(f',some p)):
  ∃msg' val',GInv (m.with_ i (n.answered m.c i f' m.trace p).1 (n.answered m.c i f' m.trace p).2.1 (n.answered m.c i f' m.trace p).2.2) msg' val'/\CZ m.c m.opAt m.trace val (n.answered m.c i f' m.trace p).2.2 val'/\(m.with_ i (n.answered m.c i f' m.trace p).1 (n.answered m.c i f' m.trace p).2.1 (n.answered m.c i f' m.trace p).2.2).todo msg' < m.todo msg:=by
 obtain⟨hs,b1,b2,b3,R1,ho,hl⟩:=G.pk.takeA ht;have hc:=X.inv.ok;have NI:=X.inv.bG i n hn;have NX_:=X.bG i n hn;have hi:=X.range hn;have hm:(m.abs msg val).msg i=.ans p:=b3;have hd:(m.abs msg val).aI i=n.aI:=kR hn;have hQ:=(X.inv.fab.take i false).2 p (by rw [ht]);rcases G.abs.bG i hi.1 hi.2 with⟨_,h⟩ | O
 ·rw [hm] at h;cases h
 have OL:=O.aj;rw [hd] at OL;have hut:=Kr ht;have hm':msg i=.ans p:=hm;rcases O.at_ with⟨_,_,h | ⟨h,_⟩⟩ | hold | F
 ·rw [hm] at h;cases h
 ·rw [hm] at h;cases h
 ·-- the aI goes on
  obtain⟨_,H⟩:=G.abs.holder O.aj hold hi.1;rw [hd,hm] at H;rw [hd] at hold;have hst:=H.ans;have hs0:n.aI.step≠0:=by omega
  have DO:=NI.aI hs0;have hv:=G.abs.val n.aI.aj OL.1 OL.2;have hmiss:n.aI.aO=1->n.aI.step=1∨n.aI.step=2->(m.abs msg val).ent n.aI.aj i=none:=by
   have:=O.miss;rw [hd] at this;exact this
  obtain⟨ca,d',hA,Nx⟩:=XG (c:=m.c) NI.aH.bn hi hv (sG hn n.aI.aj) OL.1 (λh3=> (DO.work h3 (by omega)).full) DO.aO hmiss H;have hdat:d'.data.length<=4:=by
   have:=VP (me:=i) (NI.aH.le hc) NX_ (p:=p) (by
    have:=hQ.ok;simp only [Pkt.ok,zaf,decide_eq_true_eq] at this;omega)
   rw [hA] at this;exact this
  have hid:0<=d'.id/\d'.id < 4096:=by
   have:=O.idr;rw [hd] at this;rw [Nx.id];exact this
  have adK:0<=d'.aj/\d'.aj < m.c.bn:=by rw [Nx.aj];exact OL
  have hnw:(m.abs msg val).msg i≠.wait:=by rw [hm];exact λe=> by cases e
  have hki:d'.aO=((m.abs msg val).aI i).aO:=by rw [hd];exact Nx.aO
  have hii:d'.id=((m.abs msg val).aI i).id:=by rw [hd];exact Nx.id
  have hmi:dK msg i .idle i=.idle:=aK;have hidle:dK (dK msg i .idle) i (.req (d'.ask i (m.c.bf d'.aj)))=dK msg i (.req (d'.ask i (m.c.bf d'.aj))):=by
   funext k
   by_cases h:k=i
   ·rw [h,aK,aK]
   ·rw [aS h,aS h,aS h]
  have hout:1<=f'.out:=by
   have:=(qp hc).2.2.2.2.2.1;rw [ho,X.inv.fab.out];exact this.1
  have send:∀{E:vg} {r:Row} {v:List Int},Hold m.c.aG (m.c.bf n.aI.aj) E r v i d' (.req (d'.ask i (m.c.bf n.aI.aj)))->pz (f'.send (d'.ask i (m.c.bf d'.aj))).1 (dK msg i (.req (d'.ask i (m.c.bf d'.aj)))):=λH'=> by
   rw [<-Nx.aj] at H';obtain⟨a1,a2,a3,a4,a5⟩:=aiV hc hi H' adK hid hdat;have:=R1.anT (p:=d'.ask i (m.c.bf d'.aj)) (by rw [a3,hmi];exact λq e=> by cases e) (by rw [a3,hmi];exact λq e=> by cases e) a1 a2 (by rw [a3];exact X.is hi hl) (X.is ⟨a4,a5⟩ hl) hout;rw [a3,hidle] at this;exact this.2
  rcases Nx.next with⟨hno,H'⟩ | ⟨h6,h3,e,he,hev,hcase⟩
  ·-- no operation ends
   have hans:n.answered m.c i f' m.trace p=({ n with aH:=ca,aI:=d' },(f'.send (d'.ask i (m.c.bf d'.aj))).1,m.trace):=by
    unfold Node.answered;rw [hA];simp only [zbG,if_false,if_neg Nx.step,if_neg hno];rfl
   rw [hans];refine⟨dK msg i (.req (d'.ask i (m.c.bf d'.aj))),val,⟨?_,send H'⟩,.same,og X hn OL rfl Nx.other (λL' hL y=> by
    rw [wX (.inr (.inr (.inl (by show d'.aj≠_;rw [Nx.aj];exact λe=> hL e.symm)))),wX (.inr (.inr (.inl λe=> hL e.symm)))]) (by have:=nZ f' (d'.ask i (m.c.bf d'.aj));dsimp only;omega) (λj hj=> aS hj) (by
    rw [aK,hm'];have:=Nx.fall p (d'.ask i (m.c.bf d'.aj)) hno;show 33*n.Iz+Dp d' _+wt d' _ (ca.find _) < _;omega)⟩
   show nM m.c ((m.with_ i { n with aH:=ca,aI:=d' } (f'.send (d'.ask i (m.c.bf d'.aj))).1 m.trace).abs (dK msg i (.req (d'.ask i (m.c.bf d'.aj)))) val);rw [qJ (n':={ n with aH:=ca,aI:=d' }) (msg:=msg) (val:=val) hn rfl (L:=n.aI.aj) Nx.other];have:=G.abs.goes (x:=ca.find n.aI.aj) (v:=val n.aI.aj) (d:=d') hi OL hold hnw hv Nx.aj hki hii (λa b=> Nx.miss a b) H';have hvs:dK (m.abs msg val).val n.aI.aj (val n.aI.aj)=val:=jw;rw [hvs,<-Nx.aj] at this;rw [<-Nx.aj];exact this
  ·-- an operation ends
   have hk3:n.aI.aO≠3:=by rw [<-Nx.aO];exact h3
   have W:=DO.work hk3 (by omega);obtain⟨o,o1,o2,o3,o4⟩:=W.op;have NXT:=Nh NI.aH DO hs0 hQ (by rw [<-rM];exact hA);have hem:=(ig NXT.inv.bn).1 he;have E_:=NXT.inv.ent e hem.1;have hright:=NI.bP.right o (zaq o1);have hw:0<=m.c.dh o.addr/\m.c.dh o.addr < m.c.cO:=⟨(aoh hc hright.1).wlo,(aoh hc hright.1).whi⟩
   have hdl:=E_.dat.1;have hko:o.aO=1∨((o.aO=2∨o.aO=3)/\e.bZ=true):=by
    rcases hcase with⟨k1,_⟩ | ⟨k2,hdt,_⟩
    ·exact .inl (o3 k1)
    ·exact .inr ⟨o4 k2,hdt⟩
   obtain⟨w1,w2,w3,w4,w5,w6,w7⟩:=abE (c:=m.c) (val:=val) hko (by rw [o2];exact hev) (by omega);have y:=qH e o (m.c.dh o.addr);have hput:=xP NXT.inv.bn (e:=eG e o (m.c.dh o.addr)) (x:=e) (by rw [y.1];exact E_.lo) (by rw [y.1,hem.2];exact he);have hsame:({ eG e o (m.c.dh o.addr) with used:=e.used }:Ent)=eG e o (m.c.dh o.addr):=by rw [<-y.2.1]
   have hop:n.bP.op=o:=by unfold Proc.op;rw [o1];rfl
   have hidx:n.bP.idx=n.bP.bH.length:=by unfold Proc.idx;rw [o1]
   have hans:n.answered m.c i f' m.trace p=({ n with aH:=(ca.put (eG e o (m.c.dh o.addr))).1,aI:=d',bP:=n.bP.BL (if o.aO=2 then 0 else e.word (m.c.dh o.addr)) },(f'.send (d'.ask i (m.c.bf d'.aj))).1,m.trace++[⟨i,n.bP.bH.length,true,if o.aO=2 then 0 else e.word (m.c.dh o.addr)⟩]):=by
    unfold Node.answered;rw [hA];simp only [zbG,if_false,if_neg Nx.step,if_pos (show d'.step=6/\d'.aO≠3 from⟨h6,h3⟩)];unfold Node.effect Node.done;simp only [hop,o2,he,zar,hidx];rfl
   rw [hans];have hx:(ca.put (eG e o (m.c.dh o.addr))).1.find n.aI.aj=some (eG e o (m.c.dh o.addr)):=by
    rw [hput,if_pos (by rw [y.1,hem.2]),hsame]
   have ap1:(nG m.c o val).1 n.aI.aj≠[]:=by
    rw [<-o2,<-w1];intro h0;have h1:=y.2.2.2;rw [h0] at h1;simp only [zan] at h1;omega
   have H':Hold m.c.aG (m.c.bf n.aI.aj) (nK ((m.abs msg val).ent n.aI.aj) i (some (eG e o (m.c.dh o.addr)))) ((m.abs msg val).row n.aI.aj) ((nG m.c o val).1 n.aI.aj) i d' (.req (d'.ask i (m.c.bf n.aI.aj))):=by
    rcases hcase with⟨k1,Hc⟩ | ⟨k2,hdt,Hc⟩
    ·have hv1:(nG m.c o val).1 n.aI.aj=val n.aI.aj:=by
      unfold nG;rw [if_pos (o3 k1)]
     rw [w7 (o3 k1),hv1];exact Hc
    ·have:=Hc (eG e o (m.c.dh o.addr)) w4 w5 w6;rw [w1,o2] at this;exact this
   refine⟨dK msg i (.req (d'.ask i (m.c.bf d'.aj))),(nG m.c o val).1,⟨?_,send H'⟩,?_,og X hn OL rfl (λL hL=> by
     show(ca.put _).1.find L=_;rw [hput,if_neg (by rw [y.1,hem.2];exact hL)];exact Nx.other L hL) (λL' hL y=> by
    rw [wX (.inr (.inr (.inl (by show d'.aj≠_;rw [Nx.aj];exact λe=> hL e.symm)))),wX (.inr (.inr (.inl λe=> hL e.symm)))]) (by have:=nZ f' (d'.ask i (m.c.bf d'.aj));dsimp only;omega) (λj hj=> aS hj) ?_⟩
   ·have habs:=qJ (m:=m) (n:=n) (n':={ n with aH:=(ca.put (eG e o (m.c.dh o.addr))).1,aI:=d',bP:=n.bP.BL (if o.aO=2 then 0 else e.word (m.c.dh o.addr)) }) (f:=(f'.send (d'.ask i (m.c.bf d'.aj))).1) (t:=m.trace++[⟨i,n.bP.bH.length,true,if o.aO=2 then 0 else e.word (m.c.dh o.addr)⟩]) (msg:=msg) (val:=val) (msg':=dK msg i (.req (d'.ask i (m.c.bf d'.aj)))) (val':=(nG m.c o val).1) hn rfl (L:=n.aI.aj) (λL hL=> by
     show(ca.put _).1.find L=_;rw [hput,if_neg (by rw [y.1,hem.2];exact hL)];exact Nx.other L hL)
    rw [habs];simp only [hx];have:=G.abs.goes (x:=some (eG e o (m.c.dh o.addr))) (v:=(nG m.c o val).1 n.aI.aj) (d:=d') hi OL hold hnw ap1 Nx.aj hki hii (λ_ b=> by omega) H';have hvf:dK val n.aI.aj ((nG m.c o val).1 n.aI.aj)=(nG m.c o val).1:=by
     funext L
     by_cases hL:L=n.aI.aj
     ·rw [hL,aK]
     ·rw [aS hL,w2 L (by rw [o2];exact hL)]
    have arl:dK (m.abs msg val).val n.aI.aj ((nG m.c o val).1 n.aI.aj)=(nG m.c o val).1:=hvf;rw [arl,<-Nx.aj] at this;rw [<-Nx.aj];exact this
   ·rw [w3];exact .done i n.bP.bH.length o (ND hn o1) .same
   ·rw [aK,hm'];have ht:=Fa (n':={ n with aH:=(ca.put (eG e o (m.c.dh o.addr))).1,aI:=d',bP:=n.bP.BL (if o.aO=2 then 0 else e.word (m.c.dh o.addr)) }) o1 W.eF rfl;have hD:Dp d' (.req (d'.ask i (m.c.bf d'.aj)))=16:=by
     unfold Dp;rw [if_neg (by omega),if_pos (.inr h6),h6];rfl
    have:=aiT (d:=d') (L:=n.aI.aj) (x:=(ca.put (eG e o (m.c.dh o.addr))).1.find n.aI.aj)
    dsimp only at ht ⊢
    omega
 ·-- the aI is over
  obtain⟨f1,f2,f3⟩:=F;have F':apV m.c (m.abs msg val) i:=⟨f1,f2,f3⟩
  rw [hd] at f1;rw [hm,hd] at f3;have hp:p=adZ m.c n.aI i:=Out.ans.inj f3;have hfit:n.aI.fits p=true:=abC (by rw [hp,f1];rfl) (by rw [hp];rfl) (by rw [hp];rfl) (by omega);have DO:=NI.aI (by omega);have hA:n.after i p=(n.aH,n.aI.end_,true):=by
   unfold Node.after;by_cases k1:n.aI.aO=1
   ·rw [if_pos k1];unfold dU;rw [if_neg (by rw [k1,hfit];simp),if_neg (by omega),if_neg (by omega),if_pos f1];rfl
   ·rw [if_neg k1];by_cases k2:n.aI.aO=2
    ·rw [if_pos k2];unfold dV;rw [if_neg (by rw [k2,hfit];simp),if_neg (by omega),if_neg (by omega),if_pos f1];rfl
    ·have k3:n.aI.aO=3:=by have:=DO.aO;omega
     rw [if_neg k2,if_pos k3];unfold eu;rw [if_neg (by rw [k3,hfit];simp),if_neg (by omega),if_neg (by omega),if_neg (by omega),if_pos f1];rfl
  have hov:=G.abs.over hi F' (d:=n.aI.end_) rfl;have wts:∀L' y,wt n.aI.end_ L' y=wt n.aI L' y:=λL' y=> by rw [wX (.inl rfl),wX (.inr (.inl f1))]
  have hD:Dp n.aI (.ans p)=14:=by
   unfold Dp;rw [if_neg (by omega),if_pos (.inr f1),f1];rfl
  have hE:Dp n.aI.end_ .idle=13:=rfl;by_cases hfl:n.aI.aO=3/\n.bP.op.aO=4
  ·have hcur:∃o,n.bP.cur=some o:=by
    cases h:n.bP.cur with
    | some o=> exact⟨o,rfl⟩
    | none=>
     have:=hfl.2;unfold Proc.op at this;rw [h] at this;exact absurd this (by decide)
   obtain⟨o,o1⟩:=hcur;have hop:n.bP.op=o:=by unfold Proc.op;rw [o1];rfl
   have hidx:n.bP.idx=n.bP.bH.length:=by unfold Proc.idx;rw [o1]
   have hans:n.answered m.c i f' m.trace p=({ n with aI:=n.aI.end_,bP:=n.bP.BL 0 },f',m.trace++[⟨i,n.bP.bH.length,true,0⟩]):=by
    unfold Node.answered;rw [hA];simp only [zbG,if_false,show n.aI.end_.step=0 from rfl,if_true,show n.aI.end_.aO=n.aI.aO from rfl,if_pos hfl];unfold Node.done;simp only [hidx]
   rw [hans];refine⟨dK msg i .idle,val,⟨?_,R1⟩,?_,og X hn OL rfl (λ_ _=> rfl) (λL' _ y=> wts L' y) (by dsimp only;omega) (λj hj=> aS hj) (by
    rw [aK,hm'];have ht:=Fa (n':={ n with aI:=n.aI.end_,bP:=n.bP.BL 0 }) o1 (DO.roll hfl.1) rfl
    dsimp only at ht ⊢
    rw [wts,hD,hE];omega)⟩
   ·show nM m.c ((m.with_ i { n with aI:=n.aI.end_,bP:=n.bP.BL 0 } f' _).abs (dK msg i .idle) val);rw [E9 (n':={ n with aI:=n.aI.end_,bP:=n.bP.BL 0 }) (msg:=msg) (val:=val) hn rfl (λ_=> rfl)];exact hov
   ·have arn:nG m.c o val=(val,0):=by
     have:o.aO=4:=by rw [<-hop];exact hfl.2
     unfold nG;rw [if_neg (by omega),if_neg (by omega),if_neg (by omega)]
    have:=CZ.done (c:=m.c) (P:=m.opAt) i n.bP.bH.length o (ND hn o1) (.same (t:=m.trace) (v:=val));rw [arn] at this;exact this
  ·have hans:n.answered m.c i f' m.trace p=({ n with aI:=n.aI.end_ },f',m.trace):=by
    unfold Node.answered;rw [hA];simp only [zbG,if_false,show n.aI.end_.step=0 from rfl,if_true,show n.aI.end_.aO=n.aI.aO from rfl,if_neg hfl]
   rw [hans];refine⟨dK msg i .idle,val,⟨?_,R1⟩,.same,og X hn OL rfl (λ_ _=> rfl) (λL' _ y=> wts L' y) (by dsimp only;omega) (λj hj=> aS hj) (by
    rw [aK,hm']
    dsimp only
    rw [wts,hD,hE];show 33*n.Iz+_+_ < _;omega)⟩
   show nM m.c ((m.with_ i { n with aI:=n.aI.end_ } f' _).abs (dK msg i .idle) val);rw [E9 (n':={ n with aI:=n.aI.end_ }) (msg:=msg) (val:=val) hn rfl (λ_=> rfl)];exact hov
end
theorem TS {k s d id l pt st:Int}{fl:Bool}{x:List Int}(h:((0<=s/\s < 6)/\0<=d/\d < 6)/\(0<=id/\id < 4096)/\(1<=k/\k < 10)/\(0<=l/\l < 8)/\(-1<=pt/\pt < 6)/\(0<=st/\st < 3)/\x.length<=4):(⟨k,s,d,id,l,pt,st,fl,x⟩:Pkt).ok=true:=by
 obtain⟨⟨⟨h1,h2⟩,h3,h4⟩,⟨h5,h6⟩,⟨h7,h8⟩,⟨h9,ha⟩,⟨hb,hc⟩,⟨hd,he⟩,hf⟩:=h;simp [Pkt.ok,h1,h2,h3,h4,h5,h6,h7,h8,h9,ha,hb,hc,hd,he,hf]
inductive QK (N hm:Int) (E:vg) (r:Row) (v:List Int) (s:Int) (d:bJ) (p:Pkt) (e:Ent):Prop
 | attach:p.aO=3->Hold N hm (nK E p.dst (some { e with bZ:=false,back:=p.ptr })) r v s d (.ans ⟨9,p.dst,p.src,p.id,p.aj,0,0,e.bZ,e.data⟩)->QK N hm E r v s d p e
 | front:p.aO=4->Hold N hm (nK E p.dst (some { e with fwd:=p.ptr })) r v s d (.ans ⟨8,p.dst,p.src,p.id,p.aj,0,0,false,[]⟩)->QK N hm E r v s d p e
 | behind:p.aO=5->Hold N hm (nK E p.dst (some { e with back:=p.ptr })) r v s d (.ans ⟨8,p.dst,p.src,p.id,p.aj,0,0,false,[]⟩)->QK N hm E r v s d p e
 | IL:p.aO=6->-1<=e.fwd/\e.fwd < N->Hold N hm (nK E p.dst none) r v s d (.ans ⟨9,p.dst,p.src,p.id,p.aj,e.fwd,0,e.bZ,e.data⟩)->QK N hm E r v s d p e
theorem Rng.ad1 {N:Int}{l:List Int}(h:Rng N l)(hN:0 < N):-1<=hdI l (-1)/\hdI l (-1) < N:=by
 by_cases hl:l=[]
 ·rw [hl];exact⟨zba _,by show(-1:Int) < N;omega⟩
 ·have:=h.2 _ (h.hd hl).1;omega
theorem anW {N hm:Int}{E:vg}{r:Row}{v:List Int}{s:Int}{d:bJ}{p:Pkt}(hN:0 < N)(H:Hold N hm E r v s d (.req p))(hk:3<=p.aO/\p.aO<=6):∃e,E p.dst=some e/\QK N hm E r v s d p e:=by
 obtain⟨hp,_,_⟩:=H.req;have hq:∃q,Out.req p=q/\Hold N hm E r v s d q:=⟨_,rfl,H⟩
 obtain⟨q,hq,H⟩:=hq;cases H with
 | attach k1 k2 k3 k4 W=>
  have e:p=⟨3,s,d.head,d.id,d.aj,s,0,false,[]⟩:=by rw [hp];unfold bJ.ask;simp [k1]
  obtain⟨x,h1,h2⟩:=QC (hm:=hm) k1 k2 k3 k4 W;exact⟨x,by rw [e];exact h1,.attach (by rw [e]) (by rw [e];exact h2)⟩
 | IL k1 k2 L k3 k4=>
  have e:p=⟨6,s,d.next,d.id,d.aj,0,0,false,[]⟩:=by rw [hp];unfold bJ.ask;simp [k1]
  obtain⟨x,h1,h2⟩:=TK (hm:=hm) (r:=r) k1 k2 L k3 k4;have hx:-1<=x.fwd/\x.fwd < N:=by
   obtain⟨⟨y,hy,hf⟩,_⟩:=L.ch;rw [h1] at hy;cases hy;rw [hf];exact Rng.ad1 ⟨(zaY.1 L.rng.1).2,λj hj=> L.rng.2 j (by simp [hj])⟩ hN
  exact⟨x,by rw [e];exact h1,.IL (by rw [e]) hx (by rw [e];exact h2)⟩
 | front k1 k2 M k3 C k4 k5 k6=>
  have e:p=⟨4,s,d.head,d.id,d.aj,d.next,0,false,[]⟩:=by rw [hp];unfold bJ.ask;simp [k1]
  obtain⟨x,h1,h2⟩:=TL (hm:=hm) k1 k2 M k3 C k4 k5 k6;exact⟨x,by rw [e];exact h1,.front (by rw [e]) (by rw [e];exact h2)⟩
 | behind k1 k2 M k3 C C' k4 k5 k6=>
  have e:p=⟨5,s,d.next,d.id,d.aj,d.head,0,false,[]⟩:=by rw [hp];unfold bJ.ask;simp [k1]
  obtain⟨x,h1,h2⟩:=QD (hm:=hm) k1 k2 M k3 C C' k4 k5 k6;exact⟨x,by rw [e];exact h1,.behind (by rw [e]) (by rw [e];exact h2)⟩
 | unlock k1 W=>
  have e:p.aO=2:=by rw [hp];unfold bJ.ask;simp [k1]
  omega
 | granted _ _=> cases hq
 | attached _ _ _ _ _ _ _ _ _ _=> cases hq
 | Io _ _ _ _ _=> cases hq
 | yY _ _ _ _ _ _ _ _ _=> cases hq
 | vk _ _ _ _ _ _ _ _ _=> cases hq
section
variable {m:dZ}{T:Nat}{i:Nat}{n n':Node}{f:Fab}{t:List Evn}{msg msg':Int->Out}{val val':Int->List Int}
theorem ap2 {α:Type}{g:Int->α}{j:Int}{x y:α}:dK (dK g j x) j y=dK g j y:=by
 funext k
 by_cases h:k=j
 ·rw [h,aK,aK]
 ·rw [aS h,aS h,aS h]
theorem abJ(X:MX T m)(hn:m.aG[i]?=some n)(L:Int):(jo n.home.dH L).data.length<=4:=by
 have NI:=X.inv.bG i n hn;have:=(qp X.inv.ok).2.2.1;unfold jo;cases h:jg n.home.dH L with
 | none=> exact zaT _
 | some r=>
  have:=(NI.dH _ (mY h)).1;simp only [zar] at*;omega
theorem NG {d:bJ}(h0:d.step≠0)(h3:d.step≠3)(p q:Pkt):Dp d (.ans q) < Dp d .wait/\Dp d .wait < Dp d (.req p):=by
 unfold Dp loc;simp only [if_neg h0,if_neg h3];omega
theorem Ba(X:MX T m)(hn:m.aG[i]?=some n)(h1:n'.aH=n.aH)(h2:n'.aI=n.aI)(h3:n'.bP=n.bP){s:Int}(hs:0<=s/\s < m.c.aG)(hm:∀j,j≠s->msg' j=msg j)(hd:Dp (m.pW s) (msg' s) < Dp (m.pW s) (msg s))(hu:f.under<=m.fab.under+1):(m.with_ i n' f t).todo msg' < m.todo msg:=by
 obtain⟨val,hv⟩:∃val:Int->List Int,val=λ_=> []:=⟨_,rfl⟩
 refine TQ (val:=val) (val':=val) ?_ hu;have hl:n'.Iz=m.yc i:=by rw [Nz hn];unfold Node.Iz;rw [h3]
 rw [C9 hn,hl,jw];refine aiW (i:=s) hs (by have:=(qp X.inv.ok).2.1;omega) ?_ ?_ hm hd
 ·show(m.with_ i n' f t).QS=m.QS
  funext L
  rw [Iy hn,h1,<-sG hn L,lD]
 ·show(m.with_ i n' f t).pW=m.pW;rw [CY hn,h2,<-kR hn,jw]
theorem XI(X:MX T m)(hn:m.aG[i]?=some n){L s:Int}{x:Option Ent}{e:Ent}{p q:Pkt}{ca:Cache}(hs:0<=s/\s < m.c.aG)(hL:0<=L/\L < m.c.bn)(h1:∀L',L'≠L->ca.find L'=n.aH.find L')(h2:ca.find L=x)(hm:msg s=.req p)(he:n.aH.find L=some e)(h0:(m.pW s).step≠0)(h3:(∃e',x=some e')/\(m.pW s).step≠3∨x=none)(hu:f.under<=m.fab.under+1):(m.with_ i { n with aH:=ca } f t).todo (dK msg s (.ans q)) < m.todo msg:=by
 obtain⟨val,hv⟩:∃val:Int->List Int,val=λ_=> []:=⟨_,rfl⟩
 refine TQ (val:=val) (val':=val) ?_ hu;have hdf:dK m.pW i n.aI=m.pW:=by rw [<-kR hn,jw]
 have hlf:dK m.yc i n.Iz=m.yc:=by rw [<-Nz hn,jw]
 rw [C9 hn,show Node.Iz { n with aH:=ca }=n.Iz from rfl,hlf,qJ (n':={ n with aH:=ca }) (msg:=msg) (val:=val) hn rfl h1];simp only [h2,hdf];exact abI (a:=m.abs msg val) (X.range hn) hs hL hm ((sG hn L).trans he) h0 h3
theorem GInv.grant(X:MX T m)(G:GInv m msg val)(hn:m.aG[i]?=some n)(hr:n.home.ready≠[])(hroom:0 < m.fab.roomOf i false):
  ∃msg',GInv (m.with_ i { n with home:=(n.home.grant i).1 } (m.fab.send (n.home.grant i).2.1).1 t) msg' val/\(m.with_ i { n with home:=(n.home.grant i).1 } (m.fab.send (n.home.grant i).2.1).1 t).todo msg' < m.todo msg:=by
 have hc:=X.inv.ok;have NI:=X.inv.bG i n hn;have hi:=X.range hn;cases hrd:n.home.ready with
 | nil=> exact absurd hrd hr
 | cons L l=>
  obtain⟨r1,r2,r3⟩:=wK hrd;obtain⟨e,he,rfl⟩:=zaH.1 r3;have hh:=NI.home.here e he;unfold kP at hh;simp only [zaf,decide_eq_true_eq] at hh;obtain⟨⟨l0,l1⟩,l2⟩:=hh;have hL:m.c.bf e.1=i:=by unfold Cfg.bf yw;rw [if_neg (by omega)];exact l2
  have hown:n.home.aT.owner e.1=-1:=Classical.byContradiction λh=> by
   have:=(NI.home.aT.owned e.1).2 h;rw [r1] at this;cases this
  cases hws:n.home.aT.ws e.1 with
  | nil=> exact absurd hws r2
  | cons w ws=>
   obtain⟨t1,t2,t3⟩:=XF NI.home.aT hown hws;have ho:(m.abs msg val).own e.1=-1:=by show(m.qO e.1).aT.owner e.1=-1;rw [oL hn hL];exact hown
   have hw:(m.abs msg val).ws e.1=w::ws:=by show(m.qO e.1).aT.ws e.1=_;rw [oL hn hL];exact hws
   have hrow:(m.abs msg val).row e.1=jo n.home.dH e.1:=by show jo (m.qO e.1).dH e.1=_;rw [oL hn hL]
   obtain⟨hi',hmw,I'⟩:=G.abs.grant ⟨l0,l1⟩ ho hw;have hgr:n.home.grant i=({ n.home with aT:=(n.home.aT.next e.1).1 },granted n.home.dH i e.1 w.1 w.2,true):=by
    unfold Home.grant;rw [hrd];simp only;cases hx:n.home.aT.next e.1 with
    | mk tt ww=>
     rw [hx] at t1;simp only at t1;rw [t1]
   rw [hgr];have hO:aiR m.c (m.abs msg val) w.1:=by
    rcases G.abs.bG w.1 hi'.1 hi'.2 with⟨_,h⟩ | O
    ·rw [hmw] at h;cases h
    ·exact O
   have aro:((m.abs msg val).aI w.1).id=w.2:=((G.abs.ws e.1).2 w (by rw [hw];simp)).2.2.2.2.1;obtain⟨lw,W⟩:∃lw,Wf m.c.aG ((m.abs msg val).ent e.1) ((m.abs msg val).row e.1) ((m.abs msg val).val e.1) lw:=by
    rcases G.abs.aj e.1 l0 l1 with⟨_,h⟩ | ⟨h,_⟩
    ·exact h
    ·omega
   obtain⟨cn,cl,_⟩:=qp hc;have hhd:=W.rng.ad1 (by omega);have hst:=W.st;have hhead:=W.head;rw [hrow] at hst hhead;have hid:=hO.idr;rw [aro] at hid;have hlen:=abJ X hn e.1;have hpk:(granted n.home.dH i e.1 w.1 w.2).ok=true:=by
    exact TS (by omega)
   have hsd:=G.pk.XD (p:=granted n.home.dH i e.1 w.1 w.2) (λq h=> by rw [show(granted n.home.dH i e.1 w.1 w.2).dst=w.1 from rfl] at h;exact absurd (hmw.symm.trans h) (λe=> by cases e)) (λq h=> by rw [show(granted n.home.dH i e.1 w.1 w.2).dst=w.1 from rfl] at h;exact absurd (hmw.symm.trans h) (λe=> by cases e)) hpk rfl (X.is hi rfl) (X.is hi' rfl) hroom;have hst1:((m.abs msg val).aI w.1).step=1:=((G.abs.ws e.1).2 w (by rw [hw];simp)).2.2.2.2.2;refine⟨_,⟨?_,hsd.2⟩,Ba X hn rfl rfl rfl hi' (λj hj=> aS hj) (by
    rw [show(granted n.home.dH i e.1 w.1 w.2).dst=w.1 from rfl,aK,show msg w.1=.wait from hmw];exact(NG (by show((m.abs msg val).aI w.1).step≠0;omega) (by show((m.abs msg val).aI w.1).step≠3;omega) .zero _).1) (nZ _ _)⟩
   show nM m.c ((m.with_ i { n with home:={ n.home with aT:=(n.home.aT.next e.1).1 } } (m.fab.send (granted n.home.dH i e.1 w.1 w.2)).1 t).abs _ val);rw [E8 (n':={ n with home:={ n.home with aT:=(n.home.aT.next e.1).1 } }) (msg:=msg) hn (λ_=> rfl) rfl hL (λ_ _=> rfl) (λL' h=> by show(n.home.aT.next e.1).1.owner L'=_;rw [t2,if_neg h]) (λL' h=> by show(n.home.aT.next e.1).1.ws L'=_;rw [t3,if_neg h])];have a1:dK (m.abs msg val).row e.1 (jo n.home.dH e.1)=(m.abs msg val).row:=by rw [<-hrow,jw]
   simp only [a1,t2,t3,if_true];have a2:granted n.home.dH i e.1 w.1 w.2=⟨7,m.c.bf e.1,w.1,w.2,e.1,((m.abs msg val).row e.1).head,((m.abs msg val).row e.1).aQ,false,((m.abs msg val).row e.1).data⟩:=by
    rw [hrow,hL];rfl
   rw [a2];exact I'
set_option maxHeartbeats 1000000 in
theorem GInv.asked(X:MX T m)(G:GInv m msg val)(hn:m.aG[i]?=some n){f':Fab}{p:Pkt}(ht:m.fab.take i true=(f',some p))(hroom:0 < m.fab.roomOf i false):
  ∃msg',GInv (m.with_ i (n.asked m.c i f' p).1 (n.asked m.c i f' p).2 t) msg' val/\(m.with_ i (n.asked m.c i f' p).1 (n.asked m.c i f' p).2 t).todo msg' < m.todo msg:=by
 obtain⟨hs,b1,b2,b3,R1,ho,hl,hrm⟩:=G.pk.apW ht;have hc:=X.inv.ok;obtain⟨cn,cl,_⟩:=qp hc;have NI:=X.inv.bG i n hn;have hi:=X.range hn;have hsr:0<=p.src/\p.src < m.c.aG:=by
  have:=G.pk.rg _ p (.inl b3);have hln:=X.inv.fab.len;unfold Fab.is at this;simp only [zaf,decide_eq_true_eq] at this;omega
 have hmr:(m.abs msg val).msg p.src=.req p:=b3;have hQ:=(X.inv.fab.take i true).2 p (by rw [ht]);obtain⟨O,p1,p2,p3,p4⟩:=G.abs.req hsr hmr;have hpk:=hQ.ok;have arp:=hpk;simp only [Pkt.ok,zaf,decide_eq_true_eq] at arp;have OL:=O.aj;rw [p2] at OL;have hkind:p.aO=zD ((m.abs msg val).aI p.src).step:=(congrArg Pkt.aO p1).trans (kQ p3).1;have hroom':0 < f'.roomOf i false:=by rw [hrm];exact hroom
 have hms:dK msg p.src .idle p.src=.idle:=aK;have XD:∀q:Pkt,q.ok=true->qK q.aO=false->q.src=i->q.dst=p.src->pz (f'.send q).1 (dK msg p.src (.ans q)):=λq h1 h2 h3 h4=> by
  have:=R1.XD (p:=q) (by rw [h4,hms];exact λx e=> by cases e) (by rw [h4,hms];exact λx e=> by cases e) h1 h2 (by rw [h3];exact X.is hi hl) (by rw [h4];exact X.is hsr hl) (by rw [h3];exact hroom');rw [h4,ap2] at this;exact this.2
 -- the aqt requests
 have hhome:p.aO=1∨p.aO=2->m.c.bf p.aj=i:=λh=> by
  have h16:((m.abs msg val).aI p.src).step=1∨((m.abs msg val).aI p.src).step=6:=by
   have:((m.abs msg val).aI p.src).step=1∨((m.abs msg val).aI p.src).step=2∨((m.abs msg val).aI p.src).step=3∨((m.abs msg val).aI p.src).step=4∨((m.abs msg val).aI p.src).step=5∨((m.abs msg val).aI p.src).step=6:=by omega
   rw [hkind] at h;rcases this with e | e | e | e | e | e <;> simp [e,zD] at h ⊢
  have hdst:p.dst=m.c.bf p.aj:=by
   have h1:=congrArg Pkt.dst p1;unfold bJ.ask at h1;rcases h16 with e | e
   ·simpa [e] using h1
   ·simpa [e] using h1
  rw [<-hdst];exact b1
 have hut:=Kr ht;have hst3:p.aO≠6->((m.abs msg val).aI p.src).step≠3:=λh e=> h (by rw [hkind,e];rfl);by_cases hk:p.aO=1∨p.aO=2
 ·have hL:=hhome hk;have hst3:=hst3 (by omega);have habs:∀L,m.c.bf L=i->(m.abs msg val).own L=n.home.aT.owner L/\(m.abs msg val).ws L=n.home.aT.ws L/\(m.abs msg val).row L=jo n.home.dH L:=λL h=> by
   refine⟨?_,?_,?_⟩
   ·show(m.qO L).aT.owner L=_;rw [oL hn h]
   ·show(m.qO L).aT.ws L=_;rw [oL hn h]
   ·show jo (m.qO L).dH L=_;rw [oL hn h]
  obtain⟨ao,aw,ar⟩:=habs p.aj hL;have aqu:dK (m.abs msg val).row p.aj (jo n.home.dH p.aj)=(m.abs msg val).row:=by rw [<-ar,jw]
  have arq:dK (m.abs msg val).own p.aj (n.home.aT.owner p.aj)=(m.abs msg val).own:=by rw [<-ao,jw]
  have aqv:dK (m.abs msg val).ws p.aj (n.home.aT.ws p.aj)=(m.abs msg val).ws:=by rw [<-aw,jw]
  have hcond:¬((!(p.ok && decide (p.dst=(i:Int)) && decide (p.src < m.c.aG)) || (decide (p.aO≠1) && decide (p.aO≠2)))=true):=by
   rcases hk with h | h <;> simp [hpk,b1,hsr.2,h]
  rcases hk with hk1 | hk2
  ·by_cases hfree:n.home.aT.owner p.aj=-1/\n.home.aT.ws p.aj=[]
   ·obtain⟨t1,t2,t3⟩:=IX (id:=p.id) NI.home.aT hsr.1 hfree.1 hfree.2;have hh:n.home.handle m.c i p=({ n.home with aT:=(n.home.aT.ask p.aj p.src p.id).1 },granted n.home.dH i p.aj p.src p.id,true,0):=by
     unfold Home.handle;rw [if_neg hcond,if_neg (by rw [hL];omega),if_pos hk1];simp only [t1,if_true]
    have hans:n.asked m.c i f' p=({ n with home:={ n.home with aT:=(n.home.aT.ask p.aj p.src p.id).1 } },(f'.send (granted n.home.dH i p.aj p.src p.id)).1):=by
     unfold Node.asked;rw [if_pos (.inl hk1),hh];simp
    rw [hans];have I':=G.abs.lock hsr hmr hk1 (by rw [ao];exact hfree.1);obtain⟨lw,W⟩:∃lw,Wf m.c.aG ((m.abs msg val).ent p.aj) ((m.abs msg val).row p.aj) ((m.abs msg val).val p.aj) lw:=by
     rcases G.abs.aj p.aj OL.1 OL.2 with⟨_,h⟩ | ⟨h,_⟩
     ·exact h
     ·have:=hfree.1;omega
    have hhd:=W.rng.ad1 (by omega);have hst:=W.st;have hhead:=W.head;rw [ar] at hst hhead;have hlen:=abJ X hn p.aj;have hok:(granted n.home.dH i p.aj p.src p.id).ok=true:=by
     exact TS (by omega)
    refine⟨_,⟨?_,XD _ hok rfl rfl rfl⟩,Ba X hn rfl rfl rfl hsr (λj hj=> aS hj) (by
    rw [aK,show msg p.src=.req p from b3];have:=NG O.step hst3 p;exact Nat.lt_trans (this _).1 (this .zero).2) (by dsimp only;exact zau (nZ _ _) (by omega))⟩
    show nM m.c ((m.with_ i { n with home:={ n.home with aT:=(n.home.aT.ask p.aj p.src p.id).1 } } _ t).abs _ val);rw [E8 (n':={ n with home:={ n.home with aT:=(n.home.aT.ask p.aj p.src p.id).1 } }) (msg:=msg) hn (λ_=> rfl) rfl hL (λ_ _=> rfl) (λL' h=> by show(n.home.aT.ask p.aj p.src p.id).1.owner L'=_;rw [t2,if_neg h]) (λL' h=> by show(n.home.aT.ask p.aj p.src p.id).1.ws L'=_;rw [t3])];simp only [aqu,t2,t3,if_true,aqv];have a2:granted n.home.dH i p.aj p.src p.id=⟨7,m.c.bf p.aj,p.src,p.id,p.aj,((m.abs msg val).row p.aj).head,((m.abs msg val).row p.aj).aQ,false,((m.abs msg val).row p.aj).data⟩:=by
     rw [ar,hL];rfl
    rw [a2];exact I'
   ·have ap3:n.home.aT.owner p.aj≠-1∨n.home.aT.ws p.aj≠[]:=by
     by_cases h:n.home.aT.owner p.aj=-1
     ·exact .inr λh'=> hfree ⟨h,h'⟩
     ·exact .inl h
    obtain⟨t1,t2,t3⟩:=IY (id:=p.id) NI.home.aT hsr.1 ap3;have hh:n.home.handle m.c i p=({ n.home with aT:=(n.home.aT.ask p.aj p.src p.id).1 },.zero,false,0):=by
     unfold Home.handle;rw [if_neg hcond,if_neg (by rw [hL];omega),if_pos hk1];simp only [t1,zah,if_false]
    have hans:n.asked m.c i f' p=({ n with home:={ n.home with aT:=(n.home.aT.ask p.aj p.src p.id).1 } },f'):=by
     unfold Node.asked;rw [if_pos (.inl hk1),hh];simp
    rw [hans];have I':=G.abs.wait hsr hmr hk1;have R2:pz f' (dK msg p.src .wait):=by
     have mi:∀j q,(dK msg p.src .wait j=.req q↔dK msg p.src .idle j=.req q)/\(dK msg p.src .wait j=.ans q↔dK msg p.src .idle j=.ans q):=λj q=> by
      by_cases h:j=p.src
      ·rw [h,aK,aK];exact⟨⟨λe=> (by cases e),λe=> (by cases e)⟩,⟨λe=> (by cases e),λe=> (by cases e)⟩⟩
      ·rw [aS h,aS h];exact⟨Iff.rfl,Iff.rfl⟩
     refine⟨λk q hq=> ?_,R1.rn,R1.an,λj q h=> R1.rc j q ((mi j q).1.1 h),λj q h=> R1.ac j q ((mi j q).2.1 h),λj q h=> R1.src j q ((mi j q).1.1 h),λj q h=> R1.dst j q ((mi j q).2.1 h),λj q h=> R1.rg j q (h.imp (mi j q).1.1 (mi j q).2.1)⟩;have P:=R1.port k q hq;exact⟨λx hx=> ⟨(P.rq x hx).1,(P.rq x hx).2.1,(mi _ _).1.2 (P.rq x hx).2.2⟩,λx hx=> ⟨(P.rin x hx).1,(P.rin x hx).2.1,(mi _ _).1.2 (P.rin x hx).2.2⟩,λx hx=> ⟨(P.an x hx).1,(P.an x hx).2.1,(mi _ _).2.2 (P.an x hx).2.2⟩,λx hx=> ⟨(P.ain x hx).1,(P.ain x hx).2.1,(mi _ _).2.2 (P.ain x hx).2.2⟩⟩
    refine⟨_,⟨?_,R2⟩,Ba X hn rfl rfl rfl hsr (λj hj=> aS hj) (by
     rw [aK,show msg p.src=.req p from b3];exact(NG O.step hst3 p .zero).2) (by dsimp only;omega)⟩
    show nM m.c ((m.with_ i { n with home:={ n.home with aT:=(n.home.aT.ask p.aj p.src p.id).1 } } _ t).abs _ val);rw [E8 (n':={ n with home:={ n.home with aT:=(n.home.aT.ask p.aj p.src p.id).1 } }) (msg:=msg) hn (λ_=> rfl) rfl hL (λ_ _=> rfl) (λL' h=> by show(n.home.aT.ask p.aj p.src p.id).1.owner L'=_;rw [t2]) (λL' h=> by show(n.home.aT.ask p.aj p.src p.id).1.ws L'=_;rw [t3,if_neg h])];simp only [aqu,t2,t3,if_true,arq];rw [<-aw];exact I'
  ·-- a aj is unlocked
   obtain⟨u1,u2,⟨lw,W⟩,u4,u5,I'⟩:=G.abs.unlock hsr hmr hk2;rw [ao] at u1;obtain⟨ns,hns⟩:∃ns,m.aG[p.src.toNat]?=some ns:=⟨_,zab (by have:=X.inv.len;omega)⟩
   have hsn:((p.src.toNat:Nat):Int)=p.src:=by omega
   have hds:(m.abs msg val).aI p.src=ns.aI:=by
    have:=kR hns;rw [hsn] at this;exact this
   have DS:=(X.inv.bG _ ns hns).aI (by rw [<-hds,u5];decide);have hdd:ns.aI.data=[]∨(ns.aI.data.length:Int)=m.c.cO:=DS.dat.imp id λh=> h.1;have q1:p.aQ=ns.aI.aQ:=by rw [u4,hds];unfold bJ.ask;rw [hds] at u5;simp [u5]
   have q2:p.ptr=ns.aI.head:=by rw [u4,hds];unfold bJ.ask;rw [hds] at u5;simp [u5]
   have q3:p.flag=decide (ns.aI.data≠[]):=by rw [u4,hds];unfold bJ.ask;rw [hds] at u5;simp [u5]
   have q4:p.data=ns.aI.data:=by rw [u4,hds];unfold bJ.ask;rw [hds] at u5;simp [u5]
   have q5:(if p.flag then p.data else [])=ns.aI.data:=by
    rw [q3,q4];by_cases h:ns.aI.data=[]
    ·simp [h]
    ·simp [h]
   rw [hds] at W I';have ap4:kP m.c i p.aj=true:=by
    unfold kP;simp only [zaf,decide_eq_true_eq];refine⟨⟨OL.1,OL.2⟩,?_⟩;have:=hL;unfold Cfg.bf yw at this;rw [if_neg (by omega)] at this;exact this
   obtain⟨rw0,hrw⟩:=X.dH i n hn p.aj ap4;have hro:jo n.home.dH p.aj=rw0:=by unfold jo;rw [hrw];rfl
   have hst:ns.aI.aQ=0∨ns.aI.aQ=1∨ns.aI.aQ=2:=W.st;have hhd:ns.aI.head=hdI lw (-1):=W.head;have hle:=W.rng.ad1 (by omega);have h0:ns.aI.aQ=0↔ns.aI.head=-1:=by
    rw [hhd,W.rng.aby];exact W.st0
   have hset:iw m.c n.home.dH p.aj p.aQ p.ptr (if p.flag then p.data else [])=(lG n.home.dH p.aj (iO rw0 ns.aI),0):=by
    unfold iw;rw [hrw,q1,q2,q5];simp only;rw [if_neg (by omega),if_neg]
    ·rfl
    ·have e1:decide (ns.aI.head=-1)=decide (ns.aI.aQ=0):=by
      by_cases h:ns.aI.aQ=0
      ·simp [h,h0.1 h]
      ·have:¬ns.aI.head=-1:=λe=> h (h0.2 e);simp [h,this]
     rw [e1];rcases hdd with h | h
     ·simp [h]
     ·simp [h]
   obtain⟨t1,t2,t3⟩:=Ny NI.home.aT hsr.1 u1;have hul:n.home.unlock m.c p=(⟨lG n.home.dH p.aj (iO rw0 ns.aI),(n.home.aT.release p.aj p.src).1⟩,0):=by
    unfold Home.unlock;rw [if_neg (by rw [u1];simp)];simp only [hset,if_true,t1]
   have hh:n.home.handle m.c i p=(⟨lG n.home.dH p.aj (iO rw0 ns.aI),(n.home.aT.release p.aj p.src).1⟩,⟨8,i,p.src,p.id,p.aj,0,0,false,[]⟩,true,0):=by
    unfold Home.handle;rw [if_neg hcond,if_neg (by rw [hL];omega),if_neg (by omega)];simp only [hul,if_true]
   have hans:n.asked m.c i f' p=({ n with home:=⟨lG n.home.dH p.aj (iO rw0 ns.aI),(n.home.aT.release p.aj p.src).1⟩ },(f'.send ⟨8,i,p.src,p.id,p.aj,0,0,false,[]⟩).1):=by
    unfold Node.asked;rw [if_pos (.inr hk2),hh];simp
   rw [hans];have hok:(⟨8,i,p.src,p.id,p.aj,0,0,false,[]⟩:Pkt).ok=true:=by
    exact TS (by simp only [zan];omega)
   refine⟨_,⟨?_,XD _ hok rfl rfl rfl⟩,Ba X hn rfl rfl rfl hsr (λj hj=> aS hj) (by
    rw [aK,show msg p.src=.req p from b3];have:=NG O.step hst3 p;exact Nat.lt_trans (this _).1 (this .zero).2) (by dsimp only;exact zau (nZ _ _) (by omega))⟩
   show nM m.c ((m.with_ i { n with home:=⟨lG n.home.dH p.aj (iO rw0 ns.aI),(n.home.aT.release p.aj p.src).1⟩ } _ t).abs _ val);rw [E8 (n':={ n with home:=⟨lG n.home.dH p.aj (iO rw0 ns.aI),(n.home.aT.release p.aj p.src).1⟩ }) (msg:=msg) hn (λ_=> rfl) rfl hL (λL' h=> by show jo (lG _ _ _) L'=_;rw [Kq,if_neg h]) (λL' h=> by show(n.home.aT.release p.aj p.src).1.owner L'=_;rw [t2,if_neg h]) (λL' h=> by show(n.home.aT.release p.aj p.src).1.ws L'=_;rw [t3])];have hrow2:jo (lG n.home.dH p.aj (iO rw0 ns.aI)) p.aj=iO ((m.abs msg val).row p.aj) ns.aI:=by rw [Kq,if_pos rfl,ar,hro]
   simp only [hrow2,t2,t3,if_true,aqv];rw [hL] at I';exact I'
 ·-- a cache's requests
  have ars:3<=p.aO/\p.aO<=6:=by
   unfold qK at b2;simp only [zaf,decide_eq_true_eq] at b2;omega
  obtain⟨hown,H⟩:(m.abs msg val).own p.aj=p.src/\Hold m.c.aG (m.c.bf p.aj) ((m.abs msg val).ent p.aj) ((m.abs msg val).row p.aj) ((m.abs msg val).val p.aj) p.src ((m.abs msg val).aI p.src) (.req p):=by
   rcases p4 with⟨h,_⟩ | ⟨_,h,h'⟩
   ·exfalso;rw [h] at hkind;have:p.aO=1:=hkind;omega
   ·exact⟨h,h'⟩
  obtain⟨e,he,Sv⟩:=anW (by omega) H ars;rw [b1] at he;have hfind:n.aH.find p.aj=some e:=by rw [<-sG hn];exact he
  have hel:=QF hfind;have hem:=(ig NI.aH.bn).1 hfind;have EO:=NI.aH.ent e hem.1;have hlen:e.data.length<=4:=NI.aH.le hc e hem.1;have aom:¬((!p.ok || decide (p.aO < 3) || decide (6 < p.aO))=true):=by simp [hpk];omega
  have hnw:(m.abs msg val).msg p.src≠.wait:=by rw [hmr];exact λe=> by cases e
  -- what is common
  have fin:∀(ca:Cache) (x:Option Ent) (q:Pkt),(∀L,L≠p.aj->ca.find L=n.aH.find L)->ca.find p.aj=x->fG n.aH p=(ca,q,0)->q.ok=true->qK q.aO=false->q.src=i->q.dst=p.src->Hold m.c.aG (m.c.bf p.aj) (nK ((m.abs msg val).ent p.aj) p.dst x) ((m.abs msg val).row p.aj) ((m.abs msg val).val p.aj) p.src ((m.abs msg val).aI p.src) (.ans q)->((∃e',x=some e')/\p.aO≠6∨x=none)->
    ∃msg',GInv (m.with_ i (n.asked m.c i f' p).1 (n.asked m.c i f' p).2 t) msg' val/\(m.with_ i (n.asked m.c i f' p).1 (n.asked m.c i f' p).2 t).todo msg' < m.todo msg:=λca x q h1 h2 h3 h4 h5 h6 h7 H' h8=> by
   have hans:n.asked m.c i f' p=({ n with aH:=ca },(f'.send q).1):=by
    unfold Node.asked;rw [if_neg hk,h3];simp
   rw [hans];rw [b1] at H';have I':=G.abs.served hsr OL hown (E:=nK ((m.abs msg val).ent p.aj) i x) (q:=q) (λj hj=> by
    by_cases hji:j=i
    ·rw [hji,he] at hj;cases hj
    ·rw [eX hji];exact hj) H' hnw
   refine⟨_,⟨?_,XD q h4 h5 h6 h7⟩,XI X hn hsr OL h1 h2 hmr hfind O.step (h8.imp (λh=> ⟨h.1,hst3 h.2⟩) id) (by dsimp only;exact zau (nZ _ _) (by omega))⟩;show nM m.c ((m.with_ i { n with aH:=ca } _ t).abs _ val);rw [qJ (n':={ n with aH:=ca }) (msg:=msg) (val:=val) hn rfl h1];simp only [h2];have hdf:dK m.pW i n.aI=m.pW:=by rw [<-kR hn,jw]
   simp only [hdf];exact I'
  cases Sv with
  | attach k H'=>
   have hput:=xP (e:={ e with bZ:=false,back:=p.ptr }) (x:=e) NI.aH.bn EO.lo (by rw [show({ e with bZ:=false,back:=p.ptr }:Ent).aj=e.aj from rfl,hel];exact hfind);have hpt:=lu (e:={ e with bZ:=false,back:=p.ptr }) (x:=e) NI.aH.bn EO.lo (by rw [show({ e with bZ:=false,back:=p.ptr }:Ent).aj=e.aj from rfl,hel];exact hfind);refine fin (n.aH.put { e with bZ:=false,back:=p.ptr }).1 (some { e with bZ:=false,back:=p.ptr }) _ (λL hL=> by rw [hput,if_neg λh=> hL (h.trans hel)]) (by rw [hput,if_pos hel.symm]) ?_ ?_ rfl b1 rfl H' (.inl ⟨⟨_,rfl⟩,by omega⟩)
   ·unfold fG;rw [if_neg aom,hfind];simp only [k,if_true];rw [hpt];simp [BI]
   ·exact TS (by omega)
  | front k H'=>
   have hput:=xP (e:={ e with fwd:=p.ptr }) (x:=e) NI.aH.bn EO.lo (by rw [show({ e with fwd:=p.ptr }:Ent).aj=e.aj from rfl,hel];exact hfind);have hpt:=lu (e:={ e with fwd:=p.ptr }) (x:=e) NI.aH.bn EO.lo (by rw [show({ e with fwd:=p.ptr }:Ent).aj=e.aj from rfl,hel];exact hfind);refine fin (n.aH.put { e with fwd:=p.ptr }).1 (some { e with fwd:=p.ptr }) _ (λL hL=> by rw [hput,if_neg λh=> hL (h.trans hel)]) (by rw [hput,if_pos hel.symm]) ?_ ?_ rfl b1 rfl H' (.inl ⟨⟨_,rfl⟩,by omega⟩)
   ·unfold fG;rw [if_neg aom,hfind];simp only [k];rw [if_neg (by decide),if_pos trivial,hpt];simp [BI]
   ·exact TS (by simp only [zan];omega)
  | behind k H'=>
   have hput:=xP (e:={ e with back:=p.ptr }) (x:=e) NI.aH.bn EO.lo (by rw [show({ e with back:=p.ptr }:Ent).aj=e.aj from rfl,hel];exact hfind);have hpt:=lu (e:={ e with back:=p.ptr }) (x:=e) NI.aH.bn EO.lo (by rw [show({ e with back:=p.ptr }:Ent).aj=e.aj from rfl,hel];exact hfind);refine fin (n.aH.put { e with back:=p.ptr }).1 (some { e with back:=p.ptr }) _ (λL hL=> by rw [hput,if_neg λh=> hL (h.trans hel)]) (by rw [hput,if_pos hel.symm]) ?_ ?_ rfl b1 rfl H' (.inl ⟨⟨_,rfl⟩,by omega⟩)
   ·unfold fG;rw [if_neg aom,hfind];simp only [k];rw [if_neg (by decide),if_neg (by decide),if_pos trivial,hpt];simp [BI]
   ·exact TS (by simp only [zan];omega)
  | IL k hfw H'=>
   have hdr:=AY (aj:=p.aj) NI.aH.bn;refine fin (n.aH.drop p.aj) none _ (λL hL=> by rw [hdr,if_neg hL]) (by rw [hdr,if_pos rfl]) ?_ ?_ rfl b1 rfl H' (.inr rfl)
   ·unfold fG;rw [if_neg aom,hfind];simp only [k];rw [if_neg (by decide),if_neg (by decide),if_neg (by decide)];simp [BI]
   ·exact TS (by omega)
end
theorem Hold.data {N hm:Int}{E:vg}{r:Row}{v:List Int}{i:Int}{d:bJ}{o:Out}(H:Hold N hm E r v i d o){j:Int}{e:Ent}(he:E j=some e):e.data=v:=by
 cases H with
 | granted _ W=> exact W.data j e he
 | attach _ _ _ _ W=> exact W.data j e he
 | attached _ _ _ _ _ _ _ _ X _=> exact X j e he
 | IL _ _ L _ _=> exact L.data j e he
 | Io _ _ L _ _=> exact L.data j e he
 | front _ _ M _ _ _ _ _=> exact M.data j e he
 | yY _ _ M _ _ _ _ _ _=> exact M.data j e he
 | behind _ _ M _ _ _ _ _ _=> exact M.data j e he
 | vk _ _ M _ _ _ _ _ _=> exact M.data j e he
 | unlock _ W=> exact W.data j e he
theorem nM.data {c:Cfg}{a:Abs}(I:nM c a){L j:Int}(hL:0<=L/\L < c.bn){e:Ent}(he:a.ent L j=some e):e.data=a.val L:=by
 rcases I.aj L hL.1 hL.2 with⟨_,l,W⟩ | ⟨_,_,_,H⟩
 ·exact W.data j e he
 ·exact Hold.data H he
section
variable {m:dZ}{T:Nat}{i:Nat}{n n1:Node}{f:Fab}{t:List Evn}{msg msg':Int->Out}{val val':Int->List Int}
theorem GInv.idle(X:MX T m)(G:GInv m msg val)(hn:m.aG[i]?=some n)(h0:n.aI.step=0):msg i=.idle:=by
 have hi:=X.range hn;have hd:(m.abs msg val).aI i=n.aI:=kR hn;rcases G.abs.bG i hi.1 hi.2 with⟨_,h⟩ | O
 ·exact h
 ·have:=O.step;rw [hd] at this;exact absurd h0 this
theorem GInv.begin_(X:MX T m)(G:GInv m msg val)(hn:m.aG[i]?=some n)(h0:n.aI.step=0)(e1:n1.aH=n.aH)(e2:n1.home=n.home)(e4:n1.num=n.num)(e5:n1.Iz=n.Iz){k L:Int}(hk:1<=k/\k<=3)(hL:0<=L/\L < m.c.bn)(hm:k=1->n.aH.find L=none)(hm3:k=3->n.aH.find L≠none):
  ∃msg',GInv (m.with_ i (n1.begin_ m.c i m.fab k L).1 (n1.begin_ m.c i m.fab k L).2 t) msg' val/\(m.with_ i (n1.begin_ m.c i m.fab k L).1 (n1.begin_ m.c i m.fab k L).2 t).todo msg' < m.todo msg:=by
 have hc:=X.inv.ok;have hi:=X.range hn;have NX_:=X.bG i n hn;have hd:(m.abs msg val).aI i=n.aI:=kR hn;have hidle:=G.idle X hn h0;have hid:0<=n.num/\n.num < 4096:=⟨NX_.Xy,NX_.num1⟩
 have I':=G.abs.begin_ (L:=L) (k:=k) (id:=n.num) hi (by rw [hd];exact h0) hk hid hL (λh=> by rw [<-hm h];exact sG hn L);obtain⟨a1,a2,a3,a4,a5⟩:=abD hc hi (k:=k) hL hid;have hout:1<=m.fab.out:=by
  have:=(qp hc).2.2.2.2.2.1;rw [X.inv.fab.out];exact this.1
 have R':=G.pk.anT (p:=(bJ.begin k L n.num).ask i (m.c.bf L)) (by rw [a3,hidle];exact λq e=> by cases e) (by rw [a3,hidle];exact λq e=> by cases e) a1 a2 (by rw [a3];exact X.is hi rfl) (X.is ⟨a4,a5⟩ rfl) hout;rw [a3] at R';have hb:n1.begin_ m.c i m.fab k L=({ n1 with aI:=bJ.begin k L n.num,num:=(n.num+1).tmod 4096 },(m.fab.send ((bJ.begin k L n.num).ask i (m.c.bf L))).1):=by
  unfold Node.begin_ Node.acB;simp only [e4];rfl
 rw [hb];refine⟨_,⟨?_,R'.2⟩,og X hn hL e2 (λL' _=> by show n1.aH.find L'=_;rw [e1]) (λL' hL' y=> by rw [wX (.inl h0),wX (.inr (.inr (.inl λe=> hL' e.symm)))]) (by dsimp only;exact nZ _ _) (λj hj=> aS hj) ?_⟩;rotate_left
 ·rw [aK,hidle]
  dsimp only
  have d0:Dp n.aI .idle=13:=if_pos h0;have d1:Dp (.begin k L n.num) (.req ((bJ.begin k L n.num).ask i (m.c.bf L)))=12+if k=3∨(1:Int)=6 then 13 else 0:=rfl;have e6:Node.Iz { n1 with aI:=bJ.begin k L n.num,num:=(n.num+1).tmod 4096 }=n.Iz:=e5;rw [e6,d0,d1,e1];by_cases h3:k=3
  ·obtain⟨e,he⟩:=Option.ne_none_iff_exists'.1 (hm3 h3);have w1:wt (.begin k L n.num) L (some e)=3:=by
    unfold wt;rw [if_neg (zdv e),if_pos ⟨h3,(by decide:(1:Int)≠0),(by decide:(1:Int)≠6),rfl⟩]
   have w2:wt n.aI L (some e)=16:=by
    rw [wX (.inl h0),if_neg (zdv e)]
   rw [he,w1,w2,if_pos (.inl h3)];omega
  ·rw [wX (.inl h0),wX (.inr (.inr (.inr h3))),if_neg (by omega)];omega
 show nM m.c ((m.with_ i { n1 with aI:=bJ.begin k L n.num,num:=(n.num+1).tmod 4096 } _ t).abs _ val);rw [E9 (n':={ n1 with aI:=bJ.begin k L n.num,num:=(n.num+1).tmod 4096 }) (msg:=msg) (val:=val) hn e2 (λL'=> by show n1.aH.find L'=_;rw [e1])];exact I'
theorem Kt {c:Cfg}{P:Int->Nat->Option Opn}{t:List Evn}{b:Bool}{k:Nat}{o:Opn}{j:Int}(hP:P j k=some o):CZ c P t val ((if b then t else t++[⟨j,k,false,0⟩])++[⟨j,k,true,(nG c o val).2⟩]) (nG c o val).1:=by
 cases b with
 | true=> exact .done j k o hP .same
 | false=> exact .done j k o hP (.eF j k .same)
theorem vF {c:Cfg}{P:Int->Nat->Option Opn}{t:List Evn}{b:Bool}{k:Nat}{j:Int}:CZ c P t val (if b then t else t++[⟨j,k,false,0⟩]) val:=by
 cases b with
 | true=> exact .same
 | false=> exact .eF j k .same
theorem GInv.work(X:MX T m)(G:GInv m msg val)(hn:m.aG[i]?=some n)(h0:n.aI.step=0){o:Opn}(o1:n.bP.cur=some o):
  ∃msg' val',GInv (m.with_ i (n.work m.c i m.fab m.trace o).1 (n.work m.c i m.fab m.trace o).2.1 (n.work m.c i m.fab m.trace o).2.2) msg' val'/\CZ m.c m.opAt m.trace val (n.work m.c i m.fab m.trace o).2.2 val'/\(m.with_ i (n.work m.c i m.fab m.trace o).1 (n.work m.c i m.fab m.trace o).2.1 (n.work m.c i m.fab m.trace o).2.2).todo msg' < m.todo msg:=by
 have hc:=X.inv.ok;have hi:=X.range hn;have NI:=X.inv.bG i n hn;have hright:=NI.bP.right o (zaq o1);have OO:=aoh hc hright.1;have hL:0<=m.c.bM o.addr/\m.c.bM o.addr < m.c.bn:=⟨OO.lo,OO.hi⟩
 have hP:=ND hn o1;have hd:(m.abs msg val).aI i=n.aI:=kR hn;unfold Node.work;simp only;obtain⟨n1,hn1⟩:∃n1:Node,n1={ n with bP:={ n.bP with eF:=true } }:=⟨_,rfl⟩
 have c1:n1.aH=n.aH:=by rw [hn1]
 have c2:n1.home=n.home:=by rw [hn1]
 have c3:n1.aI=n.aI:=by rw [hn1]
 have c4:n1.num=n.num:=by rw [hn1]
 have c5:n1.bP.cur=some o:=by rw [hn1];exact o1
 have c6:n1.bP.bH=n.bP.bH:=by rw [hn1]
 rw [<-hn1,show n.aH=n1.aH from c1.symm];have c7:n1.bP.eF=true:=by rw [hn1]
 have c8:n1.Iz=n.Iz:=by rw [hn1];rfl
 have hidx:n1.bP.idx=n.bP.bH.length:=by unfold Proc.idx;rw [c5,c6]
 have hop:n1.bP.op=o:=by unfold Proc.op;rw [c5];rfl
 obtain⟨t1,ht1⟩:∃t1,t1=(if n.bP.eF=true then m.trace else m.trace++[⟨i,n.bP.bH.length,false,0⟩]):=⟨_,rfl⟩
 rw [<-ht1];by_cases k1:o.aO=4/\n1.aH.find (m.c.bM o.addr)=none
 ·rw [if_pos k1];have hov:nG m.c o val=(val,0):=by
   unfold nG;rw [if_neg (by omega),if_neg (by omega),if_neg (by omega)]
  refine⟨msg,val,⟨?_,G.pk⟩,?_,og X hn hL c2 (λL' _=> by show n1.aH.find L'=_;rw [c1]) (λL' _ y=> by show wt n1.aI L' y=_;rw [c3]) (za6 _) (λ_ _=> rfl) ?_⟩
  ·show nM m.c ((m.with_ i { n1 with bP:=n1.bP.BL 0 } m.fab _).abs msg val);rw [E9 (n':={ n1 with bP:=n1.bP.BL 0 }) (msg:=msg) (val:=val) hn c2 (λL'=> by show n1.aH.find L'=_;rw [c1])];have:dK m.pW i n1.aI=m.pW:=by rw [c3,<-kR hn,jw]
   simp only [this];exact G.abs
  ·have:=Kt (c:=m.c) (t:=m.trace) (val:=val) (b:=n.bP.eF) hP;rw [hov] at this;unfold Node.done;rw [hidx,ht1];exact this
  ·have:=Fa (n':=(n1.done i t1 0).1) c5 c7 rfl;have h1:=aiT (d:=n1.aI) (L:=m.c.bM o.addr) (x:=n1.aH.find (m.c.bM o.addr));show 33*Node.Iz (n1.done i t1 0).1+Dp n1.aI (msg i)+wt n1.aI _ (n1.aH.find _) < _;rw [<-c3];omega
 rw [if_neg k1];by_cases k2:o.aO=4
 ·rw [if_pos k2];obtain⟨msg',G',F⟩:=G.begin_ (n1:=n1) (k:=3) (t:=t1) X hn h0 c1 c2 c4 c8 ⟨by decide,by decide⟩ hL (λh=> absurd h (by decide)) (λ_ h=> k1 ⟨k2,c1 ▸ h⟩);exact⟨msg',val,G',by rw [ht1];exact vF,F⟩
 rw [if_neg k2];by_cases k3:(n1.aH.find (m.c.bM o.addr)).isSome=true/\(o.aO=1∨((n1.aH.find (m.c.bM o.addr)).getD .zero).bZ=true)
 ·rw [if_pos k3];obtain⟨e,he⟩:=zc3.1 k3.1;have he':n.aH.find (m.c.bM o.addr)=some e:=by rw [<-c1];exact he
  have hdt:=k3.2;rw [he] at hdt;simp only [zar] at hdt;have hem:=(ig NI.aH.bn).1 he';have EO:=NI.aH.ent e hem.1;have hko:o.aO=1∨((o.aO=2∨o.aO=3)/\e.bZ=true):=by
   rcases hdt with h | h
   ·exact .inl h
   ·by_cases h1:o.aO=1
    ·exact .inl h1
    ·exact .inr ⟨by have:=OO.k1;have:=OO.k4;omega,h⟩
  have hae:(m.abs msg val).ent (m.c.bM o.addr) i=some e:=by
   show m.QS _ i=_;rw [sG hn];exact he'
  have hdata:=G.abs.data hL hae;obtain⟨e2,he2⟩:∃e2:Ent,e2={ e with used:=n.aH.bW+1 }:=⟨_,rfl⟩
  have hdl:=EO.dat.1;have d1:e2.data=e.data:=by rw [he2]
  have d2:e2.back=e.back:=by rw [he2]
  have d3:e2.fwd=e.fwd:=by rw [he2]
  have d4:e2.bZ=e.bZ:=by rw [he2]
  have d5:e2.aj=e.aj:=by rw [he2]
  obtain⟨w1,w2,w3,w4,w5,w6,w7⟩:=abE (c:=m.c) (val:=val) (e:=e2) (by rw [d4];exact hko) (by rw [d1];exact hdata) (by rw [d1];have:=OO.wlo;have:=OO.whi;omega);have y:=qH e2 o (m.c.dh o.addr);have hto:=XE NI.aH.bn he';have TI:=NI.aH.touch he';have hput:=xP TI.bn (e:=eG e2 o (m.c.dh o.addr)) (x:=e2) (by rw [y.1,d5];exact EO.lo) (by rw [y.1,d5,hto,if_pos hem.2,he2]);have hsame:({ eG e2 o (m.c.dh o.addr) with used:=e2.used }:Ent)=eG e2 o (m.c.dh o.addr):=by rw [<-y.2.1]
  have hel:(eG e2 o (m.c.dh o.addr)).aj=m.c.bM o.addr:=by rw [y.1,d5];exact hem.2
  have heff:({ n1 with aH:=n1.aH.touch (m.c.bM o.addr) }:Node).effect m.c i t1=({ n1 with aH:=((n.aH.touch (m.c.bM o.addr)).put (eG e2 o (m.c.dh o.addr))).1,bP:=n1.bP.BL (if o.aO=2 then 0 else e2.word (m.c.dh o.addr)) },t1++[⟨i,n.bP.bH.length,true,if o.aO=2 then 0 else e2.word (m.c.dh o.addr)⟩]):=by
   unfold Node.effect Node.done;have hop':({ n1 with aH:=n1.aH.touch (m.c.bM o.addr) }:Node).bP.op=o:=hop;simp only [hop',hidx,c1,hto,if_true,zar,<-he2]
  have hnn:({ aH:=n1.aH.touch (m.c.bM o.addr),bP:={ ops:=n.bP.ops,bH:=n.bP.bH,eF:=true },home:=n.home,aI:=n.aI,num:=n.num }:Node)={ n1 with aH:=n1.aH.touch (m.c.bM o.addr) }:=by rw [hn1]
  rw [hnn,heff];have hx:((n.aH.touch (m.c.bM o.addr)).put (eG e2 o (m.c.dh o.addr))).1.find (m.c.bM o.addr)=some (eG e2 o (m.c.dh o.addr)):=by
   rw [hput,if_pos hel.symm,hsame]
  have ap1:(nG m.c o val).1 (m.c.bM o.addr)≠[]:=by
   rw [<-w1];intro h;have h1:=y.2.2.2;have:=(qp hc).2.2.1;rw [h,d1] at h1;simp only [zan] at h1;omega
  refine⟨msg,(nG m.c o val).1,⟨?_,G.pk⟩,?_,og X hn hL c2 (λL' h=> by
    show((n.aH.touch _).put _).1.find L'=_;rw [hput,if_neg λh'=> h (h'.trans hel),hto,if_neg h]) (λL' _ y=> by show wt n1.aI L' y=_;rw [c3]) (za6 _) (λ_ _=> rfl) ?_⟩
  ·show nM m.c ((m.with_ i { n1 with aH:=((n.aH.touch (m.c.bM o.addr)).put (eG e2 o (m.c.dh o.addr))).1,bP:=n1.bP.BL (if o.aO=2 then 0 else e2.word (m.c.dh o.addr)) } m.fab _).abs msg _);rw [qJ (n':={ n1 with aH:=((n.aH.touch (m.c.bM o.addr)).put (eG e2 o (m.c.dh o.addr))).1,bP:=n1.bP.BL (if o.aO=2 then 0 else e2.word (m.c.dh o.addr)) }) (msg:=msg) (val:=val) hn c2 (L:=m.c.bM o.addr) (λL' h=> by
    show((n.aH.touch _).put _).1.find L'=_;rw [hput,if_neg λh'=> h (h'.trans hel),hto,if_neg h])]
   have hdf:dK m.pW i n1.aI=m.pW:=by rw [c3,<-kR hn,jw]
   simp only [hx,hdf];have I':=G.abs.hit (L:=m.c.bM o.addr) (e:=e) (e':=eG e2 o (m.c.dh o.addr)) (v':=(nG m.c o val).1 (m.c.bM o.addr)) hi (by rw [hd];exact h0) hL hae (w4.trans d2) (w5.trans d3) (w6.trans d4) (by
    rcases hko with h | ⟨_,h⟩
    ·refine .inl ⟨by rw [w7 h,d1],?_⟩;unfold nG;rw [if_pos h];rfl
    ·exact .inr ⟨h,w1⟩) ap1
   have hvf:dK (m.abs msg val).val (m.c.bM o.addr) ((nG m.c o val).1 (m.c.bM o.addr))=(nG m.c o val).1:=by
    funext L
    by_cases h:L=m.c.bM o.addr
    ·rw [h,aK]
    ·rw [aS h,w2 L h];rfl
   rw [hvf] at I';exact I'
  ·rw [w3,ht1];exact Kt hP
  ·have h0:=Fa (n':={ n1 with aH:=((n.aH.touch (m.c.bM o.addr)).put (eG e2 o (m.c.dh o.addr))).1,bP:=n1.bP.BL (if o.aO=2 then 0 else e2.word (m.c.dh o.addr)) }) c5 c7 rfl;have h1:=aiT (d:=n1.aI) (L:=m.c.bM o.addr) (x:=((n.aH.touch (m.c.bM o.addr)).put (eG e2 o (m.c.dh o.addr))).1.find (m.c.bM o.addr))
   dsimp only at h0 ⊢
   rw [<-c3];omega
 rw [if_neg k3];by_cases k4:n1.aH.full (m.c.bM o.addr)=true
 ·rw [if_pos k4];rw [c1] at k4;have hset:n.aH.nT (m.c.bM o.addr)≠[]:=by
   intro e;unfold Cache.full at k4;simp only [e,zan,zaf,decide_eq_true_eq] at k4;have:=(qp hc).2.2.2.2.1;rw [NI.aH.ways] at k4;omega
  obtain⟨e,he⟩:∃e,mX (n.aH.nT (m.c.bM o.addr))=some e:=by
   cases h:n.aH.nT (m.c.bM o.addr) with
   | nil=> exact absurd h hset
   | cons a l=> exact⟨_,rfl⟩
  have hv:n.aH.nH (m.c.bM o.addr)=some e.aj:=by unfold Cache.nH;rw [he];rfl
  have hem:e∈n.aH.l:=by
   have:=(qZ he).1;unfold Cache.nT at this;exact(zbn.1 this).1
  have EO:=NI.aH.ent e hem;rw [c1,hv];simp only [zar];obtain⟨msg',G',F⟩:=G.begin_ (n1:=n1) (k:=3) (L:=e.aj) (t:=t1) X hn h0 c1 c2 c4 c8 ⟨by decide,by decide⟩ ⟨EO.lo,EO.hi⟩ (λh=> absurd h (by decide)) (λ_ h=> nomatch ((ig NI.aH.bn).2 ⟨hem,rfl⟩:n.aH.find e.aj=some e).symm.trans h);exact⟨msg',val,G',by rw [ht1];exact vF,F⟩
 rw [if_neg k4];by_cases k5:o.aO=1
 ·rw [if_pos k5];obtain⟨msg',G',F⟩:=G.begin_ (n1:=n1) (k:=1) (t:=t1) X hn h0 c1 c2 c4 c8 ⟨by decide,by decide⟩ hL (λ_=> by
   cases h:n.aH.find (m.c.bM o.addr) with
   | none=> rfl
   | some e=> exact absurd ⟨by rw [c1,h];rfl,.inl k5⟩ k3) (λh=> absurd h (by decide))
  exact⟨msg',val,G',by rw [ht1];exact vF,F⟩
 ·rw [if_neg k5];obtain⟨msg',G',F⟩:=G.begin_ (n1:=n1) (k:=2) (t:=t1) X hn h0 c1 c2 c4 c8 ⟨by decide,by decide⟩ hL (λh=> absurd h (by decide)) (λh=> absurd h (by decide));exact⟨msg',val,G',by rw [ht1];exact vF,F⟩
theorem VT(X:MX T m)(hn:m.aG[i]?=some n)(h:m.fab.roomOf i false≠0):0 < m.fab.roomOf i false:=by
 have hi:=X.range hn;have his:=X.is hi (f:=m.fab) rfl;have P:=(X.inv.fab.get his).an;unfold Fab.roomOf at h ⊢;rw [if_pos his] at h ⊢;rw [X.inv.fab.out] at h ⊢;simp only [Port.sort,zah,if_false] at h ⊢;omega
theorem GInv.step(X:MX T m)(G:GInv m msg val)(j:Int):∃msg' val',GInv (m.step j).1 msg' val'/\CZ m.c m.opAt m.trace val (m.step j).1.trace val'/\((m.step j).2≠0->(m.step j).1.todo msg' < m.todo msg):=by
 unfold dZ.step;cases hnd:m.bG j with
 | none=> exact⟨msg,val,G,.same,λh=> absurd rfl h⟩
 | some n=>
  simp only;have hj:0<=j/\m.aG[j.toNat]?=some n:=by
   unfold dZ.bG at hnd;split at hnd
   ·exact⟨by assumption,hnd⟩
   ·cases hnd
  obtain⟨i,rfl⟩:∃i:Nat,j=i:=⟨j.toNat,by omega⟩
  rw [zat] at hj ⊢;have hn:=hj.2;have key:∃msg' val',GInv (m.with_ i (n.step m.c i m.fab m.trace).1.1 (n.step m.c i m.fab m.trace).1.2.1 (n.step m.c i m.fab m.trace).1.2.2) msg' val'/\CZ m.c m.opAt m.trace val (n.step m.c i m.fab m.trace).1.2.2 val'/\((n.step m.c i m.fab m.trace).2≠0->(m.with_ i (n.step m.c i m.fab m.trace).1.1 (n.step m.c i m.fab m.trace).1.2.1 (n.step m.c i m.fab m.trace).1.2.2).todo msg' < m.todo msg):=by
   unfold Node.step;cases ht:m.fab.take i false with
   | mk f' po=>
    cases po with
    | some p=>
     obtain⟨msg',val',G',T',F⟩:=G.answered X hn ht;exact⟨msg',val',G',T',λ_=> F⟩
    | none=>
     simp only;by_cases hg:n.home.ready≠[]/\m.fab.roomOf i false≠0
     ·rw [if_pos hg];obtain⟨msg',G',F⟩:=G.grant (t:=m.trace) X hn hg.1 (VT X hn hg.2);exact⟨msg',val,G',.same,λ_=> F⟩
     ·rw [if_neg hg];cases hr:(if m.fab.roomOf i false=0 then(m.fab,none) else m.fab.take i true) with
      | mk f2 po2=>
       cases po2 with
       | some p=>
        simp only;have hro:m.fab.roomOf i false≠0:=λh=> by rw [if_pos h] at hr;cases hr
        rw [if_neg hro] at hr;obtain⟨msg',G',F⟩:=G.asked (t:=m.trace) X hn hr (VT X hn hro);exact⟨msg',val,G',.same,λ_=> F⟩
       | none=>
        simp only;have hself:GInv (m.with_ i n m.fab m.trace) msg val:=by
         have:m.with_ i n m.fab m.trace=m:=by
          unfold dZ.with_;have:m.aG.set i n=m.aG:=by
           apply zbg
           intro k;by_cases h:i=k
           ·rw [<-h,zbd (zai.1 hn).1,hn]
           ·rw [zbm h]
          rw [this]
         rw [this];exact G
        cases hcu:n.bP.cur with
        | none=> exact⟨msg,val,hself,.same,λh=> absurd rfl h⟩
        | some o=>
         simp only;by_cases hs:n.aI.step=0
         ·rw [if_pos hs];obtain⟨msg',val',G',T',F⟩:=G.work X hn hs hcu;exact⟨msg',val',G',T',λ_=> F⟩
         ·rw [if_neg hs];exact⟨msg,val,hself,.same,λh=> absurd rfl h⟩
  exact key
theorem GInv.do_(X:MX T m)(G:GInv m msg val)(p:Pck):∃msg' val',GInv (m.do_ p).1 msg' val'/\CZ m.c m.opAt m.trace val (m.do_ p).1.trace val'/\((m.do_ p).2=true->(m.do_ p).1.todo msg' < m.todo msg):=by
 unfold dZ.do_;split
 ·refine⟨msg,val,⟨?_,?_⟩,.same,λh=> ?_⟩
  ·have:(m.deliver p.at_ p.bit p.mask).1.abs msg val=m.abs msg val:=rfl;rw [this];exact G.abs
  ·exact G.pk.deliver X.dst.all _ _ _
  ·have hu:=NC X.dst.all (of_decide_eq_true h);have h1:(m.deliver p.at_ p.bit p.mask).1.todo msg=2*pot m.c m.yc (m.abs msg λ_=> [])+(m.fab.deliver p.at_ p.bit p.mask).1.under:=rfl;have h2:m.todo msg=2*pot m.c m.yc (m.abs msg λ_=> [])+m.fab.under:=rfl;rw [h1,h2];omega
 ·obtain⟨msg',val',G',T',F⟩:=G.step X p.at_;exact⟨msg',val',G',T',λh=> F (of_decide_eq_true h)⟩
end
section
variable {m:dZ}{T:Nat}{msg:Int->Out}{val:Int->List Int}
theorem ad2 {α:Type}{l:List α}{i:Nat}{x:α}(h:l[i]?=some x):l.set i x=l:=by
 apply zbg
 intro k;by_cases e:i=k
 ·rw [<-e,zbd (zai.1 h).1,h]
 ·rw [zbm e]
theorem XJ {j:Int}(h:(m.step j).2=0):(m.step j).1=m:=by
 unfold dZ.step at h ⊢;cases hn:m.bG j with
 | none=> rfl
 | some n=>
  rw [hn] at h;simp only at h ⊢;have hj:0<=j/\m.aG[j.toNat]?=some n:=by
   unfold dZ.bG at hn;split at hn
   ·exact⟨by assumption,hn⟩
   ·cases hn
  have hs:(n.step m.c j m.fab m.trace).1=(n,m.fab,m.trace):=by
   unfold Node.step at h ⊢;cases ht:m.fab.take j false with
   | mk f' po=>
    rw [ht] at h;cases po with
    | some p=> simp at h
    | none=>
     simp only at h ⊢;split at h
     ·simp at h
     ·rename_i hg;rw [if_neg hg];cases hr:(if m.fab.roomOf j false=0 then(m.fab,none) else m.fab.take j true) with
      | mk f2 po2=>
       rw [hr] at h;cases po2 with
       | some p=> simp at h
       | none=>
        simp only at h ⊢;cases hc:n.bP.cur with
        | none=> rfl
        | some o=>
         rw [hc] at h;simp only at h ⊢;by_cases hd:n.aI.step=0
         ·rw [if_pos hd] at h;simp at h
         ·rw [if_neg hd]
  cases hst:n.step m.c j m.fab m.trace with
  | mk w k=>
   obtain⟨n',f',t'⟩:=w;rw [hst] at hs;simp only [zad] at hs;obtain⟨rfl,rfl,rfl⟩:=hs;simp only;rw [ad2 hj.2]
theorem NH {a b k:Int}(h:(m.fab.deliver a b k).2≠0):(m.fab.deliver a b k).1=m.fab:=by
 unfold Fab.deliver at h ⊢;by_cases h1:a < 0
 ·rw [if_pos h1]
 rw [if_neg h1] at h ⊢;cases hp:m.fab.all[a.toNat]? with
 | none=> rfl
 | some p=>
  rw [hp] at h;simp only at h ⊢;by_cases h2:aT p.bytes b k=true
  ·rw [if_pos h2]
  rw [if_neg h2] at h ⊢;by_cases h3:m.fab.room (qK p.aO)<=((m.fab.port p.dst).qL (qK p.aO)).length
  ·rw [if_pos h3]
  rw [if_neg h3] at h;exact absurd rfl h
theorem ad3 {p:Pck}(h:(m.do_ p).2=false):(m.do_ p).1=m:=by
 unfold dZ.do_ at h ⊢;by_cases hd:p.deliver=true
 ·rw [if_pos hd] at h ⊢;simp only [decide_eq_false_iff_not] at h;unfold dZ.deliver at h ⊢;simp only at h ⊢;rw [NH h]
 ·rw [if_neg hd] at h ⊢;simp only [decide_eq_false_iff_not,Classical.not_not] at h;exact XJ h
end
def NJ(m:dZ)(k:Nat):Prop:=∃msg val,GInv m msg val/\m.todo msg<=k
section
variable {m:dZ}{T k:Nat}
theorem NJ.do_(X:MX T m)(h:NJ m k)(p:Pck):∃k',NJ (m.do_ p).1 k'/\k'+(if(m.do_ p).2=true then 1 else 0)<=k:=by
 obtain⟨msg,val,G,hk⟩:=h;cases hb:(m.do_ p).2 with
 | false=>
  rw [ad3 hb];exact⟨k,⟨msg,val,G,hk⟩,by simp⟩
 | true=>
  obtain⟨msg',val',G',_,F⟩:=G.do_ X p;have:=F hb;exact⟨_,⟨msg',val',G',zac _⟩,by simp;omega⟩
theorem NJ.tally {x:dZ × Int}(X:MX T x.1)(h:NJ x.1 k)(p:Pck):∃k':Nat,NJ (tally x p).1 k'/\k'+(tally x p).2<=k+x.2:=by
 obtain⟨k',h',hk⟩:=h.do_ X p;refine⟨k',h',?_⟩;unfold Go.Proofs.YtgplhpgkompkmaaGreat.tally;cases hb:(x.1.do_ p).2 <;> rw [hb] at hk <;> simp at hk ⊢ <;> omega
theorem NJ.steps(a n:Int):∀(j i:Nat) {x:dZ × Int} {T k:Nat},MX T x.1->NJ x.1 k->∃(T' k':Nat),MX T' (pI a n j i x).1/\NJ (pI a n j i x).1 k'/\k'+(pI a n j i x).2<=k+x.2
 | 0,_,x,T,k,X,h=> ⟨T,k,X,h,zba _⟩
 | j+1,i,x,T,k,X,h=> by
  obtain⟨k1,h1,e1⟩:=h.tally X ⟨false,(a+i).tmod n,0,0⟩;obtain⟨T',k',X',h',e'⟩:=NJ.steps a n j (i+1) (X.do_ _) h1;exact⟨T',k',X',h',Int.le_trans e' e1⟩
theorem NJ.gives:∀(i:Nat) {x:dZ × Int} {T k:Nat},MX T x.1->NJ x.1 k->∃(T' k':Nat),MX T' (vK i x).1/\NJ (vK i x).1 k'/\k'+(vK i x).2<=k+x.2
 | 0,x,T,k,X,h=> ⟨T,k,X,h,zba _⟩
 | i+1,x,T,k,X,h=> by
  obtain⟨k1,h1,e1⟩:=h.tally X ⟨true,i,0,0⟩;obtain⟨T',k',X',h',e'⟩:=NJ.gives i (X.do_ _) h1;exact⟨T',k',X',h',Int.le_trans e' e1⟩
theorem NJ.round(X:MX T m)(h:NJ m k)(first:Int):∃T' k':Nat,MX T' (m.round first).1/\NJ (m.round first).1 k'/\k'+(m.round first).2<=k:=by
 obtain⟨T1,k1,X1,h1,e1⟩:=NJ.steps (nU m.c.aG first) m.c.aG m.c.aG.toNat 0 (x:=(m,0)) X h;obtain⟨T2,k2,X2,h2,e2⟩:=NJ.gives (pI (nU m.c.aG first) m.c.aG m.c.aG.toNat 0 (m,0)).1.fab.under X1 h1;exact⟨T2,k2,X2,h2,by show k2+(vK _ _).2<=(k:Int);simp only at e1;omega⟩
end
theorem NM {n:Int}(hn:1<=n)(v:Int):nU n (uS v n)=nU n v:=by
 have h:=SY (v:=v) hn;have h1:uS v n=v % n:=by unfold uS;rw [if_neg (by omega)]
 have t:=adi v n hn;have f:=adh v n hn;have key:∀a:Int,0<=a->a < n->nU n a=a:=λa h0 h2=> by
  unfold nU;rw [Int.tmod_eq_of_lt h0 h2,zby (by omega),Int.add_emod_right,Int.emod_eq_of_lt h0 h2]
 rw [key _ h.1 h.2,h1,f];unfold nU;generalize v.tmod n=z at t;by_cases hz:z < 0
 ·rw [if_pos hz,Int.tmod_eq_of_lt (by omega) (by omega)]
 ·rw [if_neg hz,zby (by omega),Int.add_emod_right,Int.emod_eq_of_lt (by omega) (by omega)]
theorem DT {m:dZ}(hn:1<=m.c.aG)(v:Int):m.round (uS v m.c.aG)=m.round v:=by
 unfold dZ.round;rw [NM hn]
def anX(v:Int):Cfg:=⟨1,1,1,1,1,1,1,[v]⟩
def aru(v:Int):dZ:=.new (anX v) [[⟨1,0,0⟩]]
def yE(v:Int):Nat->dZ
 | 0=> aru v
 | i+1=> ((yE v i).round 0).1
theorem XK(v:Int)(i:Nat)(h:i < 5):(yE v i).quiet=decide ((i:Int)=0):=by
 have q0:(yE v 0).quiet=true:=by kernel_rfl
 have q1:(yE v 1).quiet=false:=by kernel_rfl
 have q2:(yE v 2).quiet=false:=by kernel_rfl
 have q3:(yE v 3).quiet=false:=by kernel_rfl
 have q4:(yE v 4).quiet=false:=by kernel_rfl
 match i,h with
 | 0,_=> exact q0
 | 1,_=> exact q1
 | 2,_=> exact q2
 | 3,_=> exact q3
 | 4,_=> exact q4
theorem XL(v:Int)(i:Nat)(h:i < 5):((yE v i).round 0).2=if(i:Int)=4 then 1 else 2:=by
 have q0:((yE v 0).round 0).2=2:=by kernel_rfl
 have q1:((yE v 1).round 0).2=2:=by kernel_rfl
 have q2:((yE v 2).round 0).2=2:=by kernel_rfl
 have q3:((yE v 3).round 0).2=2:=by kernel_rfl
 have q4:((yE v 4).round 0).2=1:=by kernel_rfl
 match i,h with
 | 0,_=> exact q0
 | 1,_=> exact q1
 | 2,_=> exact q2
 | 3,_=> exact q3
 | 4,_=> exact q4
theorem agL(v:Int)(i:Nat)(h:i<=5):(yE v i).c.aG=1:=by
 have q0:(yE v 0).c.aG=1:=by kernel_rfl
 have q1:(yE v 1).c.aG=1:=by kernel_rfl
 have q2:(yE v 2).c.aG=1:=by kernel_rfl
 have q3:(yE v 3).c.aG=1:=by kernel_rfl
 have q4:(yE v 4).c.aG=1:=by kernel_rfl
 have q5:(yE v 5).c.aG=1:=by kernel_rfl
 match i,h with
 | 0,_=> exact q0
 | 1,_=> exact q1
 | 2,_=> exact q2
 | 3,_=> exact q3
 | 4,_=> exact q4
 | 5,_=> exact q5
theorem Dc(v:Int)(i:Nat)(h:i<=5)(z:Int):(yE v i).round z=(yE v i).round 0:=by
 have hc:=agL v i h;rw [<-DT (by omega) z,<-DT (m:=yE v i) (by omega) 0,hc];have e:∀z:Int,uS z 1=0:=λz=> by unfold uS;rw [if_neg (by omega)];omega
 rw [e,e]
theorem ad4(v:Int):(yE v 5).quiet=true/\(yE v 5).left=0/\((yE v 5).round 0).2=0:=⟨by kernel_rfl,by kernel_rfl,by kernel_rfl⟩
theorem ad5(v:Int):∃n,(yE v 5).aG[0]?=some n/\n.bP.bH=[v]:=by
 have h:((yE v 5).aG[0]?).map (λn=> n.bP.bH)=some [v]:=by kernel_rfl
 obtain⟨n,h1,h2⟩:=zbV.1 h;exact⟨n,h1,h2⟩
theorem abK(n:Int):zH (IntKind.wrap .i64 n):=ae1 n
section
variable {b:Nat}{H:ah}{g:bD}{A:Adr}{T:Nat}
theorem aiX(v:Int)(first:Int)(h64:zH first)(R:rO b H g A (yE v 5) T)(hT:T < 900000):
  ∃H',JH cl [I v,I first,.ref A.je 0 0,I 5] H=some (B true,H'):=by
 obtain⟨q1,q2,q3⟩:=ad4 v;obtain⟨n,hn,hv⟩:=ad5 v;have e1:=MK R.good R.je R.keep.fine;have e2:=aau R.good R.je R.keep.fine;rw [q1] at e1;rw [q2] at e2;have hlen:=R.keep.inv.len;rw [agL v 5 (zac _)] at hlen;have e3:=Vw R.good R.je (by omega) 0;rw [if_pos (by omega)] at e3
 replace e3:cl 25 [.ref A.je 0 0,I 0] H=some (.ref (A.N 0 0) 0 0,H):=e3
 have N:=R.je.bG 0 n hn;have l1:=R.good.load N.1 (i:=1) (x:=.ref (A.N 0 2) 0 0) rfl;obtain⟨x,e4,hx⟩:=WX R.good N.2.2.1 (by rw [hv];simp);rw [hv] at hx;let H1:=H.new (.blk 0 3 [I v]);have eb:bs 22 1 [(0,I v)] H=some (.sl H.next 0 0 1 1 1 true,H1):=(IG (by decide)).trans (jS rfl rfl rfl);have e5:=ah7 H1 (l:=[v]) (y:=.sl H.next 0 0 1 1 1 true) (by simp) (hx H1) (ku (n:=1) (m:=1) (l:=[I v]) rfl);have R1:rO b H1 g A (yE v 5) T:=R.new _;obtain⟨K,g',e6,_⟩:=VR R1 hT h64;rw [Dc v 5 (zac _),q3] at e6;have wk:=ah5 K;refine⟨K,?_⟩;rw [ae6];simp only [Int.reduceLT,Int.reduceEq,xq_,e1,e2,e3,l1,e4,eb,e5,e6,wk,eq_self,Int.reduceLT,Int.reduceEq]
theorem anY(v:Int)(first:Int)(h64:zH first):∀k (i:Nat) {H:ah} {g:bD} {T:Nat},i+k=5->rO b H g A (yE v i) T->T+102*k < 900000->
  ∃H',JH cl [I v,I first,.ref A.je 0 0,I i] H=some (B true,H'):=by
 intro k
 induction k with
 | zero=>
  intro i H g T hi R hT;obtain rfl:i=5:=by omega
  exact aiX v first h64 R (by omega)
 | succ k ih=>
  intro i H g T hi R hT;have h1:(i:Int) < 5:=by omega
  have e1:=MK R.good R.je R.keep.fine;rw [XK v i (by omega)] at e1;have h6:(i:Int)+1=((i+1:Nat):Int):=by omega
  have h7:=wrap_i64 (a:=((i+1:Nat):Int)) (by omega) (by omega);obtain⟨z,hz⟩:∃z,z=IntKind.wrap .i64 (first+i):=⟨_,rfl⟩
  have z64:zH z:=by rw [hz];exact abK _
  obtain⟨K,g',e2,R2,_⟩:=VR R (by omega) z64;rw [Dc v i (by omega),XL v i (by omega)] at e2;rw [Dc v i (by omega)] at R2;obtain⟨H',r⟩:=ih (i+1) (by omega) R2 (by omega);have nb:∀q:Bool,bi .neq 4 (B q) (B q)=some (B false):=λq=> by cases q <;> kernel_rfl
  refine⟨H',?_⟩;rw [ae6];by_cases h4:(i:Int)=4
  ·rw [if_pos h4] at e2;have h4d:=decide_eq_true h4;simp only [Int.reduceEq,xq_,h1,h4d,UQ,e1,nb,dF,<-hz,e2,eq_self,zae,h6,h7,r]
  ·rw [if_neg h4] at e2;simp only [Int.reduceEq,xq_,h1,h4,UQ,e1,nb,dF,<-hz,e2,eq_self,zae,h6,h7,r]
end
theorem NP(v:Int)(hv:zH v)(first:Int)(hf:zH first):∃H',cl 6 [I v,I first] ah.empty=some (B true,H'):=by
 let c:=anX v;have hc:c.ok=true:=by kernel_rfl
 have hp:c.xY [[⟨1,0,0⟩]]=true:=by kernel_rfl
 let H1:=ah.empty.new (.blk 0 3 [I v]);let y:AV:=.sl ah.empty.next 0 0 1 1 1 true
 let H2:=H1.new (.blk 0 31 (c.avx y));let H3:=H2.new (.blk 0 61 [I 1,I 0,I 0]);let H4:=H3.new (.blk 0 62 [.sl H2.next 0 0 3 1 1 true]);have hy1:kE H1 y [v]:=⟨ku (n:=1) (m:=1) (l:=[I v]) rfl,qX,λh=> by cases h⟩
 have hy:kE H4 y c.init:=((hy1.new _).new _).new _;have hs3:aW H3 (.sl H2.next 0 0 3 1 1 true) 3 1 [I 1,I 0,I 0]:=ku (n:=1) (m:=3) (l:=[I 1,I 0,I 0]) rfl;have hx:WO H4 (.sl H3.next 0 0 1 1 1 true) [[⟨1,0,0⟩]]:=⟨[.sl H2.next 0 0 3 1 1 true],ku (n:=1) (m:=1) (l:=[.sl H2.next 0 0 3 1 1 true]) rfl,λi v l a b=> by
  match i with
  | 0=> cases a;cases b;exact⟨hs3.new _,λh=> by cases h⟩
  | i+1=> cases a⟩
 obtain⟨H5,A,g,e1,M,MI⟩:=Tt H4 (zaT _) c hc hy hx hp;have X:MX 0 (.new c [[⟨1,0,0⟩]]):=anN hc (λz h=> by rw [zaM.1 h];exact hv) hp (λl hl o ho=> by
  rw [zaM.1 hl] at ho;rw [zaM.1 ho];exact⟨by kernel_rfl,by decide,by decide⟩)
 have R:rO H4.next H5 g A (yE v 0) 0:=⟨M.good,by rw [M.base];exact zaT _,MI,X⟩
 obtain⟨H',r⟩:=anY v first hf 5 0 (by decide) R (by decide)
 replace r:JH cl [I v,I first,.ref A.je 0 0,I 0] H5=some (B true,H'):=r
 have eb1:bs 22 1 [(0,I v)] ah.empty=some (y,H1):=(IG (by decide)).trans (jS rfl rfl rfl);have ev:bd 31 [(0,I 1),(1,I 1),(2,I 1),(3,I 1),(4,I 1),(5,I 1),(6,I 1),(7,y)]=some (.agg (c.avx y)):=by
  simp only [xq_,ajC,jX,gI,ahc];rfl
 have eo:bd 61 [(0,I 1)]=some (.agg [I 1,I 0,I 0]):=by
  simp only [xq_,ajG,jX,gI,ajF];rfl
 have st8:st 8 (.ref H1.next 0 0) (.agg (c.avx y)) (H1.new (.blk 0 31 [zI,zI,zI,zI,zI,zI,zI,zN]))=some (aY,H2):=by
  rw [Gg rfl];have cc:(AV.agg (c.avx y)).cells=c.avx y:=rfl;rw [cc,lV,if_pos ⟨zaT _,rfl,jE c qX,zac _⟩];rfl
 have l8:lda 8 (.ref H1.next 0 0) H2=some (.agg (c.avx y),H2):=(gy (off:=0) (n:=8) (xs:=c.avx y) (bF rfl) (zac 8)).trans rfl;have eb2:bs 62 1 [(0,.agg [I 1,I 0,I 0])] H2=some (.sl H2.next 0 0 3 1 1 true,H3):=(ajy (by decide)).trans (jS rfl rfl rfl);have eb3:bs 27 1 [(0,.sl H2.next 0 0 3 1 1 true)] H3=some (.sl H3.next 0 0 1 1 1 true,H4):=(ajw (by decide)).trans (jS rfl rfl rfl);have b0:bi .neq 57 (I 0) (I 0)=some (B false):=by kernel_rfl
 have en:bi .eql 25 (.ref A.je 0 0) zP=some (B false):=by kernel_rfl
 refine⟨H',bg rfl rfl (aqG _ _ _ _ ?_)⟩;simp only [xq_,aqi,eb1,ev,st8,l8,eo,eb2,eb3,e1,b0,en,r]
end
end Go.Proofs.YtgplhpgkompkmaaGreat
