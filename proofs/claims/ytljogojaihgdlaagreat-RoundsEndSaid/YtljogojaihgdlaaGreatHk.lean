/-
  Own work: an interpreter over named blocks, its soundness, and what the functions of this seat compute (part 11 of 12).
  Conditions: those of the statement alone.
-/
import Derived.Test.YtljogojaihgdlaaGreatHj
set_option linter.all false
set_option linter.unusedSectionVars false
set_option linter.unusedVariables false
set_option linter.unusedSimpArgs false
namespace Go.Proofs.YtljogojaihgdlaaGreat
noncomputable section
def mG {E:uV}{i:Int}:oN E i (E i)=E:=by
 funext j
 by_cases h:j=i
 ·rw [h,fZ]
 ·rw [fE h]
def ac0 {d:bM}{p:Pkt}(hk:p.aS=CZ (AU d.step))(b:p.id=d.id)(e:p.aj=d.aj)(hs:1<=d.step/\d.step<=6):d.fits p=true:=by
 have:d.step=1∨d.step=2∨d.step=3∨d.step=4∨d.step=5∨d.step=6:=V
 unfold bM.fits;simp only [hk,b,e,decide_true,zcL,decide_eq_true_eq];rcases this with h|h|h|h|h|h <;> simp [h,CZ,AU]
structure apP(c:Cfg)(N hm:Int)(E:uV)(r:Row)(v:List Int)(i:Int)(n:Node)(ca:Cache)(d':bM):Prop where
 aj:d'.aj=n.aI.aj
 aS:d'.aS=n.aI.aS
 id:d'.id=n.aI.id
 step:d'.step≠0
 fall:∀p q,¬(d'.step=6/\d'.aS≠3)->Dp d' (.req q)+wt d' n.aI.aj (ca.find n.aI.aj)<Dp n.aI (.ans p)+wt n.aI n.aI.aj (n.aH.find n.aI.aj)
 other:∀L,L≠n.aI.aj->ca.find L=n.aH.find L
 miss:d'.aS=1->d'.step=1∨d'.step=2->ca.find n.aI.aj=none
 next:(¬(d'.step=6/\d'.aS≠3)/\Hold N hm (oN E i (ca.find n.aI.aj)) r v i d' (.req (d'.ask i hm)))∨
  (d'.step=6/\d'.aS≠3/\∃e,ca.find n.aI.aj=some e/\e.data=v/\
   ((n.aI.aS=1/\Hold N hm (oN E i (some e)) r v i d' (.req (d'.ask i hm)))∨
    (n.aI.aS=2/\e.dn=true/\∀e':Ent,e'.back=e.back->e'.fwd=e.fwd->e'.dn=e.dn->Hold N hm (oN E i (some e')) r e'.data i d' (.req (d'.ask i hm)))))
section
variable {c:Cfg}{N hm:Int}{E:uV}{r:Row}{v:List Int}{i:Int}{n:Node}
def U6 {ca:Cache}(b:Lines ca.l){e:Ent}(h0:0<=e.aj)(d:ca.full e.aj=false):∃u,∀L,(ca.put e).1.find L=if L=e.aj then some { e with used:=u } else ca.find L:=by
 cases h:ca.find e.aj with
 |none=>exact SN b h0 h d
 |some x=>exact⟨x.used,λL=>yO b h0 h L⟩
def SQ {d:bM}{me:Int}{ca:Cache}{x:Int}(b:x=match ca.find d.aj with
   |some own=>if d.next=me then own.fwd else d.next
   |none=>d.next):dF d me ca=if x≠-1 then(ca,{ d with next:=x,step:=3 }) else((ca.put ⟨-1,-1,d.aj,0,true,d.data⟩).1,{ d with next:=x,step:=6,aV:=2,head:=me,data:=[] }):=by
 unfold dF;cases hc:ca.find d.aj with
 |none=>
  rw [hc] at b;simp only at b;subst b;rfl
 |some own=>
  rw [hc] at b;simp only at b;by_cases h:d.next=me
  ·rw [if_pos h] at b;simp only [if_pos h];subst b;rfl
  ·rw [if_neg h] at b;simp only [if_neg h];subst b;rfl
def SS(hl:Lines n.aH.l)(hi:0<=i/\i<N)(hE:E i=n.aH.find n.aI.aj)(h0:0<=n.aI.aj)(hfull:n.aH.full n.aI.aj=false)(hk2:n.aI.aS=2)(hst:n.aI.step=1∨n.aI.step=3){d1:bM}(k1:d1.aS=2)(k2:d1.aj=n.aI.aj)(k3:d1.id=n.aI.id){R:List Int}(L:akn N E v i R)(hd1:E i≠none->d1.data=v)(hd2:R=[]->d1.data=v)(hn:d1.next=hdI R (-1)):
  apP c N hm E r v i n (dF d1 i n.aH).1 (dF d1 i n.aH).2:=by
 obtain⟨x,hx⟩:∃x,x=match E i with
   |some own=>if d1.next=i then own.fwd else d1.next
   |none=>d1.next:=⟨_,rfl⟩
 have hx':=hx;rw [hE,<-k2] at hx';rw [SQ hx'];rcases ako (hm:=hm) (r:=r) hi.1 L hd1 hd2 hn hx k1 with⟨hx1,H⟩|⟨hx1,hdv,hall⟩
 ·rw [if_pos hx1];refine⟨k2,k1.trans hk2.symm,k3,(by decide:(3:Int)≠0),λ_ _ _=>ug (k1.trans hk2.symm) k2 (by omega) (by omega) (by rcases hst with h|h <;> rw [h] <;> rfl) (.inl ⟨(by decide:(3:Int)≠6),(by decide:(3:Int)≠0),rfl⟩),λ_ _=>rfl,λh=>absurd (show d1.aS=1 from h) (by omega),.inl ⟨λh=>absurd (show(3:Int)=6 from h.1) (by decide),?_⟩⟩;rw [<-hE,mG];exact H _ rfl k1 rfl rfl
 ·rw [if_neg (by rw [hx1];decide)];obtain⟨u,hu⟩:=U6 (ca:=n.aH) hl (e:=⟨-1,-1,d1.aj,0,true,d1.data⟩) (by rw [k2];exact h0) (by rw [k2];exact hfull);simp only at hu;refine⟨k2,k1.trans hk2.symm,k3,(by decide:(6:Int)≠0),λ_ _ h=>absurd ⟨rfl,(show d1.aS≠3 by omega)⟩ h,λL hL=>by rw [hu,if_neg (by rw [k2];exact hL)],λh=>absurd (show d1.aS=1 from h) (by omega),.inr ⟨rfl,by show d1.aS≠3;omega,⟨-1,-1,d1.aj,u,true,d1.data⟩,by rw [hu,if_pos k2.symm],hdv,.inr ⟨hk2,rfl,λe' a b c'=>?_⟩⟩⟩;exact Jr hi hall a b c' rfl rfl rfl
def YU(hl:Lines n.aH.l)(hi:0<=i/\i<N)(hv:v≠[])(hE:E i=n.aH.find n.aI.aj)(h0:0<=n.aI.aj)(hfull:n.aI.aS≠3->n.aH.full n.aI.aj=false)(hkr:1<=n.aI.aS/\n.aI.aS<=3)(hmiss:n.aI.aS=1->n.aI.step=1∨n.aI.step=2->E i=none){p:Pkt}(H:Hold N hm E r v i n.aI (.ans p)):
  ∃ca d',n.after i p=(ca,d',true)/\apP c N hm E r v i n ca d':=by
 obtain⟨f1,f2,f3,f4,f5,f6⟩:=H.ans;have hfit:=ac0 f4 f2 f3 (by omega);have one:=hkr;unfold Node.after;have hh:∃q,Out.ans p=q/\Hold N hm E r v i n.aI q:=⟨_,rfl,H⟩
 obtain⟨q,hq,H⟩:=hh;cases H with
 |granted h1 W=>
  cases hq;have hk3:n.aI.aS=1∨n.aI.aS=2∨n.aI.aS=3:=by omega
  rcases hk3 with hk|hk|hk
  ·rw [if_pos hk];unfold dX;rw [if_neg (by rw [hk,hfit];simp),if_pos h1];simp only;have hEn:=hmiss hk (.inl h1);by_cases hs:r.aV≠0
   ·rw [if_pos hs];refine⟨_,_,rfl,rfl,rfl,rfl,(by decide:(2:Int)≠0),λ_ _ _=>ug rfl rfl (by omega) (by omega) (by rw [h1];rfl) (.inl ⟨(by decide:(2:Int)≠6),(by decide:(2:Int)≠0),rfl⟩),λ_ _=>rfl,λ_ _=>by rw [<-hE];exact hEn,.inl ⟨λh=>absurd (show(2:Int)=6 from h.1) (by decide),?_⟩⟩;rw [<-hE,mG];exact Jq (d:={ n.aI with aV:=r.aV,head:=r.head,told:=r.head,data:=r.data,step:=2 }) hk W hs rfl rfl
   ·rw [if_neg hs];obtain⟨u,hu⟩:=U6 (ca:=n.aH) hl (e:=⟨-1,-1,n.aI.aj,0,false,r.data⟩) h0 (hfull (by omega));simp only at hu;have hr0:r.aV=0:=Classical.not_not.1 hs;refine⟨_,_,rfl,rfl,rfl,rfl,(by decide:(6:Int)≠0),λ_ _ h=>absurd ⟨rfl,(show n.aI.aS≠3 by omega)⟩ h,λL hL=>by rw [hu,if_neg hL],λ_ h=>(h.elim (λh=>absurd (show(6:Int)=1 from h) (by decide)) λh=>absurd (show(6:Int)=2 from h) (by decide)),.inr ⟨rfl,by show n.aI.aS≠3;omega,⟨-1,-1,n.aI.aj,u,false,r.data⟩,by rw [hu,if_pos rfl],W.ES (by rw [hr0];decide),.inl ⟨hk,?_⟩⟩⟩;exact Pg hi W hr0 rfl rfl rfl rfl rfl rfl rfl rfl
  ·rw [if_neg (by omega),if_pos hk];unfold dY;rw [if_neg (by rw [hk,hfit];simp),if_pos h1];simp only;refine⟨_,_,rfl,?_⟩;refine SS hl hi hE h0 (hfull (by omega)) hk (.inl h1) hk rfl rfl (Wf.left (i:=i) W) (λhe=>?_) (λhl0=>?_) W.head
   ·simp only [<-hE];cases hei:E i with
    |none=>exact absurd hei he
    |some own=>exact W.data i own hei
   ·simp only [<-hE];rw [W.empty hl0 i];exact W.ES (by rw [W.st0.2 hl0];decide)
  ·rw [if_neg (by omega),if_neg (by omega),if_pos hk];unfold eF;rw [if_neg (by rw [hk,hfit];simp),if_pos h1];simp only;cases hc:n.aH.find n.aI.aj with
   |none=>
    simp only;refine⟨_,_,rfl,rfl,rfl,rfl,(by decide:(6:Int)≠0),λ_ _ _=>ug rfl rfl (by omega) (by omega) (by rw [h1];rfl) (.inr ⟨rfl,hk,hc⟩),λ_ _=>rfl,λh=>absurd (show n.aI.aS=1 from h) (by omega),.inl ⟨λh=>h.2 hk,?_⟩⟩;rw [<-hE,mG];exact Pj W rfl rfl rfl rfl
   |some e=>
    have hei:E i=some e:=hE.trans hc;simp only;by_cases hb:e.back=-1/\e.fwd=-1
    ·rw [if_pos hb];have hdr:=Ci (aj:=n.aI.aj) hl;refine⟨_,_,rfl,rfl,rfl,rfl,(by decide:(6:Int)≠0),λ_ _ _=>ug rfl rfl (by omega) (by omega) (by rw [h1];rfl) (.inr ⟨rfl,hk,by rw [hdr,if_pos rfl]⟩),λL hL=>by rw [hdr,if_neg hL],λh=>absurd (show n.aI.aS=1 from h) (by omega),.inl ⟨λh=>h.2 hk,?_⟩⟩;rw [hdr,if_pos rfl];exact JK W hv hei hb.1 hb.2 rfl rfl rfl rfl
    ·rw [if_neg hb];by_cases hb1:e.back=-1
     ·rw [if_pos hb1];refine⟨_,_,rfl,rfl,rfl,rfl,(by decide:(5:Int)≠0),λ_ _ _=>ug rfl rfl (by omega) (by omega) (by rw [h1];rfl) (.inl ⟨(by decide:(5:Int)≠6),(by decide:(5:Int)≠0),rfl⟩),λ_ _=>rfl,λh=>absurd (show n.aI.aS=1 from h) (by omega),.inl ⟨λh=>h.2 hk,?_⟩⟩;rw [<-hE,mG];exact JL W hei hb1 (λh=>hb ⟨hb1,h⟩) rfl hk rfl rfl rfl
     ·rw [if_neg hb1];refine⟨_,_,rfl,rfl,rfl,rfl,(by decide:(4:Int)≠0),λ_ _ _=>ug rfl rfl (by omega) (by omega) (by rw [h1];rfl) (.inl ⟨(by decide:(4:Int)≠6),(by decide:(4:Int)≠0),rfl⟩),λ_ _=>rfl,λh=>absurd (show n.aI.aS=1 from h) (by omega),.inl ⟨λh=>h.2 hk,?_⟩⟩;rw [<-hE,mG];exact JM W hei hb1 rfl hk rfl rfl rfl
 |attached h1 h2 h3 h4 R C M D X F=>
  cases hq;rw [if_pos h2];unfold dX;rw [if_neg (by rw [h2,hfit];simp),if_neg (by omega),if_pos h1];simp only;have hEn:=hmiss h2 (.inr h1);obtain⟨u,hu⟩:=U6 (ca:=n.aH) hl (e:=⟨n.aI.head,-1,n.aI.aj,0,false,v⟩) h0 (hfull (by omega));simp only at hu;refine⟨_,_,rfl,rfl,rfl,rfl,(by decide:(6:Int)≠0),λ_ _ h=>absurd ⟨rfl,(show n.aI.aS≠3 by omega)⟩ h,λL hL=>by rw [hu,if_neg hL],λ_ h=>(h.elim (λh=>absurd (show(6:Int)=1 from h) (by decide)) λh=>absurd (show(6:Int)=2 from h) (by decide)),.inr ⟨rfl,by show n.aI.aS≠3;omega,⟨n.aI.head,-1,n.aI.aj,u,false,v⟩,by rw [hu,if_pos rfl],rfl,.inl ⟨h2,?_⟩⟩⟩;exact Ph hi hEn h3 h4 R C M D X F hv rfl rfl rfl rfl rfl rfl rfl rfl
 |Jp h1 h2 L hcl h3=>
  cases hq;rw [if_neg (by omega),if_pos h2];unfold dY;rw [if_neg (by rw [h2,hfit];simp),if_neg (by omega),if_pos h1];simp only;refine⟨_,_,rfl,?_⟩;refine SS hl hi hE h0 (hfull (by omega)) h2 (.inr h1) h2 rfl rfl L (λhe=>?_) (λ_=>?_) rfl
  ·simp only [<-hE];cases hei:E i with
   |none=>exact absurd hei he
   |some own=>exact h3 he
  ·simp only [<-hE];cases hei:E i with
   |none=>rfl
   |some own=>exact h3 (by rw [hei];simp)
 |Ae h1 h2 M h3 C C' h4 h5 h6=>
  cases hq;rw [if_neg (by omega),if_neg (by omega),if_pos h2];unfold eF;rw [if_neg (by rw [h2,hfit];simp),if_neg (by omega),if_pos h1];by_cases hn:n.aI.next=-1
  ·rw [if_pos hn];unfold gW;have hdr:=Ci (aj:=n.aI.aj) hl;have hpost:=(M.rng.mid.2.2.2.2.1.acW).1 (h5.symm.trans hn);refine⟨_,_,rfl,rfl,rfl,rfl,(by decide:(6:Int)≠0),λ_ _ _=>ug rfl rfl (by omega) (by omega) (by rw [h1];rfl) (.inr ⟨rfl,h2,by rw [hdr,if_pos rfl]⟩),λL hL=>by rw [hdr,if_neg hL],λh=>absurd (show n.aI.aS=1 from h) (by omega),.inl ⟨λh=>h.2 h2,?_⟩⟩;rw [hdr,if_pos rfl];exact Js M h3 C hpost rfl rfl h6 rfl
  ·rw [if_neg hn];refine⟨_,_,rfl,rfl,rfl,rfl,(by decide:(5:Int)≠0),λ_ _ _=>ug rfl rfl (by omega) (by omega) (by rw [h1];rfl) (.inl ⟨(by decide:(5:Int)≠6),(by decide:(5:Int)≠0),rfl⟩),λ_ _=>rfl,λh=>absurd (show n.aI.aS=1 from h) (by omega),.inl ⟨λh=>h.2 h2,?_⟩⟩;rw [<-hE,mG];exact JO (d:={ n.aI with step:=5 }) M (λh=>hn (by rw [h5,h];rfl)) C C' rfl h2 h4 h5 h6
 |wE h1 h2 M h3 C C' h4 h5 h6=>
  cases hq;rw [if_neg (by omega),if_neg (by omega),if_pos h2];unfold eF;rw [if_neg (by rw [h2,hfit];simp),if_neg (by omega),if_neg (by omega),if_pos h1];have hdr:=Ci (aj:=n.aI.aj) hl;by_cases hh:n.aI.head=-1
  ·rw [if_pos hh];unfold gW;refine⟨_,_,rfl,rfl,rfl,rfl,(by decide:(6:Int)≠0),λ_ _ _=>ug rfl rfl (by omega) (by omega) (by rw [h1];rfl) (.inr ⟨rfl,h2,by rw [hdr,if_pos rfl]⟩),λL hL=>by rw [hdr,if_neg hL],λh=>absurd (show n.aI.aS=1 from h) (by omega),.inl ⟨λh=>h.2 h2,?_⟩⟩;rw [hdr,if_pos rfl];exact EI (h0:=n.aI.head) (nx:=n.aI.next) M h3 C C' h4 h5 rfl rfl (by rw [if_pos hh]) rfl
  ·rw [if_neg hh];unfold gW;refine⟨_,_,rfl,rfl,rfl,rfl,(by decide:(6:Int)≠0),λ_ _ _=>ug rfl rfl (by omega) (by omega) (by rw [h1];rfl) (.inr ⟨rfl,h2,by rw [hdr,if_pos rfl]⟩),λL hL=>by rw [hdr,if_neg hL],λh=>absurd (show n.aI.aS=1 from h) (by omega),.inl ⟨λh=>h.2 h2,?_⟩⟩;rw [hdr,if_pos rfl];exact EI (h0:=n.aI.head) (nx:=n.aI.next) M h3 C C' h4 h5 rfl rfl (by rw [if_neg hh];exact h6) rfl
 |attach _ _ _ _ _=>cases hq
 |JJ _ _ _ _ _=>cases hq
 |front _ _ _ _ _ _ _ _=>cases hq
 |behind _ _ _ _ _ _ _ _ _=>cases hq
 |unlock _ _=>cases hq
end
def bW.Gm(m:bW)(L:Int):uV:=λj=>(m.bF j).bind λn=>n.aH.find L
def bW.lT(m:bW)(L:Int):Home:=match m.bF (m.c.bf L) with
 |some n=>n.home
 |none=>⟨[],⟨[],[]⟩⟩
def bW.lU(m:bW)(j:Int):bM:=match m.bF j with
 |some n=>n.aI
 |none=>.zero
def bW.abs(m:bW)(msg:Int->Out)(val:Int->List Int):Abs:=
 ⟨m.Gm,λL=>jq (m.lT L).dJ L,λL=>(m.lT L).aT.owner L,λL=>(m.lT L).aT.ws L,m.lU,msg,val⟩
structure GInv(m:bW)(msg:Int->Out)(val:Int->List Int):Prop where
 abs:oO m.c (m.abs msg val)
 pk:qG m.fab msg
def bW.with_(m:bW)(i:Nat)(n:Node)(f:Fab)(t:List Evn):bW:={ m with aB:=m.aB.set i n,fab:=f,trace:=t }
section
variable {m:bW}{i:Nat}{n n':Node}{f:Fab}{t:List Evn}{msg msg':Int->Out}{val val':Int->List Int}
def yP(h:m.aB[i]?=some n):m.bF i=some n:=by
 unfold bW.bF;rw [if_pos V,zar];exact h
def Cj(h:m.aB[i]?=some n)(j:Int):(m.with_ i n' f t).bF j=if j=i then some n' else m.bF j:=by
 have d:=(zae.1 h).1;unfold bW.bF bW.with_;simp only;by_cases e:j=i
 ·rw [if_pos e,e,if_pos V,zar,zbd d]
 ·rw [if_neg e];by_cases b:0<=j
  ·rw [if_pos b,if_pos b,zbl V]
  ·rw [if_neg b,if_neg b]
def Jv(h:m.aB[i]?=some n)(L:Int):(m.with_ i n' f t).Gm L=oN (m.Gm L) i (n'.aH.find L):=by
 funext j
 unfold bW.Gm;rw [Cj h];by_cases b:j=i
 ·rw [if_pos b,b,fZ];rfl
 ·rw [if_neg b,fE b]
def DZ(h:m.aB[i]?=some n):(m.with_ i n' f t).lU=dP m.lU i n'.aI:=by
 funext j
 unfold bW.lU;rw [Cj h];by_cases b:j=i
 ·rw [if_pos b,b,aK]
 ·rw [if_neg b,aW b]
def yQ(h:m.aB[i]?=some n)(L:Int):(m.with_ i n' f t).lT L=if m.c.bf L=i then n'.home else m.lT L:=by
 unfold bW.lT;have hc:(m.with_ i n' f t).c=m.c:=rfl;rw [Cj h,hc];by_cases b:m.c.bf L=i
 ·rw [if_pos b,if_pos b]
 ·rw [if_neg b,if_neg b]
def lJ(h:m.aB[i]?=some n){L:Int}(b:m.c.bf L=i):m.lT L=n.home:=by
 unfold bW.lT;rw [b,yP h]
def uh(h:m.aB[i]?=some n)(L:Int):m.Gm L i=n.aH.find L:=by
 unfold bW.Gm;rw [yP h];rfl
def jW(h:m.aB[i]?=some n):m.lU i=n.aI:=by
 unfold bW.lU;rw [yP h]
def rV(h:m.aB[i]?=some n)(e:n'.home=n.home){L:Int}(hc:∀b,b≠L->n'.aH.find b=n.aH.find b):
  (m.with_ i n' f t).abs msg' val'={ m.abs msg val with ent:=dP m.Gm L (oN (m.Gm L) i (n'.aH.find L)),aI:=dP m.lU i n'.aI,msg:=msg',val:=val' }:=by
 have g:∀L,(m.with_ i n' f t).lT L=m.lT L:=λL=>by
  rw [yQ h];by_cases d:m.c.bf L=i
  ·rw [if_pos d,e,lJ h d]
  ·rw [if_neg d]
 have j:(m.with_ i n' f t).Gm=dP m.Gm L (oN (m.Gm L) i (n'.aH.find L)):=by
  funext b
  rw [Jv h];by_cases d:b=L
  ·rw [d,aK]
  ·rw [aW d,hc b d,<-uh h b,mG]
 unfold bW.abs;simp only [g,j,DZ h]
def Gn(h:m.aB[i]?=some n)(hc:∀L,n'.aH.find L=n.aH.find L)(hd:n'.aI=n.aI){L:Int}(g:m.c.bf L=i)(o:∀b,b≠L->jq n'.home.dJ b=jq n.home.dJ b)(p:∀b,b≠L->n'.home.aT.owner b=n.home.aT.owner b)(hw:∀b,b≠L->n'.home.aT.ws b=n.home.aT.ws b):
  (m.with_ i n' f t).abs msg' val={ m.abs msg val with row:=dP (m.abs msg val).row L (jq n'.home.dJ L),own:=dP (m.abs msg val).own L (n'.home.aT.owner L),ws:=dP (m.abs msg val).ws L (n'.home.aT.ws L),msg:=msg' }:=by
 have q:(m.with_ i n' f t).Gm=m.Gm:=by
  funext b
  rw [Jv h,hc,<-uh h b,mG]
 have u:(m.with_ i n' f t).lU=m.lU:=by
  rw [DZ h,hd,<-jW h]
  funext j
  by_cases k:j=i
  ·rw [k,aK]
  ·rw [aW k]
 have v:(λb=>jq ((m.with_ i n' f t).lT b).dJ b)=dP (λL=>jq (m.lT L).dJ L) L (jq n'.home.dJ L):=by
  funext b
  rw [yQ h];by_cases e:b=L
  ·rw [e,if_pos g,aK]
  ·rw [aW e];by_cases d:m.c.bf b=i
   ·rw [if_pos d,o b e,lJ h d]
   ·rw [if_neg d]
 have w:(λb=>((m.with_ i n' f t).lT b).aT.owner b)=dP (λL=>(m.lT L).aT.owner L) L (n'.home.aT.owner L):=by
  funext b
  rw [yQ h];by_cases e:b=L
  ·rw [e,if_pos g,aK]
  ·rw [aW e];by_cases d:m.c.bf b=i
   ·rw [if_pos d,p b e,lJ h d]
   ·rw [if_neg d]
 have y:(λb=>((m.with_ i n' f t).lT b).aT.ws b)=dP (λL=>(m.lT L).aT.ws L) L (n'.home.aT.ws L):=by
  funext b
  rw [yQ h];by_cases e:b=L
  ·rw [e,if_pos g,aK]
  ·rw [aW e];by_cases d:m.c.bf b=i
   ·rw [if_pos d,hw b e,lJ h d]
   ·rw [if_neg d]
 unfold bW.abs;simp only [q,u,v,w,y]
end
def ac3 {c:Cfg}(hc:c.ok=true){i:Int}(hi:0<=i/\i<c.aB){k L id:Int}(g:0<=L/\L<c.aY)(d:0<=id/\id<4096):((bM.begin k L id).ask i (c.bf L)).ok=true/\qU ((bM.begin k L id).ask i (c.bf L)).aS=true/\((bM.begin k L id).ask i (c.bf L)).src=i/\0<=((bM.begin k L id).ask i (c.bf L)).dst/\((bM.begin k L id).ask i (c.bf L)).dst<c.aB:=by
 obtain⟨h,j,_⟩:=nK hc;have b:0<=c.bf L/\c.bf L<c.aB:=by
  unfold Cfg.bf xH;rw [if_neg V];exact⟨zch _ V,zct _ V⟩
 have e:(bM.begin k L id).ask i (c.bf L)=⟨1,i,c.bf L,id,L,0,0,false,[]⟩:=rfl;rw [e];refine⟨?_,rfl,rfl,b.1,b.2⟩;simp only [Pkt.ok,zah,decide_eq_true_eq,zao];omega
def D7 {c:Cfg}(hc:c.ok=true){L:Int}(b:0<=L):0<=c.bf L/\c.bf L<c.aB:=by
 obtain⟨d,_⟩:=nK hc;unfold Cfg.bf xH;rw [if_neg V];exact⟨zch _ V,zct _ V⟩
def akt {c:Cfg}(hc:c.ok=true){i:Int}(hi:0<=i/\i<c.aB){E:uV}{r:Row}{v:List Int}{d:bM}(H:Hold c.aB (c.bf d.aj) E r v i d (.req (d.ask i (c.bf d.aj))))(hL:0<=d.aj/\d.aj<c.aY)(hid:0<=d.id/\d.id<4096)(hd:d.data.length<=4):
  (d.ask i (c.bf d.aj)).ok=true/\qU (d.ask i (c.bf d.aj)).aS=true/\(d.ask i (c.bf d.aj)).src=i/\0<=(d.ask i (c.bf d.aj)).dst/\(d.ask i (c.bf d.aj)).dst<c.aB:=by
 obtain⟨h1,h2,_⟩:=nK hc;have hh:=D7 hc hL.1;have last:∀{l:List Int},Rng c.aB l->l≠[]->0<=oG l (-1)/\oG l (-1)<c.aB:=λR hl=>R.2 _ (Jo hl);have as1:∀{l:List Int},Rng c.aB l->-1<=oG l (-1)/\oG l (-1)<c.aB:=λ{l} R=>by
  by_cases hl:l=[]
  ·rw [hl];exact⟨za2 _,by show(-1:Int)<c.aB;omega⟩
  ·have:=last R hl;omega
 have hd_:∀{l:List Int},Rng c.aB l->l≠[]->0<=hdI l (-1)/\hdI l (-1)<c.aB:=λR hl=>R.2 _ (R.hd hl).1;have hdo:∀{l:List Int},Rng c.aB l->-1<=hdI l (-1)/\hdI l (-1)<c.aB:=λ{l} R=>by
  by_cases hl:l=[]
  ·rw [hl];exact⟨za2 _,by show(-1:Int)<c.aB;omega⟩
  ·have:=hd_ R hl;omega
 have hq:∃q,Out.req (d.ask i (c.bf d.aj))=q/\Hold c.aB (c.bf d.aj) E r v i d q:=⟨_,rfl,H⟩
 obtain⟨q,hq,H⟩:=hq;cases H with
 |attach k1 k2 k3 k4 W=>
  have:=hd_ W.rng k3;have e:d.ask i (c.bf d.aj)=⟨3,i,d.head,d.id,d.aj,i,0,false,[]⟩:=by unfold bM.ask;simp [k1]
  rw [e];refine⟨?_,rfl,rfl,by show 0<=d.head;omega,by show d.head<c.aB;omega⟩;simp only [Pkt.ok,zah,decide_eq_true_eq,zao];omega
 |JJ k1 k2 L k3 k4=>
  have:=L.rng.2 d.next (by simp)
  have e:d.ask i (c.bf d.aj)=⟨6,i,d.next,d.id,d.aj,0,0,false,[]⟩:=by unfold bM.ask;simp [k1]
  rw [e];refine⟨?_,rfl,rfl,by show 0<=d.next;omega,by show d.next<c.aB;omega⟩;simp only [Pkt.ok,zah,decide_eq_true_eq,zao];omega
 |front k1 k2 M k3 C k4 k5 k6=>
  obtain⟨_,_,_,p1,p2,_⟩:=M.rng.mid;have:=last p1 k3;have:=hdo p2;have e:d.ask i (c.bf d.aj)=⟨4,i,d.head,d.id,d.aj,d.next,0,false,[]⟩:=by unfold bM.ask;simp [k1]
  rw [e];refine⟨?_,rfl,rfl,by show 0<=d.head;omega,by show d.head<c.aB;omega⟩;simp only [Pkt.ok,zah,decide_eq_true_eq,zao];omega
 |behind k1 k2 M k3 C C' k4 k5 k6=>
  obtain⟨_,_,_,p1,p2,_⟩:=M.rng.mid;have:=as1 p1;have:=hd_ p2 k3;have e:d.ask i (c.bf d.aj)=⟨5,i,d.next,d.id,d.aj,d.head,0,false,[]⟩:=by unfold bM.ask;simp [k1]
  rw [e];refine⟨?_,rfl,rfl,by show 0<=d.next;omega,by show d.next<c.aB;omega⟩;simp only [Pkt.ok,zah,decide_eq_true_eq,zao];omega
 |unlock k1 W=>
  have:=hdo W.rng;have h3:d.head=_:=W.head;have h4:d.aV=0∨d.aV=1∨d.aV=2:=W.st;have e:d.ask i (c.bf d.aj)=⟨2,i,c.bf d.aj,d.id,d.aj,d.head,d.aV,decide (d.data≠[]),d.data⟩:=by unfold bM.ask;simp [k1]
  rw [e];refine⟨?_,rfl,rfl,hh.1,hh.2⟩;simp only [Pkt.ok,zah,decide_eq_true_eq];omega
 |granted _ _=>cases hq
 |attached _ _ _ _ _ _ _ _ _ _=>cases hq
 |Jp _ _ _ _ _=>cases hq
 |Ae _ _ _ _ _ _ _ _ _=>cases hq
 |wE _ _ _ _ _ _ _ _ _=>cases hq
def oI(c:Cfg)(o:Opn)(val:Int->List Int):(Int->List Int) × Int:=
 let L:=c.bU o.addr;let w:=(c.dI o.addr).toNat
 if o.aS=1 then(val,(val L).getD w 0)
 else if o.aS=2 then(dP val L ((val L).set w o.value),0)
 else if o.aS=3 then(dP val L ((val L).set w (w64 ((val L).getD w 0+o.value))),(val L).getD w 0)
 else(val,0)
inductive D8 (c:Cfg) (P:Int->Nat->Option Opn):List Evn->(Int->List Int)->List Evn->(Int->List Int)->Prop
 |same {t:List Evn} {v:Int->List Int}:D8 c P t v t v
 |eG {t t':List Evn} {v v':Int->List Int} (i:Int) (k:Nat):D8 c P t v t' v'->D8 c P t v (t'++[⟨i,k,false,0⟩]) v'
 |done {t t':List Evn} {v v':Int->List Int} (i:Int) (k:Nat) (o:Opn):P i k=some o->D8 c P t v t' v'->D8 c P t v (t'++[⟨i,k,true,(oI c o v').2⟩]) (oI c o v').1
def bW.opAt(m:bW)(i:Int)(k:Nat):Option Opn:=match m.bF i with
 |some n=>n.bQ.ops[k]?
 |none=>none
def ac4 {c:Cfg}{o:Opn}{e:Ent}{val:Int->List Int}(hk:o.aS=1∨((o.aS=2∨o.aS=3)/\e.dn=true))(hv:e.data=val (c.bU o.addr))(hw:0<=c.dI o.addr/\c.dI o.addr<e.data.length):
  (eU e o (c.dI o.addr)).data=(oI c o val).1 (c.bU o.addr)/\(∀L,L≠c.bU o.addr->(oI c o val).1 L=val L)/\(if o.aS=2 then 0 else e.word (c.dI o.addr))=(oI c o val).2/\
  (eU e o (c.dI o.addr)).back=e.back/\(eU e o (c.dI o.addr)).fwd=e.fwd/\(eU e o (c.dI o.addr)).dn=e.dn/\(o.aS=1->eU e o (c.dI o.addr)=e):=by
 have b:e.word (c.dI o.addr)=(val (c.bU o.addr)).getD (c.dI o.addr).toNat 0:=by
  unfold Ent.word;rw [if_pos hw,hv]
 unfold eU oI;rcases hk with hk|⟨hk|hk,hd⟩
 ·rw [if_neg V,if_neg V,if_pos hk,if_neg V];exact⟨hv,λ_ _=>rfl,b,rfl,rfl,rfl,λ_=>rfl⟩
 ·have d:∀x,e.write (c.dI o.addr) x={ e with data:=e.data.set (c.dI o.addr).toNat x }:=λx=>by
   unfold Ent.write;rw [if_pos ⟨hd,hw⟩]
  rw [if_pos hk,if_neg V,if_pos hk,if_pos hk,d];exact⟨by simp only [aK,hv],λL g=>aW g,rfl,rfl,rfl,rfl,λh=>V⟩
 ·have d:∀x,e.write (c.dI o.addr) x={ e with data:=e.data.set (c.dI o.addr).toNat x }:=λx=>by
   unfold Ent.write;rw [if_pos ⟨hd,hw⟩]
  rw [if_neg V,if_pos hk,if_neg V,if_neg V,if_pos hk,if_neg V,d,b];exact⟨by simp only [aK,hv],λL g=>aW g,rfl,rfl,rfl,rfl,λh=>V⟩
def jM {α:Type}{g:Int->α}{j:Int}:dP g j (g j)=g:=by
 funext k
 by_cases h:k=j
 ·rw [h,aK]
 ·rw [aW h]
def Node.Jw(n:Node):Nat:=n.bQ.ops.length-n.bQ.bH.length
def bW.uT(m:bW)(j:Int):Nat:=match m.bF j with
 |some n=>n.Jw
 |none=>0
def bW.todo(m:bW)(msg:Int->Out):Nat:=2*pot m.c m.uT (m.abs msg λ_=>[])+m.fab.under
section
variable {m:bW}{i:Nat}{n n':Node}{f:Fab}{t:List Evn}{msg msg':Int->Out}{val val':Int->List Int}
def D9(h:m.aB[i]?=some n):(m.with_ i n' f t).uT=dP m.uT i n'.Jw:=by
 funext j
 unfold bW.uT;rw [Cj h];by_cases b:j=i
 ·rw [if_pos b,b,aK]
 ·rw [if_neg b,aW b]
def Pq(h:m.aB[i]?=some n):m.uT i=n.Jw:=by
 unfold bW.uT;rw [yP h]
def U7(e:pot m.c (m.with_ i n' f t).uT ((m.with_ i n' f t).abs msg' val')<pot m.c m.uT (m.abs msg val))(g:f.under<=m.fab.under+1):(m.with_ i n' f t).todo msg'<m.todo msg:=by
 have b:(m.with_ i n' f t).todo msg'=2*pot m.c (m.with_ i n' f t).uT ((m.with_ i n' f t).abs msg' val')+f.under:=rfl;have d:m.todo msg=2*pot m.c m.uT (m.abs msg val)+m.fab.under:=rfl;rw [b,d];omega
end
def SV {f:Fab}{i:Int}{q:Port}(hi:f.is i=true):(f.put i q).under+((f.port i).rq.length+(f.port i).an.length)=f.under+(q.rq.length+q.an.length):=by
 have h:=fF hi;obtain⟨b,e⟩:=zae.1 h;unfold Fab.under Fab.all Fab.put;simp only;have key:∀(l:List Port) (k:Nat) (x:Port),l[k]?=some x->((l.set k q).flatMap λq=>q.rq++q.an).length+(x.rq.length+x.an.length)=(l.flatMap λq=>q.rq++q.an).length+(q.rq.length+q.an.length):=by
  intro l
  induction l with
  |nil=>intro k x h;simp at h
  |cons y l d=>
   intro k x h;cases k with
   |zero=>
    simp only [zaT,zaa] at h;subst h;simp only [zb9,zaC,zaq];omega
   |succ k=>
    simp only [zbf] at h;have:=d k x h;simp only [zca,zaC,zaq];omega
 exact key _ _ _ h
def ac5 {f:Fab}{i:Int}{q:Port}(hi:f.is i=true)(b:q.rq=(f.port i).rq)(d:q.an=(f.port i).an):(f.put i q).all=f.all:=DY (fF hi) b d
def LX {f b:Fab}{i:Int}{r:Bool}{d:Option Pkt}(h:f.take i r=(b,d)):b.under=f.under:=by
 unfold Fab.take at h;split at h
 ·rename_i hi;split at h
  ·cases h;rfl
  ·cases h;unfold Fab.under;rw [ac5 hi (by cases r <;> rfl) (by cases r <;> rfl)]
 ·cases h;rfl
def pK(f:Fab)(p:Pkt):(f.send p).1.under<=f.under+1:=by
 unfold Fab.send;split
 ·exact za8 _
 ·rename_i h;split
  ·exact za8 _
  ·simp only;have hi:f.is p.src=true:=by
    simp only [zbk,za4,not_or,zcy] at h;exact h.1.2
   have:=SV (q:=(f.port p.src).kP (qU p.aS) ((f.port p.src).sort (qU p.aS)++[p])) hi;cases hk:qU p.aS <;> rw [hk] at this <;> simp [Port.kP,Port.sort] at this ⊢ <;> omega
def Pv {f:Fab}{a b m:Int}(e:∀p∈f.all,f.is p.dst=true)(h:(f.deliver a b m).2=0):(f.deliver a b m).1.under+1=f.under:=by
 unfold Fab.deliver at h ⊢;split at h
 ·cases h
 rename_i v;rw [if_neg v];split at h
 ·cases h
 rename_i p g;split at h
 ·cases h
 rename_i w;split at h
 ·cases h
 rename_i y;simp only [w,y,if_false,zai];have hd:=e p (zan g);obtain⟨q,j⟩:∃q,q=(f.port p.dst).lG (qU p.aS) ((f.port p.dst).qo (qU p.aS)++[p]):=⟨_,rfl⟩
 have ha:(f.put p.dst q).all=f.all:=ac5 hd (by rw [j];cases qU p.aS <;> rfl) (by rw [j];cases qU p.aS <;> rfl);rw [<-j];rw [<-ha] at g;obtain⟨i,req,k',x,o,u,z⟩:=wG (i0:=0) g;rw [za6] at o;unfold Fab.remove;rw [o];simp only;have hi:=EJ u;have k:=SV (q:=((f.put p.dst q).port i).drop req k') hi;have A:=wH u;have C:(f.put p.dst q).under=f.under:=by unfold Fab.under;rw [ha]
 rw [A] at k ⊢;have d:=(zae.1 z).1;cases req <;> simp [Port.drop,Port.kP,Port.sort,List.length_eraseIdx] at k d ⊢ <;> rw [if_pos d] at k <;> omega
section
variable {c:Cfg}{lf:Int->Nat}{a:Abs}{i L:Int}{x:Option Ent}{d':bM}{msg':Int->Out}{val':Int->List Int}{k:Nat}
def ac6(hi:0<=i/\i<c.aB)(m:0<=L/\L<c.aY)(hm:∀j,j≠i->msg' j=a.msg j)(o:∀b,b≠L->∀y,wt d' b y=wt (a.aI i) b y)(p:33*k+Dp d' (msg' i)+wt d' L x<33*lf i+Dp (a.aI i) (a.msg i)+wt (a.aI i) L (a.ent L i)):
  pot c (dP lf i k) { a with ent:=dP a.ent L (oN (a.ent L) i x),aI:=dP a.aI i d',msg:=msg',val:=val' }<pot c lf a:=by
 refine U5 hi hi m (λj d=>⟨aW d,aW d,hm j d⟩) (λj b h=>?_) ?_
 ·show wt (dP a.aI i d' j) b (dP a.ent L (oN (a.ent L) i x) b j)=wt (a.aI j) b (a.ent b j);by_cases d:j=i
  ·subst d;have g:=h.resolve_left λh=>h rfl;rw [aK,aW g];exact o b g _
  ·rw [aW d];by_cases e:b=L
   ·rw [e,aK,fE d]
   ·rw [aW e]
 ·show 33*dP lf i k i+Dp (dP a.aI i d' i) (msg' i)+wt (dP a.aI i d' i) L (dP a.ent L (oN (a.ent L) i x) L i)<_;rw [aK,aK,aK,fZ];exact p
def aku {a':Abs}(hi:0<=i/\i<c.aB)(e:0<c.aY)(d:a'.ent=a.ent)(b:a'.aI=a.aI)(hm:∀j,j≠i->a'.msg j=a.msg j)(k:Dp (a.aI i) (a'.msg i)<Dp (a.aI i) (a.msg i)):pot c lf a'<pot c lf a:=by
 refine U5 (L:=0) hi hi ⟨za2 _,e⟩ (λj g=>⟨rfl,by rw [b],hm j g⟩) (λj m h=>by rw [d,b]) ?_;rw [d,b];omega
def ac7 {s:Int}{q p:Pkt}{e:Ent}(hi:0<=i/\i<c.aB)(hs:0<=s/\s<c.aB)(u:0<=L/\L<c.aY)(hm:a.msg s=.req p)(v:a.ent L i=some e)(h0:(a.aI s).step≠0)(g:(∃e',x=some e')/\(a.aI s).step≠3∨x=none):
  pot c lf { a with ent:=dP a.ent L (oN (a.ent L) i x),msg:=dP a.msg s (.ans q) }<pot c lf a:=by
 refine U5 hs hi u (λj k=>⟨rfl,rfl,aW k⟩) (λj b h=>?_) ?_
 ·show wt (a.aI j) b (dP a.ent L (oN (a.ent L) i x) b j)=wt (a.aI j) b (a.ent b j);by_cases e:b=L
  ·have k:=h.resolve_right λh=>h e;rw [e,aK,fE k]
  ·rw [aW e]
 ·show 33*lf s+Dp (a.aI s) (dP a.msg s (.ans q) s)+wt (a.aI i) L (dP a.ent L (oN (a.ent L) i x) L i)<_;rw [aK,aK,fZ,hm,v];unfold Dp;rw [if_neg h0,if_neg h0];have m:loc (a.aI s).step (.req p)=3:=rfl;have o:loc (a.aI s).step (.ans q)=if(a.aI s).step=3 then 4 else 1:=rfl;rcases g with⟨⟨e',rfl⟩,g⟩|rfl
  ·rw [m,o,if_neg g,aks (e:=e') (e':=e)];omega
  ·rw [m,o,acY];have:=apO (d:=a.aI i) (L:=L) (e:=e);split <;> omega
end
section
variable {m:bW}{T:Nat}{i:Nat}{n n':Node}{f:Fab}{t:List Evn}{msg msg':Int->Out}{val val':Int->List Int}
def Gp(h:m.aB[i]?=some n)(b:n'.home=n.home)(hc:∀L,n'.aH.find L=n.aH.find L):
  (m.with_ i n' f t).abs msg' val'={ m.abs msg val with aI:=dP m.lU i n'.aI,msg:=msg',val:=val' }:=by
 rw [rV (val:=val) (msg:=msg) h b (L:=0) (λL _=>hc L),hc,<-uh h,mG,jM];rfl
def MX.range(X:MX T m)(h:m.aB[i]?=some n):0<=(i:Int)/\(i:Int)<m.c.aB:=by
 have:=X.inv.len;have:=(zae.1 h).1;omega
def MX.is(X:MX T m){j:Int}(h:0<=j/\j<m.c.aB){f:Fab}(b:f.l.length=m.fab.l.length):f.is j=true:=by
 have:=X.inv.fab.len;unfold Fab.is;simp only [zah,decide_eq_true_eq];omega
def Px(h:m.aB[i]?=some n){o:Opn}(hc:n.bQ.cur=some o):m.opAt i n.bQ.bH.length=some o:=by
 unfold bW.opAt;rw [yP h];exact hc
def Gq {o:Opn}(hc:n.bQ.cur=some o)(hb:n.bQ.eG=true){v:Int}(h:n'.bQ=n.bQ.Df v):n'.Jw+1=n.Jw:=by
 have:=(zae.1 hc).1;unfold Node.Jw;rw [h];unfold Proc.Df;rw [if_pos hb];show n.bQ.ops.length-(n.bQ.bH++[v]).length+1=_;rw [zaq,List.length_singleton];omega
def pO(X:MX T m)(d:m.aB[i]?=some n){L:Int}(e:0<=L/\L<m.c.aY)(g:n'.home=n.home)(h:∀b,b≠L->n'.aH.find b=n.aH.find b)(o:∀b,b≠L->∀y,wt n'.aI b y=wt n.aI b y)(p:f.under<=m.fab.under+1)(hm:∀j:Int,j≠i->msg' j=msg j)
  (q:33*n'.Jw+Dp n'.aI (msg' i)+wt n'.aI L (n'.aH.find L)<33*n.Jw+Dp n.aI (msg i)+wt n.aI L (n.aH.find L)):(m.with_ i n' f t).todo msg'<m.todo msg:=by
 obtain⟨val,hv⟩:∃val:Int->List Int,val=λ_=>[]:=⟨_,rfl⟩
 refine U7 (val:=val) (val':=val) ?_ p;rw [D9 d,rV (msg:=msg) (val:=val) d g h];refine ac6 (c:=m.c) (lf:=m.uT) (a:=m.abs msg val) (L:=L) (x:=n'.aH.find L) (d':=n'.aI) (k:=n'.Jw) (X.range d) e hm (λb e y=>by rw [show(m.abs msg val).aI i=_ from jW d];exact o b e y) ?_;rw [Pq d,show(m.abs msg val).aI i=_ from jW d,show(m.abs msg val).ent L i=_ from uh d _];exact q
def bM.end_(d:bM):bM:={ d with step:=0 }
set_option maxHeartbeats 1000000 in
theorem GInv.answered(X:MX T m)(G:GInv m msg val)(z:m.aB[i]?=some n){g:Fab}{p:Pkt}(ht:m.fab.take i false=(g,some p)):
  ∃msg' val',GInv (m.with_ i (n.answered m.c i g m.trace p).1 (n.answered m.c i g m.trace p).2.1 (n.answered m.c i g m.trace p).2.2) msg' val'/\D8 m.c m.opAt m.trace val (n.answered m.c i g m.trace p).2.2 val'/\(m.with_ i (n.answered m.c i g m.trace p).1 (n.answered m.c i g m.trace p).2.1 (n.answered m.c i g m.trace p).2.2).todo msg'<m.todo msg:=by
 obtain⟨hs,b1,b2,b3,R1,ho,hl⟩:=G.pk.takeA ht;have hc:=X.inv.ok;have NI:=X.inv.bF i n z;have a0:=X.bF i n z;have hi:=X.range z;have hm:(m.abs msg val).msg i=.ans p:=b3;have hd:(m.abs msg val).aI i=n.aI:=jW z;have hQ:=(X.inv.fab.take i false).2 p (by rw [ht]);rcases G.abs.bF i hi.1 hi.2 with⟨_,h⟩|O
 ·rw [hm] at h;cases h
 have K:=O.aj;rw [hd] at K;have bl:=LX ht;have ae:msg i=.ans p:=hm;rcases O.at_ with⟨_,_,h|⟨h,_⟩⟩|C|F
 ·rw [hm] at h;cases h
 ·rw [hm] at h;cases h
 ·-- the aI goes on
  obtain⟨_,H⟩:=G.abs.holder O.aj C hi.1;rw [hd,hm] at H;rw [hd] at C;have bm:=H.ans;have ap:n.aI.step≠0:=V
  have DO:=NI.aI ap;have hv:=G.abs.val n.aI.aj K.1 K.2;have ag:n.aI.aS=1->n.aI.step=1∨n.aI.step=2->(m.abs msg val).ent n.aI.aj i=none:=by
   have:=O.miss;rw [hd] at this;exact this
  obtain⟨ca,d',hA,u⟩:=YU (c:=m.c) NI.aH.aY hi hv (uh z n.aI.aj) K.1 (λh3=>(DO.work h3 V).full) DO.aS ag H;have aq:d'.data.length<=4:=by
   have:=Xl (me:=i) (NI.aH.le hc) a0 (p:=p) (by
    have:=hQ.ok;simp only [Pkt.ok,zah,decide_eq_true_eq] at this;omega)
   rw [hA] at this;exact this
  have a6:0<=d'.id/\d'.id<4096:=by
   have:=O.idr;rw [hd] at this;rw [u.id];exact this
  have a7:0<=d'.aj/\d'.aj<m.c.aY:=by rw [u.aj];exact K
  have ar:(m.abs msg val).msg i≠.wait:=by rw [hm];exact λe=>by cases e
  have aw:d'.aS=((m.abs msg val).aI i).aS:=by rw [hd];exact u.aS
  have ax:d'.id=((m.abs msg val).aI i).id:=by rw [hd];exact u.id
  have ay:dP msg i .idle i=.idle:=aK;have ai:dP (dP msg i .idle) i (.req (d'.ask i (m.c.bf d'.aj)))=dP msg i (.req (d'.ask i (m.c.bf d'.aj))):=by
   funext k
   by_cases h:k=i
   ·rw [h,aK,aK]
   ·rw [aW h,aW h,aW h]
  have az:1<=g.out:=by
   have:=(nK hc).2.2.2.2.2.1;rw [ho,X.inv.fab.out];exact this.1
  have send:∀{E:uV} {r:Row} {v:List Int},Hold m.c.aB (m.c.bf n.aI.aj) E r v i d' (.req (d'.ask i (m.c.bf n.aI.aj)))->qG (g.send (d'.ask i (m.c.bf d'.aj))).1 (dP msg i (.req (d'.ask i (m.c.bf d'.aj)))):=λH'=>by
   rw [<-u.aj] at H';obtain⟨a1,a2,a3,a4,a5⟩:=akt hc hi H' a7 a6 aq;have:=R1.apM (p:=d'.ask i (m.c.bf d'.aj)) (by rw [a3,ay];exact λq e=>by cases e) (by rw [a3,ay];exact λq e=>by cases e) a1 a2 (by rw [a3];exact X.is hi hl) (X.is ⟨a4,a5⟩ hl) az;rw [a3,ai] at this;exact this.2
  rcases u.next with⟨aD,H'⟩|⟨h6,h3,e,he,a8,M⟩
  ·-- no operation ends
   have w:n.answered m.c i g m.trace p=({ n with aH:=ca,aI:=d' },(g.send (d'.ask i (m.c.bf d'.aj))).1,m.trace):=by
    unfold Node.answered;rw [hA];simp only [zbQ,if_false,if_neg u.step,if_neg aD];rfl
   rw [w];refine⟨dP msg i (.req (d'.ask i (m.c.bf d'.aj))),val,⟨?_,send H'⟩,.same,pO X z K rfl u.other (λL' A y=>by
    rw [yg (.inr (.inr (.inl (by show d'.aj≠_;rw [u.aj];exact λe=>A e.symm)))),yg (.inr (.inr (.inl λe=>A e.symm)))]) (by have:=pK g (d'.ask i (m.c.bf d'.aj));dsimp only;omega) (λj hj=>aW hj) (by
    rw [aK,ae];have:=u.fall p (d'.ask i (m.c.bf d'.aj)) aD;show 33*n.Jw+Dp d' _+wt d' _ (ca.find _)<_;omega)⟩
   show oO m.c ((m.with_ i { n with aH:=ca,aI:=d' } (g.send (d'.ask i (m.c.bf d'.aj))).1 m.trace).abs (dP msg i (.req (d'.ask i (m.c.bf d'.aj)))) val);rw [rV (n':={ n with aH:=ca,aI:=d' }) (msg:=msg) (val:=val) z rfl (L:=n.aI.aj) u.other];have:=G.abs.goes (x:=ca.find n.aI.aj) (v:=val n.aI.aj) (d:=d') hi K C ar hv u.aj aw ax (λa b=>u.miss a b) H';have a9:dP (m.abs msg val).val n.aI.aj (val n.aI.aj)=val:=jM;rw [a9,<-u.aj] at this;rw [<-u.aj];exact this
  ·-- an operation ends
   have ba:n.aI.aS≠3:=by rw [<-u.aS];exact h3
   have W:=DO.work ba V;obtain⟨o,o1,o2,o3,o4⟩:=W.op;have al:=O6 NI.aH DO ap hQ (by rw [<-tC];exact hA);have Q:=(iJ al.inv.aY).1 he;have E_:=al.inv.ent e Q.1;have D:=NI.bQ.right o (zan o1);have hw:0<=m.c.dI o.addr/\m.c.dI o.addr<m.c.bI:=⟨(aqd hc D.1).wlo,(aqd hc D.1).whi⟩
   have bp:=E_.dat.1;have bb:o.aS=1∨((o.aS=2∨o.aS=3)/\e.dn=true):=by
    rcases M with⟨k1,_⟩|⟨k2,aE,_⟩
    ·exact .inl (o3 k1)
    ·exact .inr ⟨o4 k2,aE⟩
   obtain⟨w1,w2,w3,w4,w5,w6,w7⟩:=ac4 (c:=m.c) (val:=val) bb (by rw [o2];exact a8) V;have y:=rQ e o (m.c.dI o.addr);have R:=yO al.inv.aY (e:=eU e o (m.c.dI o.addr)) (x:=e) (by rw [y.1];exact E_.lo) (by rw [y.1,Q.2];exact he);have am:({ eU e o (m.c.dI o.addr) with used:=e.used }:Ent)=eU e o (m.c.dI o.addr):=by rw [<-y.2.1]
   have ao:n.bQ.op=o:=by unfold Proc.op;rw [o1];rfl
   have aa:n.bQ.idx=n.bQ.bH.length:=by unfold Proc.idx;rw [o1]
   have w:n.answered m.c i g m.trace p=({ n with aH:=(ca.put (eU e o (m.c.dI o.addr))).1,aI:=d',bQ:=n.bQ.Df (if o.aS=2 then 0 else e.word (m.c.dI o.addr)) },(g.send (d'.ask i (m.c.bf d'.aj))).1,m.trace++[⟨i,n.bQ.bH.length,true,if o.aS=2 then 0 else e.word (m.c.dI o.addr)⟩]):=by
    unfold Node.answered;rw [hA];simp only [zbQ,if_false,if_neg u.step,if_pos (show d'.step=6/\d'.aS≠3 from⟨h6,h3⟩)];unfold Node.effect Node.done;simp only [ao,o2,he,zav,aa];rfl
   rw [w];have hx:(ca.put (eU e o (m.c.dI o.addr))).1.find n.aI.aj=some (eU e o (m.c.dI o.addr)):=by
    rw [R,if_pos (by rw [y.1,Q.2]),am]
   have bc:(oI m.c o val).1 n.aI.aj≠[]:=by
    rw [<-o2,<-w1];intro h0;have h1:=y.2.2.2;rw [h0] at h1;simp only [zao] at h1;omega
   have H':Hold m.c.aB (m.c.bf n.aI.aj) (oN ((m.abs msg val).ent n.aI.aj) i (some (eU e o (m.c.dI o.addr)))) ((m.abs msg val).row n.aI.aj) ((oI m.c o val).1 n.aI.aj) i d' (.req (d'.ask i (m.c.bf n.aI.aj))):=by
    rcases M with⟨k1,Hc⟩|⟨k2,aE,Hc⟩
    ·have be:(oI m.c o val).1 n.aI.aj=val n.aI.aj:=by
      unfold oI;rw [if_pos (o3 k1)]
     rw [w7 (o3 k1),be];exact Hc
    ·have:=Hc (eU e o (m.c.dI o.addr)) w4 w5 w6;rw [w1,o2] at this;exact this
   refine⟨dP msg i (.req (d'.ask i (m.c.bf d'.aj))),(oI m.c o val).1,⟨?_,send H'⟩,?_,pO X z K rfl (λL A=>by
     show(ca.put _).1.find L=_;rw [R,if_neg (by rw [y.1,Q.2];exact A)];exact u.other L A) (λL' A y=>by
    rw [yg (.inr (.inr (.inl (by show d'.aj≠_;rw [u.aj];exact λe=>A e.symm)))),yg (.inr (.inr (.inl λe=>A e.symm)))]) (by have:=pK g (d'.ask i (m.c.bf d'.aj));dsimp only;omega) (λj hj=>aW hj) ?_⟩
   ·have aL:=rV (m:=m) (n:=n) (n':={ n with aH:=(ca.put (eU e o (m.c.dI o.addr))).1,aI:=d',bQ:=n.bQ.Df (if o.aS=2 then 0 else e.word (m.c.dI o.addr)) }) (f:=(g.send (d'.ask i (m.c.bf d'.aj))).1) (t:=m.trace++[⟨i,n.bQ.bH.length,true,if o.aS=2 then 0 else e.word (m.c.dI o.addr)⟩]) (msg:=msg) (val:=val) (msg':=dP msg i (.req (d'.ask i (m.c.bf d'.aj)))) (val':=(oI m.c o val).1) z rfl (L:=n.aI.aj) (λL A=>by
     show(ca.put _).1.find L=_;rw [R,if_neg (by rw [y.1,Q.2];exact A)];exact u.other L A)
    rw [aL];simp only [hx];have:=G.abs.goes (x:=some (eU e o (m.c.dI o.addr))) (v:=(oI m.c o val).1 n.aI.aj) (d:=d') hi K C ar bc u.aj aw ax (λ_ b=>V) H';have bh:dP val n.aI.aj ((oI m.c o val).1 n.aI.aj)=(oI m.c o val).1:=by
     funext L
     by_cases A:L=n.aI.aj
     ·rw [A,aK]
     ·rw [aW A,w2 L (by rw [o2];exact A)]
    have bj:dP (m.abs msg val).val n.aI.aj ((oI m.c o val).1 n.aI.aj)=(oI m.c o val).1:=bh;rw [bj,<-u.aj] at this;rw [<-u.aj];exact this
   ·rw [w3];exact .done i n.bQ.bH.length o (Px z o1) .same
   ·rw [aK,ae];have ht:=Gq (n':={ n with aH:=(ca.put (eU e o (m.c.dI o.addr))).1,aI:=d',bQ:=n.bQ.Df (if o.aS=2 then 0 else e.word (m.c.dI o.addr)) }) o1 W.eG rfl;have hD:Dp d' (.req (d'.ask i (m.c.bf d'.aj)))=16:=by
     unfold Dp;rw [if_neg V,if_pos (.inr h6),h6];rfl
    have:=akr (d:=d') (L:=n.aI.aj) (x:=(ca.put (eU e o (m.c.dI o.addr))).1.find n.aI.aj)
    dsimp only at ht ⊢
    omega
 ·-- the aI is over
  obtain⟨f1,f2,f3⟩:=F;have F':asW m.c (m.abs msg val) i:=⟨f1,f2,f3⟩
  rw [hd] at f1;rw [hm,hd] at f3;have hp:p=afC m.c n.aI i:=Out.ans.inj f3;have ab:n.aI.fits p=true:=ac0 (by rw [hp,f1];rfl) (by rw [hp];rfl) (by rw [hp];rfl) V;have DO:=NI.aI V;have hA:n.after i p=(n.aH,n.aI.end_,true):=by
   unfold Node.after;by_cases k1:n.aI.aS=1
   ·rw [if_pos k1];unfold dX;rw [if_neg (by rw [k1,ab];simp),if_neg V,if_neg V,if_pos f1];rfl
   ·rw [if_neg k1];by_cases k2:n.aI.aS=2
    ·rw [if_pos k2];unfold dY;rw [if_neg (by rw [k2,ab];simp),if_neg V,if_neg V,if_pos f1];rfl
    ·have k3:n.aI.aS=3:=by have:=DO.aS;omega
     rw [if_neg k2,if_pos k3];unfold eF;rw [if_neg (by rw [k3,ab];simp),if_neg V,if_neg V,if_neg V,if_pos f1];rfl
  have aM:=G.abs.over hi F' (d:=n.aI.end_) rfl;have af:∀L' y,wt n.aI.end_ L' y=wt n.aI L' y:=λL' y=>by rw [yg (.inl rfl),yg (.inr (.inl f1))]
  have hD:Dp n.aI (.ans p)=14:=by
   unfold Dp;rw [if_neg V,if_pos (.inr f1),f1];rfl
  have hE:Dp n.aI.end_ .idle=13:=rfl;by_cases ad:n.aI.aS=3/\n.bQ.op.aS=4
  ·have aR:∃o,n.bQ.cur=some o:=by
    cases h:n.bQ.cur with
    |some o=>exact⟨o,rfl⟩
    |none=>
     have:=ad.2;unfold Proc.op at this;rw [h] at this;exact absurd this Z
   obtain⟨o,o1⟩:=aR;have ao:n.bQ.op=o:=by unfold Proc.op;rw [o1];rfl
   have aa:n.bQ.idx=n.bQ.bH.length:=by unfold Proc.idx;rw [o1]
   have w:n.answered m.c i g m.trace p=({ n with aI:=n.aI.end_,bQ:=n.bQ.Df 0 },g,m.trace++[⟨i,n.bQ.bH.length,true,0⟩]):=by
    unfold Node.answered;rw [hA];simp only [zbQ,if_false,show n.aI.end_.step=0 from rfl,if_true,show n.aI.end_.aS=n.aI.aS from rfl,if_pos ad];unfold Node.done;simp only [aa]
   rw [w];refine⟨dP msg i .idle,val,⟨?_,R1⟩,?_,pO X z K rfl (λ_ _=>rfl) (λL' _ y=>af L' y) (by dsimp only;omega) (λj hj=>aW hj) (by
    rw [aK,ae];have ht:=Gq (n':={ n with aI:=n.aI.end_,bQ:=n.bQ.Df 0 }) o1 (DO.roll ad.1) rfl
    dsimp only at ht ⊢
    rw [af,hD,hE];omega)⟩
   ·show oO m.c ((m.with_ i { n with aI:=n.aI.end_,bQ:=n.bQ.Df 0 } g _).abs (dP msg i .idle) val);rw [Gp (n':={ n with aI:=n.aI.end_,bQ:=n.bQ.Df 0 }) (msg:=msg) (val:=val) z rfl (λ_=>rfl)];exact aM
   ·have bk:oI m.c o val=(val,0):=by
     have:o.aS=4:=by rw [<-ao];exact ad.2
     unfold oI;rw [if_neg V,if_neg V,if_neg V]
    have:=D8.done (c:=m.c) (P:=m.opAt) i n.bQ.bH.length o (Px z o1) (.same (t:=m.trace) (v:=val));rw [bk] at this;exact this
  ·have w:n.answered m.c i g m.trace p=({ n with aI:=n.aI.end_ },g,m.trace):=by
    unfold Node.answered;rw [hA];simp only [zbQ,if_false,show n.aI.end_.step=0 from rfl,if_true,show n.aI.end_.aS=n.aI.aS from rfl,if_neg ad]
   rw [w];refine⟨dP msg i .idle,val,⟨?_,R1⟩,.same,pO X z K rfl (λ_ _=>rfl) (λL' _ y=>af L' y) (by dsimp only;omega) (λj hj=>aW hj) (by
    rw [aK,ae]
    dsimp only
    rw [af,hD,hE];show 33*n.Jw+_+_<_;omega)⟩
   show oO m.c ((m.with_ i { n with aI:=n.aI.end_ } g _).abs (dP msg i .idle) val);rw [Gp (n':={ n with aI:=n.aI.end_ }) (msg:=msg) (val:=val) z rfl (λ_=>rfl)];exact aM
end
def U8 {k s d id l b st:Int}{fl:Bool}{x:List Int}(h:((0<=s/\s<6)/\0<=d/\d<6)/\(0<=id/\id<4096)/\(1<=k/\k<10)/\(0<=l/\l<8)/\(-1<=b/\b<6)/\(0<=st/\st<3)/\x.length<=4):(⟨k,s,d,id,l,b,st,fl,x⟩:Pkt).ok=true:=by
 obtain⟨⟨⟨e,g⟩,i,j⟩,⟨m,o⟩,⟨p,q⟩,⟨u,ha⟩,⟨hb,hc⟩,⟨hd,v⟩,w⟩:=h;simp [Pkt.ok,e,g,i,j,m,o,p,q,u,ha,hb,hc,hd,v,w]
inductive SX (N hm:Int) (E:uV) (r:Row) (v:List Int) (s:Int) (d:bM) (p:Pkt) (e:Ent):Prop
 |attach:p.aS=3->Hold N hm (oN E p.dst (some { e with dn:=false,back:=p.ptr })) r v s d (.ans ⟨9,p.dst,p.src,p.id,p.aj,0,0,e.dn,e.data⟩)->SX N hm E r v s d p e
 |front:p.aS=4->Hold N hm (oN E p.dst (some { e with fwd:=p.ptr })) r v s d (.ans ⟨8,p.dst,p.src,p.id,p.aj,0,0,false,[]⟩)->SX N hm E r v s d p e
 |behind:p.aS=5->Hold N hm (oN E p.dst (some { e with back:=p.ptr })) r v s d (.ans ⟨8,p.dst,p.src,p.id,p.aj,0,0,false,[]⟩)->SX N hm E r v s d p e
 |JJ:p.aS=6->-1<=e.fwd/\e.fwd<N->Hold N hm (oN E p.dst none) r v s d (.ans ⟨9,p.dst,p.src,p.id,p.aj,e.fwd,0,e.dn,e.data⟩)->SX N hm E r v s d p e
def Rng.afD {N:Int}{l:List Int}(h:Rng N l)(d:0<N):-1<=hdI l (-1)/\hdI l (-1)<N:=by
 by_cases b:l=[]
 ·rw [b];exact⟨za2 _,by show(-1:Int)<N;omega⟩
 ·have:=h.2 _ (h.hd b).1;omega
def apQ {N hm:Int}{E:uV}{r:Row}{v:List Int}{s:Int}{d:bM}{p:Pkt}(hN:0<N)(H:Hold N hm E r v s d (.req p))(hk:3<=p.aS/\p.aS<=6):∃e,E p.dst=some e/\SX N hm E r v s d p e:=by
 obtain⟨hp,_,_⟩:=H.req;have hq:∃q,Out.req p=q/\Hold N hm E r v s d q:=⟨_,rfl,H⟩
 obtain⟨q,hq,H⟩:=hq;cases H with
 |attach k1 k2 k3 k4 W=>
  have e:p=⟨3,s,d.head,d.id,d.aj,s,0,false,[]⟩:=by rw [hp];unfold bM.ask;simp [k1]
  obtain⟨x,h1,h2⟩:=SH (hm:=hm) k1 k2 k3 k4 W;exact⟨x,by rw [e];exact h1,.attach (by rw [e]) (by rw [e];exact h2)⟩
 |JJ k1 k2 L k3 k4=>
  have e:p=⟨6,s,d.next,d.id,d.aj,0,0,false,[]⟩:=by rw [hp];unfold bM.ask;simp [k1]
  obtain⟨x,h1,h2⟩:=U3 (hm:=hm) (r:=r) k1 k2 L k3 k4;have hx:-1<=x.fwd/\x.fwd<N:=by
   obtain⟨⟨y,hy,hf⟩,_⟩:=L.ch;rw [h1] at hy;cases hy;rw [hf];exact Rng.afD ⟨(za1.1 L.rng.1).2,λj hj=>L.rng.2 j (by simp [hj])⟩ hN
  exact⟨x,by rw [e];exact h1,.JJ (by rw [e]) hx (by rw [e];exact h2)⟩
 |front k1 k2 M k3 C k4 k5 k6=>
  have e:p=⟨4,s,d.head,d.id,d.aj,d.next,0,false,[]⟩:=by rw [hp];unfold bM.ask;simp [k1]
  obtain⟨x,h1,h2⟩:=U4 (hm:=hm) k1 k2 M k3 C k4 k5 k6;exact⟨x,by rw [e];exact h1,.front (by rw [e]) (by rw [e];exact h2)⟩
 |behind k1 k2 M k3 C C' k4 k5 k6=>
  have e:p=⟨5,s,d.next,d.id,d.aj,d.head,0,false,[]⟩:=by rw [hp];unfold bM.ask;simp [k1]
  obtain⟨x,h1,h2⟩:=SI (hm:=hm) k1 k2 M k3 C C' k4 k5 k6;exact⟨x,by rw [e];exact h1,.behind (by rw [e]) (by rw [e];exact h2)⟩
 |unlock k1 W=>
  have e:p.aS=2:=by rw [hp];unfold bM.ask;simp [k1]
  omega
 |granted _ _=>cases hq
 |attached _ _ _ _ _ _ _ _ _ _=>cases hq
 |Jp _ _ _ _ _=>cases hq
 |Ae _ _ _ _ _ _ _ _ _=>cases hq
 |wE _ _ _ _ _ _ _ _ _=>cases hq
section
variable {m:bW}{T:Nat}{i:Nat}{n n':Node}{f:Fab}{t:List Evn}{msg msg':Int->Out}{val val':Int->List Int}
def as3 {α:Type}{g:Int->α}{j:Int}{x y:α}:dP (dP g j x) j y=dP g j y:=by
 funext k
 by_cases h:k=j
 ·rw [h,aK,aK]
 ·rw [aW h,aW h,aW h]
def ac8(X:MX T m)(b:m.aB[i]?=some n)(L:Int):(jq n.home.dJ L).data.length<=4:=by
 have d:=X.inv.bF i n b;have:=(nK X.inv.ok).2.2.1;unfold jq;cases h:jC n.home.dJ L with
 |none=>exact zaY _
 |some r=>
  have:=(d.dJ _ (mQ h)).1;simp only [zav] at*;omega
def Py {d:bM}(h0:d.step≠0)(b:d.step≠3)(p q:Pkt):Dp d (.ans q)<Dp d .wait/\Dp d .wait<Dp d (.req p):=by
 unfold Dp loc;simp only [if_neg h0,if_neg b];omega
def Cm(X:MX T m)(b:m.aB[i]?=some n)(d:n'.aH=n.aH)(e:n'.aI=n.aI)(g:n'.bQ=n.bQ){s:Int}(hs:0<=s/\s<m.c.aB)(hm:∀j,j≠s->msg' j=msg j)(hd:Dp (m.lU s) (msg' s)<Dp (m.lU s) (msg s))(h:f.under<=m.fab.under+1):(m.with_ i n' f t).todo msg'<m.todo msg:=by
 obtain⟨val,hv⟩:∃val:Int->List Int,val=λ_=>[]:=⟨_,rfl⟩
 refine U7 (val:=val) (val':=val) ?_ h;have k:n'.Jw=m.uT i:=by rw [Pq b];unfold Node.Jw;rw [g]
 rw [D9 b,k,jM];refine aku (i:=s) hs (by have:=(nK X.inv.ok).2.1;omega) ?_ ?_ hm hd
 ·show(m.with_ i n' f t).Gm=m.Gm
  funext L
  rw [Jv b,d,<-uh b L,mG]
 ·show(m.with_ i n' f t).lU=m.lU;rw [DZ b,e,<-jW b,jM]
def YV(X:MX T m)(b:m.aB[i]?=some n){L s:Int}{x:Option Ent}{e:Ent}{p q:Pkt}{ca:Cache}(hs:0<=s/\s<m.c.aB)(j:0<=L/\L<m.c.aY)(k:∀d,d≠L->ca.find d=n.aH.find d)(o:ca.find L=x)(hm:msg s=.req p)(u:n.aH.find L=some e)(h0:(m.lU s).step≠0)(v:(∃e',x=some e')/\(m.lU s).step≠3∨x=none)(w:f.under<=m.fab.under+1):(m.with_ i { n with aH:=ca } f t).todo (dP msg s (.ans q))<m.todo msg:=by
 obtain⟨val,hv⟩:∃val:Int->List Int,val=λ_=>[]:=⟨_,rfl⟩
 refine U7 (val:=val) (val':=val) ?_ w;have g:dP m.lU i n.aI=m.lU:=by rw [<-jW b,jM]
 have h:dP m.uT i n.Jw=m.uT:=by rw [<-Pq b,jM]
 rw [D9 b,show Node.Jw { n with aH:=ca }=n.Jw from rfl,h,rV (n':={ n with aH:=ca }) (msg:=msg) (val:=val) b rfl k];simp only [o,g];exact ac7 (a:=m.abs msg val) (X.range b) hs j hm ((uh b L).trans u) h0 v
def GInv.grant(X:MX T m)(G:GInv m msg val)(k:m.aB[i]?=some n)(hr:n.home.ready≠[])(u:0<m.fab.roomOf i false):
  ∃msg',GInv (m.with_ i { n with home:=(n.home.grant i).1 } (m.fab.send (n.home.grant i).2.1).1 t) msg' val/\(m.with_ i { n with home:=(n.home.grant i).1 } (m.fab.send (n.home.grant i).2.1).1 t).todo msg'<m.todo msg:=by
 have hc:=X.inv.ok;have C:=X.inv.bF i n k;have hi:=X.range k;cases v:n.home.ready with
 |nil=>exact absurd v hr
 |cons L l=>
  obtain⟨r1,r2,r3⟩:=uI v;obtain⟨e,he,rfl⟩:=zaI.1 r3;have D:=C.home.here e he;unfold lq at D;simp only [zah,decide_eq_true_eq] at D;obtain⟨⟨l0,l1⟩,l2⟩:=D;have A:m.c.bf e.1=i:=by unfold Cfg.bf xH;rw [if_neg V];exact l2
  have o:n.home.aT.owner e.1=-1:=Classical.byContradiction λh=>by
   have:=(C.home.aT.owned e.1).2 h;rw [r1] at this;cases this
  cases y:n.home.aT.ws e.1 with
  |nil=>exact absurd y r2
  |cons w ws=>
   obtain⟨E,t2,t3⟩:=YT C.home.aT o y;have ho:(m.abs msg val).own e.1=-1:=by show(m.lT e.1).aT.owner e.1=-1;rw [lJ k A];exact o
   have hw:(m.abs msg val).ws e.1=w::ws:=by show(m.lT e.1).aT.ws e.1=_;rw [lJ k A];exact y
   have b:(m.abs msg val).row e.1=jq n.home.dJ e.1:=by show jq (m.lT e.1).dJ e.1=_;rw [lJ k A]
   obtain⟨d,g,I'⟩:=G.abs.grant ⟨l0,l1⟩ ho hw;have F:n.home.grant i=({ n.home with aT:=(n.home.aT.next e.1).1 },granted n.home.dJ i e.1 w.1 w.2,true):=by
    unfold Home.grant;rw [v];simp only;cases hx:n.home.aT.next e.1 with
    |mk tt ww=>
     rw [hx] at E;simp only at E;rw [E]
   rw [F];have hO:akp m.c (m.abs msg val) w.1:=by
    rcases G.abs.bF w.1 d.1 d.2 with⟨_,h⟩|O
    ·rw [g] at h;cases h
    ·exact O
   have H:((m.abs msg val).aI w.1).id=w.2:=((G.abs.ws e.1).2 w (by rw [hw];simp)).2.2.2.2.1;obtain⟨lw,W⟩:∃lw,Wf m.c.aB ((m.abs msg val).ent e.1) ((m.abs msg val).row e.1) ((m.abs msg val).val e.1) lw:=by
    rcases G.abs.aj e.1 l0 l1 with⟨_,h⟩|⟨h,_⟩
    ·exact h
    ·omega
   obtain⟨cn,cl,_⟩:=nK hc;have ad:=W.rng.afD V;have K:=W.st;have z:=W.head;rw [b] at K z;have M:=hO.idr;rw [H] at M;have aa:=ac8 X k e.1;have Q:(granted n.home.dJ i e.1 w.1 w.2).ok=true:=by
    exact U8 V
   have R:=G.pk.YR (p:=granted n.home.dJ i e.1 w.1 w.2) (λq h=>by rw [show(granted n.home.dJ i e.1 w.1 w.2).dst=w.1 from rfl] at h;exact absurd (g.symm.trans h) (λe=>by cases e)) (λq h=>by rw [show(granted n.home.dJ i e.1 w.1 w.2).dst=w.1 from rfl] at h;exact absurd (g.symm.trans h) (λe=>by cases e)) Q rfl (X.is hi rfl) (X.is d rfl) u;have ab:((m.abs msg val).aI w.1).step=1:=((G.abs.ws e.1).2 w (by rw [hw];simp)).2.2.2.2.2;refine⟨_,⟨?_,R.2⟩,Cm X k rfl rfl rfl d (λj hj=>aW hj) (by
    rw [show(granted n.home.dJ i e.1 w.1 w.2).dst=w.1 from rfl,aK,show msg w.1=.wait from g];exact(Py (by show((m.abs msg val).aI w.1).step≠0;omega) (by show((m.abs msg val).aI w.1).step≠3;omega) .zero _).1) (pK _ _)⟩
   show oO m.c ((m.with_ i { n with home:={ n.home with aT:=(n.home.aT.next e.1).1 } } (m.fab.send (granted n.home.dJ i e.1 w.1 w.2)).1 t).abs _ val);rw [Gn (n':={ n with home:={ n.home with aT:=(n.home.aT.next e.1).1 } }) (msg:=msg) k (λ_=>rfl) rfl A (λ_ _=>rfl) (λL' h=>by show(n.home.aT.next e.1).1.owner L'=_;rw [t2,if_neg h]) (λL' h=>by show(n.home.aT.next e.1).1.ws L'=_;rw [t3,if_neg h])];have a1:dP (m.abs msg val).row e.1 (jq n.home.dJ e.1)=(m.abs msg val).row:=by rw [<-b,jM]
   simp only [a1,t2,t3,if_true];have a2:granted n.home.dJ i e.1 w.1 w.2=⟨7,m.c.bf e.1,w.1,w.2,e.1,((m.abs msg val).row e.1).head,((m.abs msg val).row e.1).aV,false,((m.abs msg val).row e.1).data⟩:=by
    rw [b,A];rfl
   rw [a2];exact I'
set_option maxHeartbeats 1000000 in
theorem GInv.asked(X:MX T m)(G:GInv m msg val)(F:m.aB[i]?=some n){z:Fab}{p:Pkt}(ht:m.fab.take i true=(z,some p))(ai:0<m.fab.roomOf i false):
  ∃msg',GInv (m.with_ i (n.asked m.c i z p).1 (n.asked m.c i z p).2 t) msg' val/\(m.with_ i (n.asked m.c i z p).1 (n.asked m.c i z p).2 t).todo msg'<m.todo msg:=by
 obtain⟨hs,b1,b2,b3,R1,ho,hl,ba⟩:=G.pk.asX ht;have hc:=X.inv.ok;obtain⟨cn,cl,_⟩:=nK hc;have R:=X.inv.bF i n F;have hi:=X.range F;have g:0<=p.src/\p.src<m.c.aB:=by
  have:=G.pk.rg _ p (.inl b3);have bu:=X.inv.fab.len;unfold Fab.is at this;simp only [zah,decide_eq_true_eq] at this;omega
 have aa:(m.abs msg val).msg p.src=.req p:=b3;have hQ:=(X.inv.fab.take i true).2 p (by rw [ht]);obtain⟨O,p1,p2,p3,p4⟩:=G.abs.req g aa;have al:=hQ.ok;have bb:=al;simp only [Pkt.ok,zah,decide_eq_true_eq] at bb;have OL:=O.aj;rw [p2] at OL;have C:p.aS=AU ((m.abs msg val).aI p.src).step:=(congrArg Pkt.aS p1).trans (lI p3).1;have ae:0<z.roomOf i false:=by rw [ba];exact ai
 have ay:dP msg p.src .idle p.src=.idle:=aK;have YR:∀q:Pkt,q.ok=true->qU q.aS=false->q.src=i->q.dst=p.src->qG (z.send q).1 (dP msg p.src (.ans q)):=λq h1 h2 h3 h4=>by
  have:=R1.YR (p:=q) (by rw [h4,ay];exact λx e=>by cases e) (by rw [h4,ay];exact λx e=>by cases e) h1 h2 (by rw [h3];exact X.is hi hl) (by rw [h4];exact X.is g hl) (by rw [h3];exact ae);rw [h4,as3] at this;exact this.2
 -- the atE requests
 have am:p.aS=1∨p.aS=2->m.c.bf p.aj=i:=λh=>by
  have bc:((m.abs msg val).aI p.src).step=1∨((m.abs msg val).aI p.src).step=6:=by
   have:((m.abs msg val).aI p.src).step=1∨((m.abs msg val).aI p.src).step=2∨((m.abs msg val).aI p.src).step=3∨((m.abs msg val).aI p.src).step=4∨((m.abs msg val).aI p.src).step=5∨((m.abs msg val).aI p.src).step=6:=V
   rw [C] at h;rcases this with e|e|e|e|e|e <;> simp [e,AU] at h ⊢
  have az:p.dst=m.c.bf p.aj:=by
   have h1:=congrArg Pkt.dst p1;unfold bM.ask at h1;rcases bc with e|e
   ·simpa [e] using h1
   ·simpa [e] using h1
  rw [<-az];exact b1
 have bv:=LX ht;have A:p.aS≠6->((m.abs msg val).aI p.src).step≠3:=λh e=>h (by rw [C,e];rfl);by_cases hk:p.aS=1∨p.aS=2
 ·have D:=am hk;have A:=A V;have aD:∀L,m.c.bf L=i->(m.abs msg val).own L=n.home.aT.owner L/\(m.abs msg val).ws L=n.home.aT.ws L/\(m.abs msg val).row L=jq n.home.dJ L:=λL h=>by
   refine⟨?_,?_,?_⟩
   ·show(m.lT L).aT.owner L=_;rw [lJ F h]
   ·show(m.lT L).aT.ws L=_;rw [lJ F h]
   ·show jq (m.lT L).dJ L=_;rw [lJ F h]
  obtain⟨ao,aw,ar⟩:=aD p.aj D;have aE:dP (m.abs msg val).row p.aj (jq n.home.dJ p.aj)=(m.abs msg val).row:=by rw [<-ar,jM]
  have be:dP (m.abs msg val).own p.aj (n.home.aT.owner p.aj)=(m.abs msg val).own:=by rw [<-ao,jM]
  have aL:dP (m.abs msg val).ws p.aj (n.home.aT.ws p.aj)=(m.abs msg val).ws:=by rw [<-aw,jM]
  have M:¬((!(p.ok && decide (p.dst=(i:Int)) && decide (p.src<m.c.aB)) || (decide (p.aS≠1) && decide (p.aS≠2)))=true):=by
   rcases hk with h|h <;> simp [al,b1,g.2,h]
  rcases hk with ab|aM
  ·by_cases v:n.home.aT.owner p.aj=-1/\n.home.aT.ws p.aj=[]
   ·obtain⟨t1,t2,t3⟩:=JQ (id:=p.id) R.home.aT g.1 v.1 v.2;have hh:n.home.handle m.c i p=({ n.home with aT:=(n.home.aT.ask p.aj p.src p.id).1 },granted n.home.dJ i p.aj p.src p.id,true,0):=by
     unfold Home.handle;rw [if_neg M,if_neg (by rw [D];omega),if_pos ab];simp only [t1,if_true]
    have w:n.asked m.c i z p=({ n with home:={ n.home with aT:=(n.home.aT.ask p.aj p.src p.id).1 } },(z.send (granted n.home.dJ i p.aj p.src p.id)).1):=by
     unfold Node.asked;rw [if_pos (.inl ab),hh];simp
    rw [w];have I':=G.abs.lock g aa ab (by rw [ao];exact v.1);obtain⟨lw,W⟩:∃lw,Wf m.c.aB ((m.abs msg val).ent p.aj) ((m.abs msg val).row p.aj) ((m.abs msg val).val p.aj) lw:=by
     rcases G.abs.aj p.aj OL.1 OL.2 with⟨_,h⟩|⟨h,_⟩
     ·exact h
     ·have:=v.1;omega
    have aR:=W.rng.afD V;have a0:=W.st;have ap:=W.head;rw [ar] at a0 ap;have a1:=ac8 X F p.aj;have aq:(granted n.home.dJ i p.aj p.src p.id).ok=true:=by
     exact U8 V
    refine⟨_,⟨?_,YR _ aq rfl rfl rfl⟩,Cm X F rfl rfl rfl g (λj hj=>aW hj) (by
    rw [aK,show msg p.src=.req p from b3];have:=Py O.step A p;exact Nat.lt_trans (this _).1 (this .zero).2) (by dsimp only;exact zaz (pK _ _) V)⟩
    show oO m.c ((m.with_ i { n with home:={ n.home with aT:=(n.home.aT.ask p.aj p.src p.id).1 } } _ t).abs _ val);rw [Gn (n':={ n with home:={ n.home with aT:=(n.home.aT.ask p.aj p.src p.id).1 } }) (msg:=msg) F (λ_=>rfl) rfl D (λ_ _=>rfl) (λL' h=>by show(n.home.aT.ask p.aj p.src p.id).1.owner L'=_;rw [t2,if_neg h]) (λL' h=>by show(n.home.aT.ask p.aj p.src p.id).1.ws L'=_;rw [t3])];simp only [aE,t2,t3,if_true,aL];have a2:granted n.home.dJ i p.aj p.src p.id=⟨7,m.c.bf p.aj,p.src,p.id,p.aj,((m.abs msg val).row p.aj).head,((m.abs msg val).row p.aj).aV,false,((m.abs msg val).row p.aj).data⟩:=by
     rw [ar,D];rfl
    rw [a2];exact I'
   ·have bh:n.home.aT.owner p.aj≠-1∨n.home.aT.ws p.aj≠[]:=by
     by_cases h:n.home.aT.owner p.aj=-1
     ·exact .inr λh'=>v ⟨h,h'⟩
     ·exact .inl h
    obtain⟨t1,t2,t3⟩:=JR (id:=p.id) R.home.aT g.1 bh;have hh:n.home.handle m.c i p=({ n.home with aT:=(n.home.aT.ask p.aj p.src p.id).1 },.zero,false,0):=by
     unfold Home.handle;rw [if_neg M,if_neg (by rw [D];omega),if_pos ab];simp only [t1,zai,if_false]
    have w:n.asked m.c i z p=({ n with home:={ n.home with aT:=(n.home.aT.ask p.aj p.src p.id).1 } },z):=by
     unfold Node.asked;rw [if_pos (.inl ab),hh];simp
    rw [w];have I':=G.abs.wait g aa ab;have R2:qG z (dP msg p.src .wait):=by
     have mi:∀j q,(dP msg p.src .wait j=.req q↔dP msg p.src .idle j=.req q)/\(dP msg p.src .wait j=.ans q↔dP msg p.src .idle j=.ans q):=λj q=>by
      by_cases h:j=p.src
      ·rw [h,aK,aK];exact⟨⟨λe=>(by cases e),λe=>(by cases e)⟩,⟨λe=>(by cases e),λe=>(by cases e)⟩⟩
      ·rw [aW h,aW h];exact⟨Iff.rfl,Iff.rfl⟩
     refine⟨λk q hq=>?_,R1.rn,R1.an,λj q h=>R1.rc j q ((mi j q).1.1 h),λj q h=>R1.ac j q ((mi j q).2.1 h),λj q h=>R1.src j q ((mi j q).1.1 h),λj q h=>R1.dst j q ((mi j q).2.1 h),λj q h=>R1.rg j q (h.imp (mi j q).1.1 (mi j q).2.1)⟩;have P:=R1.port k q hq;exact⟨λx Q=>⟨(P.rq x Q).1,(P.rq x Q).2.1,(mi _ _).1.2 (P.rq x Q).2.2⟩,λx Q=>⟨(P.rin x Q).1,(P.rin x Q).2.1,(mi _ _).1.2 (P.rin x Q).2.2⟩,λx Q=>⟨(P.an x Q).1,(P.an x Q).2.1,(mi _ _).2.2 (P.an x Q).2.2⟩,λx Q=>⟨(P.ain x Q).1,(P.ain x Q).2.1,(mi _ _).2.2 (P.ain x Q).2.2⟩⟩
    refine⟨_,⟨?_,R2⟩,Cm X F rfl rfl rfl g (λj hj=>aW hj) (by
     rw [aK,show msg p.src=.req p from b3];exact(Py O.step A p .zero).2) (by dsimp only;omega)⟩
    show oO m.c ((m.with_ i { n with home:={ n.home with aT:=(n.home.aT.ask p.aj p.src p.id).1 } } _ t).abs _ val);rw [Gn (n':={ n with home:={ n.home with aT:=(n.home.aT.ask p.aj p.src p.id).1 } }) (msg:=msg) F (λ_=>rfl) rfl D (λ_ _=>rfl) (λL' h=>by show(n.home.aT.ask p.aj p.src p.id).1.owner L'=_;rw [t2]) (λL' h=>by show(n.home.aT.ask p.aj p.src p.id).1.ws L'=_;rw [t3,if_neg h])];simp only [aE,t2,t3,if_true,be];rw [<-aw];exact I'
  ·-- a aj is unlocked
   obtain⟨u1,u2,⟨lw,W⟩,u4,u5,I'⟩:=G.abs.unlock g aa aM;rw [ao] at u1;obtain⟨d,a3⟩:∃d,m.aB[p.src.toNat]?=some d:=⟨_,zab (by have:=X.inv.len;omega)⟩
   have bj:((p.src.toNat:Nat):Int)=p.src:=V
   have y:(m.abs msg val).aI p.src=d.aI:=by
    have:=jW a3;rw [bj] at this;exact this
   have DS:=(X.inv.bF _ d a3).aI (by rw [<-y,u5];decide);have bk:d.aI.data=[]∨(d.aI.data.length:Int)=m.c.bI:=DS.dat.imp id λh=>h.1;have q1:p.aV=d.aI.aV:=by rw [u4,y];unfold bM.ask;rw [y] at u5;simp [u5]
   have q2:p.ptr=d.aI.head:=by rw [u4,y];unfold bM.ask;rw [y] at u5;simp [u5]
   have q3:p.flag=decide (d.aI.data≠[]):=by rw [u4,y];unfold bM.ask;rw [y] at u5;simp [u5]
   have q4:p.data=d.aI.data:=by rw [u4,y];unfold bM.ask;rw [y] at u5;simp [u5]
   have q5:(if p.flag then p.data else [])=d.aI.data:=by
    rw [q3,q4];by_cases h:d.aI.data=[]
    ·simp [h]
    ·simp [h]
   rw [y] at W I';have bl:lq m.c i p.aj=true:=by
    unfold lq;simp only [zah,decide_eq_true_eq];refine⟨⟨OL.1,OL.2⟩,?_⟩;have:=D;unfold Cfg.bf xH at this;rw [if_neg V] at this;exact this
   obtain⟨K,a4⟩:=X.dJ i n F p.aj bl;have bm:jq n.home.dJ p.aj=K:=by unfold jq;rw [a4];rfl
   have a0:d.aI.aV=0∨d.aI.aV=1∨d.aI.aV=2:=W.st;have aR:d.aI.head=hdI lw (-1):=W.head;have bw:=W.rng.afD V;have h0:d.aI.aV=0↔d.aI.head=-1:=by
    rw [aR,W.rng.acW];exact W.st0
   have a5:iL m.c n.home.dJ p.aj p.aV p.ptr (if p.flag then p.data else [])=(mM n.home.dJ p.aj (jc K d.aI),0):=by
    unfold iL;rw [a4,q1,q2,q5];simp only;rw [if_neg V,if_neg]
    ·rfl
    ·have e1:decide (d.aI.head=-1)=decide (d.aI.aV=0):=by
      by_cases h:d.aI.aV=0
      ·simp [h,h0.1 h]
      ·have:¬d.aI.head=-1:=λe=>h (h0.2 e);simp [h,this]
     rw [e1];rcases bk with h|h
     ·simp [h]
     ·simp [h]
   obtain⟨t1,t2,t3⟩:=Po R.home.aT g.1 u1;have bp:n.home.unlock m.c p=(⟨mM n.home.dJ p.aj (jc K d.aI),(n.home.aT.release p.aj p.src).1⟩,0):=by
    unfold Home.unlock;rw [if_neg (by rw [u1];simp)];simp only [a5,if_true,t1]
   have hh:n.home.handle m.c i p=(⟨mM n.home.dJ p.aj (jc K d.aI),(n.home.aT.release p.aj p.src).1⟩,⟨8,i,p.src,p.id,p.aj,0,0,false,[]⟩,true,0):=by
    unfold Home.handle;rw [if_neg M,if_neg (by rw [D];omega),if_neg V];simp only [bp,if_true]
   have w:n.asked m.c i z p=({ n with home:=⟨mM n.home.dJ p.aj (jc K d.aI),(n.home.aT.release p.aj p.src).1⟩ },(z.send ⟨8,i,p.src,p.id,p.aj,0,0,false,[]⟩).1):=by
    unfold Node.asked;rw [if_pos (.inr aM),hh];simp
   rw [w];have aq:(⟨8,i,p.src,p.id,p.aj,0,0,false,[]⟩:Pkt).ok=true:=by
    exact U8 (by simp only [zao];omega)
   refine⟨_,⟨?_,YR _ aq rfl rfl rfl⟩,Cm X F rfl rfl rfl g (λj hj=>aW hj) (by
    rw [aK,show msg p.src=.req p from b3];have:=Py O.step A p;exact Nat.lt_trans (this _).1 (this .zero).2) (by dsimp only;exact zaz (pK _ _) V)⟩
   show oO m.c ((m.with_ i { n with home:=⟨mM n.home.dJ p.aj (jc K d.aI),(n.home.aT.release p.aj p.src).1⟩ } _ t).abs _ val);rw [Gn (n':={ n with home:=⟨mM n.home.dJ p.aj (jc K d.aI),(n.home.aT.release p.aj p.src).1⟩ }) (msg:=msg) F (λ_=>rfl) rfl D (λL' h=>by show jq (mM _ _ _) L'=_;rw [LW,if_neg h]) (λL' h=>by show(n.home.aT.release p.aj p.src).1.owner L'=_;rw [t2,if_neg h]) (λL' h=>by show(n.home.aT.release p.aj p.src).1.ws L'=_;rw [t3])];have ax:jq (mM n.home.dJ p.aj (jc K d.aI)) p.aj=jc ((m.abs msg val).row p.aj) d.aI:=by rw [LW,if_pos rfl,ar,bm]
   simp only [ax,t2,t3,if_true,aL];rw [D] at I';exact I'
 ·-- a cache's requests
  have bq:3<=p.aS/\p.aS<=6:=by
   unfold qU at b2;simp only [zah,decide_eq_true_eq] at b2;omega
  obtain⟨a6,H⟩:(m.abs msg val).own p.aj=p.src/\Hold m.c.aB (m.c.bf p.aj) ((m.abs msg val).ent p.aj) ((m.abs msg val).row p.aj) ((m.abs msg val).val p.aj) p.src ((m.abs msg val).aI p.src) (.req p):=by
   rcases p4 with⟨h,_⟩|⟨_,h,h'⟩
   ·exfalso;rw [h] at C;have:p.aS=1:=C;omega
   ·exact⟨h,h'⟩
  obtain⟨e,he,Sv⟩:=apQ V H bq;rw [b1] at he;have b:n.aH.find p.aj=some e:=by rw [<-uh F];exact he
  have u:=SL b;have a7:=(iJ R.aH.aY).1 b;have EO:=R.aH.ent e a7.1;have a1:e.data.length<=4:=R.aH.le hc e a7.1;have af:¬((!p.ok || decide (p.aS<3) || decide (6<p.aS))=true):=by simp [al];omega
  have br:(m.abs msg val).msg p.src≠.wait:=by rw [aa];exact λe=>by cases e
  -- what is common
  have ag:∀(ca:Cache) (x:Option Ent) (q:Pkt),(∀L,L≠p.aj->ca.find L=n.aH.find L)->ca.find p.aj=x->fQ n.aH p=(ca,q,0)->q.ok=true->qU q.aS=false->q.src=i->q.dst=p.src->Hold m.c.aB (m.c.bf p.aj) (oN ((m.abs msg val).ent p.aj) p.dst x) ((m.abs msg val).row p.aj) ((m.abs msg val).val p.aj) p.src ((m.abs msg val).aI p.src) (.ans q)->((∃e',x=some e')/\p.aS≠6∨x=none)->
    ∃msg',GInv (m.with_ i (n.asked m.c i z p).1 (n.asked m.c i z p).2 t) msg' val/\(m.with_ i (n.asked m.c i z p).1 (n.asked m.c i z p).2 t).todo msg'<m.todo msg:=λca x q h1 h2 h3 h4 h5 h6 h7 H' h8=>by
   have w:n.asked m.c i z p=({ n with aH:=ca },(z.send q).1):=by
    unfold Node.asked;rw [if_neg hk,h3];simp
   rw [w];rw [b1] at H';have I':=G.abs.served g OL a6 (E:=oN ((m.abs msg val).ent p.aj) i x) (q:=q) (λj hj=>by
    by_cases a8:j=i
    ·rw [a8,he] at hj;cases hj
    ·rw [fE a8];exact hj) H' br
   refine⟨_,⟨?_,YR q h4 h5 h6 h7⟩,YV X F g OL h1 h2 aa b O.step (h8.imp (λh=>⟨h.1,A h.2⟩) id) (by dsimp only;exact zaz (pK _ _) V)⟩;show oO m.c ((m.with_ i { n with aH:=ca } _ t).abs _ val);rw [rV (n':={ n with aH:=ca }) (msg:=msg) (val:=val) F rfl h1];simp only [h2];have bt:dP m.lU i n.aI=m.lU:=by rw [<-jW F,jM]
   simp only [bt];exact I'
  cases Sv with
  |attach k H'=>
   have o:=yO (e:={ e with dn:=false,back:=p.ptr }) (x:=e) R.aH.aY EO.lo (by rw [show({ e with dn:=false,back:=p.ptr }:Ent).aj=e.aj from rfl,u];exact b);have ad:=lY (e:={ e with dn:=false,back:=p.ptr }) (x:=e) R.aH.aY EO.lo (by rw [show({ e with dn:=false,back:=p.ptr }:Ent).aj=e.aj from rfl,u];exact b);refine ag (n.aH.put { e with dn:=false,back:=p.ptr }).1 (some { e with dn:=false,back:=p.ptr }) _ (λL D=>by rw [o,if_neg λh=>D (h.trans u)]) (by rw [o,if_pos u.symm]) ?_ ?_ rfl b1 rfl H' (.inl ⟨⟨_,rfl⟩,V⟩)
   ·unfold fQ;rw [if_neg af,b];simp only [k,if_true];rw [ad];simp [CZ]
   ·exact U8 V
  |front k H'=>
   have o:=yO (e:={ e with fwd:=p.ptr }) (x:=e) R.aH.aY EO.lo (by rw [show({ e with fwd:=p.ptr }:Ent).aj=e.aj from rfl,u];exact b);have ad:=lY (e:={ e with fwd:=p.ptr }) (x:=e) R.aH.aY EO.lo (by rw [show({ e with fwd:=p.ptr }:Ent).aj=e.aj from rfl,u];exact b);refine ag (n.aH.put { e with fwd:=p.ptr }).1 (some { e with fwd:=p.ptr }) _ (λL D=>by rw [o,if_neg λh=>D (h.trans u)]) (by rw [o,if_pos u.symm]) ?_ ?_ rfl b1 rfl H' (.inl ⟨⟨_,rfl⟩,V⟩)
   ·unfold fQ;rw [if_neg af,b];simp only [k];rw [if_neg Z,if_pos trivial,ad];simp [CZ]
   ·exact U8 (by simp only [zao];omega)
  |behind k H'=>
   have o:=yO (e:={ e with back:=p.ptr }) (x:=e) R.aH.aY EO.lo (by rw [show({ e with back:=p.ptr }:Ent).aj=e.aj from rfl,u];exact b);have ad:=lY (e:={ e with back:=p.ptr }) (x:=e) R.aH.aY EO.lo (by rw [show({ e with back:=p.ptr }:Ent).aj=e.aj from rfl,u];exact b);refine ag (n.aH.put { e with back:=p.ptr }).1 (some { e with back:=p.ptr }) _ (λL D=>by rw [o,if_neg λh=>D (h.trans u)]) (by rw [o,if_pos u.symm]) ?_ ?_ rfl b1 rfl H' (.inl ⟨⟨_,rfl⟩,V⟩)
   ·unfold fQ;rw [if_neg af,b];simp only [k];rw [if_neg Z,if_neg Z,if_pos trivial,ad];simp [CZ]
   ·exact U8 (by simp only [zao];omega)
  |JJ k bx H'=>
   have a9:=Ci (aj:=p.aj) R.aH.aY;refine ag (n.aH.drop p.aj) none _ (λL D=>by rw [a9,if_neg D]) (by rw [a9,if_pos rfl]) ?_ ?_ rfl b1 rfl H' (.inr rfl)
   ·unfold fQ;rw [if_neg af,b];simp only [k];rw [if_neg Z,if_neg Z,if_neg Z];simp [CZ]
   ·exact U8 V
end
def Hold.data {N hm:Int}{E:uV}{r:Row}{v:List Int}{i:Int}{d:bM}{o:Out}(H:Hold N hm E r v i d o){j:Int}{e:Ent}(b:E j=some e):e.data=v:=by
 cases H with
 |granted _ W=>exact W.data j e b
 |attach _ _ _ _ W=>exact W.data j e b
 |attached _ _ _ _ _ _ _ _ X _=>exact X j e b
 |JJ _ _ L _ _=>exact L.data j e b
 |Jp _ _ L _ _=>exact L.data j e b
 |front _ _ M _ _ _ _ _=>exact M.data j e b
 |Ae _ _ M _ _ _ _ _ _=>exact M.data j e b
 |behind _ _ M _ _ _ _ _ _=>exact M.data j e b
 |wE _ _ M _ _ _ _ _ _=>exact M.data j e b
 |unlock _ W=>exact W.data j e b
def oO.data {c:Cfg}{a:Abs}(I:oO c a){L j:Int}(b:0<=L/\L<c.aY){e:Ent}(d:a.ent L j=some e):e.data=a.val L:=by
 rcases I.aj L b.1 b.2 with⟨_,l,W⟩|⟨_,_,_,H⟩
 ·exact W.data j e d
 ·exact Hold.data H d
section
variable {m:bW}{T:Nat}{i:Nat}{n n1:Node}{f:Fab}{t:List Evn}{msg msg':Int->Out}{val val':Int->List Int}
def GInv.idle(X:MX T m)(G:GInv m msg val)(b:m.aB[i]?=some n)(h0:n.aI.step=0):msg i=.idle:=by
 have hi:=X.range b;have hd:(m.abs msg val).aI i=n.aI:=jW b;rcases G.abs.bF i hi.1 hi.2 with⟨_,h⟩|O
 ·exact h
 ·have:=O.step;rw [hd] at this;exact absurd h0 this
def GInv.begin_(X:MX T m)(G:GInv m msg val)(hn:m.aB[i]?=some n)(h0:n.aI.step=0)(e1:n1.aH=n.aH)(e2:n1.home=n.home)(e4:n1.num=n.num)(e5:n1.Jw=n.Jw){k L:Int}(hk:1<=k/\k<=3)(hL:0<=L/\L<m.c.aY)(hm:k=1->n.aH.find L=none)(hm3:k=3->n.aH.find L≠none):
  ∃msg',GInv (m.with_ i (n1.begin_ m.c i m.fab k L).1 (n1.begin_ m.c i m.fab k L).2 t) msg' val/\(m.with_ i (n1.begin_ m.c i m.fab k L).1 (n1.begin_ m.c i m.fab k L).2 t).todo msg'<m.todo msg:=by
 have hc:=X.inv.ok;have hi:=X.range hn;have NX_:=X.bF i n hn;have hd:(m.abs msg val).aI i=n.aI:=jW hn;have hidle:=G.idle X hn h0;have hid:0<=n.num/\n.num<4096:=⟨NX_.YK,NX_.num1⟩
 have I':=G.abs.begin_ (L:=L) (k:=k) (id:=n.num) hi (by rw [hd];exact h0) hk hid hL (λh=>by rw [<-hm h];exact uh hn L);obtain⟨a1,a2,a3,a4,a5⟩:=ac3 hc hi (k:=k) hL hid;have hout:1<=m.fab.out:=by
  have:=(nK hc).2.2.2.2.2.1;rw [X.inv.fab.out];exact this.1
 have R':=G.pk.apM (p:=(bM.begin k L n.num).ask i (m.c.bf L)) (by rw [a3,hidle];exact λq e=>by cases e) (by rw [a3,hidle];exact λq e=>by cases e) a1 a2 (by rw [a3];exact X.is hi rfl) (X.is ⟨a4,a5⟩ rfl) hout;rw [a3] at R';have hb:n1.begin_ m.c i m.fab k L=({ n1 with aI:=bM.begin k L n.num,num:=(n.num+1).tmod 4096 },(m.fab.send ((bM.begin k L n.num).ask i (m.c.bf L))).1):=by
  unfold Node.begin_ Node.adX;simp only [e4];rfl
 rw [hb];refine⟨_,⟨?_,R'.2⟩,pO X hn hL e2 (λL' _=>by show n1.aH.find L'=_;rw [e1]) (λL' hL' y=>by rw [yg (.inl h0),yg (.inr (.inr (.inl λe=>hL' e.symm)))]) (by dsimp only;exact pK _ _) (λj hj=>aW hj) ?_⟩;rotate_left
 ·rw [aK,hidle]
  dsimp only
  have d0:Dp n.aI .idle=13:=if_pos h0;have d1:Dp (.begin k L n.num) (.req ((bM.begin k L n.num).ask i (m.c.bf L)))=12+if k=3∨(1:Int)=6 then 13 else 0:=rfl;have e6:Node.Jw { n1 with aI:=bM.begin k L n.num,num:=(n.num+1).tmod 4096 }=n.Jw:=e5;rw [e6,d0,d1,e1];by_cases h3:k=3
  ·obtain⟨e,he⟩:=Option.ne_none_iff_exists'.1 (hm3 h3);have w1:wt (.begin k L n.num) L (some e)=3:=by
    unfold wt;rw [if_neg (zdF e),if_pos ⟨h3,(by decide:(1:Int)≠0),(by decide:(1:Int)≠6),rfl⟩]
   have w2:wt n.aI L (some e)=16:=by
    rw [yg (.inl h0),if_neg (zdF e)]
   rw [he,w1,w2,if_pos (.inl h3)];omega
  ·rw [yg (.inl h0),yg (.inr (.inr (.inr h3))),if_neg (by omega)];omega
 show oO m.c ((m.with_ i { n1 with aI:=bM.begin k L n.num,num:=(n.num+1).tmod 4096 } _ t).abs _ val);rw [Gp (n':={ n1 with aI:=bM.begin k L n.num,num:=(n.num+1).tmod 4096 }) (msg:=msg) (val:=val) hn e2 (λL'=>by show n1.aH.find L'=_;rw [e1])];exact I'
def LY {c:Cfg}{P:Int->Nat->Option Opn}{t:List Evn}{b:Bool}{k:Nat}{o:Opn}{j:Int}(d:P j k=some o):D8 c P t val ((if b then t else t++[⟨j,k,false,0⟩])++[⟨j,k,true,(oI c o val).2⟩]) (oI c o val).1:=by
 cases b with
 |true=>exact .done j k o d .same
 |false=>exact .done j k o d (.eG j k .same)
def wI {c:Cfg}{P:Int->Nat->Option Opn}{t:List Evn}{b:Bool}{k:Nat}{j:Int}:D8 c P t val (if b then t else t++[⟨j,k,false,0⟩]) val:=by
 cases b with
 |true=>exact .same
 |false=>exact .eG j k .same
def GInv.work(X:MX T m)(G:GInv m msg val)(p:m.aB[i]?=some n)(h0:n.aI.step=0){o:Opn}(o1:n.bQ.cur=some o):
  ∃msg' val',GInv (m.with_ i (n.work m.c i m.fab m.trace o).1 (n.work m.c i m.fab m.trace o).2.1 (n.work m.c i m.fab m.trace o).2.2) msg' val'/\D8 m.c m.opAt m.trace val (n.work m.c i m.fab m.trace o).2.2 val'/\(m.with_ i (n.work m.c i m.fab m.trace o).1 (n.work m.c i m.fab m.trace o).2.1 (n.work m.c i m.fab m.trace o).2.2).todo msg'<m.todo msg:=by
 have hc:=X.inv.ok;have hi:=X.range p;have K:=X.inv.bF i n p;have D:=K.bQ.right o (zan o1);have OO:=aqd hc D.1;have R:0<=m.c.bU o.addr/\m.c.bU o.addr<m.c.aY:=⟨OO.lo,OO.hi⟩
 have hP:=Px p o1;have hd:(m.abs msg val).aI i=n.aI:=jW p;unfold Node.work;simp only;obtain⟨n1,j⟩:∃n1:Node,n1={ n with bQ:={ n.bQ with eG:=true } }:=⟨_,rfl⟩
 have v:n1.aH=n.aH:=by rw [j]
 have M:n1.home=n.home:=by rw [j]
 have c3:n1.aI=n.aI:=by rw [j]
 have c4:n1.num=n.num:=by rw [j]
 have c5:n1.bQ.cur=some o:=by rw [j];exact o1
 have c6:n1.bQ.bH=n.bQ.bH:=by rw [j]
 rw [<-j,show n.aH=n1.aH from v.symm];have c7:n1.bQ.eG=true:=by rw [j]
 have c8:n1.Jw=n.Jw:=by rw [j];rfl
 have Q:n1.bQ.idx=n.bQ.bH.length:=by unfold Proc.idx;rw [c5,c6]
 have am:n1.bQ.op=o:=by unfold Proc.op;rw [c5];rfl
 obtain⟨C,q⟩:∃C,C=(if n.bQ.eG=true then m.trace else m.trace++[⟨i,n.bQ.bH.length,false,0⟩]):=⟨_,rfl⟩
 rw [<-q];by_cases k1:o.aS=4/\n1.aH.find (m.c.bU o.addr)=none
 ·rw [if_pos k1];have ao:oI m.c o val=(val,0):=by
   unfold oI;rw [if_neg V,if_neg V,if_neg V]
  refine⟨msg,val,⟨?_,G.pk⟩,?_,pO X p R M (λz _=>by show n1.aH.find z=_;rw [v]) (λz _ y=>by show wt n1.aI z y=_;rw [c3]) (za8 _) (λ_ _=>rfl) ?_⟩
  ·show oO m.c ((m.with_ i { n1 with bQ:=n1.bQ.Df 0 } m.fab _).abs msg val);rw [Gp (n':={ n1 with bQ:=n1.bQ.Df 0 }) (msg:=msg) (val:=val) p M (λz=>by show n1.aH.find z=_;rw [v])];have:dP m.lU i n1.aI=m.lU:=by rw [c3,<-jW p,jM]
   simp only [this];exact G.abs
  ·have:=LY (c:=m.c) (t:=m.trace) (val:=val) (b:=n.bQ.eG) hP;rw [ao] at this;unfold Node.done;rw [Q,q];exact this
  ·have:=Gq (n':=(n1.done i C 0).1) c5 c7 rfl;have h1:=akr (d:=n1.aI) (L:=m.c.bU o.addr) (x:=n1.aH.find (m.c.bU o.addr));show 33*Node.Jw (n1.done i C 0).1+Dp n1.aI (msg i)+wt n1.aI _ (n1.aH.find _)<_;rw [<-c3];omega
 rw [if_neg k1];by_cases k2:o.aS=4
 ·rw [if_pos k2];obtain⟨msg',G',F⟩:=G.begin_ (n1:=n1) (k:=3) (t:=C) X p h0 v M c4 c8 ⟨Z,Z⟩ R (λh=>absurd h Z) (λ_ h=>k1 ⟨k2,v ▸ h⟩);exact⟨msg',val,G',by rw [q];exact wI,F⟩
 rw [if_neg k2];by_cases k3:(n1.aH.find (m.c.bU o.addr)).isSome=true/\(o.aS=1∨((n1.aH.find (m.c.bU o.addr)).getD .zero).dn=true)
 ·rw [if_pos k3];obtain⟨e,he⟩:=zde.1 k3.1;have E:n.aH.find (m.c.bU o.addr)=some e:=by rw [<-v];exact he
  have W:=k3.2;rw [he] at W;simp only [zav] at W;have w:=(iJ K.aH.aY).1 E;have EO:=K.aH.ent e w.1;have ae:o.aS=1∨((o.aS=2∨o.aS=3)/\e.dn=true):=by
   rcases W with h|h
   ·exact .inl h
   ·by_cases h1:o.aS=1
    ·exact .inl h1
    ·exact .inr ⟨by have:=OO.k1;have:=OO.k4;omega,h⟩
  have af:(m.abs msg val).ent (m.c.bU o.addr) i=some e:=by
   show m.Gm _ i=_;rw [uh p];exact E
  have aa:=G.abs.data R af;obtain⟨g,u⟩:∃g:Ent,g={ e with used:=n.aH.dh+1 }:=⟨_,rfl⟩
  have ax:=EO.dat.1;have d1:g.data=e.data:=by rw [u]
  have d2:g.back=e.back:=by rw [u]
  have d3:g.fwd=e.fwd:=by rw [u]
  have d4:g.dn=e.dn:=by rw [u]
  have d5:g.aj=e.aj:=by rw [u]
  obtain⟨w1,w2,w3,w4,w5,w6,w7⟩:=ac4 (c:=m.c) (val:=val) (e:=g) (by rw [d4];exact ae) (by rw [d1];exact aa) (by rw [d1];have:=OO.wlo;have:=OO.whi;omega);have y:=rQ g o (m.c.dI o.addr);have H:=YS K.aH.aY E;have TI:=K.aH.touch E;have A:=yO TI.aY (e:=eU g o (m.c.dI o.addr)) (x:=g) (by rw [y.1,d5];exact EO.lo) (by rw [y.1,d5,H,if_pos w.2,u]);have ab:({ eU g o (m.c.dI o.addr) with used:=g.used }:Ent)=eU g o (m.c.dI o.addr):=by rw [<-y.2.1]
  have ad:(eU g o (m.c.dI o.addr)).aj=m.c.bU o.addr:=by rw [y.1,d5];exact w.2
  have ag:({ n1 with aH:=n1.aH.touch (m.c.bU o.addr) }:Node).effect m.c i C=({ n1 with aH:=((n.aH.touch (m.c.bU o.addr)).put (eU g o (m.c.dI o.addr))).1,bQ:=n1.bQ.Df (if o.aS=2 then 0 else g.word (m.c.dI o.addr)) },C++[⟨i,n.bQ.bH.length,true,if o.aS=2 then 0 else g.word (m.c.dI o.addr)⟩]):=by
   unfold Node.effect Node.done;have ai:({ n1 with aH:=n1.aH.touch (m.c.bU o.addr) }:Node).bQ.op=o:=am;simp only [ai,Q,v,H,if_true,zav,<-u]
  have ap:({ aH:=n1.aH.touch (m.c.bU o.addr),bQ:={ ops:=n.bQ.ops,bH:=n.bQ.bH,eG:=true },home:=n.home,aI:=n.aI,num:=n.num }:Node)={ n1 with aH:=n1.aH.touch (m.c.bU o.addr) }:=by rw [j]
  rw [ap,ag];have hx:((n.aH.touch (m.c.bU o.addr)).put (eU g o (m.c.dI o.addr))).1.find (m.c.bU o.addr)=some (eU g o (m.c.dI o.addr)):=by
   rw [A,if_pos ad.symm,ab]
  have aq:(oI m.c o val).1 (m.c.bU o.addr)≠[]:=by
   rw [<-w1];intro h;have h1:=y.2.2.2;have:=(nK hc).2.2.1;rw [h,d1] at h1;simp only [zao] at h1;omega
  refine⟨msg,(oI m.c o val).1,⟨?_,G.pk⟩,?_,pO X p R M (λz h=>by
    show((n.aH.touch _).put _).1.find z=_;rw [A,if_neg λh'=>h (h'.trans ad),H,if_neg h]) (λz _ y=>by show wt n1.aI z y=_;rw [c3]) (za8 _) (λ_ _=>rfl) ?_⟩
  ·show oO m.c ((m.with_ i { n1 with aH:=((n.aH.touch (m.c.bU o.addr)).put (eU g o (m.c.dI o.addr))).1,bQ:=n1.bQ.Df (if o.aS=2 then 0 else g.word (m.c.dI o.addr)) } m.fab _).abs msg _);rw [rV (n':={ n1 with aH:=((n.aH.touch (m.c.bU o.addr)).put (eU g o (m.c.dI o.addr))).1,bQ:=n1.bQ.Df (if o.aS=2 then 0 else g.word (m.c.dI o.addr)) }) (msg:=msg) (val:=val) p M (L:=m.c.bU o.addr) (λz h=>by
    show((n.aH.touch _).put _).1.find z=_;rw [A,if_neg λh'=>h (h'.trans ad),H,if_neg h])]
   have ar:dP m.lU i n1.aI=m.lU:=by rw [c3,<-jW p,jM]
   simp only [hx,ar];have I':=G.abs.hit (L:=m.c.bU o.addr) (e:=e) (e':=eU g o (m.c.dI o.addr)) (v':=(oI m.c o val).1 (m.c.bU o.addr)) hi (by rw [hd];exact h0) R af (w4.trans d2) (w5.trans d3) (w6.trans d4) (by
    rcases ae with h|⟨_,h⟩
    ·refine .inl ⟨by rw [w7 h,d1],?_⟩;unfold oI;rw [if_pos h];rfl
    ·exact .inr ⟨h,w1⟩) aq
   have aw:dP (m.abs msg val).val (m.c.bU o.addr) ((oI m.c o val).1 (m.c.bU o.addr))=(oI m.c o val).1:=by
    funext L
    by_cases h:L=m.c.bU o.addr
    ·rw [h,aK]
    ·rw [aW h,w2 L h];rfl
   rw [aw] at I';exact I'
  ·rw [w3,q];exact LY hP
  ·have h0:=Gq (n':={ n1 with aH:=((n.aH.touch (m.c.bU o.addr)).put (eU g o (m.c.dI o.addr))).1,bQ:=n1.bQ.Df (if o.aS=2 then 0 else g.word (m.c.dI o.addr)) }) c5 c7 rfl;have h1:=akr (d:=n1.aI) (L:=m.c.bU o.addr) (x:=((n.aH.touch (m.c.bU o.addr)).put (eU g o (m.c.dI o.addr))).1.find (m.c.bU o.addr))
   dsimp only at h0 ⊢
   rw [<-c3];omega
 rw [if_neg k3];by_cases k4:n1.aH.full (m.c.bU o.addr)=true
 ·rw [if_pos k4];rw [v] at k4;have al:n.aH.pq (m.c.bU o.addr)≠[]:=by
   intro e;unfold Cache.full at k4;simp only [e,zao,zah,decide_eq_true_eq] at k4;have:=(nK hc).2.2.2.2.1;rw [K.aH.ways] at k4;omega
  obtain⟨e,he⟩:∃e,oq (n.aH.pq (m.c.bU o.addr))=some e:=by
   cases h:n.aH.pq (m.c.bU o.addr) with
   |nil=>exact absurd h al
   |cons a l=>exact⟨_,rfl⟩
  have hv:n.aH.oJ (m.c.bU o.addr)=some e.aj:=by unfold Cache.oJ;rw [he];rfl
  have w:e∈n.aH.l:=by
   have:=(sO he).1;unfold Cache.pq at this;exact(zbp.1 this).1
  have EO:=K.aH.ent e w;rw [v,hv];simp only [zav];obtain⟨msg',G',F⟩:=G.begin_ (n1:=n1) (k:=3) (L:=e.aj) (t:=C) X p h0 v M c4 c8 ⟨Z,Z⟩ ⟨EO.lo,EO.hi⟩ (λh=>absurd h Z) (λ_ h=>nomatch ((iJ K.aH.aY).2 ⟨w,rfl⟩:n.aH.find e.aj=some e).symm.trans h);exact⟨msg',val,G',by rw [q];exact wI,F⟩
 rw [if_neg k4];by_cases k5:o.aS=1
 ·rw [if_pos k5];obtain⟨msg',G',F⟩:=G.begin_ (n1:=n1) (k:=1) (t:=C) X p h0 v M c4 c8 ⟨Z,Z⟩ R (λ_=>by
   cases h:n.aH.find (m.c.bU o.addr) with
   |none=>rfl
   |some e=>exact absurd ⟨by rw [v,h];rfl,.inl k5⟩ k3) (λh=>absurd h Z)
  exact⟨msg',val,G',by rw [q];exact wI,F⟩
 ·rw [if_neg k5];obtain⟨msg',G',F⟩:=G.begin_ (n1:=n1) (k:=2) (t:=C) X p h0 v M c4 c8 ⟨Z,Z⟩ R (λh=>absurd h Z) (λh=>absurd h Z);exact⟨msg',val,G',by rw [q];exact wI,F⟩
def Xo(X:MX T m)(d:m.aB[i]?=some n)(h:m.fab.roomOf i false≠0):0<m.fab.roomOf i false:=by
 have hi:=X.range d;have b:=X.is hi (f:=m.fab) rfl;have P:=(X.inv.fab.get b).an;unfold Fab.roomOf at h ⊢;rw [if_pos b] at h ⊢;rw [X.inv.fab.out] at h ⊢;simp only [Port.sort,zai,if_false] at h ⊢;omega
def GInv.step(X:MX T m)(G:GInv m msg val)(j:Int):∃msg' val',GInv (m.step j).1 msg' val'/\D8 m.c m.opAt m.trace val (m.step j).1.trace val'/\((m.step j).2≠0->(m.step j).1.todo msg'<m.todo msg):=by
 unfold bW.step;cases d:m.bF j with
 |none=>exact⟨msg,val,G,.same,λh=>absurd rfl h⟩
 |some n=>
  simp only;have z:0<=j/\m.aB[j.toNat]?=some n:=by
   unfold bW.bF at d;split at d
   ·exact⟨by assumption,d⟩
   ·cases d
  obtain⟨i,rfl⟩:∃i:Nat,j=i:=⟨j.toNat,V⟩
  rw [zar] at z ⊢;have e:=z.2;have key:∃msg' val',GInv (m.with_ i (n.step m.c i m.fab m.trace).1.1 (n.step m.c i m.fab m.trace).1.2.1 (n.step m.c i m.fab m.trace).1.2.2) msg' val'/\D8 m.c m.opAt m.trace val (n.step m.c i m.fab m.trace).1.2.2 val'/\((n.step m.c i m.fab m.trace).2≠0->(m.with_ i (n.step m.c i m.fab m.trace).1.1 (n.step m.c i m.fab m.trace).1.2.1 (n.step m.c i m.fab m.trace).1.2.2).todo msg'<m.todo msg):=by
   unfold Node.step;cases A:m.fab.take i false with
   |mk D C=>
    cases C with
    |some p=>
     obtain⟨msg',val',G',v,F⟩:=G.answered X e A;exact⟨msg',val',G',v,λ_=>F⟩
    |none=>
     simp only;by_cases q:n.home.ready≠[]/\m.fab.roomOf i false≠0
     ·rw [if_pos q];obtain⟨msg',G',F⟩:=G.grant (t:=m.trace) X e q.1 (Xo X e q.2);exact⟨msg',val,G',.same,λ_=>F⟩
     ·rw [if_neg q];cases u:(if m.fab.roomOf i false=0 then(m.fab,none) else m.fab.take i true) with
      |mk E w=>
       cases w with
       |some p=>
        simp only;have g:m.fab.roomOf i false≠0:=λh=>by rw [if_pos h] at u;cases u
        rw [if_neg g] at u;obtain⟨msg',G',F⟩:=G.asked (t:=m.trace) X e u (Xo X e g);exact⟨msg',val,G',.same,λ_=>F⟩
       |none=>
        simp only;have b:GInv (m.with_ i n m.fab m.trace) msg val:=by
         have:m.with_ i n m.fab m.trace=m:=by
          unfold bW.with_;have:m.aB.set i n=m.aB:=by
           apply zbb
           intro k;by_cases h:i=k
           ·rw [<-h,zbd (zae.1 e).1,e]
           ·rw [zbl h]
          rw [this]
         rw [this];exact G
        cases y:n.bQ.cur with
        |none=>exact⟨msg,val,b,.same,λh=>absurd rfl h⟩
        |some o=>
         simp only;by_cases hs:n.aI.step=0
         ·rw [if_pos hs];obtain⟨msg',val',G',v,F⟩:=G.work X e hs y;exact⟨msg',val',G',v,λ_=>F⟩
         ·rw [if_neg hs];exact⟨msg,val,b,.same,λh=>absurd rfl h⟩
  exact key
def GInv.do_(X:MX T m)(G:GInv m msg val)(p:Pck):∃msg' val',GInv (m.do_ p).1 msg' val'/\D8 m.c m.opAt m.trace val (m.do_ p).1.trace val'/\((m.do_ p).2=true->(m.do_ p).1.todo msg'<m.todo msg):=by
 unfold bW.do_;split
 ·refine⟨msg,val,⟨?_,?_⟩,.same,λh=>?_⟩
  ·have:(m.deliver p.at_ p.bit p.mask).1.abs msg val=m.abs msg val:=rfl;rw [this];exact G.abs
  ·exact G.pk.deliver X.dst.all _ _ _
  ·have g:=Pv X.dst.all (of_decide_eq_true h);have b:(m.deliver p.at_ p.bit p.mask).1.todo msg=2*pot m.c m.uT (m.abs msg λ_=>[])+(m.fab.deliver p.at_ p.bit p.mask).1.under:=rfl;have d:m.todo msg=2*pot m.c m.uT (m.abs msg λ_=>[])+m.fab.under:=rfl;rw [b,d];omega
 ·obtain⟨msg',val',G',e,F⟩:=G.step X p.at_;exact⟨msg',val',G',e,λh=>F (of_decide_eq_true h)⟩
def afE {c:Cfg}(hc:c.ok=true){ps:List (List Opn)}(hp:(ps.length:Int)=c.aB):GInv (bW.new c ps) (λ_=>.idle) c.first:=by
 obtain⟨cn,cl,cw,_⟩:=nK hc;have bF:∀j:Int,0<=j->j<c.aB->∃l,(bW.new c ps).bF j=some (.new c j l):=λj h0 h1=>by
  obtain⟨k,rfl⟩:∃k:Nat,j=k:=⟨j.toNat,by omega⟩
  have hk:k<ps.length:=by omega
  refine⟨ps[k],?_⟩;unfold bW.bF bW.new;rw [if_pos h0,zar];simp [zbe,zab hk]
 have out:∀j:Int,¬(0<=j/\j<c.aB)->(bW.new c ps).bF j=none:=λj h=>by
  unfold bW.bF bW.new;by_cases h0:0<=j
  ·rw [if_pos h0];simp only;rw [zaG];rw [zcc];omega
  ·rw [if_neg h0]
 have any:∀j:Int,(∃l,(bW.new c ps).bF j=some (.new c j l))∨(bW.new c ps).bF j=none:=λj=>by
  by_cases h:0<=j/\j<c.aB
  ·exact .inl (bF j h.1 h.2)
  ·exact .inr (out j h)
 have ent:∀L j,(bW.new c ps).Gm L j=none:=λL j=>by
  unfold bW.Gm;rcases any j with⟨l,h⟩|h
  ·rw [h];rfl
  ·rw [h];rfl
 have own:∀L,((bW.new c ps).lT L).aT=⟨[],[]⟩:=λL=>by
  unfold bW.lT;rcases any ((bW.new c ps).c.bf L) with⟨l,h⟩|h
  ·rw [h];rfl
  ·rw [h]
 have aI:∀j,((bW.new c ps).lU j).step=0:=λj=>by
  unfold bW.lU;rcases any j with⟨l,h⟩|h
  ·rw [h];rfl
  ·rw [h];rfl
 have row:∀L,0<=L->L<c.aY->jq ((bW.new c ps).lT L).dJ L=⟨0,-1,c.first L⟩:=λL h0 h1=>by
  have hh:=D7 hc h0;obtain⟨l,h⟩:=bF (c.bf L) hh.1 hh.2;unfold bW.lT;have hcc:(bW.new c ps).c=c:=rfl;rw [hcc,h];unfold jq;show(jC (c.jP (c.bf L) c.aY.toNat) L).getD .zero=_;rw [Cb,if_pos ⟨h0,by omega,rfl⟩];rfl
 have first:∀L,0<=L->L<c.aY->c.first L≠[]:=λL h0 h1 e=>by
  have:=congrArg List.length e;unfold Cfg.first at this
  rw [if_neg (by omega)] at this;simp only [zaE,zcX,zao] at this;omega
 refine⟨⟨λL h0 h1=>.inl ⟨?_,[],?_⟩,λj _ _=>.inl ⟨aI j,rfl⟩,λL=>?_,first,λL _=>?_⟩,?_⟩
 ·show((bW.new c ps).lT L).aT.owner L=-1;rw [own];rfl
 ·show Wf c.aB ((bW.new c ps).Gm L) (jq ((bW.new c ps).lT L).dJ L) (c.first L) [];rw [row L h0 h1];exact⟨⟨zdg,λj hj=>(by cases hj)⟩,trivial,λj e h=>(by rw [ent] at h;cases h),rfl,.inl rfl,(by simp),λh=>absurd (show(0:Int)=2 from h) (by decide),λj e h=>(by rw [ent] at h;cases h),λj e h=>(by rw [ent] at h;cases h),λ_=>rfl⟩
 ·have hw:((bW.new c ps).abs (λ_=>.idle) c.first).ws L=[]:=by
   show((bW.new c ps).lT L).aT.ws L=[]
   rw [own];rfl
  exact⟨by rw [hw];exact zdg,λw h=>(by rw [hw] at h;cases h)⟩
 ·show((bW.new c ps).lT L).aT.owner L=-1;rw [own];rfl
 ·have port:∀p∈(bW.new c ps).fab.l,p=.zero:=λp h=>zbY h;have hr:Aj (bW.new c ps).fab=[]:=zb1.2 λp h=>by rw [port p h];rfl
  have ha:Ak (bW.new c ps).fab=[]:=zb1.2 λp h=>by rw [port p h];rfl
  refine⟨λk q h=>?_,by rw [hr];exact zdg,by rw [ha];exact zdg,λ_ _ h=>(by cases h),λ_ _ h=>(by cases h),λ_ _ h=>(by cases h),λ_ _ h=>(by cases h),λ_ _ h=>(by rcases h with h|h <;> cases h)⟩;rw [port q (zan h)];exact⟨λp h=>(by cases h),λp h=>(by cases h),λp h=>(by cases h),λp h=>(by cases h)⟩
end
section
variable {m:bW}{T:Nat}{msg:Int->Out}{val:Int->List Int}
def afF {α:Type}{l:List α}{i:Nat}{x:α}(h:l[i]?=some x):l.set i x=l:=by
 apply zbb
 intro k;by_cases e:i=k
 ·rw [<-e,zbd (zae.1 h).1,h]
 ·rw [zbl e]
def YW {j:Int}(h:(m.step j).2=0):(m.step j).1=m:=by
 unfold bW.step at h ⊢;cases b:m.bF j with
 |none=>rfl
 |some n=>
  rw [b] at h;simp only at h ⊢;have g:0<=j/\m.aB[j.toNat]?=some n:=by
   unfold bW.bF at b;split at b
   ·exact⟨by assumption,b⟩
   ·cases b
  have hs:(n.step m.c j m.fab m.trace).1=(n,m.fab,m.trace):=by
   unfold Node.step at h ⊢;cases i:m.fab.take j false with
   |mk q u=>
    rw [i] at h;cases u with
    |some p=>simp at h
    |none=>
     simp only at h ⊢;split at h
     ·simp at h
     ·rename_i v;rw [if_neg v];cases y:(if m.fab.roomOf j false=0 then(m.fab,none) else m.fab.take j true) with
      |mk z d=>
       rw [y] at h;cases d with
       |some p=>simp at h
       |none=>
        simp only at h ⊢;cases hc:n.bQ.cur with
        |none=>rfl
        |some o=>
         rw [hc] at h;simp only at h ⊢;by_cases hd:n.aI.step=0
         ·rw [if_pos hd] at h;simp at h
         ·rw [if_neg hd]
  cases e:n.step m.c j m.fab m.trace with
  |mk w k=>
   obtain⟨n',q,t'⟩:=w;rw [e] at hs;simp only [zad] at hs;obtain⟨rfl,rfl,rfl⟩:=hs;simp only;rw [afF g.2]
def Pz {a b k:Int}(h:(m.fab.deliver a b k).2≠0):(m.fab.deliver a b k).1=m.fab:=by
 unfold Fab.deliver at h ⊢;by_cases d:a<0
 ·rw [if_pos d]
 rw [if_neg d] at h ⊢;cases i:m.fab.all[a.toNat]? with
 |none=>rfl
 |some p=>
  rw [i] at h;simp only at h ⊢;by_cases e:aT p.bytes b k=true
  ·rw [if_pos e]
  rw [if_neg e] at h ⊢;by_cases g:m.fab.room (qU p.aS)<=((m.fab.port p.dst).qo (qU p.aS)).length
  ·rw [if_pos g]
  rw [if_neg g] at h;exact absurd rfl h
def PD {p:Pck}(h:(m.do_ p).2=false):(m.do_ p).1=m:=by
 unfold bW.do_ at h ⊢;by_cases hd:p.deliver=true
 ·rw [if_pos hd] at h ⊢;simp only [decide_eq_false_iff_not] at h;unfold bW.deliver at h ⊢;simp only at h ⊢;rw [Pz h]
 ·rw [if_neg hd] at h ⊢;simp only [decide_eq_false_iff_not,Classical.not_not] at h;exact YW h
def Gs(x:bW × Int)(p:Pck):x.2<=(tally x p).2/\(tally x p).2<=x.2+1:=by
 unfold tally;simp only;split <;> omega
def Jy {x:bW × Int}{p:Pck}(h:(tally x p).2<=x.2):tally x p=x/\(x.1.do_ p).2=false:=by
 unfold tally at h ⊢;cases hb:(x.1.do_ p).2 with
 |true=>rw [hb] at h;simp only [if_true] at h;omega
 |false=>
  refine⟨?_,rfl⟩;rw [PD hb];simp
def PE(k n:Int):∀(j i:Nat) (x:bW × Int),x.2<=(kR k n j i x).2
 |0,_,_=>za2 _
 |j+1,i,x=>zdd (Gs x _).1 (PE k n j (i+1) _)
def PG:∀(i:Nat) (x:bW × Int),x.2<=(oK i x).2
 |0,_=>za2 _
 |i+1,x=>zdd (Gs x _).1 (PG i _)
def Jz {k n:Int}:∀{j i:Nat} {x:bW × Int},(kR k n j i x).2<=x.2->kR k n j i x=x/\∀q,q<j->(x.1.do_ ⟨false,(k+((i+q:Nat):Int)).tmod n,0,0⟩).2=false
 |0,_,_,_=>⟨rfl,λq h=>absurd h (zcU q)⟩
 |j+1,i,x,h=>by
  have m:=PE k n j (i+1) (tally x ⟨false,(k+i).tmod n,0,0⟩);have o:=(Gs x ⟨false,(k+i).tmod n,0,0⟩).1;simp only [kR] at h ⊢;obtain⟨b,d⟩:=Jy (x:=x) (p:=⟨false,(k+i).tmod n,0,0⟩) V;rw [b] at h ⊢;obtain⟨e,g⟩:=Jz h;refine⟨e,λq u=>?_⟩;cases q with
  |zero=>exact d
  |succ q=>
   have:=g q V;rw [show i+1+q=i+(q+1) by omega] at this;exact this
def JA:∀{i:Nat} {x:bW × Int},(oK i x).2<=x.2->oK i x=x/\∀q:Nat,q<i->(x.1.do_ ⟨true,q,0,0⟩).2=false
 |0,_,_=>⟨rfl,λq h=>absurd h (zcU q)⟩
 |i+1,x,h=>by
  have k:=PG i (tally x ⟨true,i,0,0⟩);have m:=(Gs x ⟨true,i,0,0⟩).1;simp only [oK] at h ⊢;obtain⟨b,d⟩:=Jy (x:=x) (p:=⟨true,i,0,0⟩) V;rw [b] at h ⊢;obtain⟨g,j⟩:=JA h;refine⟨g,λq o=>?_⟩;by_cases e:q=i
  ·rw [e];exact d
  ·exact j q V
structure apR(m:bW):Prop where
 step:∀j:Nat,j<m.aB.length->(m.step j).2=0
 give:∀q:Nat,q<m.fab.under->(m.fab.deliver q 0 0).2≠0
def U9(e:0<m.c.aB)(w:(m.aB.length:Int)=m.c.aB){first:Int}(h:(m.round first).2<=0):apR m:=by
 unfold bW.round at h;simp only at h;have o:=PE (nD m.c.aB first) m.c.aB m.c.aB.toNat 0 (m,0);have y:=PG (kR (nD m.c.aB first) m.c.aB m.c.aB.toNat 0 (m,0)).1.fab.under (kR (nD m.c.aB first) m.c.aB m.c.aB.toNat 0 (m,0));simp only at o;obtain⟨p,g⟩:=Jz (k:=nD m.c.aB first) (n:=m.c.aB) (j:=m.c.aB.toNat) (i:=0) (x:=(m,0)) (by simp only;omega);rw [p] at h;obtain⟨_,u⟩:=JA (i:=m.fab.under) (x:=(m,0)) h;have hk:0<=nD m.c.aB first/\nD m.c.aB first<m.c.aB:=⟨Int.tmod_nonneg _ (by
  have:=Int.lt_tmod_of_pos first e
  omega),zdf _ e⟩
 generalize nD m.c.aB first=k at g hk
 refine⟨λj z=>?_,λq v=>?_⟩
 ·-- each node's turn comes
  obtain⟨q,b,d⟩:∃q:Nat,q<m.c.aB.toNat/\(k+(q:Int)).tmod m.c.aB=j:=by
   by_cases h:k<=j
   ·refine⟨(j-k).toNat,V,?_⟩;rw [show k+(((j-k).toNat:Nat):Int)=j by omega,zbS V,Int.emod_eq_of_lt V V]
   ·refine⟨(j+m.c.aB-k).toNat,V,?_⟩;rw [show k+(((j+m.c.aB-k).toNat:Nat):Int)=j+m.c.aB by omega,zbS V,Int.add_emod_right,Int.emod_eq_of_lt V V]
  have:=g q b;rw [za6,d] at this;unfold bW.do_ at this
  simpa using this
 ·have:=u q v;unfold bW.do_ bW.deliver at this
  simpa using this
def YX(X:MX T m)(G:GInv m msg val)(S:apR m):m.over=true:=by
 have hc:=X.inv.ok;obtain⟨cn,cl,_,_,_,co,ci⟩:=nK hc;have ai:=X.inv.len;have al:=X.inv.fab.len
 -- what a node's step finds
 have Q:∀(i:Nat) n,m.aB[i]?=some n->(m.fab.take i false).2=none/\¬(n.home.ready≠[]/\m.fab.roomOf i false≠0)/\(m.fab.roomOf i false≠0->(m.fab.take i true).2=none)/\(n.aI.step=0->n.bQ.cur=none):=λi n d=>by
  have h:=S.step i (zae.1 d).1;unfold bW.step at h;rw [yP d] at h;simp only at h;unfold Node.step at h;cases W:m.fab.take i false with
  |mk f' po=>
   rw [W] at h;cases po with
   |some p=>simp at h
   |none=>
    simp only at h;by_cases hg:n.home.ready≠[]/\m.fab.roomOf i false≠0
    ·rw [if_pos hg] at h;simp at h
    ·rw [if_neg hg] at h;cases hr:(if m.fab.roomOf i false=0 then(m.fab,none) else m.fab.take i true) with
     |mk f2 aa=>
      rw [hr] at h;cases aa with
      |some p=>simp at h
      |none=>
       refine⟨rfl,hg,λA=>by rw [if_neg A] at hr;rw [hr],λhd=>?_⟩;cases v:n.bQ.cur with
       |none=>rfl
       |some o=>
        rw [v] at h;simp only at h;rw [if_pos hd] at h;simp at h
 have port:∀(i:Nat) q,m.fab.l[i]?=some q->∃n,m.aB[i]?=some n:=λi q b=>⟨_,zab (by have:=(zae.1 b).1;omega)⟩
 have ain:∀(i:Nat) q,m.fab.l[i]?=some q->q.ain=[]:=λi q b=>by
  obtain⟨n,d⟩:=port i q b;have h:=(Q i n d).1;unfold Fab.take at h;rw [if_pos (EJ b),wH b] at h;simp only [Port.qo,zai,if_false] at h;cases e:q.ain with
  |nil=>rfl
  |cons p l=>rw [e] at h;simp at h
 -- akF that may be
 have give:∀p∈m.fab.all,m.fab.room (qU p.aS)<=((m.fab.port p.dst).qo (qU p.aS)).length:=λp hp=>by
  obtain⟨a,ha⟩:=zbs.1 hp;have ab:=(zae.1 ha).1;have h:=S.give a ab;unfold Fab.deliver at h;rw [if_neg V,zar,ha] at h;simp only at h;have W:aT p.bytes 0 0=false:=by
   unfold aT;rw [List.any_eq_false];intro x _;simp
  rw [W] at h;simp only [zai,if_false] at h;split at h
  ·assumption
  ·simp at h
 have an:∀(i:Nat) q,m.fab.l[i]?=some q->q.an=[]:=λi q b=>by
  cases e:q.an with
  |nil=>rfl
  |cons p l=>
   exfalso;have hm:p∈m.fab.all:=za0.2 ⟨q,zan b,zc0 _ (by rw [e];simp)⟩;have hk:=((G.pk.port i q b).an p (by rw [e];simp)).2.1;have h:=give p hm;have hd:=X.dst.all p hm;have y:=ain _ _ (fF hd);rw [hk] at h;simp only [Fab.room,Port.qo,zai,if_false,y,zao] at h;omega
 have room:∀(i:Nat) q,m.fab.l[i]?=some q->m.fab.roomOf i false≠0:=λi q b=>by
  unfold Fab.roomOf;rw [if_pos (EJ b),wH b,X.inv.fab.out];simp only [Port.sort,zai,if_false,an i q b,zao];omega
 have rin:∀(i:Nat) q,m.fab.l[i]?=some q->q.rin=[]:=λi q b=>by
  obtain⟨n,d⟩:=port i q b;have h:=(Q i n d).2.2.1 (room i q b);unfold Fab.take at h;rw [if_pos (EJ b),wH b] at h;simp only [Port.qo,if_true] at h;cases e:q.rin with
  |nil=>rfl
  |cons p l=>rw [e] at h;simp at h
 have rq:∀(i:Nat) q,m.fab.l[i]?=some q->q.rq=[]:=λi q b=>by
  cases e:q.rq with
  |nil=>rfl
  |cons p l=>
   exfalso;have hm:p∈m.fab.all:=za0.2 ⟨q,zan b,zcC _ (by rw [e];simp)⟩;have hk:=((G.pk.port i q b).rq p (by rw [e];simp)).2.1;have h:=give p hm;have hd:=X.dst.all p hm;have y:=rin _ _ (fF hd);rw [hk] at h;simp only [Fab.room,Port.qo,if_true,y,zao,X.inv.fab.inn] at h;omega
 have ad:Aj m.fab=[]:=zb1.2 λq b=>by
  obtain⟨i,hi⟩:=zbs.1 b;simp [wS,rq i q hi,rin i q hi]
 have C:Ak m.fab=[]:=zb1.2 λq b=>by
  obtain⟨i,hi⟩:=zbs.1 b;simp [wU,an i q hi,ain i q hi]
 have u:∀j p,msg j≠.req p/\msg j≠.ans p:=λj p=>⟨λh=>(by have:=G.pk.rc j p h;rw [ad] at this;cases this),λh=>(by have:=G.pk.ac j p h;rw [C] at this;cases this)⟩
 have free:∀L,0<=L->L<m.c.aY->(m.abs msg val).own L=-1:=λL A R=>by
  rcases G.abs.aj L A R with⟨h,_⟩|⟨_,_,_,H⟩
  ·exact h
  ·exfalso;rcases Hold.acX H with⟨p,h,_⟩|⟨p,h⟩
   ·exact(u _ p).1 h
   ·exact(u _ p).2 h
 -- nobody waits
 have ae:∀j,0<=j->j<m.c.aB->msg j≠.wait:=λj A R hw=>by
  rcases G.abs.bF j A R with⟨_,h⟩|O
  ·have h':msg j=.idle:=h;rw [h'] at hw;cases hw
  ·rcases O.at_ with⟨_,_,h|⟨_,h⟩⟩|g|F
   ·exact(u j _).1 h
   ·-- its home is ready to let it in
    have hl:=O.aj;have hh:=D7 hc hl.1;obtain⟨n,d⟩:∃n,m.aB[(m.c.bf ((m.abs msg val).aI j).aj).toNat]?=some n:=⟨_,zab V⟩
    have k:(((m.c.bf ((m.abs msg val).aI j).aj).toNat:Nat):Int)=m.c.bf ((m.abs msg val).aI j).aj:=V
    have af:(m.abs msg val).ws ((m.abs msg val).aI j).aj=n.home.aT.ws ((m.abs msg val).aI j).aj:=by
     show(m.lT _).aT.ws _=_;rw [lJ d k.symm]
    have D:(m.abs msg val).own ((m.abs msg val).aI j).aj=n.home.aT.owner ((m.abs msg val).aI j).aj:=by
     show(m.lT _).aT.owner _=_;rw [lJ d k.symm]
    have hf:=free _ hl.1 hl.2;rw [D] at hf;rw [af] at h;have NI:=X.inv.bF _ n d;have E:n.home.aT.owned ((m.abs msg val).aI j).aj=false:=by
     cases e:n.home.aT.owned ((m.abs msg val).aI j).aj with
     |false=>rfl
     |true=>exact absurd hf ((NI.home.aT.owned _).1 e)
    have w:n.home.aT.ws ((m.abs msg val).aI j).aj≠[]:=λe=>by rw [e] at h;cases h
    have K:((m.abs msg val).aI j).aj∈n.home.aT.wait.map (·.1):=by
     unfold Turns.ws at w;cases e:jC n.home.aT.wait ((m.abs msg val).aI j).aj with
     |none=>rw [e] at w;exact absurd rfl w
     |some l=>exact zaI.2 ⟨_,mQ e,rfl⟩
    have M:((m.abs msg val).aI j).aj∈n.home.ready:=by
     unfold Home.ready Turns.ready;refine zbp.2 ⟨?_,?_⟩
     ·have:=(vU (n.home.aT.wait.map (·.1)) [] List.Pairwise.nil).1;exact this.mem_iff.2 (by simpa using K)
     ·simp [E,w]
    have YP:m.fab.l[(m.c.bf ((m.abs msg val).aI j).aj).toNat]?=some (m.fab.port (m.c.bf ((m.abs msg val).aI j).aj)):=fF (X.is hh rfl);refine(Q _ n d).2.1 ⟨λe=>?_,room _ _ YP⟩;rw [e] at M;cases M
   ·obtain⟨_,H⟩:=G.abs.holder O.aj g A;rcases H.acX with⟨p,h,_⟩|⟨p,h⟩
    ·exact(u _ p).1 h
    ·exact(u _ p).2 h
   ·exact(u j _).2 F.2.2
 have idle:∀(i:Nat) n,m.aB[i]?=some n->n.aI.step=0:=λi n d=>by
  have hi:=X.range d;rcases G.abs.bF i hi.1 hi.2 with⟨h,_⟩|O
  ·have hd:(m.abs msg val).aI i=n.aI:=jW d;rw [hd] at h;exact h
  ·exfalso;rcases O.at_ with⟨_,_,h|⟨h,_⟩⟩|g|F
   ·exact(u i _).1 h
   ·exact ae i hi.1 hi.2 h
   ·obtain⟨_,H⟩:=G.abs.holder O.aj g hi.1;rcases H.acX with⟨p,h,_⟩|⟨p,h⟩
    ·exact(u _ p).1 h
    ·exact(u _ p).2 h
   ·exact(u i _).2 F.2.2
 have done:∀(i:Nat) n,m.aB[i]?=some n->n.bQ.left=0/\n.bQ.eG=false:=λi n d=>by
  have v:=(Q i n d).2.2.2 (idle i n d);have P:=(X.inv.bF i n d).bQ;unfold Proc.cur at v;have R:=zdc.1 v;have h2:=P.vals;refine⟨by unfold Proc.left;omega,?_⟩;cases hb:n.bQ.eG with
  |false=>rfl
  |true=>have:=P.eG hb;omega
 have ag:m.fab.under=0:=by
  unfold Fab.under;rw [zcI];refine zb1.2 λq b=>?_;obtain⟨i,hi⟩:=zbs.1 b;simp [rq i q hi,an i q hi]
 have z:m.left=0:=by
  unfold bW.left;have:∀l:List Node,(∀n∈l,n.bQ.left=0)->(l.map λn=>n.bQ.left).sum=0:=by
   intro l
   induction l with
   |nil=>intro _;rfl
   |cons n l ih=>
    intro h;rw [zax,zbx,h n ZZ,ih λx hx=>h x (by simp [hx])];rfl
  refine this _ λn d=>?_;obtain⟨i,hi⟩:=zbs.1 d;exact(done i n hi).1
 unfold bW.over bW.quiet;rw [ag,z];simp only [decide_true,zcL,zaZ,zaW];intro i hi;unfold bW.busy;obtain⟨n,d⟩:∃n,m.aB[i]?=some n:=⟨_,zab hi⟩
 obtain⟨q,b⟩:∃q,m.fab.l[i]?=some q:=⟨_,zab V⟩
 rw [d];simp only [idle i n d,(done i n d).2,decide_true,zaf,zbI,za4,decide_eq_false_iff_not];unfold Fab.waiting;rw [if_pos (EJ b),if_pos (EJ b),wH b];simp [Port.qo,rin i q b,ain i q b]
end
def wW(m:bW)(k:Nat):Prop:=∃msg val,GInv m msg val/\m.todo msg<=k
section
variable {m:bW}{T k:Nat}
def wW.do_(X:MX T m)(h:wW m k)(p:Pck):∃k',wW (m.do_ p).1 k'/\k'+(if(m.do_ p).2=true then 1 else 0)<=k:=by
 obtain⟨msg,val,G,hk⟩:=h;cases hb:(m.do_ p).2 with
 |false=>
  rw [PD hb];exact⟨k,⟨msg,val,G,hk⟩,O⟩
 |true=>
  obtain⟨msg',val',G',_,F⟩:=G.do_ X p;have:=F hb;exact⟨_,⟨msg',val',G',zac _⟩,by simp;omega⟩
def wW.tally {x:bW × Int}(X:MX T x.1)(h:wW x.1 k)(p:Pck):∃k':Nat,wW (tally x p).1 k'/\k'+(tally x p).2<=k+x.2:=by
 obtain⟨k',b,hk⟩:=h.do_ X p;refine⟨k',b,?_⟩;unfold Go.Proofs.YtljogojaihgdlaaGreat.tally;cases hb:(x.1.do_ p).2 <;> rw [hb] at hk <;> simp at hk ⊢ <;> omega
def wW.steps(a n:Int):∀(j i:Nat) {x:bW × Int} {T k:Nat},MX T x.1->wW x.1 k->∃(b k':Nat),MX b (kR a n j i x).1/\wW (kR a n j i x).1 k'/\k'+(kR a n j i x).2<=k+x.2
 |0,_,x,T,k,X,h=>⟨T,k,X,h,za2 _⟩
 |j+1,i,x,T,k,X,h=>by
  obtain⟨k1,d,e⟩:=h.tally X ⟨false,(a+i).tmod n,0,0⟩;obtain⟨b,k',X',g,m⟩:=wW.steps a n j (i+1) (X.do_ _) d;exact⟨b,k',X',g,zdd m e⟩
def wW.gives:∀(i:Nat) {x:bW × Int} {T k:Nat},MX T x.1->wW x.1 k->∃(b k':Nat),MX b (oK i x).1/\wW (oK i x).1 k'/\k'+(oK i x).2<=k+x.2
 |0,x,T,k,X,h=>⟨T,k,X,h,za2 _⟩
 |i+1,x,T,k,X,h=>by
  obtain⟨k1,d,e⟩:=h.tally X ⟨true,i,0,0⟩;obtain⟨b,k',X',g,j⟩:=wW.gives i (X.do_ _) d;exact⟨b,k',X',g,zdd j e⟩
def wW.round(X:MX T m)(h:wW m k)(first:Int):∃d k':Nat,MX d (m.round first).1/\wW (m.round first).1 k'/\k'+(m.round first).2<=k:=by
 obtain⟨q,k1,e,g,i⟩:=wW.steps (nD m.c.aB first) m.c.aB m.c.aB.toNat 0 (x:=(m,0)) X h;obtain⟨j,b,o,p,u⟩:=wW.gives (kR (nD m.c.aB first) m.c.aB m.c.aB.toNat 0 (m,0)).1.fab.under e g;exact⟨j,b,o,p,by show b+(oK _ _).2<=(k:Int);simp only at i;omega⟩
def Xq(X:MX T m)(h:wW m k)(b:m.over=false)(first:Int):1<=(m.round first).2:=by
 obtain⟨msg,val,G,_⟩:=h;refine Classical.byContradiction λd=>?_;have:=YX X G (U9 (by have:=(nK X.inv.ok).1;omega) X.inv.len (first:=first) V);rw [b] at this;cases this
def JB {firsts:List Int}{most:Int}:∀(b n:Nat) {m:bW} {T k:Nat},MX T m->wW m k->(n:Int)+k<=most->k<=b->(iy firsts most b n m).1.over=true
 |b,n,m,T,k,X,h,hm,i=>by
  cases d:m.over with
  |true=>
   cases b with
   |zero=>exact d
   |succ b=>
    unfold iy;rw [if_neg (by rw [d];simp)];exact d
  |false=>
   obtain⟨j,k',X',g,e⟩:=h.round X (firsts.getD n 0);have:=Xq X h d (firsts.getD n 0);cases b with
   |zero=>omega
   |succ b=>
    unfold iy;rw [if_pos ⟨V,d⟩];exact JB b (n+1) X' g V V
def akv(X:MX T m)(h:wW m k)(ho:m.over=true)(p:Pck):(m.do_ p).2=false:=by
 obtain⟨msg,val,G,_⟩:=h;have hc:=X.inv.ok;unfold bW.over bW.quiet at ho;simp only [zah,decide_eq_true_eq,zaZ,zaW] at ho;obtain⟨⟨hq,hu⟩,hl⟩:=ho;have rest:∀(i:Nat) n,m.aB[i]?=some n->n.aI.step=0/\m.fab.waiting i true=0/\m.fab.waiting i false=0:=λi n hn=>by
  have:=hq i (zae.1 hn).1;unfold bW.busy at this;rw [hn] at this;simp only [za4,Bool.or_eq_false_iff,Bool.not_eq_false',decide_eq_true_eq,decide_eq_false_iff_not] at this;exact⟨this.1.1,by omega,by omega⟩
 have none_:∀(i:Nat) r,m.fab.waiting i r=0->(m.fab.take i r).2=none:=λi r h=>by
  unfold Fab.waiting at h;unfold Fab.take;by_cases hi:m.fab.is i=true
  ·rw [if_pos hi] at h ⊢;rw [zcI.1 h]
  ·rw [if_neg hi]
 have done:∀(i:Nat) n,m.aB[i]?=some n->n.bQ.cur=none:=λi n hn=>by
  have hnn:∀n∈m.aB,0<=n.bQ.left:=λn hn=>by
   obtain⟨j,hj⟩:=zbs.1 hn;have:=(X.inv.bF j n hj).bQ.vals;unfold Proc.left;omega
  have key:∀l:List Node,(∀n∈l,0<=n.bQ.left)->0<=(l.map λn=>n.bQ.left).sum/\((l.map λn=>n.bQ.left).sum=0->∀n∈l,n.bQ.left=0):=by
   intro l
   induction l with
   |nil=>intro _;exact⟨za2 _,λ_ n h=>by cases h⟩
   |cons a l ih=>
    intro h;have h1:=h a (by simp);obtain⟨h2,h3⟩:=ih λn hn=>h n (by simp [hn]);rw [zax,zbx];refine⟨by omega,λh4 n hn=>?_⟩;rcases zaj.1 hn with rfl|hn
    ·omega
    ·exact h3 (by omega) n hn
  have:=(key _ hnn).2 hl n (zan hn);unfold Proc.left at this;unfold Proc.cur;rw [zdc];omega
 unfold bW.do_;split
 ·simp only [decide_eq_false_iff_not];unfold bW.deliver Fab.deliver;have:m.fab.all=[]:=zcI.1 hu;split
  ·exact(by decide:¬(3:Int)=0)
  ·rw [this];simp
 ·simp only [decide_eq_false_iff_not,Classical.not_not];unfold bW.step;cases hnd:m.bF p.at_ with
  |none=>rfl
  |some n=>
   simp only;have hj:0<=p.at_/\m.aB[p.at_.toNat]?=some n:=by
    unfold bW.bF at hnd;split at hnd
    ·exact⟨by assumption,hnd⟩
    ·cases hnd
   obtain⟨i,hi⟩:∃i:Nat,p.at_=i:=⟨p.at_.toNat,by omega⟩
   rw [hi,zar] at hj;rw [hi];have hn:=hj.2;obtain⟨r1,r2,r3⟩:=rest i n hn;have hrd:n.home.ready=[]:=by
    cases e:n.home.ready with
    |nil=>rfl
    |cons L l=>
     exfalso;obtain⟨_,w2,w3⟩:=uI e;obtain⟨y,hy,rfl⟩:=zaI.1 w3;have hh:=(X.inv.bF i n hn).home.here y hy;unfold lq at hh;simp only [zah,decide_eq_true_eq] at hh;obtain⟨⟨l0,l1⟩,l2⟩:=hh;have hL:m.c.bf y.1=i:=by unfold Cfg.bf xH;rw [if_neg (by omega)];exact l2
     have hw:(m.abs msg val).ws y.1=n.home.aT.ws y.1:=by show(m.lT y.1).aT.ws y.1=_;rw [lJ hn hL]
     cases ew:n.home.aT.ws y.1 with
     |nil=>exact w2 ew
     |cons w ws=>
      obtain⟨b0,b1,_,_,_,b5⟩:=(G.abs.ws y.1).2 w (by rw [hw,ew];simp);have hlen:=X.inv.len;obtain⟨x,hx⟩:∃x,m.aB[w.1.toNat]?=some x:=⟨_,zab (by omega)⟩
      have hd:(m.abs msg val).aI w.1=x.aI:=by
       have:=jW hx;rw [show((w.1.toNat:Nat):Int)=w.1 by omega] at this;exact this
      rw [hd,(rest _ x hx).1] at b5;cases b5
   have t1:=none_ i false r3;have t2:=none_ i true r2;unfold Node.step;cases e1:m.fab.take i false with
   |mk f1 p1=>
    rw [e1] at t1;simp only at t1;subst t1;simp only;rw [if_neg (λh=>h.1 hrd)];have e2:(if m.fab.roomOf i false=0 then(m.fab,none) else m.fab.take i true).2=none:=by
     split
     ·rfl
     ·exact t2
    cases e3:(if m.fab.roomOf i false=0 then(m.fab,none) else m.fab.take i true) with
    |mk f2 p2=>
     rw [e3] at e2;simp only at e2;subst e2;simp only;rw [done i n hn]
def YZ(X:MX T m)(h:wW m k)(e:m.over=true)(first:Int):m.round first=(m,0):=by
 have hd:=akv X h e;have d:∀p,tally (m,0) p=(m,0):=λp=>by
  unfold tally;simp only [hd p,PD (hd p)];rfl
 have hs:∀(a n:Int) (j i:Nat),kR a n j i (m,0)=(m,0):=by
  intro a n j
  induction j with
  |zero=>intro i;rfl
  |succ j b=>intro i;rw [kR,d];exact b _
 have g:∀i,oK i (m,0)=(m,0):=by
  intro i
  induction i with
  |zero=>rfl
  |succ i b=>rw [oK,d];exact b
 unfold bW.round;simp only [hs,g]
end
def Y0 {c:Cfg}{ps:List (List Opn)}(m:(ps.length:Int)=c.aB):(bW.new c ps).todo (λ_=>.idle)<=66*(ps.map List.length).sum+26*ps.length:=by
 have b:c.aB.toNat=ps.length:=V
 have bF:∀j:Nat,(bW.new c ps).bF j=(ps[j]?).map λl=>.new c j l:=λj=>by
  unfold bW.bF bW.new;rw [if_pos V,zar];simp only [zbe]
 have hw:∀(j:Nat) (L:Int),wt ((bW.new c ps).lU j) L ((bW.new c ps).Gm L j)=0:=λj L=>by
  have:(bW.new c ps).Gm L j=none:=by
   unfold bW.Gm;rw [bF];cases ps[j]? <;> rfl
  rw [this];rfl
 have hd:∀j:Nat,Dp ((bW.new c ps).lU j) .idle=13:=λj=>by
  unfold bW.lU;rw [bF];cases ps[j]? <;> rfl
 have d:∀j:Nat,(bW.new c ps).uT j=(ps.getD j []).length:=λj=>by
  unfold bW.uT;rw [bF,zas];cases ps[j]? <;> rfl
 have e:Af c.aB (λj=>33*(bW.new c ps).uT j+Dp ((bW.new c ps).lU j) .idle)=33*(ps.map List.length).sum+13*ps.length:=by
  unfold Af;rw [b];simp only [hd,d];have key:∀l:List (List Opn),((List.range l.length).map λj=>33*(l.getD j []).length+13).sum=33*(l.map List.length).sum+13*l.length:=by
   intro l
   induction l with
   |nil=>rfl
   |cons a l g=>
    rw [zal,List.range_succ_eq_map,zax,zbx,zc2,zax,zbx];have:((List.range l.length).map ((λj=>33*((a::l).getD j []).length+13) ∘ Nat.succ))=(List.range l.length).map λj=>33*(l.getD j []).length+13:=by
     apply zbt
     intro j _;simp
    rw [this,g];simp only [List.getD_cons_zero];omega
  exact key ps
 have h:Af c.aB (λj=>Af c.aY λL=>wt ((bW.new c ps).lU j) L ((bW.new c ps).Gm L j))=0:=by
  have z:∀l:List Nat,(l.map λ_:Nat=>0).sum=0:=λl=>by induction l <;> simp_all
  unfold Af;simp only [hw,z]
 have i:(bW.new c ps).fab.under=0:=by
  unfold Fab.under;rw [zcI];refine zb1.2 λq k=>?_;rw [show q=.zero from zbY k];rfl
 show 2*(Af c.aB (λj=>33*(bW.new c ps).uT j+Dp ((bW.new c ps).lU j) .idle)+Af c.aB λj=>Af c.aY λL=>wt ((bW.new c ps).lU j) L ((bW.new c ps).Gm L j))+(bW.new c ps).fab.under<=_;rw [e,h,i];omega
def afG {c:Cfg}(hc:c.ok=true){ps:List (List Opn)}(b:(ps.length:Int)=c.aB):wW (.new c ps) (66*(ps.map List.length).sum+26*ps.length):=⟨_,_,afE hc b,Y0 b⟩
section
variable {b:Nat}{H:ah}{g:bD}{A:Adr}{m:bW}{T k:Nat}
def qm.todo(R:qm b H g A m T)(D:wW m k)(first:Int):∃k',wW (m.round first).1 k'/\k'+(m.round first).2<=k:=by
 obtain⟨_,k',_,d,e⟩:=D.round R.keep first
 exact⟨k',d,e⟩
def Va {x:AV}{fs:List Int}(Y:∀H,aN H x 1 fs.length (fs.map I))(hw:∀z∈fs,nN z){most:Int}(hm:nN most)(A:Adr):
  ∀(d n:Nat) {H:ah} {g:bD} {m:bW} {T k:Nat},(0<d->(n:Int)+d=most)->(d=0->most<=n)->qm b H g A m T->wW m k->T+102*k<900000->
   ∃K g' w k',NU cl [.ref A.iI 0 0,I most,x,I n] H=some (I (iy fs most d n m).2,K)/\qm b K g' A (iy fs most d n m).1 w/\wW (iy fs most d n m).1 k'/\w<=T+102*k/\Off (JI A m.aB.length m.fab.l.length) g g'/\Step b H K/\
    (iy fs most d n m).1.aB.length=m.aB.length/\(iy fs most d n m).1.fab.l.length=m.fab.l.length:=by
 intro d
 induction d with
 |zero=>
  intro n H g m T k _ W R D X;have h:¬(n:Int)<most:=by have:=W rfl;omega
  refine⟨H,g,T,k,?_,R,D,V,Off.refl _ _,Step.refl _ _,rfl,rfl⟩;rw [NZ];simp only [xq_,h,iy]
 |succ d ih=>
  intro n H g m T k E _ R D X;have E:=E (Nat.succ_pos _);have h:(n:Int)<most:=V
  have o:=abL R.good R.iI R.keep.fine;rw [show(m.quiet && decide (m.left=0))=m.over from rfl] at o;cases q:m.over with
  |true=>
   rw [q] at o;have e:iy fs most (d+1) n m=(m,(n:Int)):=by unfold iy;rw [if_neg (by rw [q];simp)]
   rw [e];refine⟨H,g,T,k,?_,R,D,V,Off.refl _ _,Step.refl _ _,rfl,rfl⟩;rw [NZ];simp only [xq_,h,o,zaf]
  |false=>
   rw [q] at o;have e:iy fs most (d+1) n m=iy fs most d (n+1) (m.round (fs.getD n 0)).1:=by
    rw [show iy fs most (d+1) n m=if(n:Int)<most/\m.over=false then iy fs most d (n+1) (m.round (fs.getD n 0)).1 else(m,(n:Int)) from rfl,if_pos ⟨h,q⟩]
   rw [e];have hz:nN (fs.getD n 0):=by
    rw [zas];cases p:fs[n]? with
    |none=>exact LU
    |some z=>exact hw z (zan p)
   obtain⟨k1,D1,e1⟩:=R.todo D (fs.getD n 0);have e2:=Xq R.keep D q (fs.getD n 0);obtain⟨K1,g1,y,R1,O1,S1,n1,F⟩:=Xn R V hz;obtain⟨K,g',w,k',r,R',D',aa,G,S',l1,l2⟩:=ih (n+1) (k:=k1) (λ_=>V) (λ_=>V) R1 D1 V;have L:(n:Int)+1=((n+1:Nat):Int):=V
   have hi:=hm.2;have M:=wrap_i64 (a:=((n+1:Nat):Int)) V V;have Q:=(Y H).lnS;refine⟨K,g',w,k',?_,R',D',V,O1.trans (by rw [n1,F] at G;exact G),S1.trans S',l1.trans n1,l2.trans F⟩;rw [NZ];by_cases C:n<fs.length
   ·have j:(n:Int)<(fs.length:Int):=V
    have u:=(Y H).ix (k:=.i64) (i:=(n:Int)) V j;rw [zar] at u;have v:=(Y H).ld C;have p:fs.getD n 0=fs[n]:=by rw [zas,zab C];rfl
    rw [zaH,zab C,<-p,zak,zak] at v;simp only [xq_,h,o,zam,Q,j,u,v,NY,y,cZ,L,M,r]
   ·have j:¬(n:Int)<(fs.length:Int):=V
    have p:fs.getD n 0=0:=by rw [zas,zaG V];rfl
    rw [p] at y r;rw [p];simp only [xq_,h,o,zam,Q,j,NY,y,cZ,L,M,r]
def ac9 {x:AV}{fs:List Int}(Y:∀H,aN H x 1 fs.length (fs.map I))(hw:∀z∈fs,nN z){most:Int}(hm:nN most)(R:qm b H g A m T)(D:wW m k)(e:T+102*k<900000):
   ∃K g' d k',cl 27 [.ref A.iI 0 0,I most,x] H=some (I (iy fs most most.toNat 0 m).2,K)/\qm b K g' A (iy fs most most.toNat 0 m).1 d/\wW (iy fs most most.toNat 0 m).1 k'/\d<=T+102*k/\Off (JI A m.aB.length m.fab.l.length) g g'/\Step b H K/\
    (iy fs most most.toNat 0 m).1.aB.length=m.aB.length/\(iy fs most most.toNat 0 m).1.fab.l.length=m.fab.l.length:=by
 obtain⟨K,g',d,k',r,h⟩:=Va (b:=b) Y hw hm A most.toNat 0 (λ_=>V) (λ_=>V) R D e;refine⟨K,g',d,k',bC rfl rfl (amf _ _ _ _ _ ?_),h⟩;rw [aiW];exact r
end
def as6(A:Adr)(k n:Nat)(q:Nat):Prop:=JI A k n q∨q=A.iI∨q=A.fab
section
variable {b:Nat}{H:ah}{g g':bD}{A A':Adr}{m:bW}{T mid:Nat}
def gJ.agree(M:gJ g A m)(h:∀x,as6 A m.aB.length m.fab.l.length x->g' x=g x):gJ g' A m:=by
 refine⟨by rw [h _ (.inr (.inl rfl))];exact M.iI,by rw [h _ (.inl (.inr (.inr rfl)))];exact M.trace,M.fab.same (h _ (.inr (.inr rfl))) λq d=>h _ (.inl (.inr (.inl d))),λi n b=>(M.bF i n b).ext λs hs=>h _ (.inl (.inl ⟨i,s,(zae.1 b).1,hs,rfl⟩)),M.S9,M.akE,M.tf⟩
structure Two(b:Nat)(H:ah)(g:bD)(A A':Adr)(m:bW)(T mid:Nat):Prop where
 good:Good b H g
 base:H.base<=b
 one:gJ g A m
 two:gJ g A' m
 keep:MX T m
 lo:∀x,as6 A m.aB.length m.fab.l.length x->x<mid
 hi:∀x,as6 A' m.aB.length m.fab.l.length x->mid<=x
def Two.run(R:Two b H g A A' m T mid):qm b H g A m T:=⟨R.good,R.base,R.one,R.keep⟩
def Two.do_(R:Two b H g A A' m T mid)(z:T<999000)(p:Pck)(i:nN p.at_)(d:nN p.bit)(m0:0<=p.mask)(C:p.mask<=65535):
  ∃H1 e j k,cl 23 [.ref A.iI 0 0,.agg p.av] H=some (B (m.do_ p).2,H1)/\cl 23 [.ref A'.iI 0 0,.agg p.av] H1=some (B (m.do_ p).2,j)/\Good b H1 e/\Two b j k A A' (m.do_ p).1 (T+1) mid/\
   (∀x,¬JI A m.aB.length m.fab.l.length x->¬JI A' m.aB.length m.fab.l.length x->e x=g x/\k x=g x):=by
 obtain⟨H1,e,F,o,v,M⟩:=R.run.do_ z p i d m0 C;have G:gJ e A' m:=R.two.agree λx q=>v x λh=>by
  have:=R.lo x (.inl h);have:=R.hi x q;omega
 obtain⟨j,k,K,u,D,Q⟩:=(⟨o.good,o.base,G,R.keep⟩:qm b H1 e A' m T).do_ z p i d m0 C;obtain⟨w,y⟩:=Xm R.keep p;refine⟨H1,e,j,k,F,K,o.good,⟨u.good,u.base,o.iI.agree λx q=>D x λh=>?_,u.iI,u.keep,?_,?_⟩,λx E L=>⟨v x E,(D x L).trans (v x E)⟩⟩
 ·rw [w,y] at q;have:=R.lo x q;have:=R.hi x (.inl h);omega
 ·rw [w,y];exact R.lo
 ·rw [w,y];exact R.hi
end
def akw {c:Cfg}(hc:c.ok=true)(b:c.aB<=4){ps:List (List Opn)}(d:(ps.length:Int)=c.aB)(g:∀l∈ps,l.length<=24):
  ∃k,wW (.new c ps) k/\(k:Int)<=qN c ps/\k<=6500/\qN c ps<=40000/\0<=qN c ps/\mg ps<=96:=by
 have h:=WS g;have i:ps.length*24<=4*24:=zaD _ V;have j:=(nK hc).1;have e:qN c ps=40*((mg ps:Int)*c.aB)+240*mg ps+40*c.aB+240:=by
  unfold qN;rw [Int.mul_assoc,Int.add_mul,Int.mul_add,Int.one_mul,Int.mul_add];omega
 have m:(0:Int)<=(mg ps:Int)*c.aB:=zb0 V V;have o:(mg ps:Int)*c.aB<=96*4:=zbN V b V V;refine⟨_,afG hc d,?_,?_,V,V,V⟩
 ·show((66*mg ps+26*ps.length:Nat):Int)<=_;omega
 ·show 66*mg ps+26*ps.length<=6500;omega
section
variable {b:Nat}{H:ah}{g:bD}{A A':Adr}{m m0:bW}{T k mid:Nat}
def ada {m:bW}(h:m.over=true):m.quiet=true/\m.left=0:=by
 unfold bW.over at h
 simpa using h
end
def LZ {fs:List Int}{most:Int}:∀(b n:Nat) (m:bW),(n:Int)<=most->(n:Int)<=(iy fs most b n m).2/\(iy fs most b n m).2<=most
 |0,n,m,h=>⟨za2 _,h⟩
 |b+1,n,m,h=>by
  unfold iy;split
  ·rename_i d;have:=LZ (fs:=fs) (most:=most) b (n+1) (m.round (fs.getD n 0)).1 V;omega
  ·exact⟨za2 _,h⟩
def wW.mono {m:bW}{k k':Nat}(h:wW m k)(hk:k<=k'):wW m k':=by
 obtain⟨msg,val,G,h⟩:=h;exact⟨msg,val,G,V⟩
section
variable {b:Nat}{H:ah}{g:bD}{A:Adr}{m:bW}{T k:Nat}
def akx {c:Cfg}{ps:List (List Opn)}(R:qm b H g A m T)(hc:m.c=c)(D:wW m k)(hk:(k:Int)<=qN c ps)(hT:T+102*k<890000)(hb:qN c ps<=40000)(h0:0<=qN c ps)(M:ps.length<=1000/\mg ps<=1000){x y:AV}{cs:List Cho}(Y:aN ah.empty x 4 cs.length (cs.flatMap Cho.av)){fs:List Int}(Z:∀H,aN H y 1 fs.length (fs.map I))(hw:∀z∈fs,nN z){i:Nat}(hi:i=min cs.length 60):
  ∃H',QU cl [x,y,.ref A.iI 0 0,.vs ps.length 1 (ps.map (vsl 3 Opn.av)),I i] H=some (B true,H'):=by
 have X:=R.keep;have C:=(acS Y H).lnS;have o:=DW R.good R.iI X.inv.ok;rw [hc] at o;have Q:=(uK X.inv.ok).aB;rw [hc] at Q;have E:=WQ H c V (ajC H ps) V V;obtain⟨K,g',T',k',r,d,W,aa,_,_,_,_⟩:=ac9 (b:=b) Z hw (most:=qN c ps) ⟨V,V⟩ R D V;have rng:=LZ (fs:=fs) (qN c ps).toNat 0 m (most:=qN c ps) V;have F:=JB (firsts:=fs) (most:=qN c ps) (qN c ps).toNat 0 X D V V;generalize iy fs (qN c ps) (qN c ps).toNat 0 m=z at*;obtain⟨h,hl⟩:=ada F;have hu:z.1.fab.under=0:=by
  unfold bW.quiet at h;simp only [zah,decide_eq_true_eq] at h;exact h.2
 have p:=abJ d.good d.iI d.keep.fine;have q:=WO d.good d.iI d.keep.fine;have j:=Jm d.good d.iI d.keep;have G:=d.fab;rw [hl] at p;rw [h] at q;rw [hu] at j;obtain⟨K2,u,v,_⟩:=Xn d V (first:=1) ⟨ZS,ZS⟩;rw [YZ d.keep W F] at v;have wk:=λH=>ajz H;have z0:((0:Nat):Int)=0:=rfl;have L:z.2≥0:=V
 have u:z.2<=qN c ps:=rng.2;rw [z0] at j;refine⟨K2,?_⟩;rw [agM];by_cases e:(i:Int)<cs.length
 ·have w:¬(i:Int)<60:=V
  simp only [xq_,C,e,w,o,E,r,L,u,p,q,G,j,v,wk]
 ·simp only [xq_,C,e,o,E,r,L,u,p,q,G,j,v,wk]
def afH {c:Cfg}{ps:List (List Opn)}(hk:(k:Int)<=qN c ps)(u:k<=6500)(hb:qN c ps<=40000)(h0:0<=qN c ps)(d:ps.length<=1000/\mg ps<=1000){x y:AV}{cs:List Cho}(Y:aN ah.empty x 4 cs.length (cs.flatMap Cho.av))(wf:∀c∈cs,c.In){fs:List Int}(Z:∀H,aN H y 1 fs.length (fs.map I))(hw:∀z∈fs,nN z):
  ∀(j i:Nat) {H:ah} {g:bD} {m:bW},i+j=min cs.length 60->qm b H g A m i->m.c=c->wW m k->
  ∃H',QU cl [x,y,.ref A.iI 0 0,.vs ps.length 1 (ps.map (vsl 3 Opn.av)),I i] H=some (B true,H'):=by
 intro j
 induction j with
 |zero=>
  intro i H g m hi R hc D;exact akx R hc D hk V hb h0 d Y Z hw V
 |succ j v=>
  intro i H g m hi R h D;have X:=R.keep;have w:=R.fab;have C:=(acS Y H).lnS;have o:(i:Int)<cs.length:=V
  have p:(i:Int)<60:=V
  obtain⟨c',hc⟩:∃c,cs[i]?=some c:=⟨_,zab V⟩
  obtain⟨E,F⟩:=afx Y H hc;have q:=R.good.guard;have G:=DW q R.iI X.inv.ok;have K:=Jm q R.iI X;have L:=afy H X c';have M:m.c.av[0]?=some (I m.c.aB):=rfl;obtain⟨Q,T,W,i4⟩:=afz X (wf c' (zan hc));obtain⟨K2,g2,e4,R2,O2,S2⟩:=R.do_ V (tZ c' m.c.aB m.fab.under) Q T W i4;have h6:(i:Int)+1=((i+1:Nat):Int):=V
  have h7:=wrap_i64 (a:=((i+1:Nat):Int)) V V;obtain⟨k',D',aa⟩:=D.do_ X (tZ c' m.c.aB m.fab.under);obtain⟨H',e⟩:=v (i+1) V R2 ((atC _ _).trans h) (D'.mono V);refine⟨H',?_⟩;rw [agM];simp only [xq_,C,o,p,E,F,G,M,w,K,L,e4,cZ,h6,h7,e]
end
def PI {s:lg}{zi zw zk za zv:List Int}(h:s.Ok zi zw zk za zv)(hi:aN ah.empty s.init 1 zi.length (zi.map I))(hw:aN ah.empty s.who 1 zw.length (zw.map I))(hk:aN ah.empty s.kinds 1 zk.length (zk.map I))(ha:aN ah.empty s.kU 1 za.length (za.map I))(hv:aN ah.empty s.bH 1 zv.length (zv.map I))
  (hc:s.init.aP=true/\s.who.aP=true/\s.kinds.aP=true/\s.kU.aP=true/\s.bH.aP=true) {x y:AV} {cs:List Cho} (Y:aN ah.empty x 4 cs.length (cs.flatMap Cho.av)) (wf:∀c∈cs,c.In) {fs:List Int} (W:aN ah.empty y 1 fs.length (fs.map I)) (u:∀z∈fs,nN z):
  ∃H',cl 5 [.agg s.cells,x,y] ah.empty=some (B true,H'):=by
 have Z:atB s zi zw zk za zv:=⟨h,hi,hw,hk,ha,hv,hc⟩
 have d:s.cells.all AV.aP=true:=by
  simp only [lg.cells,zcK,zdA,hc,zcL];rfl
 have w:∀H,aN H y 1 fs.length (fs.map I):=λH=>W.iZ (zaY _) λr _ C=>absurd C (zcU r);let H1:=ah.empty.new (.blk 0 24 s.cells);let c:=s.cfg zi;let ps:=qF c zw zk za zv 16;obtain⟨E,A,q,f,N,g,mid,b,m,o,hb,T,X,F⟩:=akm Z H1 (zaY _) (mo:=16) ZS (c:=c) (ps:=ps) rfl rfl;have i:c.ok=true:=X.inv.ok;have j:(ps.length:Int)=c.aB:=by
  have h0:=(nK i).1;have hl:ps.length=c.aB.toNat:=pG _ _ _ _ _ _;omega
 have G:c.aB<=4:=by
  have:=nG (v:=s.aB) (n:=4) ZS;show 1+dw s.aB 4<=4;omega
 obtain⟨k,D,k1,K,L,k4,k5⟩:=akw i G j (yK _ _ _ _ _ _);have R:qm b E g A (.new c ps) 0:=⟨o.good,o.base,o.iI,X⟩
 obtain⟨H',e⟩:=afH (c:=c) (ps:=ps) k1 K L k4 ⟨V,V⟩ Y wf w u (min cs.length 60) 0 V R rfl D;have M:((0:Nat):Int)=0:=rfl;have p:((16:Nat):Int)=16:=rfl;rw [M] at e;rw [p] at m;have ls:s.cells.length=12:=rfl;have lt:s.cells.take 12=s.cells:=rfl;have Q:bi .eql 62 (.ref A.iI 0 0) zP=some (B false):=J
 refine⟨H',bC rfl rfl (atQ _ _ _ _ _ ?_)⟩;simp only [H1] at m;simp only [Nat.reduceLT,xq_,hq_,atm,aG d,ls,lt,m,Q,e]
end
end Go.Proofs.YtljogojaihgdlaaGreat
