/-
  Own work: an interpreter over named blocks, its soundness, and what the functions of this seat compute (part 11 of 12).
  Conditions: those of the statement alone.
-/
import Derived.Test.YtljogojaihgdlaaGreatXj
set_option linter.all false
set_option linter.unusedSectionVars false
set_option linter.unusedVariables false
set_option linter.unusedSimpArgs false
namespace Go.Proofs.YtljogojaihgdlaaGreat
noncomputable section
def mO {E:uQ}{i:Int}:oN E i (E i)=E:=by
 funext j
 by_cases h:j=i
 ·rw [h,gB]
 ·rw [fF h]
def ac5 {d:bJ}{p:Pkt}(hk:p.aS=CX (AL d.step))(b:p.id=d.id)(e:p.aj=d.aj)(hs:1<=d.step/\d.step<=6):d.fits p=true:=by
 have:d.step=1∨d.step=2∨d.step=3∨d.step=4∨d.step=5∨d.step=6:=V
 unfold bJ.fits;simp only [hk,b,e,decide_true,zcK,decide_eq_true_eq];rcases this with h|h|h|h|h|h <;> simp [h,CX,AL]
structure apK(c:Cfg)(N hm:Int)(E:uQ)(r:Row)(v:List Int)(i:Int)(n:Node)(ca:Cache)(d':bJ):Prop where
 aj:d'.aj=n.aI.aj
 aS:d'.aS=n.aI.aS
 id:d'.id=n.aI.id
 step:d'.step≠0
 fall:∀p q,¬(d'.step=6/\d'.aS≠3)->Dp d' (.req q)+wt d' n.aI.aj (ca.find n.aI.aj)<Dp n.aI (.ans p)+wt n.aI n.aI.aj (n.aH.find n.aI.aj)
 other:∀L,L≠n.aI.aj->ca.find L=n.aH.find L
 miss:d'.aS=1->d'.step=1∨d'.step=2->ca.find n.aI.aj=none
 next:(¬(d'.step=6/\d'.aS≠3)/\Hold N hm (oN E i (ca.find n.aI.aj)) r v i d' (.req (d'.ask i hm)))∨
  (d'.step=6/\d'.aS≠3/\∃e,ca.find n.aI.aj=some e/\e.data=v/\
   ((n.aI.aS=1/\Hold N hm (oN E i (some e)) r v i d' (.req (d'.ask i hm)))∨
    (n.aI.aS=2/\e.dn=true/\∀e':Ent,e'.back=e.back->e'.fwd=e.fwd->e'.dn=e.dn->Hold N hm (oN E i (some e')) r e'.data i d' (.req (d'.ask i hm)))))
section
variable {c:Cfg}{N hm:Int}{E:uQ}{r:Row}{v:List Int}{i:Int}{n:Node}
def U2 {ca:Cache}(b:Lines ca.l){e:Ent}(h0:0<=e.aj)(d:ca.full e.aj=false):∃u,∀L,(ca.put e).1.find L=if L=e.aj then some { e with used:=u } else ca.find L:=by
 cases h:ca.find e.aj with
 |none=>exact SH b h0 h d
 |some x=>exact⟨x.used,λL=>yK b h0 h L⟩
def SI {d:bJ}{me:Int}{ca:Cache}{x:Int}(b:x=match ca.find d.aj with
   |some own=>if d.next=me then own.fwd else d.next
   |none=>d.next):dG d me ca=if x≠-1 then(ca,{ d with next:=x,step:=3 }) else((ca.put ⟨-1,-1,d.aj,0,true,d.data⟩).1,{ d with next:=x,step:=6,aW:=2,head:=me,data:=[] }):=by
 unfold dG;cases hc:ca.find d.aj with
 |none=>
  rw [hc] at b;simp only at b;subst b;rfl
 |some own=>
  rw [hc] at b;simp only at b;by_cases h:d.next=me
  ·rw [if_pos h] at b;simp only [if_pos h];subst b;rfl
  ·rw [if_neg h] at b;simp only [if_neg h];subst b;rfl
def SK(hl:Lines n.aH.l)(hi:0<=i/\i<N)(hE:E i=n.aH.find n.aI.aj)(h0:0<=n.aI.aj)(hfull:n.aH.full n.aI.aj=false)(hk2:n.aI.aS=2)(hst:n.aI.step=1∨n.aI.step=3){d1:bJ}(k1:d1.aS=2)(k2:d1.aj=n.aI.aj)(k3:d1.id=n.aI.id){R:List Int}(L:akk N E v i R)(hd1:E i≠none->d1.data=v)(hd2:R=[]->d1.data=v)(hn:d1.next=hdI R (-1)):
  apK c N hm E r v i n (dG d1 i n.aH).1 (dG d1 i n.aH).2:=by
 obtain⟨x,hx⟩:∃x,x=match E i with
   |some own=>if d1.next=i then own.fwd else d1.next
   |none=>d1.next:=⟨_,rfl⟩
 have hx':=hx;rw [hE,<-k2] at hx';rw [SI hx'];rcases akl (hm:=hm) (r:=r) hi.1 L hd1 hd2 hn hx k1 with⟨hx1,H⟩|⟨hx1,hdv,hall⟩
 ·rw [if_pos hx1];refine⟨k2,k1.trans hk2.symm,k3,(by decide:(3:Int)≠0),λ_ _ _=>tX (k1.trans hk2.symm) k2 (by omega) (by omega) (by rcases hst with h|h <;> rw [h] <;> rfl) (.inl ⟨(by decide:(3:Int)≠6),(by decide:(3:Int)≠0),rfl⟩),λ_ _=>rfl,λh=>absurd (show d1.aS=1 from h) (by omega),.inl ⟨λh=>absurd (show(3:Int)=6 from h.1) (by decide),?_⟩⟩;rw [<-hE,mO];exact H _ rfl k1 rfl rfl
 ·rw [if_neg (by rw [hx1];decide)];obtain⟨u,hu⟩:=U2 (ca:=n.aH) hl (e:=⟨-1,-1,d1.aj,0,true,d1.data⟩) (by rw [k2];exact h0) (by rw [k2];exact hfull);simp only at hu;refine⟨k2,k1.trans hk2.symm,k3,(by decide:(6:Int)≠0),λ_ _ h=>absurd ⟨rfl,(show d1.aS≠3 by omega)⟩ h,λL hL=>by rw [hu,if_neg (by rw [k2];exact hL)],λh=>absurd (show d1.aS=1 from h) (by omega),.inr ⟨rfl,by show d1.aS≠3;omega,⟨-1,-1,d1.aj,u,true,d1.data⟩,by rw [hu,if_pos k2.symm],hdv,.inr ⟨hk2,rfl,λe' a b c'=>?_⟩⟩⟩;exact Jq hi hall a b c' rfl rfl rfl
def YT(hl:Lines n.aH.l)(hi:0<=i/\i<N)(hv:v≠[])(hE:E i=n.aH.find n.aI.aj)(h0:0<=n.aI.aj)(hfull:n.aI.aS≠3->n.aH.full n.aI.aj=false)(hkr:1<=n.aI.aS/\n.aI.aS<=3)(hmiss:n.aI.aS=1->n.aI.step=1∨n.aI.step=2->E i=none){p:Pkt}(H:Hold N hm E r v i n.aI (.ans p)):
  ∃ca d',n.after i p=(ca,d',true)/\apK c N hm E r v i n ca d':=by
 obtain⟨f1,f2,f3,f4,f5,f6⟩:=H.ans;have hfit:=ac5 f4 f2 f3 (by omega);have one:=hkr;unfold Node.after;have hh:∃q,Out.ans p=q/\Hold N hm E r v i n.aI q:=⟨_,rfl,H⟩
 obtain⟨q,hq,H⟩:=hh;cases H with
 |granted h1 W=>
  cases hq;have hk3:n.aI.aS=1∨n.aI.aS=2∨n.aI.aS=3:=by omega
  rcases hk3 with hk|hk|hk
  ·rw [if_pos hk];unfold dY;rw [if_neg (by rw [hk,hfit];simp),if_pos h1];simp only;have hEn:=hmiss hk (.inl h1);by_cases hs:r.aW≠0
   ·rw [if_pos hs];refine⟨_,_,rfl,rfl,rfl,rfl,(by decide:(2:Int)≠0),λ_ _ _=>tX rfl rfl (by omega) (by omega) (by rw [h1];rfl) (.inl ⟨(by decide:(2:Int)≠6),(by decide:(2:Int)≠0),rfl⟩),λ_ _=>rfl,λ_ _=>by rw [<-hE];exact hEn,.inl ⟨λh=>absurd (show(2:Int)=6 from h.1) (by decide),?_⟩⟩;rw [<-hE,mO];exact Jp (d:={ n.aI with aW:=r.aW,head:=r.head,told:=r.head,data:=r.data,step:=2 }) hk W hs rfl rfl
   ·rw [if_neg hs];obtain⟨u,hu⟩:=U2 (ca:=n.aH) hl (e:=⟨-1,-1,n.aI.aj,0,false,r.data⟩) h0 (hfull (by omega));simp only at hu;have hr0:r.aW=0:=Classical.not_not.1 hs;refine⟨_,_,rfl,rfl,rfl,rfl,(by decide:(6:Int)≠0),λ_ _ h=>absurd ⟨rfl,(show n.aI.aS≠3 by omega)⟩ h,λL hL=>by rw [hu,if_neg hL],λ_ h=>(h.elim (λh=>absurd (show(6:Int)=1 from h) (by decide)) λh=>absurd (show(6:Int)=2 from h) (by decide)),.inr ⟨rfl,by show n.aI.aS≠3;omega,⟨-1,-1,n.aI.aj,u,false,r.data⟩,by rw [hu,if_pos rfl],W.ER (by rw [hr0];decide),.inl ⟨hk,?_⟩⟩⟩;exact O7 hi W hr0 rfl rfl rfl rfl rfl rfl rfl rfl
  ·rw [if_neg (by omega),if_pos hk];unfold dZ;rw [if_neg (by rw [hk,hfit];simp),if_pos h1];simp only;refine⟨_,_,rfl,?_⟩;refine SK hl hi hE h0 (hfull (by omega)) hk (.inl h1) hk rfl rfl (Wf.left (i:=i) W) (λhe=>?_) (λhl0=>?_) W.head
   ·simp only [<-hE];cases hei:E i with
    |none=>exact absurd hei he
    |some own=>exact W.data i own hei
   ·simp only [<-hE];rw [W.empty hl0 i];exact W.ER (by rw [W.st0.2 hl0];decide)
  ·rw [if_neg (by omega),if_neg (by omega),if_pos hk];unfold eG;rw [if_neg (by rw [hk,hfit];simp),if_pos h1];simp only;cases hc:n.aH.find n.aI.aj with
   |none=>
    simp only;refine⟨_,_,rfl,rfl,rfl,rfl,(by decide:(6:Int)≠0),λ_ _ _=>tX rfl rfl (by omega) (by omega) (by rw [h1];rfl) (.inr ⟨rfl,hk,hc⟩),λ_ _=>rfl,λh=>absurd (show n.aI.aS=1 from h) (by omega),.inl ⟨λh=>h.2 hk,?_⟩⟩;rw [<-hE,mO];exact O9 W rfl rfl rfl rfl
   |some e=>
    have hei:E i=some e:=hE.trans hc;simp only;by_cases hb:e.back=-1/\e.fwd=-1
    ·rw [if_pos hb];have hdr:=Cb (aj:=n.aI.aj) hl;refine⟨_,_,rfl,rfl,rfl,rfl,(by decide:(6:Int)≠0),λ_ _ _=>tX rfl rfl (by omega) (by omega) (by rw [h1];rfl) (.inr ⟨rfl,hk,by rw [hdr,if_pos rfl]⟩),λL hL=>by rw [hdr,if_neg hL],λh=>absurd (show n.aI.aS=1 from h) (by omega),.inl ⟨λh=>h.2 hk,?_⟩⟩;rw [hdr,if_pos rfl];exact JI W hv hei hb.1 hb.2 rfl rfl rfl rfl
    ·rw [if_neg hb];by_cases hb1:e.back=-1
     ·rw [if_pos hb1];refine⟨_,_,rfl,rfl,rfl,rfl,(by decide:(5:Int)≠0),λ_ _ _=>tX rfl rfl (by omega) (by omega) (by rw [h1];rfl) (.inl ⟨(by decide:(5:Int)≠6),(by decide:(5:Int)≠0),rfl⟩),λ_ _=>rfl,λh=>absurd (show n.aI.aS=1 from h) (by omega),.inl ⟨λh=>h.2 hk,?_⟩⟩;rw [<-hE,mO];exact JJ W hei hb1 (λh=>hb ⟨hb1,h⟩) rfl hk rfl rfl rfl
     ·rw [if_neg hb1];refine⟨_,_,rfl,rfl,rfl,rfl,(by decide:(4:Int)≠0),λ_ _ _=>tX rfl rfl (by omega) (by omega) (by rw [h1];rfl) (.inl ⟨(by decide:(4:Int)≠6),(by decide:(4:Int)≠0),rfl⟩),λ_ _=>rfl,λh=>absurd (show n.aI.aS=1 from h) (by omega),.inl ⟨λh=>h.2 hk,?_⟩⟩;rw [<-hE,mO];exact JK W hei hb1 rfl hk rfl rfl rfl
 |attached h1 h2 h3 h4 R C M D X F=>
  cases hq;rw [if_pos h2];unfold dY;rw [if_neg (by rw [h2,hfit];simp),if_neg (by omega),if_pos h1];simp only;have hEn:=hmiss h2 (.inr h1);obtain⟨u,hu⟩:=U2 (ca:=n.aH) hl (e:=⟨n.aI.head,-1,n.aI.aj,0,false,v⟩) h0 (hfull (by omega));simp only at hu;refine⟨_,_,rfl,rfl,rfl,rfl,(by decide:(6:Int)≠0),λ_ _ h=>absurd ⟨rfl,(show n.aI.aS≠3 by omega)⟩ h,λL hL=>by rw [hu,if_neg hL],λ_ h=>(h.elim (λh=>absurd (show(6:Int)=1 from h) (by decide)) λh=>absurd (show(6:Int)=2 from h) (by decide)),.inr ⟨rfl,by show n.aI.aS≠3;omega,⟨n.aI.head,-1,n.aI.aj,u,false,v⟩,by rw [hu,if_pos rfl],rfl,.inl ⟨h2,?_⟩⟩⟩;exact O8 hi hEn h3 h4 R C M D X F hv rfl rfl rfl rfl rfl rfl rfl rfl
 |Jo h1 h2 L hcl h3=>
  cases hq;rw [if_neg (by omega),if_pos h2];unfold dZ;rw [if_neg (by rw [h2,hfit];simp),if_neg (by omega),if_pos h1];simp only;refine⟨_,_,rfl,?_⟩;refine SK hl hi hE h0 (hfull (by omega)) h2 (.inr h1) h2 rfl rfl L (λhe=>?_) (λ_=>?_) rfl
  ·simp only [<-hE];cases hei:E i with
   |none=>exact absurd hei he
   |some own=>exact h3 he
  ·simp only [<-hE];cases hei:E i with
   |none=>rfl
   |some own=>exact h3 (by rw [hei];simp)
 |Aa h1 h2 M h3 C C' h4 h5 h6=>
  cases hq;rw [if_neg (by omega),if_neg (by omega),if_pos h2];unfold eG;rw [if_neg (by rw [h2,hfit];simp),if_neg (by omega),if_pos h1];by_cases hn:n.aI.next=-1
  ·rw [if_pos hn];unfold gX;have hdr:=Cb (aj:=n.aI.aj) hl;have hpost:=(M.rng.mid.2.2.2.2.1.acZ).1 (h5.symm.trans hn);refine⟨_,_,rfl,rfl,rfl,rfl,(by decide:(6:Int)≠0),λ_ _ _=>tX rfl rfl (by omega) (by omega) (by rw [h1];rfl) (.inr ⟨rfl,h2,by rw [hdr,if_pos rfl]⟩),λL hL=>by rw [hdr,if_neg hL],λh=>absurd (show n.aI.aS=1 from h) (by omega),.inl ⟨λh=>h.2 h2,?_⟩⟩;rw [hdr,if_pos rfl];exact Jr M h3 C hpost rfl rfl h6 rfl
  ·rw [if_neg hn];refine⟨_,_,rfl,rfl,rfl,rfl,(by decide:(5:Int)≠0),λ_ _ _=>tX rfl rfl (by omega) (by omega) (by rw [h1];rfl) (.inl ⟨(by decide:(5:Int)≠6),(by decide:(5:Int)≠0),rfl⟩),λ_ _=>rfl,λh=>absurd (show n.aI.aS=1 from h) (by omega),.inl ⟨λh=>h.2 h2,?_⟩⟩;rw [<-hE,mO];exact JL (d:={ n.aI with step:=5 }) M (λh=>hn (by rw [h5,h];rfl)) C C' rfl h2 h4 h5 h6
 |wz h1 h2 M h3 C C' h4 h5 h6=>
  cases hq;rw [if_neg (by omega),if_neg (by omega),if_pos h2];unfold eG;rw [if_neg (by rw [h2,hfit];simp),if_neg (by omega),if_neg (by omega),if_pos h1];have hdr:=Cb (aj:=n.aI.aj) hl;by_cases hh:n.aI.head=-1
  ·rw [if_pos hh];unfold gX;refine⟨_,_,rfl,rfl,rfl,rfl,(by decide:(6:Int)≠0),λ_ _ _=>tX rfl rfl (by omega) (by omega) (by rw [h1];rfl) (.inr ⟨rfl,h2,by rw [hdr,if_pos rfl]⟩),λL hL=>by rw [hdr,if_neg hL],λh=>absurd (show n.aI.aS=1 from h) (by omega),.inl ⟨λh=>h.2 h2,?_⟩⟩;rw [hdr,if_pos rfl];exact EG (h0:=n.aI.head) (nx:=n.aI.next) M h3 C C' h4 h5 rfl rfl (by rw [if_pos hh]) rfl
  ·rw [if_neg hh];unfold gX;refine⟨_,_,rfl,rfl,rfl,rfl,(by decide:(6:Int)≠0),λ_ _ _=>tX rfl rfl (by omega) (by omega) (by rw [h1];rfl) (.inr ⟨rfl,h2,by rw [hdr,if_pos rfl]⟩),λL hL=>by rw [hdr,if_neg hL],λh=>absurd (show n.aI.aS=1 from h) (by omega),.inl ⟨λh=>h.2 h2,?_⟩⟩;rw [hdr,if_pos rfl];exact EG (h0:=n.aI.head) (nx:=n.aI.next) M h3 C C' h4 h5 rfl rfl (by rw [if_neg hh];exact h6) rfl
 |attach _ _ _ _ _=>cases hq
 |JH _ _ _ _ _=>cases hq
 |front _ _ _ _ _ _ _ _=>cases hq
 |behind _ _ _ _ _ _ _ _ _=>cases hq
 |unlock _ _=>cases hq
end
def cZ.Gl(m:cZ)(L:Int):uQ:=λj=>(m.bF j).bind λn=>n.aH.find L
def cZ.mP(m:cZ)(L:Int):Home:=match m.bF (m.c.bf L) with
 |some n=>n.home
 |none=>⟨[],⟨[],[]⟩⟩
def cZ.lX(m:cZ)(j:Int):bJ:=match m.bF j with
 |some n=>n.aI
 |none=>.zero
def cZ.abs(m:cZ)(msg:Int->Out)(val:Int->List Int):Abs:=
 ⟨m.Gl,λL=>jr (m.mP L).dK L,λL=>(m.mP L).aT.owner L,λL=>(m.mP L).aT.ws L,m.lX,msg,val⟩
structure GInv(m:cZ)(msg:Int->Out)(val:Int->List Int):Prop where
 abs:oO m.c (m.abs msg val)
 pk:qF m.fab msg
def cZ.with_(m:cZ)(i:Nat)(n:Node)(f:Fab)(t:List Evn):cZ:={ m with aF:=m.aF.set i n,fab:=f,trace:=t }
section
variable {m:cZ}{i:Nat}{n n':Node}{f:Fab}{t:List Evn}{msg msg':Int->Out}{val val':Int->List Int}
def yL(h:m.aF[i]?=some n):m.bF i=some n:=by
 unfold cZ.bF;rw [if_pos V,zar];exact h
def Cc(h:m.aF[i]?=some n)(j:Int):(m.with_ i n' f t).bF j=if j=i then some n' else m.bF j:=by
 have d:=(zaf.1 h).1;unfold cZ.bF cZ.with_;simp only;by_cases e:j=i
 ·rw [if_pos e,e,if_pos V,zar,zbc d]
 ·rw [if_neg e];by_cases b:0<=j
  ·rw [if_pos b,if_pos b,zbl V]
  ·rw [if_neg b,if_neg b]
def Ju(h:m.aF[i]?=some n)(L:Int):(m.with_ i n' f t).Gl L=oN (m.Gl L) i (n'.aH.find L):=by
 funext j
 unfold cZ.Gl;rw [Cc h];by_cases b:j=i
 ·rw [if_pos b,b,gB];rfl
 ·rw [if_neg b,fF b]
def DW(h:m.aF[i]?=some n):(m.with_ i n' f t).lX=dQ m.lX i n'.aI:=by
 funext j
 unfold cZ.lX;rw [Cc h];by_cases b:j=i
 ·rw [if_pos b,b,aK]
 ·rw [if_neg b,aX b]
def yM(h:m.aF[i]?=some n)(L:Int):(m.with_ i n' f t).mP L=if m.c.bf L=i then n'.home else m.mP L:=by
 unfold cZ.mP;have hc:(m.with_ i n' f t).c=m.c:=rfl;rw [Cc h,hc];by_cases b:m.c.bf L=i
 ·rw [if_pos b,if_pos b]
 ·rw [if_neg b,if_neg b]
def ng(h:m.aF[i]?=some n){L:Int}(b:m.c.bf L=i):m.mP L=n.home:=by
 unfold cZ.mP;rw [b,yL h]
def tY(h:m.aF[i]?=some n)(L:Int):m.Gl L i=n.aH.find L:=by
 unfold cZ.Gl;rw [yL h];rfl
def kT(h:m.aF[i]?=some n):m.lX i=n.aI:=by
 unfold cZ.lX;rw [yL h]
def rP(h:m.aF[i]?=some n)(e:n'.home=n.home){L:Int}(hc:∀b,b≠L->n'.aH.find b=n.aH.find b):
  (m.with_ i n' f t).abs msg' val'={ m.abs msg val with ent:=dQ m.Gl L (oN (m.Gl L) i (n'.aH.find L)),aI:=dQ m.lX i n'.aI,msg:=msg',val:=val' }:=by
 have g:∀L,(m.with_ i n' f t).mP L=m.mP L:=λL=>by
  rw [yM h];by_cases d:m.c.bf L=i
  ·rw [if_pos d,e,ng h d]
  ·rw [if_neg d]
 have j:(m.with_ i n' f t).Gl=dQ m.Gl L (oN (m.Gl L) i (n'.aH.find L)):=by
  funext b
  rw [Ju h];by_cases d:b=L
  ·rw [d,aK]
  ·rw [aX d,hc b d,<-tY h b,mO]
 unfold cZ.abs;simp only [g,j,DW h]
def Gm(h:m.aF[i]?=some n)(hc:∀L,n'.aH.find L=n.aH.find L)(hd:n'.aI=n.aI){L:Int}(g:m.c.bf L=i)(o:∀b,b≠L->jr n'.home.dK b=jr n.home.dK b)(p:∀b,b≠L->n'.home.aT.owner b=n.home.aT.owner b)(hw:∀b,b≠L->n'.home.aT.ws b=n.home.aT.ws b):
  (m.with_ i n' f t).abs msg' val={ m.abs msg val with row:=dQ (m.abs msg val).row L (jr n'.home.dK L),own:=dQ (m.abs msg val).own L (n'.home.aT.owner L),ws:=dQ (m.abs msg val).ws L (n'.home.aT.ws L),msg:=msg' }:=by
 have q:(m.with_ i n' f t).Gl=m.Gl:=by
  funext b
  rw [Ju h,hc,<-tY h b,mO]
 have u:(m.with_ i n' f t).lX=m.lX:=by
  rw [DW h,hd,<-kT h]
  funext j
  by_cases k:j=i
  ·rw [k,aK]
  ·rw [aX k]
 have v:(λb=>jr ((m.with_ i n' f t).mP b).dK b)=dQ (λL=>jr (m.mP L).dK L) L (jr n'.home.dK L):=by
  funext b
  rw [yM h];by_cases e:b=L
  ·rw [e,if_pos g,aK]
  ·rw [aX e];by_cases d:m.c.bf b=i
   ·rw [if_pos d,o b e,ng h d]
   ·rw [if_neg d]
 have w:(λb=>((m.with_ i n' f t).mP b).aT.owner b)=dQ (λL=>(m.mP L).aT.owner L) L (n'.home.aT.owner L):=by
  funext b
  rw [yM h];by_cases e:b=L
  ·rw [e,if_pos g,aK]
  ·rw [aX e];by_cases d:m.c.bf b=i
   ·rw [if_pos d,p b e,ng h d]
   ·rw [if_neg d]
 have y:(λb=>((m.with_ i n' f t).mP b).aT.ws b)=dQ (λL=>(m.mP L).aT.ws L) L (n'.home.aT.ws L):=by
  funext b
  rw [yM h];by_cases e:b=L
  ·rw [e,if_pos g,aK]
  ·rw [aX e];by_cases d:m.c.bf b=i
   ·rw [if_pos d,hw b e,ng h d]
   ·rw [if_neg d]
 unfold cZ.abs;simp only [q,u,v,w,y]
end
def ac6 {c:Cfg}(hc:c.ok=true){i:Int}(hi:0<=i/\i<c.aF){k L id:Int}(g:0<=L/\L<c.aY)(d:0<=id/\id<4096):((bJ.begin k L id).ask i (c.bf L)).ok=true/\qR ((bJ.begin k L id).ask i (c.bf L)).aS=true/\((bJ.begin k L id).ask i (c.bf L)).src=i/\0<=((bJ.begin k L id).ask i (c.bf L)).dst/\((bJ.begin k L id).ask i (c.bf L)).dst<c.aF:=by
 obtain⟨h,j,_⟩:=mF hc;have b:0<=c.bf L/\c.bf L<c.aF:=by
  unfold Cfg.bf yZ;rw [if_neg V];exact⟨zch _ V,zct _ V⟩
 have e:(bJ.begin k L id).ask i (c.bf L)=⟨1,i,c.bf L,id,L,0,0,false,[]⟩:=rfl;rw [e];refine⟨?_,rfl,rfl,b.1,b.2⟩;simp only [Pkt.ok,zah,decide_eq_true_eq,zao];omega
def DY {c:Cfg}(hc:c.ok=true){L:Int}(b:0<=L):0<=c.bf L/\c.bf L<c.aF:=by
 obtain⟨d,_⟩:=mF hc;unfold Cfg.bf yZ;rw [if_neg V];exact⟨zch _ V,zct _ V⟩
def akq {c:Cfg}(hc:c.ok=true){i:Int}(hi:0<=i/\i<c.aF){E:uQ}{r:Row}{v:List Int}{d:bJ}(H:Hold c.aF (c.bf d.aj) E r v i d (.req (d.ask i (c.bf d.aj))))(hL:0<=d.aj/\d.aj<c.aY)(hid:0<=d.id/\d.id<4096)(hd:d.data.length<=4):
  (d.ask i (c.bf d.aj)).ok=true/\qR (d.ask i (c.bf d.aj)).aS=true/\(d.ask i (c.bf d.aj)).src=i/\0<=(d.ask i (c.bf d.aj)).dst/\(d.ask i (c.bf d.aj)).dst<c.aF:=by
 obtain⟨h1,h2,_⟩:=mF hc;have hh:=DY hc hL.1;have last:∀{l:List Int},Rng c.aF l->l≠[]->0<=oH l (-1)/\oH l (-1)<c.aF:=λR hl=>R.2 _ (Jm hl);have asX:∀{l:List Int},Rng c.aF l->-1<=oH l (-1)/\oH l (-1)<c.aF:=λ{l} R=>by
  by_cases hl:l=[]
  ·rw [hl];exact⟨za6 _,by show(-1:Int)<c.aF;omega⟩
  ·have:=last R hl;omega
 have hd_:∀{l:List Int},Rng c.aF l->l≠[]->0<=hdI l (-1)/\hdI l (-1)<c.aF:=λR hl=>R.2 _ (R.hd hl).1;have hdo:∀{l:List Int},Rng c.aF l->-1<=hdI l (-1)/\hdI l (-1)<c.aF:=λ{l} R=>by
  by_cases hl:l=[]
  ·rw [hl];exact⟨za6 _,by show(-1:Int)<c.aF;omega⟩
  ·have:=hd_ R hl;omega
 have hq:∃q,Out.req (d.ask i (c.bf d.aj))=q/\Hold c.aF (c.bf d.aj) E r v i d q:=⟨_,rfl,H⟩
 obtain⟨q,hq,H⟩:=hq;cases H with
 |attach k1 k2 k3 k4 W=>
  have:=hd_ W.rng k3;have e:d.ask i (c.bf d.aj)=⟨3,i,d.head,d.id,d.aj,i,0,false,[]⟩:=by unfold bJ.ask;simp [k1]
  rw [e];refine⟨?_,rfl,rfl,by show 0<=d.head;omega,by show d.head<c.aF;omega⟩;simp only [Pkt.ok,zah,decide_eq_true_eq,zao];omega
 |JH k1 k2 L k3 k4=>
  have:=L.rng.2 d.next (by simp)
  have e:d.ask i (c.bf d.aj)=⟨6,i,d.next,d.id,d.aj,0,0,false,[]⟩:=by unfold bJ.ask;simp [k1]
  rw [e];refine⟨?_,rfl,rfl,by show 0<=d.next;omega,by show d.next<c.aF;omega⟩;simp only [Pkt.ok,zah,decide_eq_true_eq,zao];omega
 |front k1 k2 M k3 C k4 k5 k6=>
  obtain⟨_,_,_,p1,p2,_⟩:=M.rng.mid;have:=last p1 k3;have:=hdo p2;have e:d.ask i (c.bf d.aj)=⟨4,i,d.head,d.id,d.aj,d.next,0,false,[]⟩:=by unfold bJ.ask;simp [k1]
  rw [e];refine⟨?_,rfl,rfl,by show 0<=d.head;omega,by show d.head<c.aF;omega⟩;simp only [Pkt.ok,zah,decide_eq_true_eq,zao];omega
 |behind k1 k2 M k3 C C' k4 k5 k6=>
  obtain⟨_,_,_,p1,p2,_⟩:=M.rng.mid;have:=asX p1;have:=hd_ p2 k3;have e:d.ask i (c.bf d.aj)=⟨5,i,d.next,d.id,d.aj,d.head,0,false,[]⟩:=by unfold bJ.ask;simp [k1]
  rw [e];refine⟨?_,rfl,rfl,by show 0<=d.next;omega,by show d.next<c.aF;omega⟩;simp only [Pkt.ok,zah,decide_eq_true_eq,zao];omega
 |unlock k1 W=>
  have:=hdo W.rng;have h3:d.head=_:=W.head;have h4:d.aW=0∨d.aW=1∨d.aW=2:=W.st;have e:d.ask i (c.bf d.aj)=⟨2,i,c.bf d.aj,d.id,d.aj,d.head,d.aW,decide (d.data≠[]),d.data⟩:=by unfold bJ.ask;simp [k1]
  rw [e];refine⟨?_,rfl,rfl,hh.1,hh.2⟩;simp only [Pkt.ok,zah,decide_eq_true_eq];omega
 |granted _ _=>cases hq
 |attached _ _ _ _ _ _ _ _ _ _=>cases hq
 |Jo _ _ _ _ _=>cases hq
 |Aa _ _ _ _ _ _ _ _ _=>cases hq
 |wz _ _ _ _ _ _ _ _ _=>cases hq
def oJ(c:Cfg)(o:Opn)(val:Int->List Int):(Int->List Int) × Int:=
 let L:=c.bV o.addr;let w:=(c.dI o.addr).toNat
 if o.aS=1 then(val,(val L).getD w 0)
 else if o.aS=2 then(dQ val L ((val L).set w o.value),0)
 else if o.aS=3 then(dQ val L ((val L).set w (w64 ((val L).getD w 0+o.value))),(val L).getD w 0)
 else(val,0)
inductive DZ (c:Cfg) (P:Int->Nat->Option Opn):List Evn->(Int->List Int)->List Evn->(Int->List Int)->Prop
 |same {t:List Evn} {v:Int->List Int}:DZ c P t v t v
 |eH {t t':List Evn} {v v':Int->List Int} (i:Int) (k:Nat):DZ c P t v t' v'->DZ c P t v (t'++[⟨i,k,false,0⟩]) v'
 |done {t t':List Evn} {v v':Int->List Int} (i:Int) (k:Nat) (o:Opn):P i k=some o->DZ c P t v t' v'->DZ c P t v (t'++[⟨i,k,true,(oJ c o v').2⟩]) (oJ c o v').1
def cZ.opAt(m:cZ)(i:Int)(k:Nat):Option Opn:=match m.bF i with
 |some n=>n.bQ.ops[k]?
 |none=>none
def ac7 {c:Cfg}{o:Opn}{e:Ent}{val:Int->List Int}(hk:o.aS=1∨((o.aS=2∨o.aS=3)/\e.dn=true))(hv:e.data=val (c.bV o.addr))(hw:0<=c.dI o.addr/\c.dI o.addr<e.data.length):
  (eU e o (c.dI o.addr)).data=(oJ c o val).1 (c.bV o.addr)/\(∀L,L≠c.bV o.addr->(oJ c o val).1 L=val L)/\(if o.aS=2 then 0 else e.word (c.dI o.addr))=(oJ c o val).2/\
  (eU e o (c.dI o.addr)).back=e.back/\(eU e o (c.dI o.addr)).fwd=e.fwd/\(eU e o (c.dI o.addr)).dn=e.dn/\(o.aS=1->eU e o (c.dI o.addr)=e):=by
 have b:e.word (c.dI o.addr)=(val (c.bV o.addr)).getD (c.dI o.addr).toNat 0:=by
  unfold Ent.word;rw [if_pos hw,hv]
 unfold eU oJ;rcases hk with hk|⟨hk|hk,hd⟩
 ·rw [if_neg V,if_neg V,if_pos hk,if_neg V];exact⟨hv,λ_ _=>rfl,b,rfl,rfl,rfl,λ_=>rfl⟩
 ·have d:∀x,e.write (c.dI o.addr) x={ e with data:=e.data.set (c.dI o.addr).toNat x }:=λx=>by
   unfold Ent.write;rw [if_pos ⟨hd,hw⟩]
  rw [if_pos hk,if_neg V,if_pos hk,if_pos hk,d];exact⟨by simp only [aK,hv],λL g=>aX g,rfl,rfl,rfl,rfl,λh=>V⟩
 ·have d:∀x,e.write (c.dI o.addr) x={ e with data:=e.data.set (c.dI o.addr).toNat x }:=λx=>by
   unfold Ent.write;rw [if_pos ⟨hd,hw⟩]
  rw [if_neg V,if_pos hk,if_neg V,if_neg V,if_pos hk,if_neg V,d,b];exact⟨by simp only [aK,hv],λL g=>aX g,rfl,rfl,rfl,rfl,λh=>V⟩
def jP {α:Type}{g:Int->α}{j:Int}:dQ g j (g j)=g:=by
 funext k
 by_cases h:k=j
 ·rw [h,aK]
 ·rw [aX h]
def Node.Jv(n:Node):Nat:=n.bQ.ops.length-n.bQ.bH.length
def cZ.uO(m:cZ)(j:Int):Nat:=match m.bF j with
 |some n=>n.Jv
 |none=>0
def cZ.todo(m:cZ)(msg:Int->Out):Nat:=2*pot m.c m.uO (m.abs msg λ_=>[])+m.fab.under
section
variable {m:cZ}{i:Nat}{n n':Node}{f:Fab}{t:List Evn}{msg msg':Int->Out}{val val':Int->List Int}
def D7(h:m.aF[i]?=some n):(m.with_ i n' f t).uO=dQ m.uO i n'.Jv:=by
 funext j
 unfold cZ.uO;rw [Cc h];by_cases b:j=i
 ·rw [if_pos b,b,aK]
 ·rw [if_neg b,aX b]
def Pm(h:m.aF[i]?=some n):m.uO i=n.Jv:=by
 unfold cZ.uO;rw [yL h]
def U3(e:pot m.c (m.with_ i n' f t).uO ((m.with_ i n' f t).abs msg' val')<pot m.c m.uO (m.abs msg val))(g:f.under<=m.fab.under+1):(m.with_ i n' f t).todo msg'<m.todo msg:=by
 have b:(m.with_ i n' f t).todo msg'=2*pot m.c (m.with_ i n' f t).uO ((m.with_ i n' f t).abs msg' val')+f.under:=rfl;have d:m.todo msg=2*pot m.c m.uO (m.abs msg val)+m.fab.under:=rfl;rw [b,d];omega
end
def SL {f:Fab}{i:Int}{q:Port}(hi:f.is i=true):(f.put i q).under+((f.port i).rq.length+(f.port i).an.length)=f.under+(q.rq.length+q.an.length):=by
 have h:=fG hi;obtain⟨b,e⟩:=zaf.1 h;unfold Fab.under Fab.all Fab.put;simp only;have key:∀(l:List Port) (k:Nat) (x:Port),l[k]?=some x->((l.set k q).flatMap λq=>q.rq++q.an).length+(x.rq.length+x.an.length)=(l.flatMap λq=>q.rq++q.an).length+(q.rq.length+q.an.length):=by
  intro l
  induction l with
  |nil=>intro k x h;simp at h
  |cons y l d=>
   intro k x h;cases k with
   |zero=>
    simp only [zaT,zaa] at h;subst h;simp only [zb9,zaD,zaq];omega
   |succ k=>
    simp only [zbf] at h;have:=d k x h;simp only [zca,zaD,zaq];omega
 exact key _ _ _ h
def ac8 {f:Fab}{i:Int}{q:Port}(hi:f.is i=true)(b:q.rq=(f.port i).rq)(d:q.an=(f.port i).an):(f.put i q).all=f.all:=DV (fG hi) b d
def LV {f b:Fab}{i:Int}{r:Bool}{d:Option Pkt}(h:f.take i r=(b,d)):b.under=f.under:=by
 unfold Fab.take at h;split at h
 ·rename_i hi;split at h
  ·cases h;rfl
  ·cases h;unfold Fab.under;rw [ac8 hi (by cases r <;> rfl) (by cases r <;> rfl)]
 ·cases h;rfl
def pJ(f:Fab)(p:Pkt):(f.send p).1.under<=f.under+1:=by
 unfold Fab.send;split
 ·exact za8 _
 ·rename_i h;split
  ·exact za8 _
  ·simp only;have hi:f.is p.src=true:=by
    simp only [zbk,za7,not_or,zcy] at h;exact h.1.2
   have:=SL (q:=(f.port p.src).kR (qR p.aS) ((f.port p.src).sort (qR p.aS)++[p])) hi;cases hk:qR p.aS <;> rw [hk] at this <;> simp [Port.kR,Port.sort] at this ⊢ <;> omega
def Pn {f:Fab}{a b m:Int}(e:∀p∈f.all,f.is p.dst=true)(h:(f.deliver a b m).2=0):(f.deliver a b m).1.under+1=f.under:=by
 unfold Fab.deliver at h ⊢;split at h
 ·cases h
 rename_i v;rw [if_neg v];split at h
 ·cases h
 rename_i p g;split at h
 ·cases h
 rename_i w;split at h
 ·cases h
 rename_i y;simp only [w,y,if_false,zai];have hd:=e p (zan g);obtain⟨q,j⟩:∃q,q=(f.port p.dst).lI (qR p.aS) ((f.port p.dst).ql (qR p.aS)++[p]):=⟨_,rfl⟩
 have ha:(f.put p.dst q).all=f.all:=ac8 hd (by rw [j];cases qR p.aS <;> rfl) (by rw [j];cases qR p.aS <;> rfl);rw [<-j];rw [<-ha] at g;obtain⟨i,req,k',x,o,u,z⟩:=wC (i0:=0) g;rw [za5] at o;unfold Fab.remove;rw [o];simp only;have hi:=EH u;have k:=SL (q:=((f.put p.dst q).port i).drop req k') hi;have A:=wE u;have C:(f.put p.dst q).under=f.under:=by unfold Fab.under;rw [ha]
 rw [A] at k ⊢;have d:=(zaf.1 z).1;cases req <;> simp [Port.drop,Port.kR,Port.sort,List.length_eraseIdx] at k d ⊢ <;> rw [if_pos d] at k <;> omega
section
variable {c:Cfg}{lf:Int->Nat}{a:Abs}{i L:Int}{x:Option Ent}{d':bJ}{msg':Int->Out}{val':Int->List Int}{k:Nat}
def ac9(hi:0<=i/\i<c.aF)(m:0<=L/\L<c.aY)(hm:∀j,j≠i->msg' j=a.msg j)(o:∀b,b≠L->∀y,wt d' b y=wt (a.aI i) b y)(p:33*k+Dp d' (msg' i)+wt d' L x<33*lf i+Dp (a.aI i) (a.msg i)+wt (a.aI i) L (a.ent L i)):
  pot c (dQ lf i k) { a with ent:=dQ a.ent L (oN (a.ent L) i x),aI:=dQ a.aI i d',msg:=msg',val:=val' }<pot c lf a:=by
 refine U1 hi hi m (λj d=>⟨aX d,aX d,hm j d⟩) (λj b h=>?_) ?_
 ·show wt (dQ a.aI i d' j) b (dQ a.ent L (oN (a.ent L) i x) b j)=wt (a.aI j) b (a.ent b j);by_cases d:j=i
  ·subst d;have g:=h.resolve_left λh=>h rfl;rw [aK,aX g];exact o b g _
  ·rw [aX d];by_cases e:b=L
   ·rw [e,aK,fF d]
   ·rw [aX e]
 ·show 33*dQ lf i k i+Dp (dQ a.aI i d' i) (msg' i)+wt (dQ a.aI i d' i) L (dQ a.ent L (oN (a.ent L) i x) L i)<_;rw [aK,aK,aK,gB];exact p
def akr {a':Abs}(hi:0<=i/\i<c.aF)(e:0<c.aY)(d:a'.ent=a.ent)(b:a'.aI=a.aI)(hm:∀j,j≠i->a'.msg j=a.msg j)(k:Dp (a.aI i) (a'.msg i)<Dp (a.aI i) (a.msg i)):pot c lf a'<pot c lf a:=by
 refine U1 (L:=0) hi hi ⟨za6 _,e⟩ (λj g=>⟨rfl,by rw [b],hm j g⟩) (λj m h=>by rw [d,b]) ?_;rw [d,b];omega
def ada {s:Int}{q p:Pkt}{e:Ent}(hi:0<=i/\i<c.aF)(hs:0<=s/\s<c.aF)(m:0<=L/\L<c.aY)(hm:a.msg s=.req p)(o:a.ent L i=some e)(h0:(a.aI s).step≠0)(g:(∃e',x=some e')/\(a.aI s).step≠3∨x=none):
  pot c lf { a with ent:=dQ a.ent L (oN (a.ent L) i x),msg:=dQ a.msg s (.ans q) }<pot c lf a:=by
 refine U1 hs hi m (λj k=>⟨rfl,rfl,aX k⟩) (λj b h=>?_) ?_
 ·show wt (a.aI j) b (dQ a.ent L (oN (a.ent L) i x) b j)=wt (a.aI j) b (a.ent b j);by_cases e:b=L
  ·have k:=h.resolve_right λh=>h e;rw [e,aK,fF k]
  ·rw [aX e]
 ·show 33*lf s+Dp (a.aI s) (dQ a.msg s (.ans q) s)+wt (a.aI i) L (dQ a.ent L (oN (a.ent L) i x) L i)<_;rw [aK,aK,gB,hm,o];unfold Dp;rw [if_neg h0,if_neg h0];have l1:loc (a.aI s).step (.req p)=3:=rfl;have l2:loc (a.aI s).step (.ans q)=if(a.aI s).step=3 then 4 else 1:=rfl;rcases g with⟨⟨e',rfl⟩,g⟩|rfl
  ·rw [l1,l2,if_neg g,akp (e:=e') (e':=e)];omega
  ·rw [l1,l2,ac3];have:=apJ (d:=a.aI i) (L:=L) (e:=e);split <;> omega
end
section
variable {m:cZ}{T:Nat}{i:Nat}{n n':Node}{f:Fab}{t:List Evn}{msg msg':Int->Out}{val val':Int->List Int}
def Gn(h:m.aF[i]?=some n)(b:n'.home=n.home)(hc:∀L,n'.aH.find L=n.aH.find L):
  (m.with_ i n' f t).abs msg' val'={ m.abs msg val with aI:=dQ m.lX i n'.aI,msg:=msg',val:=val' }:=by
 rw [rP (val:=val) (msg:=msg) h b (L:=0) (λL _=>hc L),hc,<-tY h,mO,jP];rfl
def MX.range(X:MX T m)(h:m.aF[i]?=some n):0<=(i:Int)/\(i:Int)<m.c.aF:=by
 have:=X.inv.len;have:=(zaf.1 h).1;omega
def MX.is(X:MX T m){j:Int}(h:0<=j/\j<m.c.aF){f:Fab}(b:f.l.length=m.fab.l.length):f.is j=true:=by
 have:=X.inv.fab.len;unfold Fab.is;simp only [zah,decide_eq_true_eq];omega
def Po(h:m.aF[i]?=some n){o:Opn}(hc:n.bQ.cur=some o):m.opAt i n.bQ.bH.length=some o:=by
 unfold cZ.opAt;rw [yL h];exact hc
def Gp {o:Opn}(hc:n.bQ.cur=some o)(hb:n.bQ.eH=true){v:Int}(h:n'.bQ=n.bQ.C9 v):n'.Jv+1=n.Jv:=by
 have:=(zaf.1 hc).1;unfold Node.Jv;rw [h];unfold Proc.C9;rw [if_pos hb];show n.bQ.ops.length-(n.bQ.bH++[v]).length+1=_;rw [zaq,List.length_singleton];omega
def pK(X:MX T m)(d:m.aF[i]?=some n){L:Int}(e:0<=L/\L<m.c.aY)(g:n'.home=n.home)(h:∀b,b≠L->n'.aH.find b=n.aH.find b)(o:∀b,b≠L->∀y,wt n'.aI b y=wt n.aI b y)(p:f.under<=m.fab.under+1)(hm:∀j:Int,j≠i->msg' j=msg j)
  (q:33*n'.Jv+Dp n'.aI (msg' i)+wt n'.aI L (n'.aH.find L)<33*n.Jv+Dp n.aI (msg i)+wt n.aI L (n.aH.find L)):(m.with_ i n' f t).todo msg'<m.todo msg:=by
 obtain⟨val,hv⟩:∃val:Int->List Int,val=λ_=>[]:=⟨_,rfl⟩
 refine U3 (val:=val) (val':=val) ?_ p;rw [D7 d,rP (msg:=msg) (val:=val) d g h];refine ac9 (c:=m.c) (lf:=m.uO) (a:=m.abs msg val) (L:=L) (x:=n'.aH.find L) (d':=n'.aI) (k:=n'.Jv) (X.range d) e hm (λb e y=>by rw [show(m.abs msg val).aI i=_ from kT d];exact o b e y) ?_;rw [Pm d,show(m.abs msg val).aI i=_ from kT d,show(m.abs msg val).ent L i=_ from tY d _];exact q
def bJ.end_(d:bJ):bJ:={ d with step:=0 }
set_option maxHeartbeats 1000000 in
theorem GInv.answered(X:MX T m)(G:GInv m msg val)(z:m.aF[i]?=some n){g:Fab}{p:Pkt}(ht:m.fab.take i false=(g,some p)):
  ∃msg' val',GInv (m.with_ i (n.answered m.c i g m.trace p).1 (n.answered m.c i g m.trace p).2.1 (n.answered m.c i g m.trace p).2.2) msg' val'/\DZ m.c m.opAt m.trace val (n.answered m.c i g m.trace p).2.2 val'/\(m.with_ i (n.answered m.c i g m.trace p).1 (n.answered m.c i g m.trace p).2.1 (n.answered m.c i g m.trace p).2.2).todo msg'<m.todo msg:=by
 obtain⟨hs,b1,b2,b3,R1,ho,hl⟩:=G.pk.takeA ht;have hc:=X.inv.ok;have NI:=X.inv.bF i n z;have a0:=X.bF i n z;have hi:=X.range z;have hm:(m.abs msg val).msg i=.ans p:=b3;have hd:(m.abs msg val).aI i=n.aI:=kT z;have hQ:=(X.inv.fab.take i false).2 p (by rw [ht]);rcases G.abs.bF i hi.1 hi.2 with⟨_,h⟩|O
 ·rw [hm] at h;cases h
 have K:=O.aj;rw [hd] at K;have bl:=LV ht;have ae:msg i=.ans p:=hm;rcases O.at_ with⟨_,_,h|⟨h,_⟩⟩|C|F
 ·rw [hm] at h;cases h
 ·rw [hm] at h;cases h
 ·-- the aI goes on
  obtain⟨_,H⟩:=G.abs.holder O.aj C hi.1;rw [hd,hm] at H;rw [hd] at C;have bm:=H.ans;have ap:n.aI.step≠0:=V
  have DO:=NI.aI ap;have hv:=G.abs.val n.aI.aj K.1 K.2;have ag:n.aI.aS=1->n.aI.step=1∨n.aI.step=2->(m.abs msg val).ent n.aI.aj i=none:=by
   have:=O.miss;rw [hd] at this;exact this
  obtain⟨ca,d',hA,u⟩:=YT (c:=m.c) NI.aH.aY hi hv (tY z n.aI.aj) K.1 (λh3=>(DO.work h3 V).full) DO.aS ag H;have aq:d'.data.length<=4:=by
   have:=Xj (me:=i) (NI.aH.le hc) a0 (p:=p) (by
    have:=hQ.ok;simp only [Pkt.ok,zah,decide_eq_true_eq] at this;omega)
   rw [hA] at this;exact this
  have a6:0<=d'.id/\d'.id<4096:=by
   have:=O.idr;rw [hd] at this;rw [u.id];exact this
  have a7:0<=d'.aj/\d'.aj<m.c.aY:=by rw [u.aj];exact K
  have ar:(m.abs msg val).msg i≠.wait:=by rw [hm];exact λe=>by cases e
  have aw:d'.aS=((m.abs msg val).aI i).aS:=by rw [hd];exact u.aS
  have ax:d'.id=((m.abs msg val).aI i).id:=by rw [hd];exact u.id
  have ay:dQ msg i .idle i=.idle:=aK;have ai:dQ (dQ msg i .idle) i (.req (d'.ask i (m.c.bf d'.aj)))=dQ msg i (.req (d'.ask i (m.c.bf d'.aj))):=by
   funext k
   by_cases h:k=i
   ·rw [h,aK,aK]
   ·rw [aX h,aX h,aX h]
  have az:1<=g.out:=by
   have:=(mF hc).2.2.2.2.2.1;rw [ho,X.inv.fab.out];exact this.1
  have send:∀{E:uQ} {r:Row} {v:List Int},Hold m.c.aF (m.c.bf n.aI.aj) E r v i d' (.req (d'.ask i (m.c.bf n.aI.aj)))->qF (g.send (d'.ask i (m.c.bf d'.aj))).1 (dQ msg i (.req (d'.ask i (m.c.bf d'.aj)))):=λH'=>by
   rw [<-u.aj] at H';obtain⟨a1,a2,a3,a4,a5⟩:=akq hc hi H' a7 a6 aq;have:=R1.apH (p:=d'.ask i (m.c.bf d'.aj)) (by rw [a3,ay];exact λq e=>by cases e) (by rw [a3,ay];exact λq e=>by cases e) a1 a2 (by rw [a3];exact X.is hi hl) (X.is ⟨a4,a5⟩ hl) az;rw [a3,ai] at this;exact this.2
  rcases u.next with⟨aD,H'⟩|⟨h6,h3,e,he,a8,M⟩
  ·-- no operation ends
   have w:n.answered m.c i g m.trace p=({ n with aH:=ca,aI:=d' },(g.send (d'.ask i (m.c.bf d'.aj))).1,m.trace):=by
    unfold Node.answered;rw [hA];simp only [zbQ,if_false,if_neg u.step,if_neg aD];rfl
   rw [w];refine⟨dQ msg i (.req (d'.ask i (m.c.bf d'.aj))),val,⟨?_,send H'⟩,.same,pK X z K rfl u.other (λL' A y=>by
    rw [x8 (.inr (.inr (.inl (by show d'.aj≠_;rw [u.aj];exact λe=>A e.symm)))),x8 (.inr (.inr (.inl λe=>A e.symm)))]) (by have:=pJ g (d'.ask i (m.c.bf d'.aj));dsimp only;omega) (λj hj=>aX hj) (by
    rw [aK,ae];have:=u.fall p (d'.ask i (m.c.bf d'.aj)) aD;show 33*n.Jv+Dp d' _+wt d' _ (ca.find _)<_;omega)⟩
   show oO m.c ((m.with_ i { n with aH:=ca,aI:=d' } (g.send (d'.ask i (m.c.bf d'.aj))).1 m.trace).abs (dQ msg i (.req (d'.ask i (m.c.bf d'.aj)))) val);rw [rP (n':={ n with aH:=ca,aI:=d' }) (msg:=msg) (val:=val) z rfl (L:=n.aI.aj) u.other];have:=G.abs.goes (x:=ca.find n.aI.aj) (v:=val n.aI.aj) (d:=d') hi K C ar hv u.aj aw ax (λa b=>u.miss a b) H';have a9:dQ (m.abs msg val).val n.aI.aj (val n.aI.aj)=val:=jP;rw [a9,<-u.aj] at this;rw [<-u.aj];exact this
  ·-- an operation ends
   have ba:n.aI.aS≠3:=by rw [<-u.aS];exact h3
   have W:=DO.work ba V;obtain⟨o,o1,o2,o3,o4⟩:=W.op;have al:=OY NI.aH DO ap hQ (by rw [<-sZ];exact hA);have Q:=(iL al.inv.aY).1 he;have E_:=al.inv.ent e Q.1;have D:=NI.bQ.right o (zan o1);have hw:0<=m.c.dI o.addr/\m.c.dI o.addr<m.c.bI:=⟨(aqa hc D.1).wlo,(aqa hc D.1).whi⟩
   have bp:=E_.dat.1;have bb:o.aS=1∨((o.aS=2∨o.aS=3)/\e.dn=true):=by
    rcases M with⟨k1,_⟩|⟨k2,aE,_⟩
    ·exact .inl (o3 k1)
    ·exact .inr ⟨o4 k2,aE⟩
   obtain⟨w1,w2,w3,w4,w5,w6,w7⟩:=ac7 (c:=m.c) (val:=val) bb (by rw [o2];exact a8) V;have y:=rM e o (m.c.dI o.addr);have R:=yK al.inv.aY (e:=eU e o (m.c.dI o.addr)) (x:=e) (by rw [y.1];exact E_.lo) (by rw [y.1,Q.2];exact he);have am:({ eU e o (m.c.dI o.addr) with used:=e.used }:Ent)=eU e o (m.c.dI o.addr):=by rw [<-y.2.1]
   have ao:n.bQ.op=o:=by unfold Proc.op;rw [o1];rfl
   have aa:n.bQ.idx=n.bQ.bH.length:=by unfold Proc.idx;rw [o1]
   have w:n.answered m.c i g m.trace p=({ n with aH:=(ca.put (eU e o (m.c.dI o.addr))).1,aI:=d',bQ:=n.bQ.C9 (if o.aS=2 then 0 else e.word (m.c.dI o.addr)) },(g.send (d'.ask i (m.c.bf d'.aj))).1,m.trace++[⟨i,n.bQ.bH.length,true,if o.aS=2 then 0 else e.word (m.c.dI o.addr)⟩]):=by
    unfold Node.answered;rw [hA];simp only [zbQ,if_false,if_neg u.step,if_pos (show d'.step=6/\d'.aS≠3 from⟨h6,h3⟩)];unfold Node.effect Node.done;simp only [ao,o2,he,zaw,aa];rfl
   rw [w];have hx:(ca.put (eU e o (m.c.dI o.addr))).1.find n.aI.aj=some (eU e o (m.c.dI o.addr)):=by
    rw [R,if_pos (by rw [y.1,Q.2]),am]
   have bc:(oJ m.c o val).1 n.aI.aj≠[]:=by
    rw [<-o2,<-w1];intro h0;have h1:=y.2.2.2;rw [h0] at h1;simp only [zao] at h1;omega
   have H':Hold m.c.aF (m.c.bf n.aI.aj) (oN ((m.abs msg val).ent n.aI.aj) i (some (eU e o (m.c.dI o.addr)))) ((m.abs msg val).row n.aI.aj) ((oJ m.c o val).1 n.aI.aj) i d' (.req (d'.ask i (m.c.bf n.aI.aj))):=by
    rcases M with⟨k1,Hc⟩|⟨k2,aE,Hc⟩
    ·have be:(oJ m.c o val).1 n.aI.aj=val n.aI.aj:=by
      unfold oJ;rw [if_pos (o3 k1)]
     rw [w7 (o3 k1),be];exact Hc
    ·have:=Hc (eU e o (m.c.dI o.addr)) w4 w5 w6;rw [w1,o2] at this;exact this
   refine⟨dQ msg i (.req (d'.ask i (m.c.bf d'.aj))),(oJ m.c o val).1,⟨?_,send H'⟩,?_,pK X z K rfl (λL A=>by
     show(ca.put _).1.find L=_;rw [R,if_neg (by rw [y.1,Q.2];exact A)];exact u.other L A) (λL' A y=>by
    rw [x8 (.inr (.inr (.inl (by show d'.aj≠_;rw [u.aj];exact λe=>A e.symm)))),x8 (.inr (.inr (.inl λe=>A e.symm)))]) (by have:=pJ g (d'.ask i (m.c.bf d'.aj));dsimp only;omega) (λj hj=>aX hj) ?_⟩
   ·have aL:=rP (m:=m) (n:=n) (n':={ n with aH:=(ca.put (eU e o (m.c.dI o.addr))).1,aI:=d',bQ:=n.bQ.C9 (if o.aS=2 then 0 else e.word (m.c.dI o.addr)) }) (f:=(g.send (d'.ask i (m.c.bf d'.aj))).1) (t:=m.trace++[⟨i,n.bQ.bH.length,true,if o.aS=2 then 0 else e.word (m.c.dI o.addr)⟩]) (msg:=msg) (val:=val) (msg':=dQ msg i (.req (d'.ask i (m.c.bf d'.aj)))) (val':=(oJ m.c o val).1) z rfl (L:=n.aI.aj) (λL A=>by
     show(ca.put _).1.find L=_;rw [R,if_neg (by rw [y.1,Q.2];exact A)];exact u.other L A)
    rw [aL];simp only [hx];have:=G.abs.goes (x:=some (eU e o (m.c.dI o.addr))) (v:=(oJ m.c o val).1 n.aI.aj) (d:=d') hi K C ar bc u.aj aw ax (λ_ b=>V) H';have bh:dQ val n.aI.aj ((oJ m.c o val).1 n.aI.aj)=(oJ m.c o val).1:=by
     funext L
     by_cases A:L=n.aI.aj
     ·rw [A,aK]
     ·rw [aX A,w2 L (by rw [o2];exact A)]
    have bj:dQ (m.abs msg val).val n.aI.aj ((oJ m.c o val).1 n.aI.aj)=(oJ m.c o val).1:=bh;rw [bj,<-u.aj] at this;rw [<-u.aj];exact this
   ·rw [w3];exact .done i n.bQ.bH.length o (Po z o1) .same
   ·rw [aK,ae];have ht:=Gp (n':={ n with aH:=(ca.put (eU e o (m.c.dI o.addr))).1,aI:=d',bQ:=n.bQ.C9 (if o.aS=2 then 0 else e.word (m.c.dI o.addr)) }) o1 W.eH rfl;have hD:Dp d' (.req (d'.ask i (m.c.bf d'.aj)))=16:=by
     unfold Dp;rw [if_neg V,if_pos (.inr h6),h6];rfl
    have:=ako (d:=d') (L:=n.aI.aj) (x:=(ca.put (eU e o (m.c.dI o.addr))).1.find n.aI.aj)
    dsimp only at ht ⊢
    omega
 ·-- the aI is over
  obtain⟨f1,f2,f3⟩:=F;have F':asT m.c (m.abs msg val) i:=⟨f1,f2,f3⟩
  rw [hd] at f1;rw [hm,hd] at f3;have hp:p=afz m.c n.aI i:=Out.ans.inj f3;have ab:n.aI.fits p=true:=ac5 (by rw [hp,f1];rfl) (by rw [hp];rfl) (by rw [hp];rfl) V;have DO:=NI.aI V;have hA:n.after i p=(n.aH,n.aI.end_,true):=by
   unfold Node.after;by_cases k1:n.aI.aS=1
   ·rw [if_pos k1];unfold dY;rw [if_neg (by rw [k1,ab];simp),if_neg V,if_neg V,if_pos f1];rfl
   ·rw [if_neg k1];by_cases k2:n.aI.aS=2
    ·rw [if_pos k2];unfold dZ;rw [if_neg (by rw [k2,ab];simp),if_neg V,if_neg V,if_pos f1];rfl
    ·have k3:n.aI.aS=3:=by have:=DO.aS;omega
     rw [if_neg k2,if_pos k3];unfold eG;rw [if_neg (by rw [k3,ab];simp),if_neg V,if_neg V,if_neg V,if_pos f1];rfl
  have aM:=G.abs.over hi F' (d:=n.aI.end_) rfl;have af:∀L' y,wt n.aI.end_ L' y=wt n.aI L' y:=λL' y=>by rw [x8 (.inl rfl),x8 (.inr (.inl f1))]
  have hD:Dp n.aI (.ans p)=14:=by
   unfold Dp;rw [if_neg V,if_pos (.inr f1),f1];rfl
  have hE:Dp n.aI.end_ .idle=13:=rfl;by_cases ad:n.aI.aS=3/\n.bQ.op.aS=4
  ·have aR:∃o,n.bQ.cur=some o:=by
    cases h:n.bQ.cur with
    |some o=>exact⟨o,rfl⟩
    |none=>
     have:=ad.2;unfold Proc.op at this;rw [h] at this;exact absurd this Z
   obtain⟨o,o1⟩:=aR;have ao:n.bQ.op=o:=by unfold Proc.op;rw [o1];rfl
   have aa:n.bQ.idx=n.bQ.bH.length:=by unfold Proc.idx;rw [o1]
   have w:n.answered m.c i g m.trace p=({ n with aI:=n.aI.end_,bQ:=n.bQ.C9 0 },g,m.trace++[⟨i,n.bQ.bH.length,true,0⟩]):=by
    unfold Node.answered;rw [hA];simp only [zbQ,if_false,show n.aI.end_.step=0 from rfl,if_true,show n.aI.end_.aS=n.aI.aS from rfl,if_pos ad];unfold Node.done;simp only [aa]
   rw [w];refine⟨dQ msg i .idle,val,⟨?_,R1⟩,?_,pK X z K rfl (λ_ _=>rfl) (λL' _ y=>af L' y) (by dsimp only;omega) (λj hj=>aX hj) (by
    rw [aK,ae];have ht:=Gp (n':={ n with aI:=n.aI.end_,bQ:=n.bQ.C9 0 }) o1 (DO.roll ad.1) rfl
    dsimp only at ht ⊢
    rw [af,hD,hE];omega)⟩
   ·show oO m.c ((m.with_ i { n with aI:=n.aI.end_,bQ:=n.bQ.C9 0 } g _).abs (dQ msg i .idle) val);rw [Gn (n':={ n with aI:=n.aI.end_,bQ:=n.bQ.C9 0 }) (msg:=msg) (val:=val) z rfl (λ_=>rfl)];exact aM
   ·have bk:oJ m.c o val=(val,0):=by
     have:o.aS=4:=by rw [<-ao];exact ad.2
     unfold oJ;rw [if_neg V,if_neg V,if_neg V]
    have:=DZ.done (c:=m.c) (P:=m.opAt) i n.bQ.bH.length o (Po z o1) (.same (t:=m.trace) (v:=val));rw [bk] at this;exact this
  ·have w:n.answered m.c i g m.trace p=({ n with aI:=n.aI.end_ },g,m.trace):=by
    unfold Node.answered;rw [hA];simp only [zbQ,if_false,show n.aI.end_.step=0 from rfl,if_true,show n.aI.end_.aS=n.aI.aS from rfl,if_neg ad]
   rw [w];refine⟨dQ msg i .idle,val,⟨?_,R1⟩,.same,pK X z K rfl (λ_ _=>rfl) (λL' _ y=>af L' y) (by dsimp only;omega) (λj hj=>aX hj) (by
    rw [aK,ae]
    dsimp only
    rw [af,hD,hE];show 33*n.Jv+_+_<_;omega)⟩
   show oO m.c ((m.with_ i { n with aI:=n.aI.end_ } g _).abs (dQ msg i .idle) val);rw [Gn (n':={ n with aI:=n.aI.end_ }) (msg:=msg) (val:=val) z rfl (λ_=>rfl)];exact aM
end
def U4 {k s d id l b st:Int}{fl:Bool}{x:List Int}(h:((0<=s/\s<6)/\0<=d/\d<6)/\(0<=id/\id<4096)/\(1<=k/\k<10)/\(0<=l/\l<8)/\(-1<=b/\b<6)/\(0<=st/\st<3)/\x.length<=4):(⟨k,s,d,id,l,b,st,fl,x⟩:Pkt).ok=true:=by
 obtain⟨⟨⟨e,g⟩,i,j⟩,⟨m,o⟩,⟨p,q⟩,⟨u,ha⟩,⟨hb,hc⟩,⟨hd,v⟩,w⟩:=h;simp [Pkt.ok,e,g,i,j,m,o,p,q,u,ha,hb,hc,hd,v,w]
inductive SN (N hm:Int) (E:uQ) (r:Row) (v:List Int) (s:Int) (d:bJ) (p:Pkt) (e:Ent):Prop
 |attach:p.aS=3->Hold N hm (oN E p.dst (some { e with dn:=false,back:=p.ptr })) r v s d (.ans ⟨9,p.dst,p.src,p.id,p.aj,0,0,e.dn,e.data⟩)->SN N hm E r v s d p e
 |front:p.aS=4->Hold N hm (oN E p.dst (some { e with fwd:=p.ptr })) r v s d (.ans ⟨8,p.dst,p.src,p.id,p.aj,0,0,false,[]⟩)->SN N hm E r v s d p e
 |behind:p.aS=5->Hold N hm (oN E p.dst (some { e with back:=p.ptr })) r v s d (.ans ⟨8,p.dst,p.src,p.id,p.aj,0,0,false,[]⟩)->SN N hm E r v s d p e
 |JH:p.aS=6->-1<=e.fwd/\e.fwd<N->Hold N hm (oN E p.dst none) r v s d (.ans ⟨9,p.dst,p.src,p.id,p.aj,e.fwd,0,e.dn,e.data⟩)->SN N hm E r v s d p e
def Rng.afA {N:Int}{l:List Int}(h:Rng N l)(d:0<N):-1<=hdI l (-1)/\hdI l (-1)<N:=by
 by_cases b:l=[]
 ·rw [b];exact⟨za6 _,by show(-1:Int)<N;omega⟩
 ·have:=h.2 _ (h.hd b).1;omega
def apL {N hm:Int}{E:uQ}{r:Row}{v:List Int}{s:Int}{d:bJ}{p:Pkt}(hN:0<N)(H:Hold N hm E r v s d (.req p))(hk:3<=p.aS/\p.aS<=6):∃e,E p.dst=some e/\SN N hm E r v s d p e:=by
 obtain⟨hp,_,_⟩:=H.req;have hq:∃q,Out.req p=q/\Hold N hm E r v s d q:=⟨_,rfl,H⟩
 obtain⟨q,hq,H⟩:=hq;cases H with
 |attach k1 k2 k3 k4 W=>
  have e:p=⟨3,s,d.head,d.id,d.aj,s,0,false,[]⟩:=by rw [hp];unfold bJ.ask;simp [k1]
  obtain⟨x,h1,h2⟩:=SB (hm:=hm) k1 k2 k3 k4 W;exact⟨x,by rw [e];exact h1,.attach (by rw [e]) (by rw [e];exact h2)⟩
 |JH k1 k2 L k3 k4=>
  have e:p=⟨6,s,d.next,d.id,d.aj,0,0,false,[]⟩:=by rw [hp];unfold bJ.ask;simp [k1]
  obtain⟨x,h1,h2⟩:=UZ (hm:=hm) (r:=r) k1 k2 L k3 k4;have hx:-1<=x.fwd/\x.fwd<N:=by
   obtain⟨⟨y,hy,hf⟩,_⟩:=L.ch;rw [h1] at hy;cases hy;rw [hf];exact Rng.afA ⟨(za1.1 L.rng.1).2,λj hj=>L.rng.2 j (by simp [hj])⟩ hN
  exact⟨x,by rw [e];exact h1,.JH (by rw [e]) hx (by rw [e];exact h2)⟩
 |front k1 k2 M k3 C k4 k5 k6=>
  have e:p=⟨4,s,d.head,d.id,d.aj,d.next,0,false,[]⟩:=by rw [hp];unfold bJ.ask;simp [k1]
  obtain⟨x,h1,h2⟩:=U0 (hm:=hm) k1 k2 M k3 C k4 k5 k6;exact⟨x,by rw [e];exact h1,.front (by rw [e]) (by rw [e];exact h2)⟩
 |behind k1 k2 M k3 C C' k4 k5 k6=>
  have e:p=⟨5,s,d.next,d.id,d.aj,d.head,0,false,[]⟩:=by rw [hp];unfold bJ.ask;simp [k1]
  obtain⟨x,h1,h2⟩:=SC (hm:=hm) k1 k2 M k3 C C' k4 k5 k6;exact⟨x,by rw [e];exact h1,.behind (by rw [e]) (by rw [e];exact h2)⟩
 |unlock k1 W=>
  have e:p.aS=2:=by rw [hp];unfold bJ.ask;simp [k1]
  omega
 |granted _ _=>cases hq
 |attached _ _ _ _ _ _ _ _ _ _=>cases hq
 |Jo _ _ _ _ _=>cases hq
 |Aa _ _ _ _ _ _ _ _ _=>cases hq
 |wz _ _ _ _ _ _ _ _ _=>cases hq
section
variable {m:cZ}{T:Nat}{i:Nat}{n n':Node}{f:Fab}{t:List Evn}{msg msg':Int->Out}{val val':Int->List Int}
def asZ {α:Type}{g:Int->α}{j:Int}{x y:α}:dQ (dQ g j x) j y=dQ g j y:=by
 funext k
 by_cases h:k=j
 ·rw [h,aK,aK]
 ·rw [aX h,aX h,aX h]
def adb(X:MX T m)(b:m.aF[i]?=some n)(L:Int):(jr n.home.dK L).data.length<=4:=by
 have d:=X.inv.bF i n b;have:=(mF X.inv.ok).2.2.1;unfold jr;cases h:jE n.home.dK L with
 |none=>exact zaW _
 |some r=>
  have:=(d.dK _ (mY h)).1;simp only [zaw] at*;omega
def Pq {d:bJ}(h0:d.step≠0)(b:d.step≠3)(p q:Pkt):Dp d (.ans q)<Dp d .wait/\Dp d .wait<Dp d (.req p):=by
 unfold Dp loc;simp only [if_neg h0,if_neg b];omega
def Ce(X:MX T m)(b:m.aF[i]?=some n)(d:n'.aH=n.aH)(e:n'.aI=n.aI)(g:n'.bQ=n.bQ){s:Int}(hs:0<=s/\s<m.c.aF)(hm:∀j,j≠s->msg' j=msg j)(hd:Dp (m.lX s) (msg' s)<Dp (m.lX s) (msg s))(h:f.under<=m.fab.under+1):(m.with_ i n' f t).todo msg'<m.todo msg:=by
 obtain⟨val,hv⟩:∃val:Int->List Int,val=λ_=>[]:=⟨_,rfl⟩
 refine U3 (val:=val) (val':=val) ?_ h;have k:n'.Jv=m.uO i:=by rw [Pm b];unfold Node.Jv;rw [g]
 rw [D7 b,k,jP];refine akr (i:=s) hs (by have:=(mF X.inv.ok).2.1;omega) ?_ ?_ hm hd
 ·show(m.with_ i n' f t).Gl=m.Gl
  funext L
  rw [Ju b,d,<-tY b L,mO]
 ·show(m.with_ i n' f t).lX=m.lX;rw [DW b,e,<-kT b,jP]
def YU(X:MX T m)(b:m.aF[i]?=some n){L s:Int}{x:Option Ent}{e:Ent}{p q:Pkt}{ca:Cache}(hs:0<=s/\s<m.c.aF)(j:0<=L/\L<m.c.aY)(k:∀d,d≠L->ca.find d=n.aH.find d)(o:ca.find L=x)(hm:msg s=.req p)(u:n.aH.find L=some e)(h0:(m.lX s).step≠0)(v:(∃e',x=some e')/\(m.lX s).step≠3∨x=none)(w:f.under<=m.fab.under+1):(m.with_ i { n with aH:=ca } f t).todo (dQ msg s (.ans q))<m.todo msg:=by
 obtain⟨val,hv⟩:∃val:Int->List Int,val=λ_=>[]:=⟨_,rfl⟩
 refine U3 (val:=val) (val':=val) ?_ w;have g:dQ m.lX i n.aI=m.lX:=by rw [<-kT b,jP]
 have h:dQ m.uO i n.Jv=m.uO:=by rw [<-Pm b,jP]
 rw [D7 b,show Node.Jv { n with aH:=ca }=n.Jv from rfl,h,rP (n':={ n with aH:=ca }) (msg:=msg) (val:=val) b rfl k];simp only [o,g];exact ada (a:=m.abs msg val) (X.range b) hs j hm ((tY b L).trans u) h0 v
def GInv.grant(X:MX T m)(G:GInv m msg val)(k:m.aF[i]?=some n)(hr:n.home.ready≠[])(u:0<m.fab.roomOf i false):
  ∃msg',GInv (m.with_ i { n with home:=(n.home.grant i).1 } (m.fab.send (n.home.grant i).2.1).1 t) msg' val/\(m.with_ i { n with home:=(n.home.grant i).1 } (m.fab.send (n.home.grant i).2.1).1 t).todo msg'<m.todo msg:=by
 have hc:=X.inv.ok;have C:=X.inv.bF i n k;have hi:=X.range k;cases v:n.home.ready with
 |nil=>exact absurd v hr
 |cons L l=>
  obtain⟨r1,r2,r3⟩:=xJ v;obtain⟨e,he,rfl⟩:=zaJ.1 r3;have D:=C.home.here e he;unfold lJ at D;simp only [zah,decide_eq_true_eq] at D;obtain⟨⟨l0,l1⟩,l2⟩:=D;have A:m.c.bf e.1=i:=by unfold Cfg.bf yZ;rw [if_neg V];exact l2
  have o:n.home.aT.owner e.1=-1:=Classical.byContradiction λh=>by
   have:=(C.home.aT.owned e.1).2 h;rw [r1] at this;cases this
  cases y:n.home.aT.ws e.1 with
  |nil=>exact absurd y r2
  |cons w ws=>
   obtain⟨E,t2,t3⟩:=YS C.home.aT o y;have ho:(m.abs msg val).own e.1=-1:=by show(m.mP e.1).aT.owner e.1=-1;rw [ng k A];exact o
   have hw:(m.abs msg val).ws e.1=w::ws:=by show(m.mP e.1).aT.ws e.1=_;rw [ng k A];exact y
   have b:(m.abs msg val).row e.1=jr n.home.dK e.1:=by show jr (m.mP e.1).dK e.1=_;rw [ng k A]
   obtain⟨d,g,I'⟩:=G.abs.grant ⟨l0,l1⟩ ho hw;have F:n.home.grant i=({ n.home with aT:=(n.home.aT.next e.1).1 },granted n.home.dK i e.1 w.1 w.2,true):=by
    unfold Home.grant;rw [v];simp only;cases hx:n.home.aT.next e.1 with
    |mk tt ww=>
     rw [hx] at E;simp only at E;rw [E]
   rw [F];have hO:akm m.c (m.abs msg val) w.1:=by
    rcases G.abs.bF w.1 d.1 d.2 with⟨_,h⟩|O
    ·rw [g] at h;cases h
    ·exact O
   have H:((m.abs msg val).aI w.1).id=w.2:=((G.abs.ws e.1).2 w (by rw [hw];simp)).2.2.2.2.1;obtain⟨lw,W⟩:∃lw,Wf m.c.aF ((m.abs msg val).ent e.1) ((m.abs msg val).row e.1) ((m.abs msg val).val e.1) lw:=by
    rcases G.abs.aj e.1 l0 l1 with⟨_,h⟩|⟨h,_⟩
    ·exact h
    ·omega
   obtain⟨cn,cl,_⟩:=mF hc;have ad:=W.rng.afA V;have K:=W.st;have z:=W.head;rw [b] at K z;have M:=hO.idr;rw [H] at M;have aa:=adb X k e.1;have Q:(granted n.home.dK i e.1 w.1 w.2).ok=true:=by
    exact U4 V
   have R:=G.pk.YQ (p:=granted n.home.dK i e.1 w.1 w.2) (λq h=>by rw [show(granted n.home.dK i e.1 w.1 w.2).dst=w.1 from rfl] at h;exact absurd (g.symm.trans h) (λe=>by cases e)) (λq h=>by rw [show(granted n.home.dK i e.1 w.1 w.2).dst=w.1 from rfl] at h;exact absurd (g.symm.trans h) (λe=>by cases e)) Q rfl (X.is hi rfl) (X.is d rfl) u;have ab:((m.abs msg val).aI w.1).step=1:=((G.abs.ws e.1).2 w (by rw [hw];simp)).2.2.2.2.2;refine⟨_,⟨?_,R.2⟩,Ce X k rfl rfl rfl d (λj hj=>aX hj) (by
    rw [show(granted n.home.dK i e.1 w.1 w.2).dst=w.1 from rfl,aK,show msg w.1=.wait from g];exact(Pq (by show((m.abs msg val).aI w.1).step≠0;omega) (by show((m.abs msg val).aI w.1).step≠3;omega) .zero _).1) (pJ _ _)⟩
   show oO m.c ((m.with_ i { n with home:={ n.home with aT:=(n.home.aT.next e.1).1 } } (m.fab.send (granted n.home.dK i e.1 w.1 w.2)).1 t).abs _ val);rw [Gm (n':={ n with home:={ n.home with aT:=(n.home.aT.next e.1).1 } }) (msg:=msg) k (λ_=>rfl) rfl A (λ_ _=>rfl) (λL' h=>by show(n.home.aT.next e.1).1.owner L'=_;rw [t2,if_neg h]) (λL' h=>by show(n.home.aT.next e.1).1.ws L'=_;rw [t3,if_neg h])];have a1:dQ (m.abs msg val).row e.1 (jr n.home.dK e.1)=(m.abs msg val).row:=by rw [<-b,jP]
   simp only [a1,t2,t3,if_true];have a2:granted n.home.dK i e.1 w.1 w.2=⟨7,m.c.bf e.1,w.1,w.2,e.1,((m.abs msg val).row e.1).head,((m.abs msg val).row e.1).aW,false,((m.abs msg val).row e.1).data⟩:=by
    rw [b,A];rfl
   rw [a2];exact I'
set_option maxHeartbeats 1000000 in
theorem GInv.asked(X:MX T m)(G:GInv m msg val)(F:m.aF[i]?=some n){z:Fab}{p:Pkt}(ht:m.fab.take i true=(z,some p))(ai:0<m.fab.roomOf i false):
  ∃msg',GInv (m.with_ i (n.asked m.c i z p).1 (n.asked m.c i z p).2 t) msg' val/\(m.with_ i (n.asked m.c i z p).1 (n.asked m.c i z p).2 t).todo msg'<m.todo msg:=by
 obtain⟨hs,b1,b2,b3,R1,ho,hl,ba⟩:=G.pk.asU ht;have hc:=X.inv.ok;obtain⟨cn,cl,_⟩:=mF hc;have R:=X.inv.bF i n F;have hi:=X.range F;have g:0<=p.src/\p.src<m.c.aF:=by
  have:=G.pk.rg _ p (.inl b3);have bu:=X.inv.fab.len;unfold Fab.is at this;simp only [zah,decide_eq_true_eq] at this;omega
 have aa:(m.abs msg val).msg p.src=.req p:=b3;have hQ:=(X.inv.fab.take i true).2 p (by rw [ht]);obtain⟨O,p1,p2,p3,p4⟩:=G.abs.req g aa;have al:=hQ.ok;have bb:=al;simp only [Pkt.ok,zah,decide_eq_true_eq] at bb;have OL:=O.aj;rw [p2] at OL;have C:p.aS=AL ((m.abs msg val).aI p.src).step:=(congrArg Pkt.aS p1).trans (lN p3).1;have ae:0<z.roomOf i false:=by rw [ba];exact ai
 have ay:dQ msg p.src .idle p.src=.idle:=aK;have YQ:∀q:Pkt,q.ok=true->qR q.aS=false->q.src=i->q.dst=p.src->qF (z.send q).1 (dQ msg p.src (.ans q)):=λq h1 h2 h3 h4=>by
  have:=R1.YQ (p:=q) (by rw [h4,ay];exact λx e=>by cases e) (by rw [h4,ay];exact λx e=>by cases e) h1 h2 (by rw [h3];exact X.is hi hl) (by rw [h4];exact X.is g hl) (by rw [h3];exact ae);rw [h4,asZ] at this;exact this.2
 -- the atz requests
 have am:p.aS=1∨p.aS=2->m.c.bf p.aj=i:=λh=>by
  have bc:((m.abs msg val).aI p.src).step=1∨((m.abs msg val).aI p.src).step=6:=by
   have:((m.abs msg val).aI p.src).step=1∨((m.abs msg val).aI p.src).step=2∨((m.abs msg val).aI p.src).step=3∨((m.abs msg val).aI p.src).step=4∨((m.abs msg val).aI p.src).step=5∨((m.abs msg val).aI p.src).step=6:=V
   rw [C] at h;rcases this with e|e|e|e|e|e <;> simp [e,AL] at h ⊢
  have az:p.dst=m.c.bf p.aj:=by
   have h1:=congrArg Pkt.dst p1;unfold bJ.ask at h1;rcases bc with e|e
   ·simpa [e] using h1
   ·simpa [e] using h1
  rw [<-az];exact b1
 have bv:=LV ht;have A:p.aS≠6->((m.abs msg val).aI p.src).step≠3:=λh e=>h (by rw [C,e];rfl);by_cases hk:p.aS=1∨p.aS=2
 ·have D:=am hk;have A:=A V;have aD:∀L,m.c.bf L=i->(m.abs msg val).own L=n.home.aT.owner L/\(m.abs msg val).ws L=n.home.aT.ws L/\(m.abs msg val).row L=jr n.home.dK L:=λL h=>by
   refine⟨?_,?_,?_⟩
   ·show(m.mP L).aT.owner L=_;rw [ng F h]
   ·show(m.mP L).aT.ws L=_;rw [ng F h]
   ·show jr (m.mP L).dK L=_;rw [ng F h]
  obtain⟨ao,aw,ar⟩:=aD p.aj D;have aE:dQ (m.abs msg val).row p.aj (jr n.home.dK p.aj)=(m.abs msg val).row:=by rw [<-ar,jP]
  have be:dQ (m.abs msg val).own p.aj (n.home.aT.owner p.aj)=(m.abs msg val).own:=by rw [<-ao,jP]
  have aL:dQ (m.abs msg val).ws p.aj (n.home.aT.ws p.aj)=(m.abs msg val).ws:=by rw [<-aw,jP]
  have M:¬((!(p.ok && decide (p.dst=(i:Int)) && decide (p.src<m.c.aF)) || (decide (p.aS≠1) && decide (p.aS≠2)))=true):=by
   rcases hk with h|h <;> simp [al,b1,g.2,h]
  rcases hk with ab|aM
  ·by_cases v:n.home.aT.owner p.aj=-1/\n.home.aT.ws p.aj=[]
   ·obtain⟨t1,t2,t3⟩:=JM (id:=p.id) R.home.aT g.1 v.1 v.2;have hh:n.home.handle m.c i p=({ n.home with aT:=(n.home.aT.ask p.aj p.src p.id).1 },granted n.home.dK i p.aj p.src p.id,true,0):=by
     unfold Home.handle;rw [if_neg M,if_neg (by rw [D];omega),if_pos ab];simp only [t1,if_true]
    have w:n.asked m.c i z p=({ n with home:={ n.home with aT:=(n.home.aT.ask p.aj p.src p.id).1 } },(z.send (granted n.home.dK i p.aj p.src p.id)).1):=by
     unfold Node.asked;rw [if_pos (.inl ab),hh];simp
    rw [w];have I':=G.abs.lock g aa ab (by rw [ao];exact v.1);obtain⟨lw,W⟩:∃lw,Wf m.c.aF ((m.abs msg val).ent p.aj) ((m.abs msg val).row p.aj) ((m.abs msg val).val p.aj) lw:=by
     rcases G.abs.aj p.aj OL.1 OL.2 with⟨_,h⟩|⟨h,_⟩
     ·exact h
     ·have:=v.1;omega
    have aR:=W.rng.afA V;have a0:=W.st;have ap:=W.head;rw [ar] at a0 ap;have a1:=adb X F p.aj;have aq:(granted n.home.dK i p.aj p.src p.id).ok=true:=by
     exact U4 V
    refine⟨_,⟨?_,YQ _ aq rfl rfl rfl⟩,Ce X F rfl rfl rfl g (λj hj=>aX hj) (by
    rw [aK,show msg p.src=.req p from b3];have:=Pq O.step A p;exact Nat.lt_trans (this _).1 (this .zero).2) (by dsimp only;exact zax (pJ _ _) V)⟩
    show oO m.c ((m.with_ i { n with home:={ n.home with aT:=(n.home.aT.ask p.aj p.src p.id).1 } } _ t).abs _ val);rw [Gm (n':={ n with home:={ n.home with aT:=(n.home.aT.ask p.aj p.src p.id).1 } }) (msg:=msg) F (λ_=>rfl) rfl D (λ_ _=>rfl) (λL' h=>by show(n.home.aT.ask p.aj p.src p.id).1.owner L'=_;rw [t2,if_neg h]) (λL' h=>by show(n.home.aT.ask p.aj p.src p.id).1.ws L'=_;rw [t3])];simp only [aE,t2,t3,if_true,aL];have a2:granted n.home.dK i p.aj p.src p.id=⟨7,m.c.bf p.aj,p.src,p.id,p.aj,((m.abs msg val).row p.aj).head,((m.abs msg val).row p.aj).aW,false,((m.abs msg val).row p.aj).data⟩:=by
     rw [ar,D];rfl
    rw [a2];exact I'
   ·have bh:n.home.aT.owner p.aj≠-1∨n.home.aT.ws p.aj≠[]:=by
     by_cases h:n.home.aT.owner p.aj=-1
     ·exact .inr λh'=>v ⟨h,h'⟩
     ·exact .inl h
    obtain⟨t1,t2,t3⟩:=JO (id:=p.id) R.home.aT g.1 bh;have hh:n.home.handle m.c i p=({ n.home with aT:=(n.home.aT.ask p.aj p.src p.id).1 },.zero,false,0):=by
     unfold Home.handle;rw [if_neg M,if_neg (by rw [D];omega),if_pos ab];simp only [t1,zai,if_false]
    have w:n.asked m.c i z p=({ n with home:={ n.home with aT:=(n.home.aT.ask p.aj p.src p.id).1 } },z):=by
     unfold Node.asked;rw [if_pos (.inl ab),hh];simp
    rw [w];have I':=G.abs.wait g aa ab;have R2:qF z (dQ msg p.src .wait):=by
     have mi:∀j q,(dQ msg p.src .wait j=.req q↔dQ msg p.src .idle j=.req q)/\(dQ msg p.src .wait j=.ans q↔dQ msg p.src .idle j=.ans q):=λj q=>by
      by_cases h:j=p.src
      ·rw [h,aK,aK];exact⟨⟨λe=>(by cases e),λe=>(by cases e)⟩,⟨λe=>(by cases e),λe=>(by cases e)⟩⟩
      ·rw [aX h,aX h];exact⟨Iff.rfl,Iff.rfl⟩
     refine⟨λk q hq=>?_,R1.rn,R1.an,λj q h=>R1.rc j q ((mi j q).1.1 h),λj q h=>R1.ac j q ((mi j q).2.1 h),λj q h=>R1.src j q ((mi j q).1.1 h),λj q h=>R1.dst j q ((mi j q).2.1 h),λj q h=>R1.rg j q (h.imp (mi j q).1.1 (mi j q).2.1)⟩;have P:=R1.port k q hq;exact⟨λx Q=>⟨(P.rq x Q).1,(P.rq x Q).2.1,(mi _ _).1.2 (P.rq x Q).2.2⟩,λx Q=>⟨(P.rin x Q).1,(P.rin x Q).2.1,(mi _ _).1.2 (P.rin x Q).2.2⟩,λx Q=>⟨(P.an x Q).1,(P.an x Q).2.1,(mi _ _).2.2 (P.an x Q).2.2⟩,λx Q=>⟨(P.ain x Q).1,(P.ain x Q).2.1,(mi _ _).2.2 (P.ain x Q).2.2⟩⟩
    refine⟨_,⟨?_,R2⟩,Ce X F rfl rfl rfl g (λj hj=>aX hj) (by
     rw [aK,show msg p.src=.req p from b3];exact(Pq O.step A p .zero).2) (by dsimp only;omega)⟩
    show oO m.c ((m.with_ i { n with home:={ n.home with aT:=(n.home.aT.ask p.aj p.src p.id).1 } } _ t).abs _ val);rw [Gm (n':={ n with home:={ n.home with aT:=(n.home.aT.ask p.aj p.src p.id).1 } }) (msg:=msg) F (λ_=>rfl) rfl D (λ_ _=>rfl) (λL' h=>by show(n.home.aT.ask p.aj p.src p.id).1.owner L'=_;rw [t2]) (λL' h=>by show(n.home.aT.ask p.aj p.src p.id).1.ws L'=_;rw [t3,if_neg h])];simp only [aE,t2,t3,if_true,be];rw [<-aw];exact I'
  ·-- a aj is unlocked
   obtain⟨u1,u2,⟨lw,W⟩,u4,u5,I'⟩:=G.abs.unlock g aa aM;rw [ao] at u1;obtain⟨d,a3⟩:∃d,m.aF[p.src.toNat]?=some d:=⟨_,zab (by have:=X.inv.len;omega)⟩
   have bj:((p.src.toNat:Nat):Int)=p.src:=V
   have y:(m.abs msg val).aI p.src=d.aI:=by
    have:=kT a3;rw [bj] at this;exact this
   have DS:=(X.inv.bF _ d a3).aI (by rw [<-y,u5];decide);have bk:d.aI.data=[]∨(d.aI.data.length:Int)=m.c.bI:=DS.dat.imp id λh=>h.1;have q1:p.aW=d.aI.aW:=by rw [u4,y];unfold bJ.ask;rw [y] at u5;simp [u5]
   have q2:p.ptr=d.aI.head:=by rw [u4,y];unfold bJ.ask;rw [y] at u5;simp [u5]
   have q3:p.flag=decide (d.aI.data≠[]):=by rw [u4,y];unfold bJ.ask;rw [y] at u5;simp [u5]
   have q4:p.data=d.aI.data:=by rw [u4,y];unfold bJ.ask;rw [y] at u5;simp [u5]
   have q5:(if p.flag then p.data else [])=d.aI.data:=by
    rw [q3,q4];by_cases h:d.aI.data=[]
    ·simp [h]
    ·simp [h]
   rw [y] at W I';have bl:lJ m.c i p.aj=true:=by
    unfold lJ;simp only [zah,decide_eq_true_eq];refine⟨⟨OL.1,OL.2⟩,?_⟩;have:=D;unfold Cfg.bf yZ at this;rw [if_neg V] at this;exact this
   obtain⟨K,a4⟩:=X.dK i n F p.aj bl;have bm:jr n.home.dK p.aj=K:=by unfold jr;rw [a4];rfl
   have a0:d.aI.aW=0∨d.aI.aW=1∨d.aI.aW=2:=W.st;have aR:d.aI.head=hdI lw (-1):=W.head;have bw:=W.rng.afA V;have h0:d.aI.aW=0↔d.aI.head=-1:=by
    rw [aR,W.rng.acZ];exact W.st0
   have a5:iP m.c n.home.dK p.aj p.aW p.ptr (if p.flag then p.data else [])=(mV n.home.dK p.aj (jf K d.aI),0):=by
    unfold iP;rw [a4,q1,q2,q5];simp only;rw [if_neg V,if_neg]
    ·rfl
    ·have e1:decide (d.aI.head=-1)=decide (d.aI.aW=0):=by
      by_cases h:d.aI.aW=0
      ·simp [h,h0.1 h]
      ·have:¬d.aI.head=-1:=λe=>h (h0.2 e);simp [h,this]
     rw [e1];rcases bk with h|h
     ·simp [h]
     ·simp [h]
   obtain⟨t1,t2,t3⟩:=Pj R.home.aT g.1 u1;have bp:n.home.unlock m.c p=(⟨mV n.home.dK p.aj (jf K d.aI),(n.home.aT.release p.aj p.src).1⟩,0):=by
    unfold Home.unlock;rw [if_neg (by rw [u1];simp)];simp only [a5,if_true,t1]
   have hh:n.home.handle m.c i p=(⟨mV n.home.dK p.aj (jf K d.aI),(n.home.aT.release p.aj p.src).1⟩,⟨8,i,p.src,p.id,p.aj,0,0,false,[]⟩,true,0):=by
    unfold Home.handle;rw [if_neg M,if_neg (by rw [D];omega),if_neg V];simp only [bp,if_true]
   have w:n.asked m.c i z p=({ n with home:=⟨mV n.home.dK p.aj (jf K d.aI),(n.home.aT.release p.aj p.src).1⟩ },(z.send ⟨8,i,p.src,p.id,p.aj,0,0,false,[]⟩).1):=by
    unfold Node.asked;rw [if_pos (.inr aM),hh];simp
   rw [w];have aq:(⟨8,i,p.src,p.id,p.aj,0,0,false,[]⟩:Pkt).ok=true:=by
    exact U4 (by simp only [zao];omega)
   refine⟨_,⟨?_,YQ _ aq rfl rfl rfl⟩,Ce X F rfl rfl rfl g (λj hj=>aX hj) (by
    rw [aK,show msg p.src=.req p from b3];have:=Pq O.step A p;exact Nat.lt_trans (this _).1 (this .zero).2) (by dsimp only;exact zax (pJ _ _) V)⟩
   show oO m.c ((m.with_ i { n with home:=⟨mV n.home.dK p.aj (jf K d.aI),(n.home.aT.release p.aj p.src).1⟩ } _ t).abs _ val);rw [Gm (n':={ n with home:=⟨mV n.home.dK p.aj (jf K d.aI),(n.home.aT.release p.aj p.src).1⟩ }) (msg:=msg) F (λ_=>rfl) rfl D (λL' h=>by show jr (mV _ _ _) L'=_;rw [LU,if_neg h]) (λL' h=>by show(n.home.aT.release p.aj p.src).1.owner L'=_;rw [t2,if_neg h]) (λL' h=>by show(n.home.aT.release p.aj p.src).1.ws L'=_;rw [t3])];have ax:jr (mV n.home.dK p.aj (jf K d.aI)) p.aj=jf ((m.abs msg val).row p.aj) d.aI:=by rw [LU,if_pos rfl,ar,bm]
   simp only [ax,t2,t3,if_true,aL];rw [D] at I';exact I'
 ·-- a cache's requests
  have bq:3<=p.aS/\p.aS<=6:=by
   unfold qR at b2;simp only [zah,decide_eq_true_eq] at b2;omega
  obtain⟨a6,H⟩:(m.abs msg val).own p.aj=p.src/\Hold m.c.aF (m.c.bf p.aj) ((m.abs msg val).ent p.aj) ((m.abs msg val).row p.aj) ((m.abs msg val).val p.aj) p.src ((m.abs msg val).aI p.src) (.req p):=by
   rcases p4 with⟨h,_⟩|⟨_,h,h'⟩
   ·exfalso;rw [h] at C;have:p.aS=1:=C;omega
   ·exact⟨h,h'⟩
  obtain⟨e,he,Sv⟩:=apL V H bq;rw [b1] at he;have b:n.aH.find p.aj=some e:=by rw [<-tY F];exact he
  have u:=SG b;have a7:=(iL R.aH.aY).1 b;have EO:=R.aH.ent e a7.1;have a1:e.data.length<=4:=R.aH.le hc e a7.1;have af:¬((!p.ok || decide (p.aS<3) || decide (6<p.aS))=true):=by simp [al];omega
  have br:(m.abs msg val).msg p.src≠.wait:=by rw [aa];exact λe=>by cases e
  -- what is common
  have ag:∀(ca:Cache) (x:Option Ent) (q:Pkt),(∀L,L≠p.aj->ca.find L=n.aH.find L)->ca.find p.aj=x->fU n.aH p=(ca,q,0)->q.ok=true->qR q.aS=false->q.src=i->q.dst=p.src->Hold m.c.aF (m.c.bf p.aj) (oN ((m.abs msg val).ent p.aj) p.dst x) ((m.abs msg val).row p.aj) ((m.abs msg val).val p.aj) p.src ((m.abs msg val).aI p.src) (.ans q)->((∃e',x=some e')/\p.aS≠6∨x=none)->
    ∃msg',GInv (m.with_ i (n.asked m.c i z p).1 (n.asked m.c i z p).2 t) msg' val/\(m.with_ i (n.asked m.c i z p).1 (n.asked m.c i z p).2 t).todo msg'<m.todo msg:=λca x q h1 h2 h3 h4 h5 h6 h7 H' h8=>by
   have w:n.asked m.c i z p=({ n with aH:=ca },(z.send q).1):=by
    unfold Node.asked;rw [if_neg hk,h3];simp
   rw [w];rw [b1] at H';have I':=G.abs.served g OL a6 (E:=oN ((m.abs msg val).ent p.aj) i x) (q:=q) (λj hj=>by
    by_cases a8:j=i
    ·rw [a8,he] at hj;cases hj
    ·rw [fF a8];exact hj) H' br
   refine⟨_,⟨?_,YQ q h4 h5 h6 h7⟩,YU X F g OL h1 h2 aa b O.step (h8.imp (λh=>⟨h.1,A h.2⟩) id) (by dsimp only;exact zax (pJ _ _) V)⟩;show oO m.c ((m.with_ i { n with aH:=ca } _ t).abs _ val);rw [rP (n':={ n with aH:=ca }) (msg:=msg) (val:=val) F rfl h1];simp only [h2];have bt:dQ m.lX i n.aI=m.lX:=by rw [<-kT F,jP]
   simp only [bt];exact I'
  cases Sv with
  |attach k H'=>
   have o:=yK (e:={ e with dn:=false,back:=p.ptr }) (x:=e) R.aH.aY EO.lo (by rw [show({ e with dn:=false,back:=p.ptr }:Ent).aj=e.aj from rfl,u];exact b);have ad:=mD (e:={ e with dn:=false,back:=p.ptr }) (x:=e) R.aH.aY EO.lo (by rw [show({ e with dn:=false,back:=p.ptr }:Ent).aj=e.aj from rfl,u];exact b);refine ag (n.aH.put { e with dn:=false,back:=p.ptr }).1 (some { e with dn:=false,back:=p.ptr }) _ (λL D=>by rw [o,if_neg λh=>D (h.trans u)]) (by rw [o,if_pos u.symm]) ?_ ?_ rfl b1 rfl H' (.inl ⟨⟨_,rfl⟩,V⟩)
   ·unfold fU;rw [if_neg af,b];simp only [k,if_true];rw [ad];simp [CX]
   ·exact U4 V
  |front k H'=>
   have o:=yK (e:={ e with fwd:=p.ptr }) (x:=e) R.aH.aY EO.lo (by rw [show({ e with fwd:=p.ptr }:Ent).aj=e.aj from rfl,u];exact b);have ad:=mD (e:={ e with fwd:=p.ptr }) (x:=e) R.aH.aY EO.lo (by rw [show({ e with fwd:=p.ptr }:Ent).aj=e.aj from rfl,u];exact b);refine ag (n.aH.put { e with fwd:=p.ptr }).1 (some { e with fwd:=p.ptr }) _ (λL D=>by rw [o,if_neg λh=>D (h.trans u)]) (by rw [o,if_pos u.symm]) ?_ ?_ rfl b1 rfl H' (.inl ⟨⟨_,rfl⟩,V⟩)
   ·unfold fU;rw [if_neg af,b];simp only [k];rw [if_neg Z,if_pos trivial,ad];simp [CX]
   ·exact U4 (by simp only [zao];omega)
  |behind k H'=>
   have o:=yK (e:={ e with back:=p.ptr }) (x:=e) R.aH.aY EO.lo (by rw [show({ e with back:=p.ptr }:Ent).aj=e.aj from rfl,u];exact b);have ad:=mD (e:={ e with back:=p.ptr }) (x:=e) R.aH.aY EO.lo (by rw [show({ e with back:=p.ptr }:Ent).aj=e.aj from rfl,u];exact b);refine ag (n.aH.put { e with back:=p.ptr }).1 (some { e with back:=p.ptr }) _ (λL D=>by rw [o,if_neg λh=>D (h.trans u)]) (by rw [o,if_pos u.symm]) ?_ ?_ rfl b1 rfl H' (.inl ⟨⟨_,rfl⟩,V⟩)
   ·unfold fU;rw [if_neg af,b];simp only [k];rw [if_neg Z,if_neg Z,if_pos trivial,ad];simp [CX]
   ·exact U4 (by simp only [zao];omega)
  |JH k bx H'=>
   have a9:=Cb (aj:=p.aj) R.aH.aY;refine ag (n.aH.drop p.aj) none _ (λL D=>by rw [a9,if_neg D]) (by rw [a9,if_pos rfl]) ?_ ?_ rfl b1 rfl H' (.inr rfl)
   ·unfold fU;rw [if_neg af,b];simp only [k];rw [if_neg Z,if_neg Z,if_neg Z];simp [CX]
   ·exact U4 V
end
def Hold.data {N hm:Int}{E:uQ}{r:Row}{v:List Int}{i:Int}{d:bJ}{o:Out}(H:Hold N hm E r v i d o){j:Int}{e:Ent}(b:E j=some e):e.data=v:=by
 cases H with
 |granted _ W=>exact W.data j e b
 |attach _ _ _ _ W=>exact W.data j e b
 |attached _ _ _ _ _ _ _ _ X _=>exact X j e b
 |JH _ _ L _ _=>exact L.data j e b
 |Jo _ _ L _ _=>exact L.data j e b
 |front _ _ M _ _ _ _ _=>exact M.data j e b
 |Aa _ _ M _ _ _ _ _ _=>exact M.data j e b
 |behind _ _ M _ _ _ _ _ _=>exact M.data j e b
 |wz _ _ M _ _ _ _ _ _=>exact M.data j e b
 |unlock _ W=>exact W.data j e b
def oO.data {c:Cfg}{a:Abs}(I:oO c a){L j:Int}(b:0<=L/\L<c.aY){e:Ent}(d:a.ent L j=some e):e.data=a.val L:=by
 rcases I.aj L b.1 b.2 with⟨_,l,W⟩|⟨_,_,_,H⟩
 ·exact W.data j e d
 ·exact Hold.data H d
section
variable {m:cZ}{T:Nat}{i:Nat}{n n1:Node}{f:Fab}{t:List Evn}{msg msg':Int->Out}{val val':Int->List Int}
def GInv.idle(X:MX T m)(G:GInv m msg val)(b:m.aF[i]?=some n)(h0:n.aI.step=0):msg i=.idle:=by
 have hi:=X.range b;have hd:(m.abs msg val).aI i=n.aI:=kT b;rcases G.abs.bF i hi.1 hi.2 with⟨_,h⟩|O
 ·exact h
 ·have:=O.step;rw [hd] at this;exact absurd h0 this
def GInv.begin_(X:MX T m)(G:GInv m msg val)(hn:m.aF[i]?=some n)(h0:n.aI.step=0)(e1:n1.aH=n.aH)(e2:n1.home=n.home)(e4:n1.num=n.num)(e5:n1.Jv=n.Jv){k L:Int}(hk:1<=k/\k<=3)(hL:0<=L/\L<m.c.aY)(hm:k=1->n.aH.find L=none)(hm3:k=3->n.aH.find L≠none):
  ∃msg',GInv (m.with_ i (n1.begin_ m.c i m.fab k L).1 (n1.begin_ m.c i m.fab k L).2 t) msg' val/\(m.with_ i (n1.begin_ m.c i m.fab k L).1 (n1.begin_ m.c i m.fab k L).2 t).todo msg'<m.todo msg:=by
 have hc:=X.inv.ok;have hi:=X.range hn;have NX_:=X.bF i n hn;have hd:(m.abs msg val).aI i=n.aI:=kT hn;have hidle:=G.idle X hn h0;have hid:0<=n.num/\n.num<4096:=⟨NX_.YK,NX_.num1⟩
 have I':=G.abs.begin_ (L:=L) (k:=k) (id:=n.num) hi (by rw [hd];exact h0) hk hid hL (λh=>by rw [<-hm h];exact tY hn L);obtain⟨a1,a2,a3,a4,a5⟩:=ac6 hc hi (k:=k) hL hid;have hout:1<=m.fab.out:=by
  have:=(mF hc).2.2.2.2.2.1;rw [X.inv.fab.out];exact this.1
 have R':=G.pk.apH (p:=(bJ.begin k L n.num).ask i (m.c.bf L)) (by rw [a3,hidle];exact λq e=>by cases e) (by rw [a3,hidle];exact λq e=>by cases e) a1 a2 (by rw [a3];exact X.is hi rfl) (X.is ⟨a4,a5⟩ rfl) hout;rw [a3] at R';have hb:n1.begin_ m.c i m.fab k L=({ n1 with aI:=bJ.begin k L n.num,num:=(n.num+1).tmod 4096 },(m.fab.send ((bJ.begin k L n.num).ask i (m.c.bf L))).1):=by
  unfold Node.begin_ Node.ad2;simp only [e4];rfl
 rw [hb];refine⟨_,⟨?_,R'.2⟩,pK X hn hL e2 (λL' _=>by show n1.aH.find L'=_;rw [e1]) (λL' hL' y=>by rw [x8 (.inl h0),x8 (.inr (.inr (.inl λe=>hL' e.symm)))]) (by dsimp only;exact pJ _ _) (λj hj=>aX hj) ?_⟩;rotate_left
 ·rw [aK,hidle]
  dsimp only
  have d0:Dp n.aI .idle=13:=if_pos h0;have d1:Dp (.begin k L n.num) (.req ((bJ.begin k L n.num).ask i (m.c.bf L)))=12+if k=3∨(1:Int)=6 then 13 else 0:=rfl;have e6:Node.Jv { n1 with aI:=bJ.begin k L n.num,num:=(n.num+1).tmod 4096 }=n.Jv:=e5;rw [e6,d0,d1,e1];by_cases h3:k=3
  ·obtain⟨e,he⟩:=Option.ne_none_iff_exists'.1 (hm3 h3);have w1:wt (.begin k L n.num) L (some e)=3:=by
    unfold wt;rw [if_neg (zdD e),if_pos ⟨h3,(by decide:(1:Int)≠0),(by decide:(1:Int)≠6),rfl⟩]
   have w2:wt n.aI L (some e)=16:=by
    rw [x8 (.inl h0),if_neg (zdD e)]
   rw [he,w1,w2,if_pos (.inl h3)];omega
  ·rw [x8 (.inl h0),x8 (.inr (.inr (.inr h3))),if_neg (by omega)];omega
 show oO m.c ((m.with_ i { n1 with aI:=bJ.begin k L n.num,num:=(n.num+1).tmod 4096 } _ t).abs _ val);rw [Gn (n':={ n1 with aI:=bJ.begin k L n.num,num:=(n.num+1).tmod 4096 }) (msg:=msg) (val:=val) hn e2 (λL'=>by show n1.aH.find L'=_;rw [e1])];exact I'
def LW {c:Cfg}{P:Int->Nat->Option Opn}{t:List Evn}{b:Bool}{k:Nat}{o:Opn}{j:Int}(d:P j k=some o):DZ c P t val ((if b then t else t++[⟨j,k,false,0⟩])++[⟨j,k,true,(oJ c o val).2⟩]) (oJ c o val).1:=by
 cases b with
 |true=>exact .done j k o d .same
 |false=>exact .done j k o d (.eH j k .same)
def wF {c:Cfg}{P:Int->Nat->Option Opn}{t:List Evn}{b:Bool}{k:Nat}{j:Int}:DZ c P t val (if b then t else t++[⟨j,k,false,0⟩]) val:=by
 cases b with
 |true=>exact .same
 |false=>exact .eH j k .same
def GInv.work(X:MX T m)(G:GInv m msg val)(p:m.aF[i]?=some n)(h0:n.aI.step=0){o:Opn}(o1:n.bQ.cur=some o):
  ∃msg' val',GInv (m.with_ i (n.work m.c i m.fab m.trace o).1 (n.work m.c i m.fab m.trace o).2.1 (n.work m.c i m.fab m.trace o).2.2) msg' val'/\DZ m.c m.opAt m.trace val (n.work m.c i m.fab m.trace o).2.2 val'/\(m.with_ i (n.work m.c i m.fab m.trace o).1 (n.work m.c i m.fab m.trace o).2.1 (n.work m.c i m.fab m.trace o).2.2).todo msg'<m.todo msg:=by
 have hc:=X.inv.ok;have hi:=X.range p;have K:=X.inv.bF i n p;have D:=K.bQ.right o (zan o1);have OO:=aqa hc D.1;have R:0<=m.c.bV o.addr/\m.c.bV o.addr<m.c.aY:=⟨OO.lo,OO.hi⟩
 have hP:=Po p o1;have hd:(m.abs msg val).aI i=n.aI:=kT p;unfold Node.work;simp only;obtain⟨n1,j⟩:∃n1:Node,n1={ n with bQ:={ n.bQ with eH:=true } }:=⟨_,rfl⟩
 have v:n1.aH=n.aH:=by rw [j]
 have M:n1.home=n.home:=by rw [j]
 have c3:n1.aI=n.aI:=by rw [j]
 have c4:n1.num=n.num:=by rw [j]
 have c5:n1.bQ.cur=some o:=by rw [j];exact o1
 have c6:n1.bQ.bH=n.bQ.bH:=by rw [j]
 rw [<-j,show n.aH=n1.aH from v.symm];have c7:n1.bQ.eH=true:=by rw [j]
 have c8:n1.Jv=n.Jv:=by rw [j];rfl
 have Q:n1.bQ.idx=n.bQ.bH.length:=by unfold Proc.idx;rw [c5,c6]
 have am:n1.bQ.op=o:=by unfold Proc.op;rw [c5];rfl
 obtain⟨C,q⟩:∃C,C=(if n.bQ.eH=true then m.trace else m.trace++[⟨i,n.bQ.bH.length,false,0⟩]):=⟨_,rfl⟩
 rw [<-q];by_cases k1:o.aS=4/\n1.aH.find (m.c.bV o.addr)=none
 ·rw [if_pos k1];have ao:oJ m.c o val=(val,0):=by
   unfold oJ;rw [if_neg V,if_neg V,if_neg V]
  refine⟨msg,val,⟨?_,G.pk⟩,?_,pK X p R M (λz _=>by show n1.aH.find z=_;rw [v]) (λz _ y=>by show wt n1.aI z y=_;rw [c3]) (za8 _) (λ_ _=>rfl) ?_⟩
  ·show oO m.c ((m.with_ i { n1 with bQ:=n1.bQ.C9 0 } m.fab _).abs msg val);rw [Gn (n':={ n1 with bQ:=n1.bQ.C9 0 }) (msg:=msg) (val:=val) p M (λz=>by show n1.aH.find z=_;rw [v])];have:dQ m.lX i n1.aI=m.lX:=by rw [c3,<-kT p,jP]
   simp only [this];exact G.abs
  ·have:=LW (c:=m.c) (t:=m.trace) (val:=val) (b:=n.bQ.eH) hP;rw [ao] at this;unfold Node.done;rw [Q,q];exact this
  ·have:=Gp (n':=(n1.done i C 0).1) c5 c7 rfl;have h1:=ako (d:=n1.aI) (L:=m.c.bV o.addr) (x:=n1.aH.find (m.c.bV o.addr));show 33*Node.Jv (n1.done i C 0).1+Dp n1.aI (msg i)+wt n1.aI _ (n1.aH.find _)<_;rw [<-c3];omega
 rw [if_neg k1];by_cases k2:o.aS=4
 ·rw [if_pos k2];obtain⟨msg',G',F⟩:=G.begin_ (n1:=n1) (k:=3) (t:=C) X p h0 v M c4 c8 ⟨Z,Z⟩ R (λh=>absurd h Z) (λ_ h=>k1 ⟨k2,v ▸ h⟩);exact⟨msg',val,G',by rw [q];exact wF,F⟩
 rw [if_neg k2];by_cases k3:(n1.aH.find (m.c.bV o.addr)).isSome=true/\(o.aS=1∨((n1.aH.find (m.c.bV o.addr)).getD .zero).dn=true)
 ·rw [if_pos k3];obtain⟨e,he⟩:=zdc.1 k3.1;have E:n.aH.find (m.c.bV o.addr)=some e:=by rw [<-v];exact he
  have W:=k3.2;rw [he] at W;simp only [zaw] at W;have w:=(iL K.aH.aY).1 E;have EO:=K.aH.ent e w.1;have ae:o.aS=1∨((o.aS=2∨o.aS=3)/\e.dn=true):=by
   rcases W with h|h
   ·exact .inl h
   ·by_cases h1:o.aS=1
    ·exact .inl h1
    ·exact .inr ⟨by have:=OO.k1;have:=OO.k4;omega,h⟩
  have af:(m.abs msg val).ent (m.c.bV o.addr) i=some e:=by
   show m.Gl _ i=_;rw [tY p];exact E
  have aa:=G.abs.data R af;obtain⟨g,u⟩:∃g:Ent,g={ e with used:=n.aH.dh+1 }:=⟨_,rfl⟩
  have ax:=EO.dat.1;have d1:g.data=e.data:=by rw [u]
  have d2:g.back=e.back:=by rw [u]
  have d3:g.fwd=e.fwd:=by rw [u]
  have d4:g.dn=e.dn:=by rw [u]
  have d5:g.aj=e.aj:=by rw [u]
  obtain⟨w1,w2,w3,w4,w5,w6,w7⟩:=ac7 (c:=m.c) (val:=val) (e:=g) (by rw [d4];exact ae) (by rw [d1];exact aa) (by rw [d1];have:=OO.wlo;have:=OO.whi;omega);have y:=rM g o (m.c.dI o.addr);have H:=YR K.aH.aY E;have TI:=K.aH.touch E;have A:=yK TI.aY (e:=eU g o (m.c.dI o.addr)) (x:=g) (by rw [y.1,d5];exact EO.lo) (by rw [y.1,d5,H,if_pos w.2,u]);have ab:({ eU g o (m.c.dI o.addr) with used:=g.used }:Ent)=eU g o (m.c.dI o.addr):=by rw [<-y.2.1]
  have ad:(eU g o (m.c.dI o.addr)).aj=m.c.bV o.addr:=by rw [y.1,d5];exact w.2
  have ag:({ n1 with aH:=n1.aH.touch (m.c.bV o.addr) }:Node).effect m.c i C=({ n1 with aH:=((n.aH.touch (m.c.bV o.addr)).put (eU g o (m.c.dI o.addr))).1,bQ:=n1.bQ.C9 (if o.aS=2 then 0 else g.word (m.c.dI o.addr)) },C++[⟨i,n.bQ.bH.length,true,if o.aS=2 then 0 else g.word (m.c.dI o.addr)⟩]):=by
   unfold Node.effect Node.done;have ai:({ n1 with aH:=n1.aH.touch (m.c.bV o.addr) }:Node).bQ.op=o:=am;simp only [ai,Q,v,H,if_true,zaw,<-u]
  have ap:({ aH:=n1.aH.touch (m.c.bV o.addr),bQ:={ ops:=n.bQ.ops,bH:=n.bQ.bH,eH:=true },home:=n.home,aI:=n.aI,num:=n.num }:Node)={ n1 with aH:=n1.aH.touch (m.c.bV o.addr) }:=by rw [j]
  rw [ap,ag];have hx:((n.aH.touch (m.c.bV o.addr)).put (eU g o (m.c.dI o.addr))).1.find (m.c.bV o.addr)=some (eU g o (m.c.dI o.addr)):=by
   rw [A,if_pos ad.symm,ab]
  have aq:(oJ m.c o val).1 (m.c.bV o.addr)≠[]:=by
   rw [<-w1];intro h;have h1:=y.2.2.2;have:=(mF hc).2.2.1;rw [h,d1] at h1;simp only [zao] at h1;omega
  refine⟨msg,(oJ m.c o val).1,⟨?_,G.pk⟩,?_,pK X p R M (λz h=>by
    show((n.aH.touch _).put _).1.find z=_;rw [A,if_neg λh'=>h (h'.trans ad),H,if_neg h]) (λz _ y=>by show wt n1.aI z y=_;rw [c3]) (za8 _) (λ_ _=>rfl) ?_⟩
  ·show oO m.c ((m.with_ i { n1 with aH:=((n.aH.touch (m.c.bV o.addr)).put (eU g o (m.c.dI o.addr))).1,bQ:=n1.bQ.C9 (if o.aS=2 then 0 else g.word (m.c.dI o.addr)) } m.fab _).abs msg _);rw [rP (n':={ n1 with aH:=((n.aH.touch (m.c.bV o.addr)).put (eU g o (m.c.dI o.addr))).1,bQ:=n1.bQ.C9 (if o.aS=2 then 0 else g.word (m.c.dI o.addr)) }) (msg:=msg) (val:=val) p M (L:=m.c.bV o.addr) (λz h=>by
    show((n.aH.touch _).put _).1.find z=_;rw [A,if_neg λh'=>h (h'.trans ad),H,if_neg h])]
   have ar:dQ m.lX i n1.aI=m.lX:=by rw [c3,<-kT p,jP]
   simp only [hx,ar];have I':=G.abs.hit (L:=m.c.bV o.addr) (e:=e) (e':=eU g o (m.c.dI o.addr)) (v':=(oJ m.c o val).1 (m.c.bV o.addr)) hi (by rw [hd];exact h0) R af (w4.trans d2) (w5.trans d3) (w6.trans d4) (by
    rcases ae with h|⟨_,h⟩
    ·refine .inl ⟨by rw [w7 h,d1],?_⟩;unfold oJ;rw [if_pos h];rfl
    ·exact .inr ⟨h,w1⟩) aq
   have aw:dQ (m.abs msg val).val (m.c.bV o.addr) ((oJ m.c o val).1 (m.c.bV o.addr))=(oJ m.c o val).1:=by
    funext L
    by_cases h:L=m.c.bV o.addr
    ·rw [h,aK]
    ·rw [aX h,w2 L h];rfl
   rw [aw] at I';exact I'
  ·rw [w3,q];exact LW hP
  ·have h0:=Gp (n':={ n1 with aH:=((n.aH.touch (m.c.bV o.addr)).put (eU g o (m.c.dI o.addr))).1,bQ:=n1.bQ.C9 (if o.aS=2 then 0 else g.word (m.c.dI o.addr)) }) c5 c7 rfl;have h1:=ako (d:=n1.aI) (L:=m.c.bV o.addr) (x:=((n.aH.touch (m.c.bV o.addr)).put (eU g o (m.c.dI o.addr))).1.find (m.c.bV o.addr))
   dsimp only at h0 ⊢
   rw [<-c3];omega
 rw [if_neg k3];by_cases k4:n1.aH.full (m.c.bV o.addr)=true
 ·rw [if_pos k4];rw [v] at k4;have al:n.aH.pz (m.c.bV o.addr)≠[]:=by
   intro e;unfold Cache.full at k4;simp only [e,zao,zah,decide_eq_true_eq] at k4;have:=(mF hc).2.2.2.2.1;rw [K.aH.ways] at k4;omega
  obtain⟨e,he⟩:∃e,oC (n.aH.pz (m.c.bV o.addr))=some e:=by
   cases h:n.aH.pz (m.c.bV o.addr) with
   |nil=>exact absurd h al
   |cons a l=>exact⟨_,rfl⟩
  have hv:n.aH.oK (m.c.bV o.addr)=some e.aj:=by unfold Cache.oK;rw [he];rfl
  have w:e∈n.aH.l:=by
   have:=(sH he).1;unfold Cache.pz at this;exact(zbp.1 this).1
  have EO:=K.aH.ent e w;rw [v,hv];simp only [zaw];obtain⟨msg',G',F⟩:=G.begin_ (n1:=n1) (k:=3) (L:=e.aj) (t:=C) X p h0 v M c4 c8 ⟨Z,Z⟩ ⟨EO.lo,EO.hi⟩ (λh=>absurd h Z) (λ_ h=>nomatch ((iL K.aH.aY).2 ⟨w,rfl⟩:n.aH.find e.aj=some e).symm.trans h);exact⟨msg',val,G',by rw [q];exact wF,F⟩
 rw [if_neg k4];by_cases k5:o.aS=1
 ·rw [if_pos k5];obtain⟨msg',G',F⟩:=G.begin_ (n1:=n1) (k:=1) (t:=C) X p h0 v M c4 c8 ⟨Z,Z⟩ R (λ_=>by
   cases h:n.aH.find (m.c.bV o.addr) with
   |none=>rfl
   |some e=>exact absurd ⟨by rw [v,h];rfl,.inl k5⟩ k3) (λh=>absurd h Z)
  exact⟨msg',val,G',by rw [q];exact wF,F⟩
 ·rw [if_neg k5];obtain⟨msg',G',F⟩:=G.begin_ (n1:=n1) (k:=2) (t:=C) X p h0 v M c4 c8 ⟨Z,Z⟩ R (λh=>absurd h Z) (λh=>absurd h Z);exact⟨msg',val,G',by rw [q];exact wF,F⟩
def Xq(X:MX T m)(d:m.aF[i]?=some n)(h:m.fab.roomOf i false≠0):0<m.fab.roomOf i false:=by
 have hi:=X.range d;have b:=X.is hi (f:=m.fab) rfl;have P:=(X.inv.fab.get b).an;unfold Fab.roomOf at h ⊢;rw [if_pos b] at h ⊢;rw [X.inv.fab.out] at h ⊢;simp only [Port.sort,zai,if_false] at h ⊢;omega
def GInv.step(X:MX T m)(G:GInv m msg val)(j:Int):∃msg' val',GInv (m.step j).1 msg' val'/\DZ m.c m.opAt m.trace val (m.step j).1.trace val'/\((m.step j).2≠0->(m.step j).1.todo msg'<m.todo msg):=by
 unfold cZ.step;cases d:m.bF j with
 |none=>exact⟨msg,val,G,.same,λh=>absurd rfl h⟩
 |some n=>
  simp only;have z:0<=j/\m.aF[j.toNat]?=some n:=by
   unfold cZ.bF at d;split at d
   ·exact⟨by assumption,d⟩
   ·cases d
  obtain⟨i,rfl⟩:∃i:Nat,j=i:=⟨j.toNat,V⟩
  rw [zar] at z ⊢;have e:=z.2;have key:∃msg' val',GInv (m.with_ i (n.step m.c i m.fab m.trace).1.1 (n.step m.c i m.fab m.trace).1.2.1 (n.step m.c i m.fab m.trace).1.2.2) msg' val'/\DZ m.c m.opAt m.trace val (n.step m.c i m.fab m.trace).1.2.2 val'/\((n.step m.c i m.fab m.trace).2≠0->(m.with_ i (n.step m.c i m.fab m.trace).1.1 (n.step m.c i m.fab m.trace).1.2.1 (n.step m.c i m.fab m.trace).1.2.2).todo msg'<m.todo msg):=by
   unfold Node.step;cases A:m.fab.take i false with
   |mk D C=>
    cases C with
    |some p=>
     obtain⟨msg',val',G',v,F⟩:=G.answered X e A;exact⟨msg',val',G',v,λ_=>F⟩
    |none=>
     simp only;by_cases q:n.home.ready≠[]/\m.fab.roomOf i false≠0
     ·rw [if_pos q];obtain⟨msg',G',F⟩:=G.grant (t:=m.trace) X e q.1 (Xq X e q.2);exact⟨msg',val,G',.same,λ_=>F⟩
     ·rw [if_neg q];cases u:(if m.fab.roomOf i false=0 then(m.fab,none) else m.fab.take i true) with
      |mk E w=>
       cases w with
       |some p=>
        simp only;have g:m.fab.roomOf i false≠0:=λh=>by rw [if_pos h] at u;cases u
        rw [if_neg g] at u;obtain⟨msg',G',F⟩:=G.asked (t:=m.trace) X e u (Xq X e g);exact⟨msg',val,G',.same,λ_=>F⟩
       |none=>
        simp only;have b:GInv (m.with_ i n m.fab m.trace) msg val:=by
         have:m.with_ i n m.fab m.trace=m:=by
          unfold cZ.with_;have:m.aF.set i n=m.aF:=by
           apply zbe
           intro k;by_cases h:i=k
           ·rw [<-h,zbc (zaf.1 e).1,e]
           ·rw [zbl h]
          rw [this]
         rw [this];exact G
        cases y:n.bQ.cur with
        |none=>exact⟨msg,val,b,.same,λh=>absurd rfl h⟩
        |some o=>
         simp only;by_cases hs:n.aI.step=0
         ·rw [if_pos hs];obtain⟨msg',val',G',v,F⟩:=G.work X e hs y;exact⟨msg',val',G',v,λ_=>F⟩
         ·rw [if_neg hs];exact⟨msg,val,b,.same,λh=>absurd rfl h⟩
  exact key
def GInv.do_(X:MX T m)(G:GInv m msg val)(p:Pck):∃msg' val',GInv (m.do_ p).1 msg' val'/\DZ m.c m.opAt m.trace val (m.do_ p).1.trace val'/\((m.do_ p).2=true->(m.do_ p).1.todo msg'<m.todo msg):=by
 unfold cZ.do_;split
 ·refine⟨msg,val,⟨?_,?_⟩,.same,λh=>?_⟩
  ·have:(m.deliver p.at_ p.bit p.mask).1.abs msg val=m.abs msg val:=rfl;rw [this];exact G.abs
  ·exact G.pk.deliver X.dst.all _ _ _
  ·have g:=Pn X.dst.all (of_decide_eq_true h);have b:(m.deliver p.at_ p.bit p.mask).1.todo msg=2*pot m.c m.uO (m.abs msg λ_=>[])+(m.fab.deliver p.at_ p.bit p.mask).1.under:=rfl;have d:m.todo msg=2*pot m.c m.uO (m.abs msg λ_=>[])+m.fab.under:=rfl;rw [b,d];omega
 ·obtain⟨msg',val',G',e,F⟩:=G.step X p.at_;exact⟨msg',val',G',e,λh=>F (of_decide_eq_true h)⟩
def afB {c:Cfg}(hc:c.ok=true){ps:List (List Opn)}(hp:(ps.length:Int)=c.aF):GInv (cZ.new c ps) (λ_=>.idle) c.first:=by
 obtain⟨cn,cl,cw,_⟩:=mF hc;have bF:∀j:Int,0<=j->j<c.aF->∃l,(cZ.new c ps).bF j=some (.new c j l):=λj h0 h1=>by
  obtain⟨k,rfl⟩:∃k:Nat,j=k:=⟨j.toNat,by omega⟩
  have hk:k<ps.length:=by omega
  refine⟨ps[k],?_⟩;unfold cZ.bF cZ.new;rw [if_pos h0,zar];simp [zbd,zab hk]
 have out:∀j:Int,¬(0<=j/\j<c.aF)->(cZ.new c ps).bF j=none:=λj h=>by
  unfold cZ.bF cZ.new;by_cases h0:0<=j
  ·rw [if_pos h0];simp only;rw [zaG];rw [zcc];omega
  ·rw [if_neg h0]
 have any:∀j:Int,(∃l,(cZ.new c ps).bF j=some (.new c j l))∨(cZ.new c ps).bF j=none:=λj=>by
  by_cases h:0<=j/\j<c.aF
  ·exact .inl (bF j h.1 h.2)
  ·exact .inr (out j h)
 have ent:∀L j,(cZ.new c ps).Gl L j=none:=λL j=>by
  unfold cZ.Gl;rcases any j with⟨l,h⟩|h
  ·rw [h];rfl
  ·rw [h];rfl
 have own:∀L,((cZ.new c ps).mP L).aT=⟨[],[]⟩:=λL=>by
  unfold cZ.mP;rcases any ((cZ.new c ps).c.bf L) with⟨l,h⟩|h
  ·rw [h];rfl
  ·rw [h]
 have aI:∀j,((cZ.new c ps).lX j).step=0:=λj=>by
  unfold cZ.lX;rcases any j with⟨l,h⟩|h
  ·rw [h];rfl
  ·rw [h];rfl
 have row:∀L,0<=L->L<c.aY->jr ((cZ.new c ps).mP L).dK L=⟨0,-1,c.first L⟩:=λL h0 h1=>by
  have hh:=DY hc h0;obtain⟨l,h⟩:=bF (c.bf L) hh.1 hh.2;unfold cZ.mP;have hcc:(cZ.new c ps).c=c:=rfl;rw [hcc,h];unfold jr;show(jE (c.jR (c.bf L) c.aY.toNat) L).getD .zero=_;rw [BU,if_pos ⟨h0,by omega,rfl⟩];rfl
 have first:∀L,0<=L->L<c.aY->c.first L≠[]:=λL h0 h1 e=>by
  have:=congrArg List.length e;unfold Cfg.first at this
  rw [if_neg (by omega)] at this;simp only [zaE,zcV,zao] at this;omega
 refine⟨⟨λL h0 h1=>.inl ⟨?_,[],?_⟩,λj _ _=>.inl ⟨aI j,rfl⟩,λL=>?_,first,λL _=>?_⟩,?_⟩
 ·show((cZ.new c ps).mP L).aT.owner L=-1;rw [own];rfl
 ·show Wf c.aF ((cZ.new c ps).Gl L) (jr ((cZ.new c ps).mP L).dK L) (c.first L) [];rw [row L h0 h1];exact⟨⟨zde,λj hj=>(by cases hj)⟩,trivial,λj e h=>(by rw [ent] at h;cases h),rfl,.inl rfl,(by simp),λh=>absurd (show(0:Int)=2 from h) (by decide),λj e h=>(by rw [ent] at h;cases h),λj e h=>(by rw [ent] at h;cases h),λ_=>rfl⟩
 ·have hw:((cZ.new c ps).abs (λ_=>.idle) c.first).ws L=[]:=by
   show((cZ.new c ps).mP L).aT.ws L=[]
   rw [own];rfl
  exact⟨by rw [hw];exact zde,λw h=>(by rw [hw] at h;cases h)⟩
 ·show((cZ.new c ps).mP L).aT.owner L=-1;rw [own];rfl
 ·have port:∀p∈(cZ.new c ps).fab.l,p=.zero:=λp h=>zbY h;have hr:Ae (cZ.new c ps).fab=[]:=zb1.2 λp h=>by rw [port p h];rfl
  have ha:Af (cZ.new c ps).fab=[]:=zb1.2 λp h=>by rw [port p h];rfl
  refine⟨λk q h=>?_,by rw [hr];exact zde,by rw [ha];exact zde,λ_ _ h=>(by cases h),λ_ _ h=>(by cases h),λ_ _ h=>(by cases h),λ_ _ h=>(by cases h),λ_ _ h=>(by rcases h with h|h <;> cases h)⟩;rw [port q (zan h)];exact⟨λp h=>(by cases h),λp h=>(by cases h),λp h=>(by cases h),λp h=>(by cases h)⟩
end
section
variable {m:cZ}{T:Nat}{msg:Int->Out}{val:Int->List Int}
def afC {α:Type}{l:List α}{i:Nat}{x:α}(h:l[i]?=some x):l.set i x=l:=by
 apply zbe
 intro k;by_cases e:i=k
 ·rw [<-e,zbc (zaf.1 h).1,h]
 ·rw [zbl e]
def YV {j:Int}(h:(m.step j).2=0):(m.step j).1=m:=by
 unfold cZ.step at h ⊢;cases b:m.bF j with
 |none=>rfl
 |some n=>
  rw [b] at h;simp only at h ⊢;have g:0<=j/\m.aF[j.toNat]?=some n:=by
   unfold cZ.bF at b;split at b
   ·exact⟨by assumption,b⟩
   ·cases b
  have hs:(n.step m.c j m.fab m.trace).1=(n,m.fab,m.trace):=by
   unfold Node.step at h ⊢;cases i:m.fab.take j false with
   |mk q u=>
    rw [i] at h;cases u with
    |some p=>simp at h
    |none=>
     simp only at h ⊢;split at h
     ·simp at h
     ·rename_i v;rw [if_neg v];cases y:(if m.fab.roomOf j false=0 then(m.fab,none) else m.fab.take j true) with
      |mk z d=>
       rw [y] at h;cases d with
       |some p=>simp at h
       |none=>
        simp only at h ⊢;cases hc:n.bQ.cur with
        |none=>rfl
        |some o=>
         rw [hc] at h;simp only at h ⊢;by_cases hd:n.aI.step=0
         ·rw [if_pos hd] at h;simp at h
         ·rw [if_neg hd]
  cases e:n.step m.c j m.fab m.trace with
  |mk w k=>
   obtain⟨n',q,t'⟩:=w;rw [e] at hs;simp only [zad] at hs;obtain⟨rfl,rfl,rfl⟩:=hs;simp only;rw [afC g.2]
def Pv {a b k:Int}(h:(m.fab.deliver a b k).2≠0):(m.fab.deliver a b k).1=m.fab:=by
 unfold Fab.deliver at h ⊢;by_cases d:a<0
 ·rw [if_pos d]
 rw [if_neg d] at h ⊢;cases i:m.fab.all[a.toNat]? with
 |none=>rfl
 |some p=>
  rw [i] at h;simp only at h ⊢;by_cases e:aT p.bytes b k=true
  ·rw [if_pos e]
  rw [if_neg e] at h ⊢;by_cases g:m.fab.room (qR p.aS)<=((m.fab.port p.dst).ql (qR p.aS)).length
  ·rw [if_pos g]
  rw [if_neg g] at h;exact absurd rfl h
def Xr {p:Pck}(h:(m.do_ p).2=false):(m.do_ p).1=m:=by
 unfold cZ.do_ at h ⊢;by_cases hd:p.deliver=true
 ·rw [if_pos hd] at h ⊢;simp only [decide_eq_false_iff_not] at h;unfold cZ.deliver at h ⊢;simp only at h ⊢;rw [Pv h]
 ·rw [if_neg hd] at h ⊢;simp only [decide_eq_false_iff_not,Classical.not_not] at h;exact YV h
def Gq(x:cZ × Int)(p:Pck):x.2<=(tally x p).2/\(tally x p).2<=x.2+1:=by
 unfold tally;simp only;split <;> omega
def Jw {x:cZ × Int}{p:Pck}(h:(tally x p).2<=x.2):tally x p=x/\(x.1.do_ p).2=false:=by
 unfold tally at h ⊢;cases hb:(x.1.do_ p).2 with
 |true=>rw [hb] at h;simp only [if_true] at h;omega
 |false=>
  refine⟨?_,rfl⟩;rw [Xr hb];simp
def Px(k n:Int):∀(j i:Nat) (x:cZ × Int),x.2<=(lQ k n j i x).2
 |0,_,_=>za6 _
 |j+1,i,x=>zdb (Gq x _).1 (Px k n j (i+1) _)
def Py:∀(i:Nat) (x:cZ × Int),x.2<=(qJ i x).2
 |0,_=>za6 _
 |i+1,x=>zdb (Gq x _).1 (Py i _)
def Jy {k n:Int}:∀{j i:Nat} {x:cZ × Int},(lQ k n j i x).2<=x.2->lQ k n j i x=x/\∀q,q<j->(x.1.do_ ⟨false,(k+((i+q:Nat):Int)).tmod n,0,0⟩).2=false
 |0,_,_,_=>⟨rfl,λq h=>absurd h (zda q)⟩
 |j+1,i,x,h=>by
  have m:=Px k n j (i+1) (tally x ⟨false,(k+i).tmod n,0,0⟩);have o:=(Gq x ⟨false,(k+i).tmod n,0,0⟩).1;simp only [lQ] at h ⊢;obtain⟨b,d⟩:=Jw (x:=x) (p:=⟨false,(k+i).tmod n,0,0⟩) V;rw [b] at h ⊢;obtain⟨e,g⟩:=Jy h;refine⟨e,λq u=>?_⟩;cases q with
  |zero=>exact d
  |succ q=>
   have:=g q V;rw [show i+1+q=i+(q+1) by omega] at this;exact this
def Jz:∀{i:Nat} {x:cZ × Int},(qJ i x).2<=x.2->qJ i x=x/\∀q:Nat,q<i->(x.1.do_ ⟨true,q,0,0⟩).2=false
 |0,_,_=>⟨rfl,λq h=>absurd h (zda q)⟩
 |i+1,x,h=>by
  have k:=Py i (tally x ⟨true,i,0,0⟩);have m:=(Gq x ⟨true,i,0,0⟩).1;simp only [qJ] at h ⊢;obtain⟨b,d⟩:=Jw (x:=x) (p:=⟨true,i,0,0⟩) V;rw [b] at h ⊢;obtain⟨g,j⟩:=Jz h;refine⟨g,λq o=>?_⟩;by_cases e:q=i
  ·rw [e];exact d
  ·exact j q V
structure apM(m:cZ):Prop where
 step:∀j:Nat,j<m.aF.length->(m.step j).2=0
 give:∀q:Nat,q<m.fab.under->(m.fab.deliver q 0 0).2≠0
def U5(e:0<m.c.aF)(w:(m.aF.length:Int)=m.c.aF){first:Int}(h:(m.round first).2<=0):apM m:=by
 unfold cZ.round at h;simp only at h;have o:=Px (jK m.c.aF first) m.c.aF m.c.aF.toNat 0 (m,0);have y:=Py (lQ (jK m.c.aF first) m.c.aF m.c.aF.toNat 0 (m,0)).1.fab.under (lQ (jK m.c.aF first) m.c.aF m.c.aF.toNat 0 (m,0));simp only at o;obtain⟨p,g⟩:=Jy (k:=jK m.c.aF first) (n:=m.c.aF) (j:=m.c.aF.toNat) (i:=0) (x:=(m,0)) (by simp only;omega);rw [p] at h;obtain⟨_,u⟩:=Jz (i:=m.fab.under) (x:=(m,0)) h;have hk:0<=jK m.c.aF first/\jK m.c.aF first<m.c.aF:=⟨Int.tmod_nonneg _ (by
  have:=Int.lt_tmod_of_pos first e
  omega),zdd _ e⟩
 generalize jK m.c.aF first=k at g hk
 refine⟨λj z=>?_,λq v=>?_⟩
 ·-- each node's turn comes
  obtain⟨q,b,d⟩:∃q:Nat,q<m.c.aF.toNat/\(k+(q:Int)).tmod m.c.aF=j:=by
   by_cases h:k<=j
   ·refine⟨(j-k).toNat,V,?_⟩;rw [show k+(((j-k).toNat:Nat):Int)=j by omega,zbt V,zdk V V]
   ·refine⟨(j+m.c.aF-k).toNat,V,?_⟩;rw [show k+(((j+m.c.aF-k).toNat:Nat):Int)=j+m.c.aF by omega,zbt V,zdJ,zdk V V]
  have:=g q b;rw [za5,d] at this;unfold cZ.do_ at this
  simpa using this
 ·have:=u q v;unfold cZ.do_ cZ.deliver at this
  simpa using this
def YW(X:MX T m)(G:GInv m msg val)(S:apM m):m.over=true:=by
 have hc:=X.inv.ok;obtain⟨cn,cl,_,_,_,co,ci⟩:=mF hc;have ai:=X.inv.len;have al:=X.inv.fab.len
 -- what a node's step finds
 have Q:∀(i:Nat) n,m.aF[i]?=some n->(m.fab.take i false).2=none/\¬(n.home.ready≠[]/\m.fab.roomOf i false≠0)/\(m.fab.roomOf i false≠0->(m.fab.take i true).2=none)/\(n.aI.step=0->n.bQ.cur=none):=λi n d=>by
  have h:=S.step i (zaf.1 d).1;unfold cZ.step at h;rw [yL d] at h;simp only at h;unfold Node.step at h;cases W:m.fab.take i false with
  |mk f' po=>
   rw [W] at h;cases po with
   |some p=>simp at h
   |none=>
    simp only at h;by_cases hg:n.home.ready≠[]/\m.fab.roomOf i false≠0
    ·rw [if_pos hg] at h;simp at h
    ·rw [if_neg hg] at h;cases hr:(if m.fab.roomOf i false=0 then(m.fab,none) else m.fab.take i true) with
     |mk f2 aa=>
      rw [hr] at h;cases aa with
      |some p=>simp at h
      |none=>
       refine⟨rfl,hg,λA=>by rw [if_neg A] at hr;rw [hr],λhd=>?_⟩;cases v:n.bQ.cur with
       |none=>rfl
       |some o=>
        rw [v] at h;simp only at h;rw [if_pos hd] at h;simp at h
 have port:∀(i:Nat) q,m.fab.l[i]?=some q->∃n,m.aF[i]?=some n:=λi q b=>⟨_,zab (by have:=(zaf.1 b).1;omega)⟩
 have ain:∀(i:Nat) q,m.fab.l[i]?=some q->q.ain=[]:=λi q b=>by
  obtain⟨n,d⟩:=port i q b;have h:=(Q i n d).1;unfold Fab.take at h;rw [if_pos (EH b),wE b] at h;simp only [Port.ql,zai,if_false] at h;cases e:q.ain with
  |nil=>rfl
  |cons p l=>rw [e] at h;simp at h
 -- akB that may be
 have give:∀p∈m.fab.all,m.fab.room (qR p.aS)<=((m.fab.port p.dst).ql (qR p.aS)).length:=λp hp=>by
  obtain⟨a,ha⟩:=zbr.1 hp;have ab:=(zaf.1 ha).1;have h:=S.give a ab;unfold Fab.deliver at h;rw [if_neg V,zar,ha] at h;simp only at h;have W:aT p.bytes 0 0=false:=by
   unfold aT;rw [List.any_eq_false];intro x _;simp
  rw [W] at h;simp only [zai,if_false] at h;split at h
  ·assumption
  ·simp at h
 have an:∀(i:Nat) q,m.fab.l[i]?=some q->q.an=[]:=λi q b=>by
  cases e:q.an with
  |nil=>rfl
  |cons p l=>
   exfalso;have hm:p∈m.fab.all:=zaY.2 ⟨q,zan b,zcY _ (by rw [e];simp)⟩;have hk:=((G.pk.port i q b).an p (by rw [e];simp)).2.1;have h:=give p hm;have hd:=X.dst.all p hm;have y:=ain _ _ (fG hd);rw [hk] at h;simp only [Fab.room,Port.ql,zai,if_false,y,zao] at h;omega
 have room:∀(i:Nat) q,m.fab.l[i]?=some q->m.fab.roomOf i false≠0:=λi q b=>by
  unfold Fab.roomOf;rw [if_pos (EH b),wE b,X.inv.fab.out];simp only [Port.sort,zai,if_false,an i q b,zao];omega
 have rin:∀(i:Nat) q,m.fab.l[i]?=some q->q.rin=[]:=λi q b=>by
  obtain⟨n,d⟩:=port i q b;have h:=(Q i n d).2.2.1 (room i q b);unfold Fab.take at h;rw [if_pos (EH b),wE b] at h;simp only [Port.ql,if_true] at h;cases e:q.rin with
  |nil=>rfl
  |cons p l=>rw [e] at h;simp at h
 have rq:∀(i:Nat) q,m.fab.l[i]?=some q->q.rq=[]:=λi q b=>by
  cases e:q.rq with
  |nil=>rfl
  |cons p l=>
   exfalso;have hm:p∈m.fab.all:=zaY.2 ⟨q,zan b,zcC _ (by rw [e];simp)⟩;have hk:=((G.pk.port i q b).rq p (by rw [e];simp)).2.1;have h:=give p hm;have hd:=X.dst.all p hm;have y:=rin _ _ (fG hd);rw [hk] at h;simp only [Fab.room,Port.ql,if_true,y,zao,X.inv.fab.inn] at h;omega
 have ad:Ae m.fab=[]:=zb1.2 λq b=>by
  obtain⟨i,hi⟩:=zbr.1 b;simp [wP,rq i q hi,rin i q hi]
 have C:Af m.fab=[]:=zb1.2 λq b=>by
  obtain⟨i,hi⟩:=zbr.1 b;simp [wQ,an i q hi,ain i q hi]
 have u:∀j p,msg j≠.req p/\msg j≠.ans p:=λj p=>⟨λh=>(by have:=G.pk.rc j p h;rw [ad] at this;cases this),λh=>(by have:=G.pk.ac j p h;rw [C] at this;cases this)⟩
 have free:∀L,0<=L->L<m.c.aY->(m.abs msg val).own L=-1:=λL A R=>by
  rcases G.abs.aj L A R with⟨h,_⟩|⟨_,_,_,H⟩
  ·exact h
  ·exfalso;rcases Hold.ac0 H with⟨p,h,_⟩|⟨p,h⟩
   ·exact(u _ p).1 h
   ·exact(u _ p).2 h
 -- nobody waits
 have ae:∀j,0<=j->j<m.c.aF->msg j≠.wait:=λj A R hw=>by
  rcases G.abs.bF j A R with⟨_,h⟩|O
  ·have h':msg j=.idle:=h;rw [h'] at hw;cases hw
  ·rcases O.at_ with⟨_,_,h|⟨_,h⟩⟩|g|F
   ·exact(u j _).1 h
   ·-- its home is ready to let it in
    have hl:=O.aj;have hh:=DY hc hl.1;obtain⟨n,d⟩:∃n,m.aF[(m.c.bf ((m.abs msg val).aI j).aj).toNat]?=some n:=⟨_,zab V⟩
    have k:(((m.c.bf ((m.abs msg val).aI j).aj).toNat:Nat):Int)=m.c.bf ((m.abs msg val).aI j).aj:=V
    have af:(m.abs msg val).ws ((m.abs msg val).aI j).aj=n.home.aT.ws ((m.abs msg val).aI j).aj:=by
     show(m.mP _).aT.ws _=_;rw [ng d k.symm]
    have D:(m.abs msg val).own ((m.abs msg val).aI j).aj=n.home.aT.owner ((m.abs msg val).aI j).aj:=by
     show(m.mP _).aT.owner _=_;rw [ng d k.symm]
    have hf:=free _ hl.1 hl.2;rw [D] at hf;rw [af] at h;have NI:=X.inv.bF _ n d;have E:n.home.aT.owned ((m.abs msg val).aI j).aj=false:=by
     cases e:n.home.aT.owned ((m.abs msg val).aI j).aj with
     |false=>rfl
     |true=>exact absurd hf ((NI.home.aT.owned _).1 e)
    have w:n.home.aT.ws ((m.abs msg val).aI j).aj≠[]:=λe=>by rw [e] at h;cases h
    have K:((m.abs msg val).aI j).aj∈n.home.aT.wait.map (·.1):=by
     unfold Turns.ws at w;cases e:jE n.home.aT.wait ((m.abs msg val).aI j).aj with
     |none=>rw [e] at w;exact absurd rfl w
     |some l=>exact zaJ.2 ⟨_,mY e,rfl⟩
    have M:((m.abs msg val).aI j).aj∈n.home.ready:=by
     unfold Home.ready Turns.ready;refine zbp.2 ⟨?_,?_⟩
     ·have:=(vO (n.home.aT.wait.map (·.1)) [] List.Pairwise.nil).1;exact this.mem_iff.2 (by simpa using K)
     ·simp [E,w]
    have YO:m.fab.l[(m.c.bf ((m.abs msg val).aI j).aj).toNat]?=some (m.fab.port (m.c.bf ((m.abs msg val).aI j).aj)):=fG (X.is hh rfl);refine(Q _ n d).2.1 ⟨λe=>?_,room _ _ YO⟩;rw [e] at M;cases M
   ·obtain⟨_,H⟩:=G.abs.holder O.aj g A;rcases H.ac0 with⟨p,h,_⟩|⟨p,h⟩
    ·exact(u _ p).1 h
    ·exact(u _ p).2 h
   ·exact(u j _).2 F.2.2
 have idle:∀(i:Nat) n,m.aF[i]?=some n->n.aI.step=0:=λi n d=>by
  have hi:=X.range d;rcases G.abs.bF i hi.1 hi.2 with⟨h,_⟩|O
  ·have hd:(m.abs msg val).aI i=n.aI:=kT d;rw [hd] at h;exact h
  ·exfalso;rcases O.at_ with⟨_,_,h|⟨h,_⟩⟩|g|F
   ·exact(u i _).1 h
   ·exact ae i hi.1 hi.2 h
   ·obtain⟨_,H⟩:=G.abs.holder O.aj g hi.1;rcases H.ac0 with⟨p,h,_⟩|⟨p,h⟩
    ·exact(u _ p).1 h
    ·exact(u _ p).2 h
   ·exact(u i _).2 F.2.2
 have done:∀(i:Nat) n,m.aF[i]?=some n->n.bQ.left=0/\n.bQ.eH=false:=λi n d=>by
  have v:=(Q i n d).2.2.2 (idle i n d);have P:=(X.inv.bF i n d).bQ;unfold Proc.cur at v;have R:=List.getElem?_eq_none_iff.1 v;have h2:=P.vals;refine⟨by unfold Proc.left;omega,?_⟩;cases hb:n.bQ.eH with
  |false=>rfl
  |true=>have:=P.eH hb;omega
 have ag:m.fab.under=0:=by
  unfold Fab.under;rw [List.length_eq_zero_iff];refine zb1.2 λq b=>?_;obtain⟨i,hi⟩:=zbr.1 b;simp [rq i q hi,an i q hi]
 have z:m.left=0:=by
  unfold cZ.left;have:∀l:List Node,(∀n∈l,n.bQ.left=0)->(l.map λn=>n.bQ.left).sum=0:=by
   intro l
   induction l with
   |nil=>intro _;rfl
   |cons n l ih=>
    intro h;rw [zay,zbz,h n ZZ,ih λx hx=>h x (by simp [hx])];rfl
  refine this _ λn d=>?_;obtain⟨i,hi⟩:=zbr.1 d;exact(done i n hi).1
 unfold cZ.over cZ.quiet;rw [ag,z];simp only [decide_true,zcK,za2,zaZ];intro i hi;unfold cZ.busy;obtain⟨n,d⟩:∃n,m.aF[i]?=some n:=⟨_,zab hi⟩
 obtain⟨q,b⟩:∃q,m.fab.l[i]?=some q:=⟨_,zab V⟩
 rw [d];simp only [idle i n d,(done i n d).2,decide_true,zae,zbI,za7,decide_eq_false_iff_not];unfold Fab.waiting;rw [if_pos (EH b),if_pos (EH b),wE b];simp [Port.ql,rin i q b,ain i q b]
end
def zo(m:cZ)(k:Nat):Prop:=∃msg val,GInv m msg val/\m.todo msg<=k
section
variable {m:cZ}{T k:Nat}
def zo.do_(X:MX T m)(h:zo m k)(p:Pck):∃k',zo (m.do_ p).1 k'/\k'+(if(m.do_ p).2=true then 1 else 0)<=k:=by
 obtain⟨msg,val,G,hk⟩:=h;cases hb:(m.do_ p).2 with
 |false=>
  rw [Xr hb];exact⟨k,⟨msg,val,G,hk⟩,O⟩
 |true=>
  obtain⟨msg',val',G',_,F⟩:=G.do_ X p;have:=F hb;exact⟨_,⟨msg',val',G',zac _⟩,by simp;omega⟩
def zo.tally {x:cZ × Int}(X:MX T x.1)(h:zo x.1 k)(p:Pck):∃k':Nat,zo (tally x p).1 k'/\k'+(tally x p).2<=k+x.2:=by
 obtain⟨k',b,hk⟩:=h.do_ X p;refine⟨k',b,?_⟩;unfold Go.Proofs.YtljogojaihgdlaaGreat.tally;cases hb:(x.1.do_ p).2 <;> rw [hb] at hk <;> simp at hk ⊢ <;> omega
def zo.steps(a n:Int):∀(j i:Nat) {x:cZ × Int} {T k:Nat},MX T x.1->zo x.1 k->∃(b k':Nat),MX b (lQ a n j i x).1/\zo (lQ a n j i x).1 k'/\k'+(lQ a n j i x).2<=k+x.2
 |0,_,x,T,k,X,h=>⟨T,k,X,h,za6 _⟩
 |j+1,i,x,T,k,X,h=>by
  obtain⟨k1,d,e⟩:=h.tally X ⟨false,(a+i).tmod n,0,0⟩;obtain⟨b,k',X',g,m⟩:=zo.steps a n j (i+1) (X.do_ _) d;exact⟨b,k',X',g,zdb m e⟩
def zo.gives:∀(i:Nat) {x:cZ × Int} {T k:Nat},MX T x.1->zo x.1 k->∃(b k':Nat),MX b (qJ i x).1/\zo (qJ i x).1 k'/\k'+(qJ i x).2<=k+x.2
 |0,x,T,k,X,h=>⟨T,k,X,h,za6 _⟩
 |i+1,x,T,k,X,h=>by
  obtain⟨k1,d,e⟩:=h.tally X ⟨true,i,0,0⟩;obtain⟨b,k',X',g,j⟩:=zo.gives i (X.do_ _) d;exact⟨b,k',X',g,zdb j e⟩
def zo.round(X:MX T m)(h:zo m k)(first:Int):∃d k':Nat,MX d (m.round first).1/\zo (m.round first).1 k'/\k'+(m.round first).2<=k:=by
 obtain⟨q,k1,e,g,i⟩:=zo.steps (jK m.c.aF first) m.c.aF m.c.aF.toNat 0 (x:=(m,0)) X h;obtain⟨j,b,o,p,u⟩:=zo.gives (lQ (jK m.c.aF first) m.c.aF m.c.aF.toNat 0 (m,0)).1.fab.under e g;exact⟨j,b,o,p,by show b+(qJ _ _).2<=(k:Int);simp only at i;omega⟩
def Pz(X:MX T m)(h:zo m k)(b:m.over=false)(first:Int):1<=(m.round first).2:=by
 obtain⟨msg,val,G,_⟩:=h;refine Classical.byContradiction λd=>?_;have:=YW X G (U5 (by have:=(mF X.inv.ok).1;omega) X.inv.len (first:=first) V);rw [b] at this;cases this
def JA {d:List Int}{most:Int}:∀(b n:Nat) {m:cZ} {T k:Nat},MX T m->zo m k->(n:Int)+k<=most->k<=b->(fO d most b n m).1.over=true
 |b,n,m,T,k,X,h,hm,j=>by
  cases g:m.over with
  |true=>
   cases b with
   |zero=>exact g
   |succ b=>
    unfold fO;rw [if_neg (by rw [g];simp)];exact g
  |false=>
   obtain⟨o,k',X',i,e⟩:=h.round X (d.getD n 0);have:=Pz X h g (d.getD n 0);cases b with
   |zero=>omega
   |succ b=>
    unfold fO;rw [if_pos ⟨V,g⟩];exact JA b (n+1) X' i V V
end
def YX {c:Cfg}{ps:List (List Opn)}(m:(ps.length:Int)=c.aF):(cZ.new c ps).todo (λ_=>.idle)<=66*(ps.map List.length).sum+26*ps.length:=by
 have b:c.aF.toNat=ps.length:=V
 have bF:∀j:Nat,(cZ.new c ps).bF j=(ps[j]?).map λl=>.new c j l:=λj=>by
  unfold cZ.bF cZ.new;rw [if_pos V,zar];simp only [zbd]
 have hw:∀(j:Nat) (L:Int),wt ((cZ.new c ps).lX j) L ((cZ.new c ps).Gl L j)=0:=λj L=>by
  have:(cZ.new c ps).Gl L j=none:=by
   unfold cZ.Gl;rw [bF];cases ps[j]? <;> rfl
  rw [this];rfl
 have hd:∀j:Nat,Dp ((cZ.new c ps).lX j) .idle=13:=λj=>by
  unfold cZ.lX;rw [bF];cases ps[j]? <;> rfl
 have d:∀j:Nat,(cZ.new c ps).uO j=(ps.getD j []).length:=λj=>by
  unfold cZ.uO;rw [bF,zas];cases ps[j]? <;> rfl
 have e:Ac c.aF (λj=>33*(cZ.new c ps).uO j+Dp ((cZ.new c ps).lX j) .idle)=33*(ps.map List.length).sum+13*ps.length:=by
  unfold Ac;rw [b];simp only [hd,d];have key:∀l:List (List Opn),((List.range l.length).map λj=>33*(l.getD j []).length+13).sum=33*(l.map List.length).sum+13*l.length:=by
   intro l
   induction l with
   |nil=>rfl
   |cons a l g=>
    rw [zam,List.range_succ_eq_map,zay,zbz,zc0,zay,zbz];have:((List.range l.length).map ((λj=>33*((a::l).getD j []).length+13) ∘ Nat.succ))=(List.range l.length).map λj=>33*(l.getD j []).length+13:=by
     apply zbs
     intro j _;simp
    rw [this,g];simp only [List.getD_cons_zero];omega
  exact key ps
 have h:Ac c.aF (λj=>Ac c.aY λL=>wt ((cZ.new c ps).lX j) L ((cZ.new c ps).Gl L j))=0:=by
  have z:∀l:List Nat,(l.map λ_:Nat=>0).sum=0:=λl=>by induction l <;> simp_all
  unfold Ac;simp only [hw,z]
 have i:(cZ.new c ps).fab.under=0:=by
  unfold Fab.under;rw [List.length_eq_zero_iff];refine zb1.2 λq k=>?_;rw [show q=.zero from zbY k];rfl
 show 2*(Ac c.aF (λj=>33*(cZ.new c ps).uO j+Dp ((cZ.new c ps).lX j) .idle)+Ac c.aF λj=>Ac c.aY λL=>wt ((cZ.new c ps).lX j) L ((cZ.new c ps).Gl L j))+(cZ.new c ps).fab.under<=_;rw [e,h,i];omega
def afD {c:Cfg}(hc:c.ok=true){ps:List (List Opn)}(b:(ps.length:Int)=c.aF):zo (.new c ps) (66*(ps.map List.length).sum+26*ps.length):=⟨_,_,afB hc b,YX b⟩
section
variable {b:Nat}{H:ah}{g:bD}{A:Adr}{m:cZ}{T k:Nat}
def qj.todo(R:qj b H g A m T)(D:zo m k)(first:Int):∃k',zo (m.round first).1 k'/\k'+(m.round first).2<=k:=by
 obtain⟨_,k',_,d,e⟩:=D.round R.keep first
 exact⟨k',d,e⟩
def U6 {x:AV}{h:List Int}(Y:∀H,aN H x 1 h.length (h.map I))(hw:∀z∈h,qI z){most:Int}(hm:qI most)(A:Adr):
  ∀(d n:Nat) {H:ah} {g:bD} {m:cZ} {T k:Nat},(0<d->(n:Int)+d=most)->(d=0->most<=n)->qj b H g A m T->zo m k->T+102*k<900000->
   ∃K g' y k',NH cl [.ref A.gY 0 0,I most,x,I n] H=some (I (fO h most d n m).2,K)/\qj b K g' A (fO h most d n m).1 y/\zo (fO h most d n m).1 k'/\y<=T+102*k/\Off (O6 A m.aF.length m.fab.l.length) g g'/\Step b H K/\
    (fO h most d n m).1.aF.length=m.aF.length/\(fO h most d n m).1.fab.l.length=m.fab.l.length:=by
 intro d
 induction d with
 |zero=>
  intro n H g m T k _ X R D hT;have j:¬(n:Int)<most:=by have:=X rfl;omega
  refine⟨H,g,T,k,?_,R,D,V,Off.refl _ _,Step.refl _ _,rfl,rfl⟩;rw [NM];simp only [xq_,j,fO]
 |succ d ih=>
  intro n H g m T k F _ R D hT;have F:=F (Nat.succ_pos _);have j:(n:Int)<most:=V
  have p:=abK R.good R.gY R.keep.fine;rw [show(m.quiet && decide (m.left=0))=m.over from rfl] at p;cases u:m.over with
  |true=>
   rw [u] at p;have e:fO h most (d+1) n m=(m,(n:Int)):=by unfold fO;rw [if_neg (by rw [u];simp)]
   rw [e];refine⟨H,g,T,k,?_,R,D,V,Off.refl _ _,Step.refl _ _,rfl,rfl⟩;rw [NM];simp only [xq_,j,p,zae]
  |false=>
   rw [u] at p;have e:fO h most (d+1) n m=fO h most d (n+1) (m.round (h.getD n 0)).1:=by
    rw [show fO h most (d+1) n m=if(n:Int)<most/\m.over=false then fO h most d (n+1) (m.round (h.getD n 0)).1 else(m,(n:Int)) from rfl,if_pos ⟨j,u⟩]
   rw [e];have hz:qI (h.getD n 0):=by
    rw [zas];cases q:h[n]? with
    |none=>exact Xn
    |some z=>exact hw z (zan q)
   obtain⟨k1,D1,e1⟩:=R.todo D (h.getD n 0);have e2:=Pz R.keep D u (h.getD n 0);obtain⟨K1,g1,C,R1,O1,S1,n1,G⟩:=Xp R V hz;obtain⟨K,g',y,k',r,R',D',aa,L,S',l1,l2⟩:=ih (n+1) (k:=k1) (λ_=>V) (λ_=>V) R1 D1 V;have M:(n:Int)+1=((n+1:Nat):Int):=V
   have hi:=hm.2;have Q:=wrap_i64 (a:=((n+1:Nat):Int)) V V;have W:=(Y H).lnS;refine⟨K,g',y,k',?_,R',D',V,O1.trans (by rw [n1,G] at L;exact L),S1.trans S',l1.trans n1,l2.trans G⟩;rw [NM];by_cases E:n<h.length
   ·have o:(n:Int)<(h.length:Int):=V
    have v:=(Y H).ix (k:=.i64) (i:=(n:Int)) V o;rw [zar] at v;have w:=(Y H).ld E;have q:h.getD n 0=h[n]:=by rw [zas,zab E];rfl
    rw [zaH,zab E,<-q,zaj,zaj] at w;simp only [xq_,j,p,zal,W,o,v,w,NJ,C,bU,M,Q,r]
   ·have o:¬(n:Int)<(h.length:Int):=V
    have q:h.getD n 0=0:=by rw [zas,zaG V];rfl
    rw [q] at C r;rw [q];simp only [xq_,j,p,zal,W,o,NJ,C,bU,M,Q,r]
def ade {x:AV}{d:List Int}(Y:∀H,aN H x 1 d.length (d.map I))(hw:∀z∈d,qI z){most:Int}(hm:qI most)(R:qj b H g A m T)(D:zo m k)(h:T+102*k<900000):
   ∃K g' e k',cl 27 [.ref A.gY 0 0,I most,x] H=some (I (fO d most most.toNat 0 m).2,K)/\qj b K g' A (fO d most most.toNat 0 m).1 e/\zo (fO d most most.toNat 0 m).1 k'/\e<=T+102*k/\Off (O6 A m.aF.length m.fab.l.length) g g'/\Step b H K/\
    (fO d most most.toNat 0 m).1.aF.length=m.aF.length/\(fO d most most.toNat 0 m).1.fab.l.length=m.fab.l.length:=by
 obtain⟨K,g',e,k',r,i⟩:=U6 (b:=b) Y hw hm A most.toNat 0 (λ_=>V) (λ_=>V) R D h;refine⟨K,g',e,k',bC rfl rfl (ama _ _ _ _ _ ?_),i⟩;rw [aiR];exact r
end
def akC(A:Adr)(k n:Nat)(q:Nat):Prop:=O6 A k n q∨q=A.gY∨q=A.fab
section
variable {b:Nat}{H:ah}{g g':bD}{A A':Adr}{m:cZ}{T mid:Nat}
def fV.agree(M:fV g A m)(h:∀x,akC A m.aF.length m.fab.l.length x->g' x=g x):fV g' A m:=by
 refine⟨by rw [h _ (.inr (.inl rfl))];exact M.gY,by rw [h _ (.inl (.inr (.inr rfl)))];exact M.trace,M.fab.same (h _ (.inr (.inr rfl))) λq d=>h _ (.inl (.inr (.inl d))),λi n b=>(M.bF i n b).ext λs hs=>h _ (.inl (.inl ⟨i,s,(zaf.1 b).1,hs,rfl⟩)),M.SX,M.akA,M.tf⟩
def fV.there(M:fV g A m){x:Nat}(h:akC A m.aF.length m.fab.l.length x):∃cs,g x=some cs:=by
 rcases h with h|rfl|rfl
 ·exact M.here h
 ·exact⟨_,M.gY⟩
 ·exact⟨_,M.fab.1⟩
structure Two(b:Nat)(H:ah)(g:bD)(A A':Adr)(m:cZ)(T mid:Nat):Prop where
 good:Good b H g
 base:H.base<=b
 one:fV g A m
 two:fV g A' m
 keep:MX T m
 lo:∀x,akC A m.aF.length m.fab.l.length x->x<mid
 hi:∀x,akC A' m.aF.length m.fab.l.length x->mid<=x
def Two.run(R:Two b H g A A' m T mid):qj b H g A m T:=⟨R.good,R.base,R.one,R.keep⟩
end
def aks {c:Cfg}(hc:c.ok=true)(b:c.aF<=4){ps:List (List Opn)}(d:(ps.length:Int)=c.aF)(g:∀l∈ps,l.length<=24):
  ∃k,zo (.new c ps) k/\(k:Int)<=EP c ps/\k<=6500/\EP c ps<=40000/\0<=EP c ps/\nP ps<=96:=by
 have h:=WQ g;have i:ps.length*24<=4*24:=zaB _ V;have j:=(mF hc).1;have e:EP c ps=40*((nP ps:Int)*c.aF)+240*nP ps+40*c.aF+240:=by
  unfold EP;rw [Int.mul_assoc,Int.add_mul,Int.mul_add,Int.one_mul,Int.mul_add];omega
 have m:(0:Int)<=(nP ps:Int)*c.aF:=zb0 V V;have o:(nP ps:Int)*c.aF<=96*4:=zbN V b V V;refine⟨_,afD hc d,?_,?_,V,V,V⟩
 ·show((66*nP ps+26*ps.length:Nat):Int)<=_;omega
 ·show 66*nP ps+26*ps.length<=6500;omega
def PD {n:Int}(b:1<=n)(v:Int):jK n (dM v n)=jK n v:=by
 have h:=lC (v:=v) b;have i:dM v n=v % n:=by unfold dM;rw [if_neg V]
 have t:=WM v n b;have f:=WL v n b;have key:∀a:Int,0<=a->a<n->jK n a=a:=λa d e=>by
  unfold jK;rw [Int.tmod_eq_of_lt d e,zbt V,zdJ,zdk d e]
 rw [key _ h.1 h.2,i,f];unfold jK;generalize v.tmod n=z at t;by_cases g:z<0
 ·rw [if_pos g,Int.tmod_eq_of_lt V V]
 ·rw [if_neg g,zbt V,zdJ,zdk V V]
def SQ {m:cZ}(b:1<=m.c.aF)(v:Int):m.round (dM v m.c.aF)=m.round v:=by
 unfold cZ.round;rw [PD b]
section
variable {b:Nat}{H:ah}{g:bD}{A A':Adr}{m m0:cZ}{T k mid:Nat}
structure Duo(b:Nat)(H:ah)(g:bD)(A A':Adr)(m m0:cZ)(T mid:Nat):Prop where
 run:qj b H g A m T
 two:fV g A' m0
 apP:MX 0 m0
 l1:m.aF.length=m0.aF.length
 l2:m.fab.l.length=m0.fab.l.length
 lo:∀x,akC A m0.aF.length m0.fab.l.length x->x<mid
 hi:∀x,akC A' m0.aF.length m0.fab.l.length x->mid<=x
def adf {m:cZ}(h:m.over=true):m.quiet=true/\m.left=0:=by
 unfold cZ.over at h
 simpa using h
def ah0(R:Duo b H g A A' m m0 T mid){o:Nat}(D:zo m0 o)(hk:102*o<890000){x:AV}{j:List Int}(Y:∀H,aN H x 1 j.length (j.map I))(hw:∀z∈j,qI z){most:Int}(hm:qI most){n:Nat}(e:fO j most most.toNat 0 m0=(m,(n:Int)))(W:m.over=true):
  ∃H',KW cl [x,.ref A.gY 0 0,.ref A'.gY 0 0,I n,I most] H=some (B true,H'):=by
 obtain⟨p,q⟩:=adf W;have X:=R.run.keep;have u:=Uy R.run.good R.run.gY X.fine;have v:=OG R.run.good R.run.gY X.fine;rw [q] at u;rw [p] at v;obtain⟨K,g',T',k',r,d,D',aa,O',S',l1,l2⟩:=ade (b:=b) Y hw hm (⟨R.run.good,R.run.base,R.two,R.apP⟩:qj b H g A' m0 0) D V;rw [e] at r d
 replace d:qj b K g' A' m T':=d
 have w:fV g' A m:=R.run.gY.agree λy C=>O' y λh=>by
  rw [R.l1,R.l2] at C;have:=R.lo y C;have:=R.hi y (.inl h);omega
 have E:=(⟨d.good,d.base,w,X⟩:qj b K g' A m T).trace;have F:=d.trace;obtain⟨y1,G,u1⟩:=I8 d.good.guard w.trace (by have:=Xk X.inv;omega);obtain⟨y2,L,u2⟩:=I8 d.good d.gY.trace (by have:=Xk X.inv;omega);have M:=ajD K (by have:=Xk X.inv;omega) (u1 K) (u2 K);have Q:=λmost=>IZ d.good d.gY X.fine p q most zN;have wk:=λH=>ajv H;refine⟨K,?_⟩;rw [aaq];by_cases i:(n:Int)<most
 ·have k:¬(0:Int)<0:=V
  simp only [Int.reduceNeg,xq_,i,u,v,k,zae,r,E,F,G,L,M,Q,wk]
 ·simp only [Int.reduceNeg,xq_,i,r,E,F,G,L,M,Q,wk]
def akt {x:AV}{o:List Int}(Y:∀H,aN H x 1 o.length (o.map I))(hw:∀z∈o,qI z){most:Int}(hm:qI most){k0:Nat}(D0:zo m0 k0)(hk:102*k0<890000):
  ∀(d n:Nat) {H:ah} {g:bD} {m:cZ} {T k:Nat},(0<d->(n:Int)+d=most)->(d=0->most<=n)->Duo b H g A A' m m0 T mid->zo m k->T+102*k<900000->fO o most most.toNat 0 m0=fO o most d n m->(fO o most d n m).1.over=true->
   ∃H',KW cl [x,.ref A.gY 0 0,.ref A'.gY 0 0,I n,I most] H=some (B true,H'):=by
 intro d
 induction d with
 |zero=>
  intro n H g m T k _ h0 R D hT e Q;exact ah0 R D0 hk Y hw hm e Q
 |succ d ih=>
  intro n H g m T k h1 _ R D hT e Q;have h1:=h1 (Nat.succ_pos _);have u:(n:Int)<most:=V
  cases p:m.over with
  |true=>
   have e2:fO o most (d+1) n m=(m,(n:Int)):=by unfold fO;rw [if_neg (by rw [p];simp)]
   rw [e2] at e;exact ah0 R D0 hk Y hw hm e p
  |false=>
   have e2:fO o most (d+1) n m=fO o most d (n+1) (m.round (o.getD n 0)).1:=by
    rw [show fO o most (d+1) n m=if(n:Int)<most/\m.over=false then fO o most d (n+1) (m.round (o.getD n 0)).1 else(m,(n:Int)) from rfl,if_pos ⟨u,p⟩]
   rw [e2] at e Q;have X:=R.run.keep;have Bn:=(vT X.inv.ok).aF;have W:=Uy R.run.good R.run.gY X.fine;have d1:=OG R.run.good R.run.gY X.fine;have w:(0<m.left)∨(¬0<m.left/\m.quiet=false):=by
    by_cases h:0<m.left
    ·exact .inl h
    ·refine .inr ⟨h,?_⟩;have h0:0<=m.left:=by
      have:∀l:List Node,(∀n∈l,0<=n.bQ.left)->0<=(l.map λn=>n.bQ.left).sum:=by
       intro l
       induction l with
       |nil=>intro _;exact za6 _
       |cons a l ih=>
        intro h;have h1:=h a O;have h2:=ih λn F=>h n (by simp [F]);rw [zay,zbz];omega
      refine this _ λn F=>?_;obtain⟨j,hj⟩:=zbr.1 F;have:=(X.inv.bF j n hj).bQ.vals;unfold Proc.left;omega
     have hz:m.left=0:=V
     cases M:m.quiet with
     |false=>rfl
     |true=>
      unfold cZ.over at p;rw [M,hz] at p;exact absurd p Z
   obtain⟨k1,D1,e3⟩:=R.run.todo D (o.getD n 0);have e4:=Pz X D p (o.getD n 0);have h6:(n:Int)+1=((n+1:Nat):Int):=V
   have hi:=hm.2;have h7:=wrap_i64 (a:=((n+1:Nat):Int)) V V;have ln:=(Y H).lnS;have go:∀z:Int,qI z->m.round z=m.round (o.getD n 0)->∃K H',cl 30 [.ref A.gY 0 0,I z] H=some (I (m.round (o.getD n 0)).2,K)/\KW cl [x,.ref A.gY 0 0,.ref A'.gY 0 0,I ((n+1:Nat):Int),I most] K=some (B true,H'):=λz hz ez=>by
    obtain⟨K1,g1,E,R1,O1,S1,n1,n2⟩:=Xp R.run V hz;rw [ez] at E R1 n1 n2;have R2:Duo b K1 g1 A A' (m.round (o.getD n 0)).1 m0 (T+102) mid:=by
     refine⟨R1,R.two.agree λy hy=>O1 y λh=>?_,R.apP,n1.trans R.l1,n2.trans R.l2,R.lo,R.hi⟩;rw [R.l1,R.l2] at h;have:=R.lo y (.inl h);have:=R.hi y hy;omega
    obtain⟨H',r⟩:=ih (n+1) (λ_=>V) (λ_=>V) R2 D1 V e Q;exact⟨K1,H',E,r⟩
   have C:¬(m.round (o.getD n 0)).2<1:=V
   have cf:=yJ R.run.good.guard R.run.gY X.inv.ok;have lc:m.c.av[0]?=some (I m.c.aF):=rfl;by_cases F:n<o.length
   ·have q:(n:Int)<(o.length:Int):=V
    have G:=(Y H).ix (k:=.i64) (i:=(n:Int)) V q;rw [zar] at G;have L:=(Y H).ld F;have hg:o.getD n 0=o[n]:=by rw [zas,zab F];rfl
    rw [zaH,zab F,<-hg,zaj,zaj] at L;have wi:=λH=>vU H (o.getD n 0) m.c.aF V;have wr:=lC (v:=o.getD n 0) (n:=m.c.aF) V;obtain⟨K,H',E,r⟩:=go (dM (o.getD n 0) m.c.aF) ⟨V,V⟩ (SQ V _);refine⟨H',?_⟩;rw [aaq];rcases w with h|⟨h,M⟩
    ·simp only [Int.reduceNeg,xq_,u,W,h,ln,q,G,L,cf,lc,wi,KX,E,C,bU,h6,h7,r]
    ·rw [M] at d1;simp only [Int.reduceNeg,xq_,u,W,h,d1,zal,ln,q,G,L,cf,lc,wi,KX,E,C,bU,h6,h7,r]
   ·have q:¬(n:Int)<(o.length:Int):=V
    have hg:o.getD n 0=0:=by rw [zas,zaG V];rfl
    obtain⟨K,H',E,r⟩:=go 0 Xn (by rw [hg]);refine⟨H',?_⟩;rw [aaq];rcases w with h|⟨h,M⟩
    ·simp only [Int.reduceNeg,xq_,u,W,h,ln,q,KX,E,C,bU,h6,h7,r]
    ·rw [M] at d1;simp only [Int.reduceNeg,xq_,u,W,h,d1,zal,ln,q,KX,E,C,bU,h6,h7,r]
end
def SS {s:lu}{zi zw zk za zv:List Int}(h:s.Ok zi zw zk za zv)(hi:aN ah.empty s.init 1 zi.length (zi.map I))(hw:aN ah.empty s.who 1 zw.length (zw.map I))(hk:aN ah.empty s.kinds 1 zk.length (zk.map I))(ha:aN ah.empty s.kV 1 za.length (za.map I))(hv:aN ah.empty s.bH 1 zv.length (zv.map I))
  (hc:s.init.aP=true/\s.who.aP=true/\s.kinds.aP=true/\s.kV.aP=true/\s.bH.aP=true) {x:AV} {o:List Int} (Y:aN ah.empty x 1 o.length (o.map I)) (wf:∀z∈o,qI z):
  ∃H',cl 6 [.agg s.cells,x] ah.empty=some (B true,H'):=by
 have Z:atx s zi zw zk za zv:=⟨h,hi,hw,hk,ha,hv,hc⟩
 have p:s.cells.all AV.aP=true:=by
  simp only [lu.cells,zcJ,zdy,hc,zcK];rfl
 have W:∀H,aN H x 1 o.length (o.map I):=λH=>Y.jq (zaW _) λr _ hr=>absurd hr (zda r);let H1:=ah.empty.new (.blk 0 24 s.cells);let c:=s.cfg zi;let ps:=qE c zw zk za zv 16;obtain⟨i,A,q,f,N,g,mid,b,y,j,hb,S1,X,C⟩:=akj Z H1 (zaW _) (mo:=16) ZS (c:=c) (ps:=ps) rfl rfl;have d:c.ok=true:=X.inv.ok;have e2:=yJ j.good j.gY d;have E:i.base<=i.next:=zax j.base j.good.1
 obtain⟨m,A',Q,e3,w,T⟩:=Dy i E c d (aeP i ps) C;have G:=j.good.merge w;have R:Two b m (cup i.next g Q) A A' (.new c ps) 0 i.next:=by
  refine⟨G,by rw [w.base];exact j.base,j.gY.sub (Xl j.good rfl),T.sub (Xm w.good (zac _)),X,λx F=>?_,λx F=>?_⟩
  ·obtain⟨cs,e⟩:=j.gY.there F;exact j.good.lt e
  ·obtain⟨cs,e⟩:=T.there F;exact w.good.le e
 have u:(ps.length:Int)=c.aF:=by
  have:=nJ c zw zk za zv (min zw.length 16);have h0:=(mF d).1;have hl:ps.length=c.aF.toNat:=nJ _ _ _ _ _ _;omega
 have h4:c.aF<=4:=by
  have:=lC (v:=s.aF) (n:=4) ZS;show 1+dM s.aF 4<=4;omega
 obtain⟨k,D,k1,k2,k3,k4,k5⟩:=aks d h4 u (yG _ _ _ _ _ _);have e4:=yJ R.good R.one d;have e5:=WJ m c (by have:=(mF d).1;omega) (aeP m ps) V V;have hm:qI (EP c ps):=⟨V,V⟩
 have U:Duo b m (cup i.next g Q) A A' (.new c ps) (.new c ps) 0 i.next:=⟨R.run,R.two,X,rfl,rfl,R.lo,R.hi⟩
 obtain⟨H',e⟩:=akt (b:=b) (A:=A) (A':=A') (mid:=i.next) W wf hm D V (EP c ps).toNat 0 (λ_=>V) (λ_=>V) U D V rfl (JA _ 0 X D V V);have z0:((0:Nat):Int)=0:=rfl;have K:((16:Nat):Int)=16:=rfl;rw [z0] at e;rw [K] at y;have ls:s.cells.length=12:=rfl;have lt:s.cells.take 12=s.cells:=rfl;have en:∀A:Adr,bi .eql 62 (.ref A.gY 0 0) zP=some (B false):=λA=>by kernel_rfl
 have b0:bi .neq 48 (I 0) (I 0)=some (B false):=J
 refine⟨H',bC rfl rfl (atK _ _ _ _ ?_)⟩;simp only [H1] at y;have L:cl 25 [.ref A.gY 0 0] i=some (.agg c.av,i):=e2;have M:cl 25 [.ref A.gY 0 0] m=some (.agg c.av,m):=e4;simp only [Nat.reduceLT,xq_,hq_,ath,aG p,ls,lt,y,en,L,e3,b0,M,e5,e]
end
end Go.Proofs.YtljogojaihgdlaaGreat
