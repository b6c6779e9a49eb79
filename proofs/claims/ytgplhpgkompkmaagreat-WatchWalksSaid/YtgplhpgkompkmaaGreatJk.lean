/-
  Own work: an interpreter over named blocks, its soundness, and what the functions of this seat compute (part 11 of 12).
  Conditions: those of the statement alone.
-/
import Derived.Test.YtgplhpgkompkmaaGreatJj
set_option linter.all false
set_option linter.unusedSectionVars false
set_option linter.unusedVariables false
set_option linter.unusedSimpArgs false
namespace Go.Proofs.YtgplhpgkompkmaaGreat
noncomputable section
def lV {E:tu}{i:Int}:nT E i (E i)=E:=by
 funext j
 by_cases h:j=i
 ·rw[h,gu]
 ·rw[fD h]
def adH {d:bU}{p:Pkt}(hk:p.aU=DW (Aj d.step))(b:p.id=d.id)(e:p.ak=d.ak)(g:1<=d.step/\d.step<=6):d.fits p=true:=by
 have:d.step=1∨d.step=2∨d.step=3∨d.step=4∨d.step=5∨d.step=6:=V
 unfold bU.fits;simp only[hk,b,e,decide_true,zcN,decide_eq_true_eq];rcases this with h|h|h|h|h|h <;> simp[h,DW,Aj]
structure arC(c:Cfg)(N hm:Int)(E:tu)(r:Row)(v:List Int)(i:Int)(n:Node)(ca:Cache)(d':bU):Prop where
 ak:d'.ak=n.aJ.ak
 aU:d'.aU=n.aJ.aU
 id:d'.id=n.aJ.id
 step:d'.step≠0
 fall:∀p q,¬(d'.step=6/\d'.aU≠3)->Dp d' (.req q)+wt d' n.aJ.ak (ca.find n.aJ.ak)<Dp n.aJ (.ans p)+wt n.aJ n.aJ.ak (n.aI.find n.aJ.ak)
 other:∀L,L≠n.aJ.ak->ca.find L=n.aI.find L
 miss:d'.aU=1->d'.step=1∨d'.step=2->ca.find n.aJ.ak=none
 next:(¬(d'.step=6/\d'.aU≠3)/\Hold N hm (nT E i (ca.find n.aJ.ak)) r v i d' (.req (d'.ask i hm)))∨
  (d'.step=6/\d'.aU≠3/\∃e,ca.find n.aJ.ak=some e/\e.data=v/\
   ((n.aJ.aU=1/\Hold N hm (nT E i (some e)) r v i d' (.req (d'.ask i hm)))∨
    (n.aJ.aU=2/\e.bP=true/\∀e':Ent,e'.back=e.back->e'.fwd=e.fwd->e'.bP=e.bP->Hold N hm (nT E i (some e')) r e'.data i d' (.req (d'.ask i hm)))))
section
variable {c:Cfg}{N hm:Int}{E:tu}{r:Row}{v:List Int}{i:Int}{n:Node}
def Vs {ca:Cache}(b:Lines ca.l){e:Ent}(h0:0<=e.ak)(d:ca.full e.ak=false):∃u,∀L,(ca.put e).1.find L=if L=e.ak then some { e with used:=u } else ca.find L:=by
 cases h:ca.find e.ak with
 |none=>exact SE b h0 h d
 |some x=>exact⟨x.used,λL=>yC b h0 h L⟩
def SG {d:bU}{me:Int}{ca:Cache}{x:Int}(b:x=match ca.find d.ak with
   |some own=>if d.next=me then own.fwd else d.next
   |none=>d.next):dw d me ca=if x≠-1 then(ca,{ d with next:=x,step:=3 })else((ca.put ⟨-1,-1,d.ak,0,true,d.data⟩).1,{ d with next:=x,step:=6,state:=2,head:=me,data:=[] }):=by
 unfold dw;cases hc:ca.find d.ak with
 |none=>
  rw[hc]at b;simp only at b;subst b;rfl
 |some own=>
  rw[hc]at b;simp only at b;by_cases h:d.next=me
  ·rw[if_pos h]at b;simp only[if_pos h];subst b;rfl
  ·rw[if_neg h]at b;simp only[if_neg h];subst b;rfl
def SH(hl:Lines n.aI.l)(hi:0<=i/\i<N)(hE:E i=n.aI.find n.aJ.ak)(h0:0<=n.aJ.ak)(hfull:n.aI.full n.aJ.ak=false)(hk2:n.aJ.aU=2)(hst:n.aJ.step=1∨n.aJ.step=3){d1:bU}(k1:d1.aU=2)(k2:d1.ak=n.aJ.ak)(k3:d1.id=n.aJ.id){R:List Int}(L:alQ N E v i R)(hd1:E i≠none->d1.data=v)(hd2:R=[]->d1.data=v)(hn:d1.next=hdI R (-1)):
  arC c N hm E r v i n (dw d1 i n.aI).1 (dw d1 i n.aI).2:=by
 obtain⟨x,hx⟩:∃x,x=match E i with
   |some own=>if d1.next=i then own.fwd else d1.next
   |none=>d1.next:=⟨_,rfl⟩
 have hx':=hx;rw[hE,<-k2]at hx';rw[SG hx'];rcases alR (hm:=hm) (r:=r) hi.1 L hd1 hd2 hn hx k1 with⟨hx1,H⟩|⟨hx1,hdv,hall⟩
 ·rw[if_pos hx1];refine⟨k2,k1.trans hk2.symm,k3,(by decide:(3:Int)≠0),λ_ _ _=>sW (k1.trans hk2.symm) k2 (by omega) (by omega) (by rcases hst with h|h <;> rw[h] <;> rfl) (.inl ⟨(by decide:(3:Int)≠6),(by decide:(3:Int)≠0),rfl⟩),λ_ _=>rfl,λh=>absurd (show d1.aU=1 from h) (by omega),.inl ⟨λh=>absurd (show(3:Int)=6 from h.1) (by decide),?_⟩⟩;rw[<-hE,lV];exact H _ rfl k1 rfl rfl
 ·rw[if_neg (by rw[hx1];decide)];obtain⟨u,hu⟩:=Vs (ca:=n.aI) hl (e:=⟨-1,-1,d1.ak,0,true,d1.data⟩) (by rw[k2];exact h0) (by rw[k2];exact hfull);simp only at hu;refine⟨k2,k1.trans hk2.symm,k3,(by decide:(6:Int)≠0),λ_ _ h=>absurd ⟨rfl,(show d1.aU≠3 by omega)⟩ h,λL hL=>by rw[hu,if_neg (by rw[k2];exact hL)],λh=>absurd (show d1.aU=1 from h) (by omega),.inr ⟨rfl,by show d1.aU≠3;omega,⟨-1,-1,d1.ak,u,true,d1.data⟩,by rw[hu,if_pos k2.symm],hdv,.inr ⟨hk2,rfl,λe' a b c'=>?_⟩⟩⟩;exact Ju hi hall a b c' rfl rfl rfl
def Zn(hl:Lines n.aI.l)(hi:0<=i/\i<N)(hv:v≠[])(hE:E i=n.aI.find n.aJ.ak)(h0:0<=n.aJ.ak)(hfull:n.aJ.aU≠3->n.aI.full n.aJ.ak=false)(hkr:1<=n.aJ.aU/\n.aJ.aU<=3)(hmiss:n.aJ.aU=1->n.aJ.step=1∨n.aJ.step=2->E i=none){p:Pkt}(H:Hold N hm E r v i n.aJ (.ans p)):
  ∃ca d',n.after i p=(ca,d',true)/\arC c N hm E r v i n ca d':=by
 obtain⟨f1,f2,f3,f4,f5,f6⟩:=H.ans;have hfit:=adH f4 f2 f3 (by omega);have one:=hkr;unfold Node.after;have hh:∃q,Out.ans p=q/\Hold N hm E r v i n.aJ q:=⟨_,rfl,H⟩
 obtain⟨q,hq,H⟩:=hh;cases H with
 |granted h1 W=>
  cases hq;have hk3:n.aJ.aU=1∨n.aJ.aU=2∨n.aJ.aU=3:=by omega
  rcases hk3 with hk|hk|hk
  ·rw[if_pos hk];unfold dX;rw[if_neg (by rw[hk,hfit];simp),if_pos h1];simp only;have hEn:=hmiss hk (.inl h1);by_cases hs:r.state≠0
   ·rw[if_pos hs];refine⟨_,_,rfl,rfl,rfl,rfl,(by decide:(2:Int)≠0),λ_ _ _=>sW rfl rfl (by omega) (by omega) (by rw[h1];rfl) (.inl ⟨(by decide:(2:Int)≠6),(by decide:(2:Int)≠0),rfl⟩),λ_ _=>rfl,λ_ _=>by rw[<-hE];exact hEn,.inl ⟨λh=>absurd (show(2:Int)=6 from h.1) (by decide),?_⟩⟩;rw[<-hE,lV];exact Jt (d:={ n.aJ with state:=r.state,head:=r.head,told:=r.head,data:=r.data,step:=2 }) hk W hs rfl rfl
   ·rw[if_neg hs];obtain⟨u,hu⟩:=Vs (ca:=n.aI) hl (e:=⟨-1,-1,n.aJ.ak,0,false,r.data⟩) h0 (hfull (by omega));simp only at hu;have hr0:r.state=0:=Classical.not_not.1 hs;refine⟨_,_,rfl,rfl,rfl,rfl,(by decide:(6:Int)≠0),λ_ _ h=>absurd ⟨rfl,(show n.aJ.aU≠3 by omega)⟩ h,λL hL=>by rw[hu,if_neg hL],λ_ h=>(h.elim (λh=>absurd (show(6:Int)=1 from h) (by decide)) λh=>absurd (show(6:Int)=2 from h) (by decide)),.inr ⟨rfl,by show n.aJ.aU≠3;omega,⟨-1,-1,n.aJ.ak,u,false,r.data⟩,by rw[hu,if_pos rfl],W.Dx (by rw[hr0];decide),.inl ⟨hk,?_⟩⟩⟩;exact O5 hi W hr0 rfl rfl rfl rfl rfl rfl rfl rfl
  ·rw[if_neg (by omega),if_pos hk];unfold dZ;rw[if_neg (by rw[hk,hfit];simp),if_pos h1];simp only;refine⟨_,_,rfl,?_⟩;refine SH hl hi hE h0 (hfull (by omega)) hk (.inl h1) hk rfl rfl (Wf.left (i:=i) W) (λhe=>?_) (λhl0=>?_) W.head
   ·simp only[<-hE];cases hei:E i with
    |none=>exact absurd hei he
    |some own=>exact W.data i own hei
   ·simp only[<-hE];rw[W.empty hl0 i];exact W.Dx (by rw[W.st0.2 hl0];decide)
  ·rw[if_neg (by omega),if_neg (by omega),if_pos hk];unfold eG;rw[if_neg (by rw[hk,hfit];simp),if_pos h1];simp only;cases hc:n.aI.find n.aJ.ak with
   |none=>
    simp only;refine⟨_,_,rfl,rfl,rfl,rfl,(by decide:(6:Int)≠0),λ_ _ _=>sW rfl rfl (by omega) (by omega) (by rw[h1];rfl) (.inr ⟨rfl,hk,hc⟩),λ_ _=>rfl,λh=>absurd (show n.aJ.aU=1 from h) (by omega),.inl ⟨λh=>h.2 hk,?_⟩⟩;rw[<-hE,lV];exact O7 W rfl rfl rfl rfl
   |some e=>
    have hei:E i=some e:=hE.trans hc;simp only;by_cases hb:e.back=-1/\e.fwd=-1
    ·rw[if_pos hb];have hdr:=BN (ak:=n.aJ.ak) hl;refine⟨_,_,rfl,rfl,rfl,rfl,(by decide:(6:Int)≠0),λ_ _ _=>sW rfl rfl (by omega) (by omega) (by rw[h1];rfl) (.inr ⟨rfl,hk,by rw[hdr,if_pos rfl]⟩),λL hL=>by rw[hdr,if_neg hL],λh=>absurd (show n.aJ.aU=1 from h) (by omega),.inl ⟨λh=>h.2 hk,?_⟩⟩;rw[hdr,if_pos rfl];exact JL W hv hei hb.1 hb.2 rfl rfl rfl rfl
    ·rw[if_neg hb];by_cases hb1:e.back=-1
     ·rw[if_pos hb1];refine⟨_,_,rfl,rfl,rfl,rfl,(by decide:(5:Int)≠0),λ_ _ _=>sW rfl rfl (by omega) (by omega) (by rw[h1];rfl) (.inl ⟨(by decide:(5:Int)≠6),(by decide:(5:Int)≠0),rfl⟩),λ_ _=>rfl,λh=>absurd (show n.aJ.aU=1 from h) (by omega),.inl ⟨λh=>h.2 hk,?_⟩⟩;rw[<-hE,lV];exact JM W hei hb1 (λh=>hb ⟨hb1,h⟩) rfl hk rfl rfl rfl
     ·rw[if_neg hb1];refine⟨_,_,rfl,rfl,rfl,rfl,(by decide:(4:Int)≠0),λ_ _ _=>sW rfl rfl (by omega) (by omega) (by rw[h1];rfl) (.inl ⟨(by decide:(4:Int)≠6),(by decide:(4:Int)≠0),rfl⟩),λ_ _=>rfl,λh=>absurd (show n.aJ.aU=1 from h) (by omega),.inl ⟨λh=>h.2 hk,?_⟩⟩;rw[<-hE,lV];exact JO W hei hb1 rfl hk rfl rfl rfl
 |attached h1 h2 h3 h4 R C M D X F=>
  cases hq;rw[if_pos h2];unfold dX;rw[if_neg (by rw[h2,hfit];simp),if_neg (by omega),if_pos h1];simp only;have hEn:=hmiss h2 (.inr h1);obtain⟨u,hu⟩:=Vs (ca:=n.aI) hl (e:=⟨n.aJ.head,-1,n.aJ.ak,0,false,v⟩) h0 (hfull (by omega));simp only at hu;refine⟨_,_,rfl,rfl,rfl,rfl,(by decide:(6:Int)≠0),λ_ _ h=>absurd ⟨rfl,(show n.aJ.aU≠3 by omega)⟩ h,λL hL=>by rw[hu,if_neg hL],λ_ h=>(h.elim (λh=>absurd (show(6:Int)=1 from h) (by decide)) λh=>absurd (show(6:Int)=2 from h) (by decide)),.inr ⟨rfl,by show n.aJ.aU≠3;omega,⟨n.aJ.head,-1,n.aJ.ak,u,false,v⟩,by rw[hu,if_pos rfl],rfl,.inl ⟨h2,?_⟩⟩⟩;exact O6 hi hEn h3 h4 R C M D X F hv rfl rfl rfl rfl rfl rfl rfl rfl
 |Js h1 h2 L hcl h3=>
  cases hq;rw[if_neg (by omega),if_pos h2];unfold dZ;rw[if_neg (by rw[h2,hfit];simp),if_neg (by omega),if_pos h1];simp only;refine⟨_,_,rfl,?_⟩;refine SH hl hi hE h0 (hfull (by omega)) h2 (.inr h1) h2 rfl rfl L (λhe=>?_) (λ_=>?_) rfl
  ·simp only[<-hE];cases hei:E i with
   |none=>exact absurd hei he
   |some own=>exact h3 he
  ·simp only[<-hE];cases hei:E i with
   |none=>rfl
   |some own=>exact h3 (by rw[hei];simp)
 |zS h1 h2 M h3 C C' h4 h5 h6=>
  cases hq;rw[if_neg (by omega),if_neg (by omega),if_pos h2];unfold eG;rw[if_neg (by rw[h2,hfit];simp),if_neg (by omega),if_pos h1];by_cases hn:n.aJ.next=-1
  ·rw[if_pos hn];unfold gW;have hdr:=BN (ak:=n.aJ.ak) hl;have hpost:=(M.rng.mid.2.2.2.2.1.adD).1 (h5.symm.trans hn);refine⟨_,_,rfl,rfl,rfl,rfl,(by decide:(6:Int)≠0),λ_ _ _=>sW rfl rfl (by omega) (by omega) (by rw[h1];rfl) (.inr ⟨rfl,h2,by rw[hdr,if_pos rfl]⟩),λL hL=>by rw[hdr,if_neg hL],λh=>absurd (show n.aJ.aU=1 from h) (by omega),.inl ⟨λh=>h.2 h2,?_⟩⟩;rw[hdr,if_pos rfl];exact Jv M h3 C hpost rfl rfl h6 rfl
  ·rw[if_neg hn];refine⟨_,_,rfl,rfl,rfl,rfl,(by decide:(5:Int)≠0),λ_ _ _=>sW rfl rfl (by omega) (by omega) (by rw[h1];rfl) (.inl ⟨(by decide:(5:Int)≠6),(by decide:(5:Int)≠0),rfl⟩),λ_ _=>rfl,λh=>absurd (show n.aJ.aU=1 from h) (by omega),.inl ⟨λh=>h.2 h2,?_⟩⟩;rw[<-hE,lV];exact JQ (d:={ n.aJ with step:=5 }) M (λh=>hn (by rw[h5,h];rfl)) C C' rfl h2 h4 h5 h6
 |vV h1 h2 M h3 C C' h4 h5 h6=>
  cases hq;rw[if_neg (by omega),if_neg (by omega),if_pos h2];unfold eG;rw[if_neg (by rw[h2,hfit];simp),if_neg (by omega),if_neg (by omega),if_pos h1];have hdr:=BN (ak:=n.aJ.ak) hl;by_cases hh:n.aJ.head=-1
  ·rw[if_pos hh];unfold gW;refine⟨_,_,rfl,rfl,rfl,rfl,(by decide:(6:Int)≠0),λ_ _ _=>sW rfl rfl (by omega) (by omega) (by rw[h1];rfl) (.inr ⟨rfl,h2,by rw[hdr,if_pos rfl]⟩),λL hL=>by rw[hdr,if_neg hL],λh=>absurd (show n.aJ.aU=1 from h) (by omega),.inl ⟨λh=>h.2 h2,?_⟩⟩;rw[hdr,if_pos rfl];exact Ep (h0:=n.aJ.head) (nx:=n.aJ.next) M h3 C C' h4 h5 rfl rfl (by rw[if_pos hh]) rfl
  ·rw[if_neg hh];unfold gW;refine⟨_,_,rfl,rfl,rfl,rfl,(by decide:(6:Int)≠0),λ_ _ _=>sW rfl rfl (by omega) (by omega) (by rw[h1];rfl) (.inr ⟨rfl,h2,by rw[hdr,if_pos rfl]⟩),λL hL=>by rw[hdr,if_neg hL],λh=>absurd (show n.aJ.aU=1 from h) (by omega),.inl ⟨λh=>h.2 h2,?_⟩⟩;rw[hdr,if_pos rfl];exact Ep (h0:=n.aJ.head) (nx:=n.aJ.next) M h3 C C' h4 h5 rfl rfl (by rw[if_neg hh];exact h6) rfl
 |attach _ _ _ _ _=>cases hq
 |JK _ _ _ _ _=>cases hq
 |front _ _ _ _ _ _ _ _=>cases hq
 |behind _ _ _ _ _ _ _ _ _=>cases hq
 |unlock _ _=>cases hq
end
def cO.jT(m:cO)(L:Int):tu:=λj=>(m.bH j).bind λn=>n.aI.find L
def cO.kJ(m:cO)(L:Int):Home:=match m.bH (m.c.aZ L)with
 |some n=>n.home
 |none=>⟨[],⟨[],[]⟩⟩
def cO.oZ(m:cO)(j:Int):bU:=match m.bH j with
 |some n=>n.aJ
 |none=>.zero
def cO.abs(m:cO)(msg:Int->Out)(val:Int->List Int):Abs:=
 ⟨m.jT,λL=>iK (m.kJ L).dR L,λL=>(m.kJ L).bf.owner L,λL=>(m.kJ L).bf.ws L,m.oZ,msg,val⟩
structure GInv(m:cO)(msg:Int->Out)(val:Int->List Int):Prop where
 abs:nU m.c (m.abs msg val)
 pk:pK m.fab msg
def cO.with_(m:cO)(i:Nat)(n:Node)(f:Fab)(t:List Evn):cO:={ m with aG:=m.aG.set i n,fab:=f,trace:=t }
section
variable {m:cO}{i:Nat}{n n':Node}{f:Fab}{t:List Evn}{msg msg':Int->Out}{val val':Int->List Int}
def BO(h:m.aG[i]?=some n):m.bH i=some n:=by
 unfold cO.bH;rw[if_pos V,zam];exact h
def BP(h:m.aG[i]?=some n)(j:Int):(m.with_ i n' f t).bH j=if j=i then some n' else m.bH j:=by
 have d:=(zaf.1 h).1;unfold cO.bH cO.with_;simp only;by_cases e:j=i
 ·rw[if_pos e,e,if_pos V,zam,zbl d]
 ·rw[if_neg e];by_cases b:0<=j
  ·rw[if_pos b,if_pos b,zbr V]
  ·rw[if_neg b,if_neg b]
def Jz(h:m.aG[i]?=some n)(L:Int):(m.with_ i n' f t).jT L=nT (m.jT L) i (n'.aI.find L):=by
 funext j
 unfold cO.jT;rw[BP h];by_cases b:j=i
 ·rw[if_pos b,b,gu];rfl
 ·rw[if_neg b,fD b]
def Dz(h:m.aG[i]?=some n):(m.with_ i n' f t).oZ=dL m.oZ i n'.aJ:=by
 funext j
 unfold cO.oZ;rw[BP h];by_cases b:j=i
 ·rw[if_pos b,b,aK]
 ·rw[if_neg b,aX b]
def yD(h:m.aG[i]?=some n)(L:Int):(m.with_ i n' f t).kJ L=if m.c.aZ L=i then n'.home else m.kJ L:=by
 unfold cO.kJ;have hc:(m.with_ i n' f t).c=m.c:=rfl;rw[BP h,hc];by_cases b:m.c.aZ L=i
 ·rw[if_pos b,if_pos b]
 ·rw[if_neg b,if_neg b]
def oU(h:m.aG[i]?=some n){L:Int}(b:m.c.aZ L=i):m.kJ L=n.home:=by
 unfold cO.kJ;rw[b,BO h]
def sZ(h:m.aG[i]?=some n)(L:Int):m.jT L i=n.aI.find L:=by
 unfold cO.jT;rw[BO h];rfl
def lD(h:m.aG[i]?=some n):m.oZ i=n.aJ:=by
 unfold cO.oZ;rw[BO h]
def qO(h:m.aG[i]?=some n)(e:n'.home=n.home){L:Int}(hc:∀b,b≠L->n'.aI.find b=n.aI.find b):
  (m.with_ i n' f t).abs msg' val'={ m.abs msg val with ent:=dL m.jT L (nT (m.jT L) i (n'.aI.find L)),aJ:=dL m.oZ i n'.aJ,msg:=msg',val:=val' }:=by
 have g:∀L,(m.with_ i n' f t).kJ L=m.kJ L:=λL=>by
  rw[yD h];by_cases d:m.c.aZ L=i
  ·rw[if_pos d,e,oU h d]
  ·rw[if_neg d]
 have j:(m.with_ i n' f t).jT=dL m.jT L (nT (m.jT L) i (n'.aI.find L)):=by
  funext b
  rw[Jz h];by_cases d:b=L
  ·rw[d,aK]
  ·rw[aX d,hc b d,<-sZ h b,lV]
 unfold cO.abs;simp only[g,j,Dz h]
def Gl(h:m.aG[i]?=some n)(hc:∀L,n'.aI.find L=n.aI.find L)(hd:n'.aJ=n.aJ){L:Int}(g:m.c.aZ L=i)(o:∀b,b≠L->iK n'.home.dR b=iK n.home.dR b)(p:∀b,b≠L->n'.home.bf.owner b=n.home.bf.owner b)(hw:∀b,b≠L->n'.home.bf.ws b=n.home.bf.ws b):
  (m.with_ i n' f t).abs msg' val={ m.abs msg val with row:=dL (m.abs msg val).row L (iK n'.home.dR L),own:=dL (m.abs msg val).own L (n'.home.bf.owner L),ws:=dL (m.abs msg val).ws L (n'.home.bf.ws L),msg:=msg' }:=by
 have q:(m.with_ i n' f t).jT=m.jT:=by
  funext b
  rw[Jz h,hc,<-sZ h b,lV]
 have u:(m.with_ i n' f t).oZ=m.oZ:=by
  rw[Dz h,hd,<-lD h]
  funext j
  by_cases k:j=i
  ·rw[k,aK]
  ·rw[aX k]
 have v:(λb=>iK ((m.with_ i n' f t).kJ b).dR b)=dL (λL=>iK (m.kJ L).dR L) L (iK n'.home.dR L):=by
  funext b
  rw[yD h];by_cases e:b=L
  ·rw[e,if_pos g,aK]
  ·rw[aX e];by_cases d:m.c.aZ b=i
   ·rw[if_pos d,o b e,oU h d]
   ·rw[if_neg d]
 have w:(λb=>((m.with_ i n' f t).kJ b).bf.owner b)=dL (λL=>(m.kJ L).bf.owner L) L (n'.home.bf.owner L):=by
  funext b
  rw[yD h];by_cases e:b=L
  ·rw[e,if_pos g,aK]
  ·rw[aX e];by_cases d:m.c.aZ b=i
   ·rw[if_pos d,p b e,oU h d]
   ·rw[if_neg d]
 have y:(λb=>((m.with_ i n' f t).kJ b).bf.ws b)=dL (λL=>(m.kJ L).bf.ws L) L (n'.home.bf.ws L):=by
  funext b
  rw[yD h];by_cases e:b=L
  ·rw[e,if_pos g,aK]
  ·rw[aX e];by_cases d:m.c.aZ b=i
   ·rw[if_pos d,hw b e,oU h d]
   ·rw[if_neg d]
 unfold cO.abs;simp only[q,u,v,w,y]
end
def adI {c:Cfg}(hc:c.ok=true){i:Int}(hi:0<=i/\i<c.aG){k L id:Int}(g:0<=L/\L<c.aO)(d:0<=id/\id<4096):((bU.begin k L id).ask i (c.aZ L)).ok=true/\rG ((bU.begin k L id).ask i (c.aZ L)).aU=true/\((bU.begin k L id).ask i (c.aZ L)).src=i/\0<=((bU.begin k L id).ask i (c.aZ L)).dst/\((bU.begin k L id).ask i (c.aZ L)).dst<c.aG:=by
 obtain⟨h,j,_⟩:=lS hc;have b:0<=c.aZ L/\c.aZ L<c.aG:=by
  unfold Cfg.aZ wX;rw[if_neg V];exact⟨zbS _ V,zbU _ V⟩
 have e:(bU.begin k L id).ask i (c.aZ L)=⟨1,i,c.aZ L,id,L,0,0,false,[]⟩:=rfl;rw[e];refine⟨?_,rfl,rfl,b.1,b.2⟩;simp only[Pkt.ok,zah,decide_eq_true_eq,zan];omega
def DC {c:Cfg}(hc:c.ok=true){L:Int}(b:0<=L):0<=c.aZ L/\c.aZ L<c.aG:=by
 obtain⟨d,_⟩:=lS hc;unfold Cfg.aZ wX;rw[if_neg V];exact⟨zbS _ V,zbU _ V⟩
def alW {c:Cfg}(hc:c.ok=true){i:Int}(hi:0<=i/\i<c.aG){E:tu}{r:Row}{v:List Int}{d:bU}(H:Hold c.aG (c.aZ d.ak) E r v i d (.req (d.ask i (c.aZ d.ak))))(hL:0<=d.ak/\d.ak<c.aO)(hid:0<=d.id/\d.id<4096)(hd:d.data.length<=4):
  (d.ask i (c.aZ d.ak)).ok=true/\rG (d.ask i (c.aZ d.ak)).aU=true/\(d.ask i (c.aZ d.ak)).src=i/\0<=(d.ask i (c.aZ d.ak)).dst/\(d.ask i (c.aZ d.ak)).dst<c.aG:=by
 obtain⟨h1,h2,_⟩:=lS hc;have hh:=DC hc hL.1;have last:∀{l:List Int},Rng c.aG l->l≠[]->0<=nK l (-1)/\nK l (-1)<c.aG:=λR hl=>R.2 _ (Jr hl);have auK:∀{l:List Int},Rng c.aG l->-1<=nK l (-1)/\nK l (-1)<c.aG:=λ{l} R=>by
  by_cases hl:l=[]
  ·rw[hl];exact⟨zbt _,by show(-1:Int)<c.aG;omega⟩
  ·have:=last R hl;omega
 have hd_:∀{l:List Int},Rng c.aG l->l≠[]->0<=hdI l (-1)/\hdI l (-1)<c.aG:=λR hl=>R.2 _ (R.hd hl).1;have hdo:∀{l:List Int},Rng c.aG l->-1<=hdI l (-1)/\hdI l (-1)<c.aG:=λ{l} R=>by
  by_cases hl:l=[]
  ·rw[hl];exact⟨zbt _,by show(-1:Int)<c.aG;omega⟩
  ·have:=hd_ R hl;omega
 have hq:∃q,Out.req (d.ask i (c.aZ d.ak))=q/\Hold c.aG (c.aZ d.ak) E r v i d q:=⟨_,rfl,H⟩
 obtain⟨q,hq,H⟩:=hq;cases H with
 |attach k1 k2 k3 k4 W=>
  have:=hd_ W.rng k3;have e:d.ask i (c.aZ d.ak)=⟨3,i,d.head,d.id,d.ak,i,0,false,[]⟩:=by unfold bU.ask;simp[k1]
  rw[e];refine⟨?_,rfl,rfl,by show 0<=d.head;omega,by show d.head<c.aG;omega⟩;simp only[Pkt.ok,zah,decide_eq_true_eq,zan];omega
 |JK k1 k2 L k3 k4=>
  have:=L.rng.2 d.next (by simp)
  have e:d.ask i (c.aZ d.ak)=⟨6,i,d.next,d.id,d.ak,0,0,false,[]⟩:=by unfold bU.ask;simp[k1]
  rw[e];refine⟨?_,rfl,rfl,by show 0<=d.next;omega,by show d.next<c.aG;omega⟩;simp only[Pkt.ok,zah,decide_eq_true_eq,zan];omega
 |front k1 k2 M k3 C k4 k5 k6=>
  obtain⟨_,_,_,p1,p2,_⟩:=M.rng.mid;have:=last p1 k3;have:=hdo p2;have e:d.ask i (c.aZ d.ak)=⟨4,i,d.head,d.id,d.ak,d.next,0,false,[]⟩:=by unfold bU.ask;simp[k1]
  rw[e];refine⟨?_,rfl,rfl,by show 0<=d.head;omega,by show d.head<c.aG;omega⟩;simp only[Pkt.ok,zah,decide_eq_true_eq,zan];omega
 |behind k1 k2 M k3 C C' k4 k5 k6=>
  obtain⟨_,_,_,p1,p2,_⟩:=M.rng.mid;have:=auK p1;have:=hd_ p2 k3;have e:d.ask i (c.aZ d.ak)=⟨5,i,d.next,d.id,d.ak,d.head,0,false,[]⟩:=by unfold bU.ask;simp[k1]
  rw[e];refine⟨?_,rfl,rfl,by show 0<=d.next;omega,by show d.next<c.aG;omega⟩;simp only[Pkt.ok,zah,decide_eq_true_eq,zan];omega
 |unlock k1 W=>
  have:=hdo W.rng;have h3:d.head=_:=W.head;have h4:d.state=0∨d.state=1∨d.state=2:=W.st;have e:d.ask i (c.aZ d.ak)=⟨2,i,c.aZ d.ak,d.id,d.ak,d.head,d.state,decide (d.data≠[]),d.data⟩:=by unfold bU.ask;simp[k1]
  rw[e];refine⟨?_,rfl,rfl,hh.1,hh.2⟩;simp only[Pkt.ok,zah,decide_eq_true_eq];omega
 |granted _ _=>cases hq
 |attached _ _ _ _ _ _ _ _ _ _=>cases hq
 |Js _ _ _ _ _=>cases hq
 |zS _ _ _ _ _ _ _ _ _=>cases hq
 |vV _ _ _ _ _ _ _ _ _=>cases hq
def nN(c:Cfg)(o:Opn)(val:Int->List Int):(Int->List Int) × Int:=
 let L:=c.bW o.addr;let w:=(c.dG o.addr).toNat
 if o.aU=1 then(val,(val L).getD w 0)
 else if o.aU=2 then(dL val L ((val L).set w o.value),0)
 else if o.aU=3 then(dL val L ((val L).set w (w64 ((val L).getD w 0+o.value))),(val L).getD w 0)
 else(val,0)
inductive DF (c:Cfg) (P:Int->Nat->Option Opn):List Evn->(Int->List Int)->List Evn->(Int->List Int)->Prop
 |same {t:List Evn} {v:Int->List Int}:DF c P t v t v
 |fU {t t':List Evn} {v v':Int->List Int} (i:Int) (k:Nat):DF c P t v t' v'->DF c P t v (t'++[⟨i,k,false,0⟩]) v'
 |done {t t':List Evn} {v v':Int->List Int} (i:Int) (k:Nat) (o:Opn):P i k=some o->DF c P t v t' v'->DF c P t v (t'++[⟨i,k,true,(nN c o v').2⟩]) (nN c o v').1
def cO.opAt(m:cO)(i:Int)(k:Nat):Option Opn:=match m.bH i with
 |some n=>n.dn.ops[k]?
 |none=>none
def adJ {c:Cfg}{o:Opn}{e:Ent}{val:Int->List Int}(hk:o.aU=1∨((o.aU=2∨o.aU=3)/\e.bP=true))(hv:e.data=val (c.bW o.addr))(hw:0<=c.dG o.addr/\c.dG o.addr<e.data.length):
  (eX e o (c.dG o.addr)).data=(nN c o val).1 (c.bW o.addr)/\(∀L,L≠c.bW o.addr->(nN c o val).1 L=val L)/\(if o.aU=2 then 0 else e.word (c.dG o.addr))=(nN c o val).2/\
  (eX e o (c.dG o.addr)).back=e.back/\(eX e o (c.dG o.addr)).fwd=e.fwd/\(eX e o (c.dG o.addr)).bP=e.bP/\(o.aU=1->eX e o (c.dG o.addr)=e):=by
 have b:e.word (c.dG o.addr)=(val (c.bW o.addr)).getD (c.dG o.addr).toNat 0:=by
  unfold Ent.word;rw[if_pos hw,hv]
 unfold eX nN;rcases hk with hk|⟨hk|hk,hd⟩
 ·rw[if_neg V,if_neg V,if_pos hk,if_neg V];exact⟨hv,λ_ _=>rfl,b,rfl,rfl,rfl,λ_=>rfl⟩
 ·have d:∀x,e.write (c.dG o.addr) x={ e with data:=e.data.set (c.dG o.addr).toNat x }:=λx=>by
   unfold Ent.write;rw[if_pos ⟨hd,hw⟩]
  rw[if_pos hk,if_neg V,if_pos hk,if_pos hk,d];exact⟨by simp only[aK,hv],λL g=>aX g,rfl,rfl,rfl,rfl,λh=>V⟩
 ·have d:∀x,e.write (c.dG o.addr) x={ e with data:=e.data.set (c.dG o.addr).toNat x }:=λx=>by
   unfold Ent.write;rw[if_pos ⟨hd,hw⟩]
  rw[if_neg V,if_pos hk,if_neg V,if_neg V,if_pos hk,if_neg V,d,b];exact⟨by simp only[aK,hv],λL g=>aX g,rfl,rfl,rfl,rfl,λh=>V⟩
def cO.isL(m:cO)(L:Int):Bool:=decide (0<=L) && decide (L<m.c.aO)
def cO.ids(m:cO):List Int:=(List.range m.aG.length).map λi:Nat=>(i:Int)
def cO.copies(m:cO)(L:Int):List Int:=m.ids.filter λi=>(m.jT L i).isSome && m.isL L
def cO.wG(m:cO)(L:Int):Row:=iK (m.kJ L).dR L
def uG(E:tu):Nat->Int->List Int->Option (List Int)
 |0,_,_=>none
 |k+1,at_,out=>if at_=-1 then some out else match E at_ with
  |none=>none
  |some e=>if at_∈out then none else uG E k e.fwd (out++[at_])
def cO.walk(m:cO)(L:Int):Option (List Int):=if m.isL L=true then uG (m.jT L) (m.aG.length+1) (m.wG L).head []else none
def cO.owner(m:cO)(L:Int):Int:=if m.isL L=true then(m.kJ L).bf.owner L else -1
def JA:List Ent->Bool
 |[e]=>e.bP
 |_=>false
def yE(r:Row)(l:List Ent):Bool:=
 if r.state=0 then decide (l=[])else if r.state=1 then decide (l≠[]) && !l.any (λe=>e.bP || decide (e.data≠r.data))else
 JA l
def wE(E:tu):Int->List Int->Option (List Ent)
 |_,[]=>some []
 |b,i::l=>if((E i).getD .zero).back≠b then none else(wE E i l).map λd=>(E i).getD .zero::d
def cO.tq(m:cO)(L:Int):Bool:=
 if m.isL L=false then true else match m.walk L with
 |none=>false
 |some w=>if srt [] w≠m.copies L then false else match wE (m.jT L) (-1) w with
  |none=>false
  |some b=>yE (m.wG L) b
def cO.single(m:cO)(L:Int):Bool:=!(m.copies L).any (λi=>((m.jT L i).getD .zero).bP) || decide ((m.copies L).length=1)
def cO.Es(m:cO)(L:Int)(w:List Int):Bool:=
 (m.copies L).all (λi=>decide (((m.jT L i).getD .zero).data=w)) && (decide ((m.wG L).state=2) || decide (m.owner L≠-1) || decide ((m.wG L).data=w))
section
variable {E:tu}{N:Int}
def XW:∀{k:Nat} {a:Int} {out w:List Int},uG E k a out=some w->out.Nodup->(∀i∈out,∃e,E i=some e)->w.Nodup/\∀i∈w,∃e,E i=some e
 |0,_,_,_,h,_,_=>by cases h
 |k+1,a,out,w,h,d,g=>by
  unfold uG at h;split at h
  ·cases h;exact⟨d,g⟩
  ·split at h
   ·cases h
   ·rename_i e j;split at h
    ·cases h
    ·rename_i m;refine XW h (zbp.2 ⟨d,O,λx n y o=>?_⟩) λi hi=>?_
     ·rw[zaV.1 o];intro e;exact m (e ▸ n)
     ·rcases zaQ.1 hi with b|b
      ·exact g i b
      ·rw[zaV.1 b];exact⟨e,j⟩
def SI:∀{l:List Int} {k:Nat} {b:Int} {out:List Int},Chn E b l (-1)->(∀i∈l,i≠-1)->(out++l).Nodup->l.length<k->uG E k (hdI l (-1)) out=some (out++l)
 |[],0,_,_,_,_,_,h=>by simp at h
 |[],k+1,_,_,_,_,_,_=>by simp[uG,hdI]
 |i::l,0,_,_,_,_,_,h=>by simp at h
 |i::l,k+1,b,out,⟨⟨e,g,_,m⟩,hc⟩,d,hd,hk=>by
  have hi:=d i O;have hm:i∉out:=λh=>(zbp.1 hd).2.2 i h i O rfl;show uG E (k+1) i out=_;unfold uG;rw[if_neg hi];simp only[g];rw[if_neg hm,m,SI hc (λj n=>d j (by simp[n])) (by simpa using hd) (by simpa using hk)];simp
def L6:∀{l:List Int} {b x:Int},Chn E b l x->wE E b l=some (l.map λi=>(E i).getD .zero)
 |[],_,_,_=>rfl
 |i::l,b,x,⟨⟨e,d,g,_⟩,hc⟩=>by
  unfold wE;rw[d,zat,if_neg (by simp[g]),L6 hc];simp[d]
end
section
variable {b:Nat}{H:ah}{g:bF}{A:Adr}{m:cO}{T:Nat}
structure auL(n:Node):Prop where
 aI:n.aI.l.length<1000000
 ents:∀e∈n.aI.l,e.data.length<1000000000
 dR:∀e∈n.home.dR,e.2.data.length<1000000000
def MX.adK(X:MX T m){i:Nat}{n:Node}(d:m.aG[i]?=some n):auL n:=by
 have I:=X.inv.bH i n d;have h:=ags X.inv.ok I.aI;have g:=I.aI.le X.inv.ok;refine⟨V,λe b=>by have:=g e b;omega,λe b=>?_⟩;have:=(I.dR e b).1;have:=(lS X.inv.ok).2.2.1;omega
def MX.len(X:MX T m):(m.aG.length:Int)=m.c.aG/\m.aG.length<1000:=by
 have:=X.inv.len;have:=(qP X.inv.ok).aG;omega
def XY(G:Good b H g)(M:gJ g A m)(X:MX T m)(L:Int):cl 37 [.ref A.iL 0 0,I L] H=some (B (m.isL L),H):=by
 refine bg rfl rfl (atb _ _ _ _) ?_ fC;have e:=lu G.guard M X.inv.ok;have h:m.c.av[1]?=some (I m.c.aO):=rfl;unfold cO.isL;by_cases d:0<=L
 ·simp only[xq_,akv,d,e,h,zaJ]
 ·simp only[xq_,akv,d,zaL]
def adL(X:MX T m){L:Int}(h:m.isL L=true):0<=m.c.aZ L/\m.c.aZ L<m.aG.length/\0<=L/\L<m.c.aO:=by
 unfold cO.isL at h;simp only[zah,decide_eq_true_eq]at h;have B_:=(qP X.inv.ok).aG;have hl:=X.inv.len;unfold Cfg.aZ wX;rw[if_neg (by omega)];have h1:=zbS L (by omega:m.c.aG≠0);have h2:=zbU L (by omega:0<m.c.aG);omega
def Pj(G:Good b H g)(M:gJ g A m)(X:MX T m){L:Int}(h:m.isL L=true):∃n,m.aG[(m.c.aZ L).toNat]?=some n/\m.kJ L=n.home/\cl 25 [.ref A.iL 0 0,I (m.c.aZ L)] H=some (.ref (A.N (m.c.aZ L).toNat 0) 0 0,H):=by
 obtain⟨d,j,_,_⟩:=adL X h;obtain⟨n,i⟩:∃n,m.aG[(m.c.aZ L).toNat]?=some n:=⟨_,zab V⟩
 have e:=F6 G M X.len.2 (m.c.aZ L);rw[if_pos ⟨d,j⟩]at e;refine⟨n,i,?_,e⟩;unfold cO.kJ cO.bH;rw[if_pos d,i]
def XZ {i:Int}{L:Int}{n:Node}(h0:0<=i)(b:m.aG[i.toNat]?=some n):m.jT L i=n.aI.find L:=by
 unfold cO.jT cO.bH;rw[if_pos h0,b];rfl
def alX {i:Int}{L:Int}(h:¬(0<=i/\i<m.aG.length)):m.jT L i=none:=by
 unfold cO.jT cO.bH;by_cases b:0<=i
 ·rw[if_pos b,zaI V];rfl
 ·rw[if_neg b];rfl
def Vt(G:Good b H g)(M:gJ g A m)(X:MX T m){L:Int}(h:m.isL L=true):cl 38 [.ref A.iL 0 0,I L] H=some (.agg (m.wG L).av,H):=by
 refine bg rfl rfl (atc _ _ _ _) ?_ (mF (U3 _));let H1:=H.guard.new (.blk 0 95 [zI,zI,zN]);have e:Good b H1 g:=G.guard.new _;obtain⟨n,i,p,j⟩:=Pj e M X h;have k:=lu e M X.inv.ok;have o:=xB H1 m.c X.inv.ok L;have N:=M.bH _ n i;have d:=ala e N (X.adK i).dR L;rw[<-p]at d;have q:iK (m.kJ L).dR L=m.wG L:=rfl;rw[q]at d;simp only[H1]at k o j d;simp only[Nat.reduceAdd,aN,xq_,hq_,anV,k,o,j,d]
 try rfl
def JB(G:Good b H g)(M:gJ g A m)(X:MX T m)(L:Int):cl 12 [.ref A.iL 0 0,I L] H=some (I (m.owner L),H):=by
 refine bg rfl rfl (asU _ _ _ _) ?_ fC;have d:=XY G.guard M X L;unfold cO.owner;cases h:m.isL L with
 |false=>
  rw[h]at d;simp only[Int.reduceNeg,xq_,akr,d,zai]
 |true=>
  rw[h]at d;obtain⟨n,i,j,k⟩:=Pj G.guard M X h;have o:=lu G.guard M X.inv.ok;have p:=xB H.guard m.c X.inv.ok L;have e:=acE G.guard (M.bH _ n i) L;rw[<-j]at e;simp only[Int.reduceNeg,xq_,akr,d,zae,o,p,k,e]
def Gm(G:Good b H g)(M:gJ g A m)(X:MX T m)(i L:Int):cl 39 [.ref A.iL 0 0,I i,I L] H=some (jG (m.jT L i),H):=by
 refine bg rfl rfl (atd _ _ _ _ _) ?_ (Lu _);let H1:=H.guard.new (.blk 0 100 [zI,zI,zI,zI,zB,zN]);have h:Good b H1 g:=G.guard.new _;have d:=F6 h M X.len.2 i;by_cases hi:0<=i/\i<m.aG.length
 ·obtain⟨n,e⟩:∃n,m.aG[i.toNat]?=some n:=⟨_,zab V⟩
  rw[if_pos hi]at d;have N:=M.bH _ n e;have o:=h.load N.1 (i:=0) (x:=.ref (A.N i.toNat 1) 0 0) rfl;have j:=nI h N.2.1 (X.adK e).aI (X.adK e).ents L;rw[<-XZ hi.1 e]at j;have k:bi .eql 64 (.ref (A.N i.toNat 0) 0 0) zP=some (B false):=Z
  simp only[H1,jG]at o d j;simp only[Nat.reduceAdd,aN,xq_,hq_,akw,d,k,o,j,jG,Ent.av]
  try rfl
 ·rw[if_neg hi]at d;have k:bi .eql 64 zP zP=some (B true):=Z
  rw[alX hi];simp only[H1]at d;simp only[Nat.reduceAdd,aN,xq_,hq_,akw,d,k,aaB,jg,dY,jG,rV,zaZ,zaK]
  try rfl
def Gn(b:Nat)(H:ah)(x:AV)(l:List Int):Prop:=Own b H x 1 (l.map I)/\(l=[]->x=zN)
def Gn.nil(b:Nat)(H:ah):Gn b H zN []:=⟨.inl ⟨rfl,rfl⟩,λ_=>rfl⟩
def Gn.freeze {n:Nat}{H:ah}{x:AV}{l:List Int}(O:Gn n H x l):bV H n 9 x=some (dat l):=by
 by_cases h:l=[]
 ·rw[O.2 h,h,dat,gI];exact iY
 ·rw[qH h];exact uq O.1 J ZZ (λy b=>rU _ y b _ _) λe=>h (zaq e)
def Gn.new {n:Nat}{H:ah}{x:AV}{l:List Int}(O:Gn n H x l)(o:gB):Gn n (H.new o) x l:=⟨O.1.new o,O.2⟩
def Gn.push {n:Nat}{H:ah}{x:AV}{l:List Int}(O:Gn n H x l)(p:n<=H.next)(hb:H.base<=n)(A:l.length<1000)(v:Int):
  ∃y K,bs 22 1 [(0,I v)] H=some (.sl H.next 0 0 1 1 1 true,H.new (.blk 0 3 [I v]))/\app 3 1 8 x (.sl H.next 0 0 1 1 1 true) (H.new (.blk 0 3 [I v]))=some (y,K)/\Gn n K y (l++[v])/\Step n H K/\∀r,r<H.next->iE x≠some r->K.get r=H.get r:=by
 have d:=O.1.new (.blk 0 3 [I v]);have g:aH (H.new (.blk 0 3 [I v])) (.sl H.next 0 0 1 1 1 true) 1 1 [I v]:=jX rfl;have i:l.length+1<=most:=by unfold most;omega
 have j:(l.length+1)*8<=most:=by unfold most;omega
 obtain⟨y,K,m,q,u⟩:=d.step (n:=l.length) (k:=1) (e:=3) (by_:=8) (by rw[eF];omega) (by rw[jh];exact hb) J (by rw[zaz,zby]) g rfl i j;obtain⟨C,D,o,_,_,_,w⟩:=d.app (n:=l.length) (k:=1) (e:=3) (by_:=8) (by rw[jh];exact hb) J (by rw[zaz,zby]) g rfl i j;rw[m]at o;cases o;exact⟨y,K,(Nz J).trans (jP rfl rfl rfl),m,⟨by rw[zbn];exact q,λh=>by simp at h⟩,(Step.new _ p).trans u,λr z b=>(w r (by rw[eF];omega) b).trans (bC z)⟩
def sD(m:cO)(L:Int)(j:Nat):List Int:=((List.range j).map λi:Nat=>(i:Int)).filter λi=>(m.jT L i).isSome && m.isL L
def sF(m:cO)(L:Int):sD m L m.aG.length=m.copies L:=rfl
def Pm(m:cO)(L:Int)(j:Nat):sD m L (j+1)=sD m L j++if((m.jT L j).isSome && m.isL L)=true then [(j:Int)]else []:=by
 unfold sD;rw[zbX,zbn,zcr]
 congr 1
 simp only[zaD,zbT,zb2,List.filter_nil]
def uH(m:cO)(L:Int)(j:Nat):(sD m L j).length<=j:=by
 unfold sD;refine zav (zb9 _ _) ?_;simp
def yF(G:Good b H g)(M:gJ g A m)(X:MX T m)(L:Int):cl 11 [.ref A.iL 0 0,I L] H=some (dat (m.copies L),H):=by
 have hl:=X.len;have key:∀k j,j+k=m.aG.length->∀(H1:ah) (x:AV),Step H.next H.guard H1->Gn H.next H1 x (sD m L j)->
   ∃H2 y,IK cl [.ref A.iL 0 0,I L,x,I m.c.aG,I j] H1=some (y,H2)/\Gn H.next H2 y (m.copies L):=by
  intro k
  induction k with
  |zero=>
   intro j hj H1 x s O;have hlt:¬(j:Int)<m.c.aG:=by omega
   obtain rfl:j=m.aG.length:=by omega
   refine⟨H1,x,?_,O⟩;rw[Ux];simp only[xq_,hlt]
  |succ k ih=>
   intro j hj H1 x s O;have hlt:(j:Int)<m.c.aG:=by omega
   have G1:Good b H1 g:=G.guard.ext s.next s.low
   have hb1:H1.base=H.next:=s.base
   have hn1:H.next<=H1.next:=s.next
   obtain⟨n,hn⟩:∃n,m.aG[j]?=some n:=⟨_,zab (by omega)⟩
   have e3:=F6 G1 M hl.2 (j:Int);rw[if_pos (by omega),zam]at e3;have N:=M.bH _ n hn;have l1:=G1.load N.1 (i:=0) (x:=.ref (A.N j 1) 0 0) rfl;have e4:=nI G1 N.2.1 (X.adK hn).aI (X.adK hn).ents L;rw[<-XZ (i:=(j:Int)) (by omega) (by rw[zam];exact hn)]at e4;let H3:=H1.new (.blk 0 100 ((m.jT L j).getD .zero).av);have G3:Good b H3 g:=G1.new _;have e5:=XY G3 M X L;have h6:(j:Int)+1=((j+1:Nat):Int):=by omega
   have h7:=wrap_i64 (a:=((j+1:Nat):Int)) (by omega) (by omega);have O3:Gn H.next H3 x (sD m L j):=O.new _
   have s3:Step H.next H.guard H3:=s.trans (Step.new _ hn1)
   have hbn:H1.base<=H1.next:=by omega
   have st6:st 6 (.ref H1.next 0 0) (.agg ((m.jT L j).getD .zero).av) (H1.new (.blk 0 100 [zI,zI,zI,zI,zB,zN]))=some (aY,H3):=by
    rw[uf rfl];simp only[Nat.reduceAdd,aN,xq_,hq_,Ent.av,hbn];rfl
   have hcl:=Pm m L j;cases hs:(m.jT L j).isSome && m.isL L with
   |false=>
    rw[hs,if_neg (by decide),zbd]at hcl;obtain⟨H2,y,r,O2⟩:=ih (j+1) (by omega) H3 x s3 (by rw[hcl];exact O3);refine⟨H2,y,?_,O2⟩;rw[Ux];cases hi:(m.jT L j).isSome with
    |false=>
     rw[jG,hi]at e4;simp only[xq_,hlt,e3,l1,e4,st6,IL,bI,h6,h7,r]
    |true=>
     rw[hi,zaJ]at hs;rw[hs]at e5;rw[jG,hi]at e4;simp only[xq_,hlt,e3,l1,e4,st6,e5,IL,bI,h6,h7,r]
   |true=>
    rw[hs,if_pos rfl]at hcl;obtain⟨hi,hL⟩:=(zah _ _).mp hs;rw[hL]at e5;rw[jG,hi]at e4;have cl_:=uH m L j;obtain⟨y',H4,eb,c1,c2,c3,_⟩:=O3.push s3.next (by rw[s3.base];exact zac _) (by omega) (j:Int)
    rw[<-hcl]at c2;obtain⟨H2,y,r,O2⟩:=ih (j+1) (by omega) H4 y' (s3.trans c3) c2;refine⟨H2,y,?_,O2⟩;rw[Ux];simp only[xq_,hlt,e3,l1,e4,st6,e5,eb,c1,IL,bI,h6,h7,r]
 obtain⟨H2,y,r,O⟩:=key m.aG.length 0 (by omega) H.guard zN (Step.refl _ _) (Gn.nil _ _)
 replace r:IK cl [.ref A.iL 0 0,I L,zN,I m.c.aG,I 0] H.guard=some (y,H2):=r
 have e1:=lu G.guard M X.inv.ok;have l0:m.c.av[0]?=some (I m.c.aG):=rfl;refine iy rfl rfl (asT _ _ _ _ (r:=(y,H2)) ?_) O.freeze;simp only[xq_,anG,e1,l0,r]
end
def yG {N:Nat}{l:List Int}(b:l.Nodup)(h:∀i∈l,0<=i/\i<N):l.length<=N:=by
 have e:∀(n:Nat) (l:List Int),l.Nodup->(∀x∈l,0<=x/\x<n)->l.length<=n:=by
  intro n
  induction n with
  |zero=>
   intro l _ h;cases l with
   |nil=>simp
   |cons a l=>have:=h a O;omega
  |succ n j=>
   intro l b h;have k:=j (l.filter λx=>decide (x<n)) (b.filter _) λx d=>by
    have g:=zbv.1 d;have:=h x g.1;have:=of_decide_eq_true g.2;omega
   by_cases hm:(n:Int)∈l
   ·have k:=j (l.erase (n:Int)) (b.erase _) λx d=>by
     have g:=(b.mem_erase_iff).1 d;have:=h x g.2;have:=g.1;omega
    rw[zdi hm]at k;omega
   ·have:=j l b λx d=>by
     have:=h x d;have:x≠(n:Int):=λe=>hm (by rw[<-e];exact d);omega
    omega
 exact e N l b h
section
variable {m:cO}{L:Int}{v l:List Int}
def alY {i:Int}:i∈m.ids↔0<=i/\i<m.aG.length:=by
 unfold cO.ids;rw[zaM];constructor
 ·rintro⟨k,hk,rfl⟩;have:=za0.1 hk;omega
 ·intro h;exact⟨i.toNat,za0.2 V,V⟩
def arD:m.ids.Pairwise (· < ·):=by
 unfold cO.ids;rw[zcj];exact(List.pairwise_lt_range).imp λh=>by omega
def Et {i:Int}{e:Ent}(h:m.jT L i=some e):0<=i/\i<m.aG.length:=by
 unfold cO.jT cO.bH at h;split at h
 ·cases b:m.aG[i.toNat]? with
  |none=>rw[b]at h;cases h
  |some n=>have:=(zaf.1 b).1;omega
 ·cases h
def uI(b:m.isL L=true){i:Int}:i∈m.copies L↔∃e,m.jT L i=some e:=by
 unfold cO.copies;rw[zbv,b,zcN,zcL];exact⟨λh=>h.2,λh=>⟨alY.2 (Et h.choose_spec),h⟩⟩
def SK:(m.copies L).Pairwise (· < ·):=arD.sublist List.filter_sublist
def Eu:(m.copies L).Nodup:=SK.imp λh=>by omega
def Vu {w:List Int}(h:m.walk L=some w):w.Nodup/\∀i∈w,i∈m.copies L:=by
 unfold cO.walk at h;split at h
 ·rename_i b;obtain⟨d,e⟩:=XW h O O;exact⟨d,λi hi=>(uI b).2 (e i hi)⟩
 ·cases h
def adM(w:List Int):(srt [] w).length=w.length:=by
 have:=(x8 w [] O).1.length_eq
 simpa using this
def L8(b:m.isL L=true)(h:m.tq L=true):∃w,m.walk L=some w/\w.length=(m.copies L).length:=by
 unfold cO.tq at h;rw[if_neg (by simp[b])]at h;split at h
 ·cases h
 ·rename_i w hw;split at h
  ·cases h
  ·rename_i d;refine⟨w,hw,?_⟩;rw[<-Classical.not_not.1 d,adM]
def Wf.walk(W:Wf m.c.aG (m.jT L) (m.wG L) v l)(b:m.isL L=true):m.walk L=some l:=by
 unfold cO.walk;rw[if_pos b,W.head];have:=SI (k:=m.aG.length+1) (out:=[]) W.ch (λi hi=>by have:=(W.rng.2 i hi).1;omega) (by simpa using W.rng.1) (by
  have:=yG (N:=m.aG.length) W.rng.1 λi hi=>by
   obtain⟨e,d⟩:=Chn.mem W.ch i hi;exact Et d
  omega)
 simpa using this
def Wf.perm(W:Wf m.c.aG (m.jT L) (m.wG L) v l)(b:m.isL L=true):l.Perm (m.copies L):=by
 refine(List.perm_ext_iff_of_nodup W.rng.1 Eu).2 λi=>?_;rw[uI b];exact⟨Chn.mem W.ch i,λ⟨e,d⟩=>W.mem i e d⟩
def Wf.tq(W:Wf m.c.aG (m.jT L) (m.wG L) v l):m.tq L=true:=by
 unfold cO.tq;by_cases d:m.isL L=true
 ·rw[if_neg (by simp[d]),W.walk d];simp only;have j:srt [] l=m.copies L:=ahz (W.perm d) (SK.imp λh=>V);rw[if_neg (by simp[j]),L6 W.ch];simp only;have g:∀i∈l,∃e,m.jT L i=some e:=Chn.mem W.ch;unfold yE;rcases W.st with h|h|h
  ·rw[if_pos h,W.st0.1 h];rfl
  ·have k:l≠[]:=λe=>by have:=W.st0.2 e;omega
   rw[if_neg V,if_pos h];have n:(l.map λi=>(m.jT L i).getD .zero).any (λe=>e.bP || decide (e.data≠(m.wG L).data))=false:=by
    rw[List.any_eq_false];intro e b;obtain⟨i,hi,rfl⟩:=zaM.1 b;obtain⟨e,b⟩:=g i hi;rw[b,zat];have o:=W.bP i e b;have p:=W.data i e b;have q:=W.Dx V;have u:e.bP=false:=by
     cases hd:e.bP with
     |false=>rfl
     |true=>have:=o.1 hd;omega
    simp[u,p,q]
   rw[n];simp[k]
  ·obtain⟨i,rfl⟩:=W.st2 h;obtain⟨e,b⟩:=g i O;rw[if_neg V,if_neg V];simp only[zaD,zbT,b,zat];exact(W.bP i e b).2 h
 ·rw[if_pos (by simpa using d)]
end
def adN(H:ah){x:AV}{l:List Int}(j:aH H x 1 l.length (l.map I))(q:l.length<1000000)(v:Int):∃z:Int,cl 81 [x,I v] H=some (I z,H)/\(0<=z↔v∈l):=by
 have e:=j.guard;have key:∀k i,i+k=l.length->∃z:Int,IY cl [x,I v,I l.length,I i] H.guard=some (I z,H.guard)/\(0<=z↔v∈l.drop i):=by
  intro k
  induction k with
  |zero=>
   intro i hi;have b:¬(i:Int)<l.length:=V
   refine⟨-1,?_,?_⟩
   ·rw[UE];simp only[Int.reduceNeg,xq_,b]
   ·rw[zaP V];simp
  |succ k m=>
   intro i hi;have b:(i:Int)<l.length:=V
   have n:(i:Int)+1=((i+1:Nat):Int):=V
   have o:=wrap_i64 (a:=((i+1:Nat):Int)) V V;have g:=e.ix (k:=.i64) (i:=(i:Int)) V b;rw[zam]at g;have d:=e.ld (i:=i) V;rw[zaw,zab (show i<l.length by omega)]at d;have hd:l.drop i=l[i]::l.drop (i+1):=zaT V;by_cases hv:v=l[i]
   ·refine⟨i,?_,by rw[hd,<-hv];simp⟩;rw[<-hv]at d;rw[UE];simp only[Int.reduceNeg,xq_,b,g,d]
   ·obtain⟨z,r,h⟩:=m (i+1) V;refine⟨z,?_,by rw[h,hd,zao];simp[hv]⟩;rw[UE];simp only[Int.reduceNeg,xq_,b,g,d,hv,bI,n,o,r]
 obtain⟨z,r,h⟩:=key l.length 0 V
 replace r:IY cl [x,I v,I l.length,I 0] H.guard=some (I z,H.guard):=r
 have p:=e.lnS;refine⟨z,bg rfl rfl (atT _ _ _ _) ?_ fC,h⟩;simp only[xq_,aon,p,r]
def SL(H:ah){x:AV}{l:List Int}(d:aH H x 1 l.length (l.map I))(g:l.length<1000000)(v:Int):cl 40 [x,I v] H=some (B (decide (v∈l)),H):=by
 refine bg rfl rfl (ate _ _ _ _) ?_ fC;obtain⟨z,e,h⟩:=adN H.guard d.guard g v;rw[show decide (v∈l)=decide (0<=z) by rw[decide_eq_decide];exact h.symm];by_cases b:0<=z
 ·simp only[xq_,akx,e,b]
 ·simp only[xq_,akx,e,b]
def BQ(H:ah){x y:AV}{l b:List Int}(m:aH H x 1 l.length (l.map I))(n:aH H y 1 b.length (b.map I))(G:l.length<1000000)(A:b.length<1000000):cl 44 [x,y] H=some (B (decide (l=b)),H):=by
 refine bg rfl rfl (ati _ _ _ _) ?_ fC;have z:=m.guard.lnS;have o:=n.guard.lnS;by_cases C:l.length=b.length
 ·have key:∀k i,i+k=l.length->IW cl [x,y,I l.length,I i] H.guard=some (B (decide (l.drop i=b.drop i)),H.guard):=by
   intro k
   induction k with
   |zero=>
    intro i hi;have g:¬(i:Int)<l.length:=V
    rw[Uz,zaP V,zaP V];simp only[xq_,g]
   |succ k D=>
    intro i hi;have g:(i:Int)<l.length:=V
    have E:(i:Int)+1=((i+1:Nat):Int):=V
    have F:=wrap_i64 (a:=((i+1:Nat):Int)) V V;have p:=m.guard.ix (k:=.i64) (i:=(i:Int)) V g;have q:=n.guard.ix (k:=.i64) (i:=(i:Int)) V V;rw[zam]at p q;have u:=m.guard.ld (i:=i) V;have v:=n.guard.ld (i:=i) V;rw[zaw,zab (show i<l.length by omega)]at u;rw[zaw,zab (show i<b.length by omega)]at v;have hd:l.drop i=l[i]::l.drop (i+1):=zaT V;have w:b.drop i=b[i]::b.drop (i+1):=zaT V;have h:=D (i+1) V;rw[hd,w];by_cases hv:l[i]=b[i]
    ·have j:decide (l[i]::l.drop (i+1)=b[i]::b.drop (i+1))=decide (l.drop (i+1)=b.drop (i+1)):=by
      rw[decide_eq_decide];exact⟨λe=>(List.cons.inj e).2,λe=>by rw[hv,e]⟩
     rw[j,Uz];simp only[xq_,g,p,q,u,v,hv,eq_self,zae,bI,E,F,h]
    ·have j:decide (l[i]::l.drop (i+1)=b[i]::b.drop (i+1))=false:=decide_eq_false λe=>hv (List.cons.inj e).1;rw[j,Uz];simp only[xq_,g,p,q,u,v,hv,zai]
  have h:=key l.length 0 V
  replace h:IW cl [x,y,I l.length,I 0] H.guard=some (B (decide (l=b)),H.guard):=h
  have d:(l.length:Int)=(b.length:Int):=V
  rw[<-d]at o;simp only[xq_,akz,z,o,eq_self,zae,h]
 ·have j:decide (l=b)=false:=decide_eq_false λe=>C (by rw[e]);have d:¬(l.length:Int)=(b.length:Int):=V
  rw[j];simp only[xq_,akz,z,o,d,zai]
section
variable {b:Nat}{H:ah}{g:bF}{A:Adr}{m:cO}{T:Nat}
def Gn.is {n:Nat}{H:ah}{x:AV}{l:List Int}(O:Gn n H x l):aH H x 1 l.length (l.map I):=O.1.is J ZZ
def Ew {H:ah}{n d:Nat}{x v:AV}{z:Value}(h:bV H n (d+1) x=some v):bV H n (d+2) (.tup [x,.s z])=some (.tup [v,.s z]):=by
 have b:bV H n (d+1) (.s z)=some (.s z):=iY;rw[bV];simp only[zbC,List.mapM_nil,h,b,zbY,za4,zcv,zaj]
def Gn.alZ {n:Nat}{H:ah}{x:AV}{l:List Int}(O:Gn n H x l):bV H n 8 x=some (dat l):=by
 by_cases h:l=[]
 ·rw[O.2 h,h,dat,gI];exact iY
 ·rw[qH h];exact uq O.1 J ZZ (λy b=>rU _ y b _ _) λe=>h (zaq e)
def arE(o:Option (List Int)):AV:=.tup [dat (o.getD []),B o.isSome]
def al0(G:Good b H g)(M:gJ g A m)(X:MX T m){L:Int}:∀k {a:Int} {out:List Int} {H1:ah} {x:AV},m.aG.length<k+out.length->out.Nodup->(∀i∈out,0<=i/\i<m.aG.length)->Step H.next H.guard H1->Gn H.next H1 x out->
  ∃H2 y,NS cl [.ref A.iL 0 0,I L,x,I a] H1=some (.tup [y,B (uG (m.jT L) k a out).isSome],H2)/\Gn H.next H2 y ((uG (m.jT L) k a out).getD []):=by
 intro k;have hl:=X.len
 induction k with
 |zero=>
  intro a out H1 x hk hn hr s O;have:=yG hn hr;omega
 |succ k ih=>
  intro a out H1 x hk hn hr s O;have hol:=yG hn hr;by_cases ha:a=-1
  ·refine⟨H1,x,?_,by unfold uG;rw[if_pos ha];exact O⟩;rw[NU];unfold uG;rw[if_pos ha];simp only[Int.reduceNeg,xq_,ha,eq_self,zae,zaO]
  ·have G1:Good b H1 g:=G.guard.ext s.next s.low
   have hbn:H1.base<=H1.next:=by rw[s.base];exact s.next
   have e1:=Gm G1 M X a L;let H3:=H1.new (.blk 0 100 ((m.jT L a).getD .zero).av);have s3:Step H.next H.guard H3:=s.trans (Step.new _ s.next)
   have O3:Gn H.next H3 x out:=O.new _
   have st6:st 6 (.ref H1.next 0 0) (.agg ((m.jT L a).getD .zero).av) (H1.new (.blk 0 100 [zI,zI,zI,zI,zB,zN]))=some (aY,H3):=by
    rw[uf rfl];simp only[Nat.reduceAdd,aN,xq_,hq_,Ent.av,hbn];rfl
   cases he:m.jT L a with
   |none=>
    have hw:uG (m.jT L) (k+1) a out=none:=by
     unfold uG;rw[if_neg ha,he]
    refine⟨H3,zN,?_,by rw[hw];exact Gn.nil _ _⟩;rw[hw,NU];rw[he]at e1;simp only[he,zaZ]at st6;have:jG none=.tup [.agg Ent.zero.av,B false]:=rfl;rw[this]at e1;simp only[Int.reduceNeg,xq_,ha,e1,st6,zai,zaK]
    try rfl
   |some e=>
    rw[he]at e1;simp only[he,zat]at st6;have:jG (some e)=.tup [.agg e.av,B true]:=rfl;rw[this]at e1;have e2:=SL H3 O3.is (by omega) a;have avj:st 6 (.ref H1.next 0 0) (.agg e.av) (H1.new (.blk 0 100 [zI,zI,zI,zI,zB,zN]))=some (aY,H3):=by rw[st6]
    by_cases hm:a∈out
    ·have hw:uG (m.jT L) (k+1) a out=none:=by
      unfold uG;rw[if_neg ha,he];simp only;rw[if_pos hm]
     rw[decide_eq_true hm]at e2;refine⟨H3,zN,?_,by rw[hw];exact Gn.nil _ _⟩;rw[hw,NU];simp only[Int.reduceNeg,xq_,ha,e1,avj,zae,zai,e2,zaK]
    ·have hw:uG (m.jT L) (k+1) a out=uG (m.jT L) k e.fwd (out++[a]):=by
      rw[uG,if_neg ha,he];simp only;rw[if_neg hm]
     rw[decide_eq_false hm]at e2;obtain⟨y,H4,eb,c1,c2,c3,c4⟩:=O3.push s3.next (by rw[s3.base];exact zac _) (by omega) a
     have hin:=Et he;obtain⟨H2,z,r,O2⟩:=ih (a:=e.fwd) (H1:=H4) (x:=y) (by rw[zar];simp only[zak,zan];omega) (zbp.2 ⟨hn,by simp,λu hu w hw'=>by
      rw[zaV.1 hw'];intro e;exact hm (e ▸ hu)⟩) (λi hi=>by
      rcases zaQ.1 hi with h|h
      ·exact hr i h
      ·rw[zaV.1 h];exact hin) (s3.trans c3) c2
     have g3:H3.get H1.next=.blk 0 100 e.av:=by simp only[H3,he,zat];exact aP rfl
     have g4:H4.get H1.next=.blk 0 100 e.av:=by
      rw[c4 H1.next (by simp only[H3,eF];omega) (λe=>by have:=(O.1.name e).2;omega)];exact g3
     have l0:ld (.ref H1.next 0 0) H4=some (I e.fwd,H4):=by rw[dU g4];rfl
     rw[hw];refine⟨H2,z,?_,O2⟩;rw[NU];simp only[Int.reduceNeg,xq_,ha,e1,avj,zae,zai,e2,eb,c1,l0,r]
def Pn(G:Good b H g)(M:gJ g A m)(X:MX T m)(L:Int):cl 10 [.ref A.iL 0 0,I L] H=some (arE (m.walk L),H):=by
 have e:=XY G.guard M X L;cases h:m.isL L with
 |false=>
  rw[h]at e;have hw:m.walk L=none:=by unfold cO.walk;rw[if_neg (by rw[h];decide)]
  rw[hw];refine iy rfl rfl (anE _ _ _ _ (r:=(.tup [zN,B false],H.guard)) ?_) (Ew (d:=7) iY);simp only[xq_,akq,e,zai]
 |true=>
  rw[h]at e;have j:=Vt G.guard M X h;obtain⟨k,y,r,O⟩:=al0 G M X (L:=L) (m.aG.length+1) (a:=(m.wG L).head) (out:=[]) (H1:=H.guard) (x:=zN) ZZ ZZ  (λi hi=>by cases hi) (Step.refl _ _) (Gn.nil _ _);have hw:m.walk L=uG (m.jT L) (m.aG.length+1) (m.wG L).head []:=by unfold cO.walk;rw[if_pos h]
  rw[<-hw]at r O;have n:(m.wG L).av[1]?=some (I (m.wG L).head):=rfl;refine iy rfl rfl (anE _ _ _ _ (r:=(.tup [y,B (m.walk L).isSome],k)) ?_) (Ew (d:=7) O.alZ);simp only[xq_,akq,e,zae,j,n,r]
end
def X0 {α:Type}{p:α->Bool}(l:List α):decide (yN (l.findIdx? p)≥0)=l.any p:=by
 rw[<-zdz];cases l.findIdx? p with
 |none=>rfl
 |some i=>exact decide_eq_true (by simp only[yN];omega)
def Vw(H:ah){x f:AV}{l:List Ent}(d:aH H x 6 l.length (l.flatMap Ent.av))(h:l.length<1000000)(p:Ent->Bool)(g:∀a∈l,qo Tryz.prog cl f [.agg a.av] H.guard=some (B (p a),H.guard)):cl 88 [x,f] H=some (B (l.any p),H):=by
 refine bg rfl rfl (atY _ _ _ _) ?_ fC;have e:=Ej H.guard (enc:=Ent.av) dI (f:=f) d.guard V p g;rw[<-X0];by_cases b:yN (l.findIdx? p)≥0
 ·simp only[xq_,akH,e,b]
 ·simp only[xq_,akH,e,b]
def SN(H:ah){x f:AV}{l:List Int}(v:aH H x 1 l.length (l.map I))(E:l.length<1000000)(p:Int->Bool)
  (w:∀a∈l,qo Tryz.prog cl f [I a] H.guard=some (B (p a),H.guard)):cl 153 [x,f] H=some (I (yN (l.findIdx? p)),H):=by
 have m:=v.guard;have y:=m.lnS;refine bg rfl rfl (apq _ _ _ _) ?_ fC;have key:∀k i,i+k=l.length->(∀j a,j<i->l[j]?=some a->p a=false)->AU cl [x,f,I l.length,I i] H.guard=some (I (yN (l.findIdx? p)),H.guard):=by
  intro k
  induction k with
  |zero=>
   intro i hi g;have e:¬(i:Int)<l.length:=V
   have n:l.findIdx? p=none:=by rw[mQ l i g,zaP V];rfl
   rw[WT];simp only[Int.reduceNeg,xq_,e,n,yN]
  |succ k z=>
   intro i hi g;have e:(i:Int)<l.length:=V
   have o:=m.ix (k:=.i64) (i:=(i:Int)) V e;have q:=m.ld (i:=i) V;rw[zam]at o;rw[zaw,zab (show i<l.length by omega)]at q;have h:=w l[i] (zc3 _);rw[WT];cases d:p l[i]with
   |true=>
    have n:l.findIdx? p=some i:=by
     rw[mQ l i g,zaT V,zcu,d];simp
    rw[d]at h;simp only[Int.reduceNeg,xq_,e,n,o,q,h,yN]
   |false=>
    rw[d]at h;have A:(i:Int)+1=((i+1:Nat):Int):=V
    have C:=wrap_i64 (a:=((i+1:Nat):Int)) V V;have:=z (i+1) V λj b D hb=>by
     by_cases u:j=i
     ·subst u;rw[zab V]at hb;rw[<-zaW hb];exact d
     ·exact g j b V hb
    simp only[Int.reduceNeg,xq_,e,o,q,h,bI,A,C,this]
 have:=key l.length 0 V λj a D=>by omega
 replace this:AU cl [x,f,I l.length,I 0] H.guard=some (I (yN (l.findIdx? p)),H.guard):=this
 simp only[xq_,aiq,y,this]
def Vx(H:ah){x f:AV}{l:List Int}(d:aH H x 1 l.length (l.map I))(g:l.length<1000000)(p:Int->Bool)(h:∀a∈l,qo Tryz.prog cl f [I a] H.guard.guard=some (B (p a),H.guard.guard)):cl 99 [x,f] H=some (B (l.any p),H):=by
 refine bg rfl rfl (aue _ _ _ _) ?_ fC;have e:=SN H.guard (f:=f) d.guard g p h;rw[<-X0];by_cases b:yN (l.findIdx? p)≥0
 ·simp only[xq_,akO,e,b]
 ·simp only[xq_,akO,e,b]
def adO {H:ah}{q:Nat}{r:Row}(hlt:q<H.next)(hq:H.get q=.blk 0 95 r.av)(hr:r.data.length<1000000)(e:Ent)(he:e.data.length<1000000):cl 89 [.agg e.av,.ref q 0 0] H=some (B (e.bP || decide (e.data≠r.data)),H):=by
 refine bg rfl rfl (atZ _ _ _ _) ?_ fC;let H1:=H.guard.new (.blk 0 100 e.av);have all:e.av.all AV.aS=true:=jO e;have g1:H1.get H.next=.blk 0 100 e.av:=aP rfl
 have l4:ld (.ref H.next 0 4) H1=some (B e.bP,H1):=by rw[dU g1];rfl
 have l5:ld (.ref H.next 0 5) H1=some (dat e.data,H1):=by rw[dU g1];rfl
 have g2:H1.get q=.blk 0 95 r.av:=by rw[<-hq];exact bC hlt
 have l2:ld (.ref q 0 2) H1=some (dat r.data,H1):=by rw[dU g2];rfl
 have e1:=BQ H1 (fH H1 e.data) (fH H1 r.data) he hr;have hd:decide (e.data≠r.data)=!decide (e.data=r.data):=by
  by_cases h:e.data=r.data <;> simp[h]
 simp only[H1]at l4 l5 l2 e1;rw[hd];cases hdi:e.bP with
 |true=>
  rw[hdi]at l4;simp only[Nat.reduceLT,xq_,akI,aC all,l4,zcb]
 |false=>
  rw[hdi]at l4;simp only[Nat.reduceLT,xq_,akI,aC all,l4,l5,l2,e1,zbI]
def agu(H:ah){x:AV}{r:Row}{es:List Ent}(hx:aH H x 6 es.length (es.flatMap Ent.av))(hl:es.length<1000000)(hr:r.data.length<1000000)(he:∀e∈es,e.data.length<1000000):cl 47 [.agg r.av,x] H=some (B (yE r es),H):=by
 refine bg rfl rfl (atj _ _ _ _) ?_ fC;let H1:=H.guard.new (.blk 0 95 r.av);have g1:H1.get H.next=.blk 0 95 r.av:=aP rfl
 have all:r.av.all AV.aS=true:=Ig r;have l0:ld (.ref H.next 0 0) H1=some (I r.state,H1):=by rw[dU g1];rfl
 have hx1:aH H1 x 6 es.length (es.flatMap Ent.av):=hx.guard.new _;have e1:=hx1.lnS;have hn:∀n:Nat,((es.length:Int)=n)=(es.length=n):=λn=>propext ⟨λh=>by omega,λh=>by omega⟩;unfold yE;by_cases h0:r.state=0
 ·rw[if_pos h0];have hd:decide (es=[])=decide ((es.length:Int)=0):=by
   cases es with
   |nil=>rfl
   |cons a l=>simp only[zak,reduceCtorEq,decide_false];exact(decide_eq_false (by omega)).symm
  rw[hd];simp only[H1]at l0 e1;by_cases hz:(es.length:Int)=0
  ·simp only[Nat.reduceLT,Int.reduceLT,Int.reduceEq,xq_,UA,aC all,l0,h0,e1,hz]
  ·simp only[Nat.reduceLT,Int.reduceEq,xq_,UA,aC all,l0,h0,e1,hz]
 by_cases h1:r.state=1
 ·rw[if_neg h0,if_pos h1];have e2:=Vw H1 (f:=.fn (.func 89) [] [.ref H.next 0 0]) hx1 hl (λe=>e.bP || decide (e.data≠r.data)) λe hm=>by
   rw[uj (by kernel_rfl)];exact adO (H:=H1.guard) (q:=H.next) (by rw[xY];exact zc4 _) (by rw[ad6];exact g1) hr e (he e hm)
  simp only[H1]at l0 e1 e2;by_cases hz:(es.length:Int) > 0
  ·have hne:es≠[]:=λe=>by rw[e]at hz;simp at hz
   rw[decide_eq_true hne,zaJ];simp only[Nat.reduceLT,Int.reduceEq,xq_,UA,aC all,l0,h1,e1,hz,e2]
  ·have hne:es=[]:=zaq (by omega);have hd:(decide (es≠[]) && !es.any λe=>e.bP || decide (e.data≠r.data))=false:=by rw[hne];rfl
   rw[hd];simp only[Nat.reduceLT,Int.reduceEq,xq_,UA,aC all,l0,h1,e1,hz]
 ·rw[if_neg h0,if_neg h1];by_cases hz:(es.length:Int)=1
  ·obtain⟨e,rfl⟩:=List.length_eq_one_iff.1 (show es.length=1 by omega);have s1:=hx1.ix (k:=.i64) (i:=0) (by omega) (by simp);have s2:=hx1.ahg (i:=0) (o:=4) (by simp) (by decide);simp only[H1]at l0 e1 s1 s2;obtain⟨p,p1,p2⟩:=Option.bind_eq_some_iff.1 s2
   replace s1:ix 6 x (I 0) (H.guard.new (.blk 0 95 r.av))=some (eP x 0,H.guard.new (.blk 0 95 r.av)):=s1
   have hd:JA [e]=e.bP:=rfl;rw[hd];simp only[Nat.reduceLT,Int.reduceLT,Int.reduceEq,xq_,UA,aC all,l0,h0,h1,e1,hz,s1,p1,p2]
  ·have hd:JA es=false:=by
    clear hx hl he hx1 e1 hn
    match es,hz with
    |[],_=>rfl
    |[a],h=>simp at h
    |a::b::l,_=>rfl
   rw[hd];simp only[H1]at l0 e1;simp only[Nat.reduceLT,xq_,UA,aC all,l0,h0,h1,e1,hz]
section
variable {b:Nat}{H:ah}{g:bF}{A:Adr}{m:cO}{T:Nat}
def Zo(G:Good b H g)(M:gJ g A m)(X:MX T m){p q:Nat}{L:Int}(hp:p<H.next)(hq:q<H.next)(gp:H.get p=.blk 0 25 [.ref A.iL 0 0])(gq:H.get q=.blk 0 3 [I L])(i:Int):cl 100 [I i,.ref p 0 0,.ref q 0 0] H=some (B ((m.jT L i).getD .zero).bP,H):=by
 refine bg rfl rfl (aot _ _ _ _ _) ?_ fC;have l1:ld (.ref p 0 0) H.guard=some (.ref A.iL 0 0,H.guard):=by rw[dU (by rw[ad6];exact gp)];rfl
 have l2:ld (.ref q 0 0) H.guard=some (I L,H.guard):=by rw[dU (by rw[ad6];exact gq)];rfl
 have e1:=Gm G.guard M X i L;let e:=(m.jT L i).getD .zero;let H3:=H.guard.new (.blk 0 100 e.av);have st6:st 6 (.ref H.next 0 0) (.agg e.av) (H.guard.new (.blk 0 100 [zI,zI,zI,zI,zB,zN]))=some (aY,H3):=by
  have hbn:H.guard.base<=H.guard.next:=zac _
  show st 6 (.ref H.guard.next 0 0) (.agg e.av) (H.guard.new (.blk 0 100 [zI,zI,zI,zI,zB,zN]))=some (aY,H3);rw[uf rfl];simp only[Nat.reduceAdd,aN,xq_,hq_,Ent.av];rfl
 have g3:H3.get H.next=.blk 0 100 e.av:=aP rfl
 have l4:ld (.ref H.next 0 4) H3=some (B e.bP,H3):=by rw[dU g3];rfl
 have e1':cl 39 [.ref A.iL 0 0,I i,I L] H.guard=some (.tup [.agg e.av,B (m.jT L i).isSome],H.guard):=e1;simp only[xq_,ahJ,l1,l2,e1',st6,l4]
 try rfl
def Zp(G:Good b H g)(M:gJ g A m)(X:MX T m)(L:Int):cl 53 [.ref A.iL 0 0,I L] H=some (B (m.single L),H):=by
 refine bg rfl rfl (atp _ _ _ _) ?_ fC;let H1:=H.guard.new (.blk 0 25 [.ref A.iL 0 0]);let H2:=H1.new (.blk 0 3 [I L]);have G2:Good b H2 g:=(G.guard.new _).new _;have n1:H1.next=H.next+1:=rfl
 have n2:H2.next=H.next+1+1:=rfl
 have gp:H2.get H.next=.blk 0 25 [.ref A.iL 0 0]:=by
  simp only[H2];rw[bC (by rw[n1];omega)];exact aP rfl
 have gq:H2.get (H.next+1)=.blk 0 3 [I L]:=aP n1.symm;have l1:ld (.ref H.next 0 0) H2=some (.ref A.iL 0 0,H2):=by rw[dU gp];rfl
 have l2:ld (.ref (H.next+1) 0 0) H2=some (I L,H2):=by rw[dU gq];rfl
 have e1:=yF G2 M X L;have hcl:(m.copies L).length<=1000:=by
  have:=uH m L m.aG.length;rw[sF]at this;have:=X.len.2;omega
 have G4:Good b H2.guard.guard g:=G2.guard.guard;have e2:=Vx H2 (f:=.fn (.func 100) [] [.ref H.next 0 0,.ref (H.next+1) 0 0]) (fH H2 (m.copies L)) (by omega) (λi=>((m.jT L i).getD .zero).bP) λi _=>by
  rw[uj (by kernel_rfl)];exact Zo G4 M X (p:=H.next) (q:=H.next+1) (by rw[xY,xY,n2];omega) (by rw[xY,xY,n2];omega) (by rw[ad6,ad6];exact gp) (by rw[ad6,ad6];exact gq) i
 have e3:=(fH H2 (m.copies L)).lnS;have b1:fM 25 (.ref A.iL 0 0) H.guard=some (.ref H.next 0 0,H1):=rfl;have b2:fM 3 (I L) H1=some (.ref (H.next+1) 0 0,H2):=rfl;unfold cO.single;cases ha:(m.copies L).any (λi=>((m.jT L i).getD .zero).bP)with
 |false=>
  rw[ha]at e2;simp only[xq_,ae8,b1,b2,l1,l2,e1,e2,zai,zcb]
 |true=>
  rw[ha]at e2;rw[show decide ((m.copies L).length=1)=decide (((m.copies L).length:Int)=1) by rw[decide_eq_decide];omega,zae,zbI];by_cases hz:((m.copies L).length:Int)=1
  ·simp only[xq_,ae8,b1,b2,l1,l2,e1,e2,zae,e3,hz]
  ·simp only[xq_,ae8,b1,b2,l1,l2,e1,e2,zae,e3,hz]
def adP(G:Good b H g)(M:gJ g A m)(X:MX T m){L:Int}(hL:m.isL L=true){x:AV}{ws:List Int}(hx:∀H':ah,H.next<=H'.next->(∀r,r<H.next->H'.get r=H.get r)->aH H' x 1 ws.length (ws.map I))(hw:ws.length<1000):cl 58 [.ref A.iL 0 0,I L,x] H=some (B (m.Es L ws),H):=by
 refine bg rfl rfl (atv _ _ _ _ _) ?_ fC;have hxs:∀H1:ah,Step H.next H.guard H1->aH H1 x 1 ws.length (ws.map I):=λH1 s=>hx H1 s.next s.low
 have hent:∀i e,m.jT L i=some e->e.data.length<1000000:=λi e h=>by
  obtain⟨h0,h1⟩:=Et h;obtain⟨n,hn⟩:∃n,m.aG[i.toNat]?=some n:=⟨_,zab (by omega)⟩
  rw[XZ h0 hn]at h;have:=XT ((X.inv.bH _ n hn).aI.le X.inv.ok) h;omega
 have hel:∀i,((m.jT L i).getD .zero).data.length<1000000:=λi=>by
  cases h:m.jT L i with
  |none=>simp[Ent.zero]
  |some e=>exact hent i e h
 have hrl:(m.wG L).data.length<1000000:=by
  obtain⟨n,hn,hh,_⟩:=Pj G M X hL;unfold cO.wG iK;rw[hh];cases ha:jY n.home.dR L with
  |none=>simp[Row.zero]
  |some w=>
   obtain⟨j,hj,_⟩:=F5 ha;have:(w.data.length:Int)=m.c.aV:=((X.inv.bH _ n hn).dR _ (zas hj)).1;have:=(lS X.inv.ok).2.2.1;simp only[zat];omega
 have hcl:(m.copies L).length<=1000:=by
  have:=uH m L m.aG.length;rw[sF]at this;have:=X.len.2;omega
 have e0:=yF G.guard M X L;have e0l:=(fH H.guard (m.copies L)).lnS;have key:∀k i,i+k=(m.copies L).length->∀H1,Step H.next H.guard H1->(IX cl [.ref A.iL 0 0,I L,x,dat (m.copies L),I (m.copies L).length,I i] H1).map Prod.fst=some (B (((m.copies L).drop i).all (λi=>decide (((m.jT L i).getD .zero).data=ws)) && (decide ((m.wG L).state=2) || decide (m.owner L≠-1) || decide ((m.wG L).data=ws)))):=by
  intro k
  induction k with
  |zero=>
   intro i hi H1 s;have h1:¬(i:Int)<(m.copies L).length:=by omega
   have G1:Good b H1 g:=G.guard.ext s.next s.low
   have hbn:H1.base<=H1.next:=by rw[s.base];exact s.next
   have e1:=Vt G1 M X hL;let H2:=H1.new (.blk 0 95 (m.wG L).av);have G2:Good b H2 g:=G1.new _;have st3:st 3 (.ref H1.next 0 0) (.agg (m.wG L).av) (H1.new (.blk 0 95 [zI,zI,zN]))=some (aY,H2):=by
    rw[uf rfl];simp only[Nat.reduceAdd,aN,xq_,hq_,Row.av,hbn];rfl
   have g2:H2.get H1.next=.blk 0 95 (m.wG L).av:=aP rfl
   have l0:ld (.ref H1.next 0 0) H2=some (I (m.wG L).state,H2):=by rw[dU g2];rfl
   have l2:ld (.ref H1.next 0 2) H2=some (dat (m.wG L).data,H2):=by rw[dU g2];rfl
   have e2:=JB G2 M X L;have e3:=BQ H2 (fH H2 (m.wG L).data) (hxs H2 (s.trans (Step.new _ s.next))) hrl (by omega);rw[zaP (by omega),zcJ,zaJ,abh];by_cases q2:(m.wG L).state=2
   ·simp only[Int.reduceNeg,xq_,h1,e1,st3,l0,q2,eq_self,zcb]
   ·by_cases q3:m.owner L=-1
    ·have:decide (m.owner L≠-1)=false:=decide_eq_false λh=>h q3;rw[this,decide_eq_false q2,zbI,zbI];rw[q3]at e2;simp only[Int.reduceNeg,xq_,h1,e1,st3,l0,q2,e2,eq_self,zae,l2,e3]
    ·have:decide (m.owner L≠-1)=true:=decide_eq_true q3;rw[this,Bool.or_true,zcb];simp only[Int.reduceNeg,xq_,h1,e1,st3,l0,q2,e2,q3,zai]
  |succ k ih=>
   intro i hi H1 s;have h1:(i:Int)<(m.copies L).length:=by omega
   have G1:Good b H1 g:=G.guard.ext s.next s.low
   have hbn:H1.base<=H1.next:=by rw[s.base];exact s.next
   have hS:=fH H1 (m.copies L);have s1:=hS.ix (k:=.i64) (i:=(i:Int)) (by omega) h1;rw[zam]at s1;have t1:=hS.ld (i:=i) (by omega);rw[zaw,zab (show i<(m.copies L).length by omega)]at t1;obtain⟨at_,hat⟩:∃a,a=(m.copies L)[i]:=⟨_,rfl⟩
   rw[<-hat]at t1;have e1:=Gm G1 M X at_ L;let e:=(m.jT L at_).getD .zero;let H3:=H1.new (.blk 0 100 e.av);have st6:st 6 (.ref H1.next 0 0) (.agg e.av) (H1.new (.blk 0 100 [zI,zI,zI,zI,zB,zN]))=some (aY,H3):=by
    rw[uf rfl];simp only[Nat.reduceAdd,aN,xq_,hq_,Ent.av,hbn];rfl
   have g3:H3.get H1.next=.blk 0 100 e.av:=aP rfl
   have l5:ld (.ref H1.next 0 5) H3=some (dat e.data,H3):=by rw[dU g3];rfl
   have e1':cl 39 [.ref A.iL 0 0,I at_,I L] H1=some (.tup [.agg e.av,B (m.jT L at_).isSome],H1):=e1;have s3:Step H.next H.guard H3:=s.trans (Step.new _ s.next)
   have e2:=BQ H3 (fH H3 e.data) (hxs H3 s3) (hel at_) (by omega);have h6:(i:Int)+1=((i+1:Nat):Int):=by omega
   have h7:=wrap_i64 (a:=((i+1:Nat):Int)) (by omega) (by omega);have r:=ih (i+1) (by omega) H3 s3;have hd:(m.copies L).drop i=at_::(m.copies L).drop (i+1):=by rw[hat];exact zaT (by omega)
   rw[hd,zb0,abh];by_cases hq:e.data=ws
   ·rw[decide_eq_true hq]at e2;rw[show decide (((m.jT L at_).getD .zero).data=ws)=true from decide_eq_true hq,zaJ];simp only[Int.reduceNeg,xq_,h1,s1,t1,e1',st6,l5,e2,zae,bI,h6,h7,r]
   ·rw[decide_eq_false hq]at e2;rw[show decide (((m.jT L at_).getD .zero).data=ws)=false from decide_eq_false hq,zaL,zaL];simp only[Int.reduceNeg,xq_,h1,s1,t1,e1',st6,l5,e2,zai]
 have r:=key (m.copies L).length 0 (by omega) H.guard (Step.refl _ _);rw[zaS]at r
 replace r:(IX cl [.ref A.iL 0 0,I L,x,dat (m.copies L),I (m.copies L).length,I 0] H.guard).map Prod.fst=some (B (m.Es L ws)):=r
 simp only[xq_,an9,e0,e0l,r]
end
def SQ(w:List Int):Prop:=∀H:ah,∃f K,cl 46 [dat w] H=some (f,K)/\cl 45 [f] K=some (dat (srt [] w),K)/\Step H.next H K
def SS:SQ []:=λH=>by
 let H1:=H.new (.blk 0 22 [zN]);have b:H1.get H.next=.blk 0 22 [zN]:=aP rfl
 have d:dat ([]:List Int)=zN:=by simp[dat,gI]
 refine⟨.fn (.func 87) [] [.ref H.next 0 0],H1,bn rfl rfl (anZ _ _ _ ?_),?_,Step.new _ (zac _)⟩
 ·have e:fM 22 zN H=some (.ref H.next 0 0,H1):=rfl;rw[d];simp only[xq_,akA,e]
  try rfl
 ·refine zq (p:=sQ yX rP) rfl ?_;have hc:True/\22<gV/\87≠0/\87∈rP:=⟨trivial,by unfold gV;decide,J,by simp[rP]⟩
  have g:dat (srt [] ([]:List Int))=aeS:=by simp[srt,dat,gI,aeS]
  rw[g];unfold sQ;simp only[b];rw[if_pos hc]
def JC(r:Row)(es0:List Ent):Option (List Ent)->Bool
 |none=>false
 |some b=>yE r (es0++b)
section
variable {b:Nat}{H:ah}{g:bF}{A:Adr}{m:cO}{T:Nat}
def agv(X:MX T m)(L i:Int):((m.jT L i).getD .zero).data.length<1000000:=by
 cases h:m.jT L i with
 |none=>simp[Ent.zero]
 |some e=>
  obtain⟨d,g⟩:=Et h;obtain⟨n,b⟩:∃n,m.aG[i.toNat]?=some n:=⟨_,zab V⟩
  rw[XZ d b]at h;have:=XT ((X.inv.bH _ n b).aI.le X.inv.ok) h;simp only[zat];omega
def agw(G:Good b H g)(M:gJ g A m)(X:MX T m){L:Int}(d:m.isL L=true):(m.wG L).data.length<1000000:=by
 obtain⟨n,e,h,_⟩:=Pj G M X d;unfold cO.wG iK;rw[h];cases ha:jY n.home.dR L with
 |none=>simp[Row.zero]
 |some w=>
  obtain⟨j,i,_⟩:=F5 ha;have:(w.data.length:Int)=m.c.aV:=((X.inv.bH _ n e).dR _ (zas i)).1;have:=(lS X.inv.ok).2.2.1;simp only[zat];omega
def al1(G:Good b H g)(M:gJ g A m)(X:MX T m){L:Int}(hL:m.isL L=true){w:List Int}(hw:w.length<=1000):∀k i {bk:Int} {es0:List Ent} {H1:ah} {x:AV},i+k=w.length->Step H.next H.guard H1->Own H.next H1 x 6 (es0.flatMap Ent.av)->es0.length=i->(∀e∈es0,e.data.length<1000000)->
  (zK cl [.ref A.iL 0 0,I L,x,I bk,dat w,I w.length,I i] H1).map Prod.fst=some (B (JC (m.wG L) es0 (wE (m.jT L) bk (w.drop i)))):=by
 intro k
 induction k with
 |zero=>
  intro i bk es0 H1 x hi s O hl he;have h1:¬(i:Int)<w.length:=by omega
  have G1:Good b H1 g:=G.guard.ext s.next s.low
  have e1:=Vt G1 M X hL;have e2:=agu H1 (r:=m.wG L) (O.is (n:=es0.length) (by decide) (dF dI es0)) (by omega) (agw G M X hL) he;rw[zaP (by omega),Uy];simp only[wE,JC,zbd];simp only[xq_,h1,e1,e2]
 |succ k ih=>
  intro i bk es0 H1 x hi s O hl he;have h1:(i:Int)<w.length:=by omega
  have G1:Good b H1 g:=G.guard.ext s.next s.low
  have hbn:H1.base<=H1.next:=by rw[s.base];exact s.next
  have hS:=fH H1 w;have s1:=hS.ix (k:=.i64) (i:=(i:Int)) (by omega) h1;rw[zam]at s1;have t1:=hS.ld (i:=i) (by omega);rw[zaw,zab (show i<w.length by omega)]at t1;obtain⟨a,ha⟩:∃a,a=w[i]:=⟨_,rfl⟩
  rw[<-ha]at t1;have e1:=Gm G1 M X a L;obtain⟨e,hed⟩:∃e,e=(m.jT L a).getD .zero:=⟨_,rfl⟩
  let H3:=H1.new (.blk 0 100 e.av);have st6:st 6 (.ref H1.next 0 0) (.agg e.av) (H1.new (.blk 0 100 [zI,zI,zI,zI,zB,zN]))=some (aY,H3):=by
   rw[uf rfl];simp only[Nat.reduceAdd,aN,xq_,hq_,Ent.av,hbn];rfl
  have g3:H3.get H1.next=.blk 0 100 e.av:=aP rfl
  have l1:ld (.ref H1.next 0 1) H3=some (I e.back,H3):=by rw[dU g3];rfl
  have l6:lda 6 (.ref H1.next 0 0) H3=some (.agg e.av,H3):=(iP (off:=0) (n:=6) g3 (zac 6)).trans rfl;have e1':cl 39 [.ref A.iL 0 0,I a,I L] H1=some (.tup [.agg e.av,B (m.jT L a).isSome],H1):=by rw[e1,jG,hed]
  have s3:Step H.next H.guard H3:=s.trans (Step.new _ s.next)
  have hd:w.drop i=a::w.drop (i+1):=by rw[ha];exact zaT (by omega)
  have h6:(i:Int)+1=((i+1:Nat):Int):=by omega
  have h7:=wrap_i64 (a:=((i+1:Nat):Int)) (by omega) (by omega);rw[hd];unfold wE;rw[<-hed];by_cases hb:e.back=bk
  ·rw[if_neg (by simp[hb])];have eb:bs 111 1 [(0,.agg e.av)] H3=some (.sl H3.next 0 0 6 1 1 true,H3.new (.blk 0 100 e.av)):=(aay (by decide)).trans (jP rfl rfl (jO e));have O3:Own H.next H3 x 6 (es0.flatMap Ent.av):=O.new _
   obtain⟨y,K,c1,c2,c3⟩:=(O3.new (.blk 0 100 e.av)).step (n:=i) (k:=1) (e:=100) (by_:=64) (y:=.sl H3.next 0 0 6 1 1 true) (new:=e.av) (by rw[eF];exact zbz s3.next) (by rw[jh,s3.base];exact zac _) (by decide) (by rw[dF dI,hl]) (jX rfl) (jO e) (by unfold most;omega) (by unfold most;omega);have hf:es0.flatMap Ent.av++e.av=(es0++[e]).flatMap Ent.av:=by simp[zbx]
   rw[hf]at c2;have s4:Step H.next H.guard K:=s3.trans ((Step.new _ s3.next).trans c3)
   have r:=ih (i+1) (bk:=a) (es0:=es0++[e]) (by omega) s4 c2 (by simp[hl]) (λe' h=>by
    rcases zaQ.1 h with h|h
    ·exact he e' h
    ·rw[zaV.1 h,hed];exact agv X L a)
   have hx:JC (m.wG L) es0 ((wE (m.jT L) a (w.drop (i+1))).map λes=>e::es)=JC (m.wG L) (es0++[e]) (wE (m.jT L) a (w.drop (i+1))):=by
    cases wE (m.jT L) a (w.drop (i+1))with
    |none=>rfl
    |some es=>simp only[zaj,JC,zba,za3,zaN]
   rw[hx,Uy];simp only[xq_,h1,s1,t1,e1',st6,l1,hb,eq_self,zae,l6,eb,c1,bI,h6,h7,r]
  ·rw[if_pos hb,Uy];simp only[JC];simp only[xq_,h1,s1,t1,e1',st6,l1,hb,zai]
def X3(G:Good b H g)(M:gJ g A m)(X:MX T m)(L:Int)(D:∀w,m.walk L=some w->SQ w):cl 13 [.ref A.iL 0 0,I L] H=some (B (m.tq L),H):=by
 refine bg rfl rfl (asV _ _ _ _) ?_ fC;have j:=XY G.guard M X L;unfold cO.tq;cases p:m.isL L with
 |false=>
  rw[p]at j;rw[if_pos rfl];simp only[Int.reduceNeg,xq_,YF,j,zai]
 |true=>
  rw[p]at j;rw[if_neg J];have d:=Pn G.guard M X L;cases hw:m.walk L with
  |none=>
   rw[hw]at d
   replace d:cl 10 [.ref A.iL 0 0,I L] H.guard=some (.tup [dat [],B false],H.guard):=d
   simp only[Int.reduceNeg,xq_,YF,j,zae,d,zai]
  |some w=>
   rw[hw]at d
   replace d:cl 10 [.ref A.iL 0 0,I L] H.guard=some (.tup [dat w,B true],H.guard):=d
   obtain⟨f,K,u,v,k⟩:=D w hw H.guard
   replace k:Step H.next H.guard K:=k
   have E:Good b K g:=G.guard.ext k.next k.low
   have y:=yF E M X L;have z:w.length<=1000:=by
    obtain⟨F,Q⟩:=Vu hw;have:=yG (N:=m.aG.length) F λi hi=>by
     obtain⟨e,R⟩:=(uI p).1 (Q i hi);exact Et R
    have:=X.len.2;omega
   have W:(m.copies L).length<=1000:=by
    have:=uH m L m.aG.length;rw[sF]at this;have:=X.len.2;omega
   have n:=BQ K (fH K (srt [] w)) (fH K (m.copies L)) (by rw[adM];omega) V;simp only;by_cases q:srt [] w=m.copies L
   ·rw[if_neg (by simp[q])];rw[decide_eq_true q]at n;have C:=(fH K w).lnS;have r:=al1 G M X p z w.length 0 (bk:=-1) (es0:=[]) (H1:=K) (x:=zN) V k (.inl ⟨rfl,rfl⟩) rfl (λe h=>by cases h);rw[zaS]at r
    replace r:(zK cl [.ref A.iL 0 0,I L,zN,I (-1),dat w,I w.length,I 0] K).map Prod.fst=some (B (JC (m.wG L) [] (wE (m.jT L) (-1) w))):=r
    cases o:wE (m.jT L) (-1) w with
    |none=>
     rw[o]at r
     replace r:(zK cl [.ref A.iL 0 0,I L,zN,I (-1),dat w,I w.length,I 0] K).map Prod.fst=some (B false):=r
     simp only;simp only[Int.reduceNeg,xq_,YF,j,zae,d,u,v,y,n,C,r]
    |some es=>
     rw[o]at r
     replace r:(zK cl [.ref A.iL 0 0,I L,zN,I (-1),dat w,I w.length,I 0] K).map Prod.fst=some (B (yE (m.wG L) es)):=r
     simp only;simp only[Int.reduceNeg,xq_,YF,j,zae,d,u,v,y,n,C,r]
   ·rw[if_pos q];rw[decide_eq_false q]at n;simp only[Int.reduceNeg,xq_,YF,j,zae,d,u,v,y,n,zai]
end
def jJ {α:Type}{g:Int->α}{j:Int}:dL g j (g j)=g:=by
 funext k
 by_cases h:k=j
 ·rw[h,aK]
 ·rw[aX h]
def Node.JD(n:Node):Nat:=n.dn.ops.length-n.dn.bT.length
def cO.yQ(m:cO)(j:Int):Nat:=match m.bH j with
 |some n=>n.JD
 |none=>0
def cO.todo(m:cO)(msg:Int->Out):Nat:=2*pot m.c m.yQ (m.abs msg λ_=>[])+m.fab.under
section
variable {m:cO}{i:Nat}{n n':Node}{f:Fab}{t:List Evn}{msg msg':Int->Out}{val val':Int->List Int}
def DI(h:m.aG[i]?=some n):(m.with_ i n' f t).yQ=dL m.yQ i n'.JD:=by
 funext j
 unfold cO.yQ;rw[BP h];by_cases b:j=i
 ·rw[if_pos b,b,aK]
 ·rw[if_neg b,aX b]
def Po(h:m.aG[i]?=some n):m.yQ i=n.JD:=by
 unfold cO.yQ;rw[BO h]
def Vy(e:pot m.c (m.with_ i n' f t).yQ ((m.with_ i n' f t).abs msg' val')<pot m.c m.yQ (m.abs msg val))(g:f.under<=m.fab.under+1):(m.with_ i n' f t).todo msg'<m.todo msg:=by
 have b:(m.with_ i n' f t).todo msg'=2*pot m.c (m.with_ i n' f t).yQ ((m.with_ i n' f t).abs msg' val')+f.under:=rfl;have d:m.todo msg=2*pot m.c m.yQ (m.abs msg val)+m.fab.under:=rfl;rw[b,d];omega
end
def SV {f:Fab}{i:Int}{q:Port}(hi:f.is i=true):(f.put i q).under+((f.port i).rq.length+(f.port i).an.length)=f.under+(q.rq.length+q.an.length):=by
 have h:=gy hi;obtain⟨b,e⟩:=zaf.1 h;unfold Fab.under Fab.all Fab.put;simp only;have key:∀(l:List Port) (k:Nat) (x:Port),l[k]?=some x->((l.set k q).flatMap λq=>q.rq++q.an).length+(x.rq.length+x.an.length)=(l.flatMap λq=>q.rq++q.an).length+(q.rq.length+q.an.length):=by
  intro l
  induction l with
  |nil=>intro k x h;simp at h
  |cons y l d=>
   intro k x h;cases k with
   |zero=>
    simp only[zaY,zaa]at h;subst h;simp only[zb7,zaE,zar];omega
   |succ k=>
    simp only[zbe]at h;have:=d k x h;simp only[zb8,zaE,zar];omega
 exact key _ _ _ h
def adQ {f:Fab}{i:Int}{q:Port}(hi:f.is i=true)(b:q.rq=(f.port i).rq)(d:q.an=(f.port i).an):(f.put i q).all=f.all:=Dy (gy hi) b d
def L9 {f b:Fab}{i:Int}{r:Bool}{d:Option Pkt}(h:f.take i r=(b,d)):b.under=f.under:=by
 unfold Fab.take at h;split at h
 ·rename_i hi;split at h
  ·cases h;rfl
  ·cases h;unfold Fab.under;rw[adQ hi (by cases r <;> rfl) (by cases r <;> rfl)]
 ·cases h;rfl
def oI(f:Fab)(p:Pkt):(f.send p).1.under<=f.under+1:=by
 unfold Fab.send;split
 ·exact za8 _
 ·rename_i h;split
  ·exact za8 _
  ·simp only;have hi:f.is p.src=true:=by
    simp only[zbu,zbj,not_or,zcW]at h;exact h.1.2
   have:=SV (q:=(f.port p.src).kM (rG p.aU) ((f.port p.src).sort (rG p.aU)++[p])) hi;cases hk:rG p.aU <;> rw[hk]at this <;> simp[Port.kM,Port.sort]at this ⊢ <;> omega
def Pq {f:Fab}{a b m:Int}(e:∀p∈f.all,f.is p.dst=true)(h:(f.deliver a b m).2=0):(f.deliver a b m).1.under+1=f.under:=by
 unfold Fab.deliver at h ⊢;split at h
 ·cases h
 rename_i u;rw[if_neg u];split at h
 ·cases h
 rename_i p g;split at h
 ·cases h
 rename_i v;split at h
 ·cases h
 rename_i w;simp only[v,w,if_false,zal];have hd:=e p (zas g);obtain⟨q,j⟩:∃q,q=(f.port p.dst).lq (rG p.aU) ((f.port p.dst).um (rG p.aU)++[p]):=⟨_,rfl⟩
 have ha:(f.put p.dst q).all=f.all:=adQ hd (by rw[j];cases rG p.aU <;> rfl) (by rw[j];cases rG p.aU <;> rfl);rw[<-j];rw[<-ha]at g;obtain⟨i,req,k',x,n,o,y⟩:=vX (i0:=0) g;rw[za7]at n;unfold Fab.remove;rw[n];simp only;have hi:=adE o;have k:=SV (q:=((f.put p.dst q).port i).drop req k') hi;have z:=Pg o;have A:(f.put p.dst q).under=f.under:=by unfold Fab.under;rw[ha]
 rw[z]at k ⊢;have d:=(zaf.1 y).1;cases req <;> simp[Port.drop,Port.kM,Port.sort,List.length_eraseIdx]at k d ⊢ <;> rw[if_pos d]at k <;> omega
section
variable {c:Cfg}{lf:Int->Nat}{a:Abs}{i L:Int}{x:Option Ent}{d':bU}{msg':Int->Out}{val':Int->List Int}{k:Nat}
def adR(hi:0<=i/\i<c.aG)(m:0<=L/\L<c.aO)(hm:∀j,j≠i->msg' j=a.msg j)(n:∀b,b≠L->∀y,wt d' b y=wt (a.aJ i) b y)(o:33*k+Dp d' (msg' i)+wt d' L x<33*lf i+Dp (a.aJ i) (a.msg i)+wt (a.aJ i) L (a.ent L i)):
  pot c (dL lf i k) { a with ent:=dL a.ent L (nT (a.ent L) i x),aJ:=dL a.aJ i d',msg:=msg',val:=val' }<pot c lf a:=by
 refine Vr hi hi m (λj d=>⟨aX d,aX d,hm j d⟩) (λj b h=>?_) ?_
 ·show wt (dL a.aJ i d' j) b (dL a.ent L (nT (a.ent L) i x) b j)=wt (a.aJ j) b (a.ent b j);by_cases d:j=i
  ·subst d;have g:=h.resolve_left λh=>h rfl;rw[aK,aX g];exact n b g _
  ·rw[aX d];by_cases e:b=L
   ·rw[e,aK,fD d]
   ·rw[aX e]
 ·show 33*dL lf i k i+Dp (dL a.aJ i d' i) (msg' i)+wt (dL a.aJ i d' i) L (dL a.ent L (nT (a.ent L) i x) L i)<_;rw[aK,aK,aK,gu];exact o
def al2 {a':Abs}(hi:0<=i/\i<c.aG)(e:0<c.aO)(d:a'.ent=a.ent)(b:a'.aJ=a.aJ)(hm:∀j,j≠i->a'.msg j=a.msg j)(k:Dp (a.aJ i) (a'.msg i)<Dp (a.aJ i) (a.msg i)):pot c lf a'<pot c lf a:=by
 refine Vr (L:=0) hi hi ⟨zbt _,e⟩ (λj g=>⟨rfl,by rw[b],hm j g⟩) (λj m h=>by rw[d,b]) ?_;rw[d,b];omega
def adS {s:Int}{q p:Pkt}{e:Ent}(hi:0<=i/\i<c.aG)(o:0<=s/\s<c.aG)(u:0<=L/\L<c.aO)(hm:a.msg s=.req p)(v:a.ent L i=some e)(h0:(a.aJ s).step≠0)(g:(∃e',x=some e')/\(a.aJ s).step≠3∨x=none):
  pot c lf { a with ent:=dL a.ent L (nT (a.ent L) i x),msg:=dL a.msg s (.ans q) }<pot c lf a:=by
 refine Vr o hi u (λj k=>⟨rfl,rfl,aX k⟩) (λj b h=>?_) ?_
 ·show wt (a.aJ j) b (dL a.ent L (nT (a.ent L) i x) b j)=wt (a.aJ j) b (a.ent b j);by_cases e:b=L
  ·have k:=h.resolve_right λh=>h e;rw[e,aK,fD k]
  ·rw[aX e]
 ·show 33*lf s+Dp (a.aJ s) (dL a.msg s (.ans q) s)+wt (a.aJ i) L (dL a.ent L (nT (a.ent L) i x) L i)<_;rw[aK,aK,gu,hm,v];unfold Dp;rw[if_neg h0,if_neg h0];have m:loc (a.aJ s).step (.req p)=3:=rfl;have n:loc (a.aJ s).step (.ans q)=if(a.aJ s).step=3 then 4 else 1:=rfl;rcases g with⟨⟨e',rfl⟩,g⟩|rfl
  ·rw[m,n,if_neg g,alV (e:=e') (e':=e)];omega
  ·rw[m,n,adF];have:=arB (d:=a.aJ i) (L:=L) (e:=e);split <;> omega
end
section
variable {m:cO}{T:Nat}{i:Nat}{n n':Node}{f:Fab}{t:List Evn}{msg msg':Int->Out}{val val':Int->List Int}
def Gp(h:m.aG[i]?=some n)(b:n'.home=n.home)(hc:∀L,n'.aI.find L=n.aI.find L):
  (m.with_ i n' f t).abs msg' val'={ m.abs msg val with aJ:=dL m.oZ i n'.aJ,msg:=msg',val:=val' }:=by
 rw[qO (val:=val) (msg:=msg) h b (L:=0) (λL _=>hc L),hc,<-sZ h,lV,jJ];rfl
def MX.range(X:MX T m)(h:m.aG[i]?=some n):0<=(i:Int)/\(i:Int)<m.c.aG:=by
 have:=X.inv.len;have:=(zaf.1 h).1;omega
def MX.is(X:MX T m){j:Int}(h:0<=j/\j<m.c.aG){f:Fab}(b:f.l.length=m.fab.l.length):f.is j=true:=by
 have:=X.inv.fab.len;unfold Fab.is;simp only[zah,decide_eq_true_eq];omega
def Pv(h:m.aG[i]?=some n){o:Opn}(hc:n.dn.cur=some o):m.opAt i n.dn.bT.length=some o:=by
 unfold cO.opAt;rw[BO h];exact hc
def Gq {o:Opn}(hc:n.dn.cur=some o)(hb:n.dn.fU=true){v:Int}(h:n'.dn=n.dn.CU v):n'.JD+1=n.JD:=by
 have:=(zaf.1 hc).1;unfold Node.JD;rw[h];unfold Proc.CU;rw[if_pos hb];show n.dn.ops.length-(n.dn.bT++[v]).length+1=_;rw[zar,List.length_singleton];omega
def oJ(X:MX T m)(d:m.aG[i]?=some n){L:Int}(e:0<=L/\L<m.c.aO)(g:n'.home=n.home)(h:∀b,b≠L->n'.aI.find b=n.aI.find b)(o:∀b,b≠L->∀y,wt n'.aJ b y=wt n.aJ b y)(p:f.under<=m.fab.under+1)(hm:∀j:Int,j≠i->msg' j=msg j)
  (q:33*n'.JD+Dp n'.aJ (msg' i)+wt n'.aJ L (n'.aI.find L)<33*n.JD+Dp n.aJ (msg i)+wt n.aJ L (n.aI.find L)):(m.with_ i n' f t).todo msg'<m.todo msg:=by
 obtain⟨val,hv⟩:∃val:Int->List Int,val=λ_=>[]:=⟨_,rfl⟩
 refine Vy (val:=val) (val':=val) ?_ p;rw[DI d,qO (msg:=msg) (val:=val) d g h];refine adR (c:=m.c) (lf:=m.yQ) (a:=m.abs msg val) (L:=L) (x:=n'.aI.find L) (d':=n'.aJ) (k:=n'.JD) (X.range d) e hm (λb e y=>by rw[show(m.abs msg val).aJ i=_ from lD d];exact o b e y) ?_;rw[Po d,show(m.abs msg val).aJ i=_ from lD d,show(m.abs msg val).ent L i=_ from sZ d _];exact q
def bU.end_(d:bU):bU:={ d with step:=0 }
set_option maxHeartbeats 1000000 in
theorem GInv.answered(X:MX T m)(G:GInv m msg val)(z:m.aG[i]?=some n){g:Fab}{p:Pkt}(ht:m.fab.take i false=(g,some p)):
  ∃msg' val',GInv (m.with_ i (n.answered m.c i g m.trace p).1 (n.answered m.c i g m.trace p).2.1 (n.answered m.c i g m.trace p).2.2) msg' val'/\DF m.c m.opAt m.trace val (n.answered m.c i g m.trace p).2.2 val'/\(m.with_ i (n.answered m.c i g m.trace p).1 (n.answered m.c i g m.trace p).2.1 (n.answered m.c i g m.trace p).2.2).todo msg'<m.todo msg:=by
 obtain⟨hs,b1,b2,b3,R1,ho,hl⟩:=G.pk.takeA ht;have hc:=X.inv.ok;have NI:=X.inv.bH i n z;have a6:=X.bH i n z;have hi:=X.range z;have hm:(m.abs msg val).msg i=.ans p:=b3;have hd:(m.abs msg val).aJ i=n.aJ:=lD z;have hQ:=(X.inv.fab.take i false).2 p (by rw[ht]);rcases G.abs.bH i hi.1 hi.2 with⟨_,h⟩|O
 ·rw[hm]at h;cases h
 have K:=O.ak;rw[hd]at K;have bm:=L9 ht;have ae:msg i=.ans p:=hm;rcases O.at_ with⟨_,_,h|⟨h,_⟩⟩|C|F
 ·rw[hm]at h;cases h
 ·rw[hm]at h;cases h
 ·-- the aJ goes on
  obtain⟨_,H⟩:=G.abs.holder O.ak C hi.1;rw[hd,hm]at H;rw[hd]at C;have bp:=H.ans;have ap:n.aJ.step≠0:=V
  have DO:=NI.aJ ap;have hv:=G.abs.val n.aJ.ak K.1 K.2;have ag:n.aJ.aU=1->n.aJ.step=1∨n.aJ.step=2->(m.abs msg val).ent n.aJ.ak i=none:=by
   have:=O.miss;rw[hd]at this;exact this
  obtain⟨ca,d',hA,u⟩:=Zn (c:=m.c) NI.aI.aO hi hv (sZ z n.aJ.ak) K.1 (λh3=>(DO.work h3 V).full) DO.aU ag H;have aq:d'.data.length<=4:=by
   have:=XU (me:=i) (NI.aI.le hc) a6 (p:=p) (by
    have:=hQ.ok;simp only[Pkt.ok,zah,decide_eq_true_eq]at this;omega)
   rw[hA]at this;exact this
  have a7:0<=d'.id/\d'.id<4096:=by
   have:=O.idr;rw[hd]at this;rw[u.id];exact this
  have a8:0<=d'.ak/\d'.ak<m.c.aO:=by rw[u.ak];exact K
  have ar:(m.abs msg val).msg i≠.wait:=by rw[hm];exact λe=>by cases e
  have aw:d'.aU=((m.abs msg val).aJ i).aU:=by rw[hd];exact u.aU
  have ax:d'.id=((m.abs msg val).aJ i).id:=by rw[hd];exact u.id
  have az:dL msg i .idle i=.idle:=aK;have ai:dL (dL msg i .idle) i (.req (d'.ask i (m.c.aZ d'.ak)))=dL msg i (.req (d'.ask i (m.c.aZ d'.ak))):=by
   funext k
   by_cases h:k=i
   ·rw[h,aK,aK]
   ·rw[aX h,aX h,aX h]
  have aD:1<=g.out:=by
   have:=(lS hc).2.2.2.2.2.1;rw[ho,X.inv.fab.out];exact this.1
  have send:∀{E:tu} {r:Row} {v:List Int},Hold m.c.aG (m.c.aZ n.aJ.ak) E r v i d' (.req (d'.ask i (m.c.aZ n.aJ.ak)))->pK (g.send (d'.ask i (m.c.aZ d'.ak))).1 (dL msg i (.req (d'.ask i (m.c.aZ d'.ak)))):=λH'=>by
   rw[<-u.ak]at H';obtain⟨a1,a2,a3,a4,a5⟩:=alW hc hi H' a8 a7 aq;have:=R1.arA (p:=d'.ask i (m.c.aZ d'.ak)) (by rw[a3,az];exact λq e=>by cases e) (by rw[a3,az];exact λq e=>by cases e) a1 a2 (by rw[a3];exact X.is hi hl) (X.is ⟨a4,a5⟩ hl) aD;rw[a3,ai]at this;exact this.2
  rcases u.next with⟨aE,H'⟩|⟨h6,h3,e,he,a9,M⟩
  ·-- no operation ends
   have w:n.answered m.c i g m.trace p=({ n with aI:=ca,aJ:=d' },(g.send (d'.ask i (m.c.aZ d'.ak))).1,m.trace):=by
    unfold Node.answered;rw[hA];simp only[zbK,if_false,if_neg u.step,if_neg aE];rfl
   rw[w];refine⟨dL msg i (.req (d'.ask i (m.c.aZ d'.ak))),val,⟨?_,send H'⟩,.same,oJ X z K rfl u.other (λL' A y=>by
    rw[xP (.inr (.inr (.inl (by show d'.ak≠_;rw[u.ak];exact λe=>A e.symm)))),xP (.inr (.inr (.inl λe=>A e.symm)))]) (by have:=oI g (d'.ask i (m.c.aZ d'.ak));dsimp only;omega) (λj hj=>aX hj) (by
    rw[aK,ae];have:=u.fall p (d'.ask i (m.c.aZ d'.ak)) aE;show 33*n.JD+Dp d' _+wt d' _ (ca.find _)<_;omega)⟩
   show nU m.c ((m.with_ i { n with aI:=ca,aJ:=d' } (g.send (d'.ask i (m.c.aZ d'.ak))).1 m.trace).abs (dL msg i (.req (d'.ask i (m.c.aZ d'.ak)))) val);rw[qO (n':={ n with aI:=ca,aJ:=d' }) (msg:=msg) (val:=val) z rfl (L:=n.aJ.ak) u.other];have:=G.abs.goes (x:=ca.find n.aJ.ak) (v:=val n.aJ.ak) (d:=d') hi K C ar hv u.ak aw ax (λa b=>u.miss a b) H';have ba:dL (m.abs msg val).val n.aJ.ak (val n.aJ.ak)=val:=jJ;rw[ba,<-u.ak]at this;rw[<-u.ak];exact this
  ·-- an operation ends
   have bb:n.aJ.aU≠3:=by rw[<-u.aU];exact h3
   have W:=DO.work bb V;obtain⟨o,o1,o2,o3,o4⟩:=W.op;have al:=OW NI.aI DO ap hQ (by rw[<-su];exact hA);have Q:=(jm al.inv.aO).1 he;have E_:=al.inv.ent e Q.1;have D:=NI.dn.right o (zas o1);have hw:0<=m.c.dG o.addr/\m.c.dG o.addr<m.c.aV:=⟨(ar4 hc D.1).wlo,(ar4 hc D.1).whi⟩
   have bq:=E_.dat.1;have bc:o.aU=1∨((o.aU=2∨o.aU=3)/\e.bP=true):=by
    rcases M with⟨k1,_⟩|⟨k2,aL,_⟩
    ·exact .inl (o3 k1)
    ·exact .inr ⟨o4 k2,aL⟩
   obtain⟨w1,w2,w3,w4,w5,w6,w7⟩:=adJ (c:=m.c) (val:=val) bc (by rw[o2];exact a9) V;have y:=qM e o (m.c.dG o.addr);have R:=yC al.inv.aO (e:=eX e o (m.c.dG o.addr)) (x:=e) (by rw[y.1];exact E_.lo) (by rw[y.1,Q.2];exact he);have am:({ eX e o (m.c.dG o.addr)with used:=e.used }:Ent)=eX e o (m.c.dG o.addr):=by rw[<-y.2.1]
   have ao:n.dn.op=o:=by unfold Proc.op;rw[o1];rfl
   have aa:n.dn.idx=n.dn.bT.length:=by unfold Proc.idx;rw[o1]
   have w:n.answered m.c i g m.trace p=({ n with aI:=(ca.put (eX e o (m.c.dG o.addr))).1,aJ:=d',dn:=n.dn.CU (if o.aU=2 then 0 else e.word (m.c.dG o.addr)) },(g.send (d'.ask i (m.c.aZ d'.ak))).1,m.trace++[⟨i,n.dn.bT.length,true,if o.aU=2 then 0 else e.word (m.c.dG o.addr)⟩]):=by
    unfold Node.answered;rw[hA];simp only[zbK,if_false,if_neg u.step,if_pos (show d'.step=6/\d'.aU≠3 from⟨h6,h3⟩)];unfold Node.effect Node.done;simp only[ao,o2,he,zat,aa];rfl
   rw[w];have hx:(ca.put (eX e o (m.c.dG o.addr))).1.find n.aJ.ak=some (eX e o (m.c.dG o.addr)):=by
    rw[R,if_pos (by rw[y.1,Q.2]),am]
   have be:(nN m.c o val).1 n.aJ.ak≠[]:=by
    rw[<-o2,<-w1];intro h0;have h1:=y.2.2.2;rw[h0]at h1;simp only[zan]at h1;omega
   have H':Hold m.c.aG (m.c.aZ n.aJ.ak) (nT ((m.abs msg val).ent n.aJ.ak) i (some (eX e o (m.c.dG o.addr)))) ((m.abs msg val).row n.aJ.ak) ((nN m.c o val).1 n.aJ.ak) i d' (.req (d'.ask i (m.c.aZ n.aJ.ak))):=by
    rcases M with⟨k1,Hc⟩|⟨k2,aL,Hc⟩
    ·have bh:(nN m.c o val).1 n.aJ.ak=val n.aJ.ak:=by
      unfold nN;rw[if_pos (o3 k1)]
     rw[w7 (o3 k1),bh];exact Hc
    ·have:=Hc (eX e o (m.c.dG o.addr)) w4 w5 w6;rw[w1,o2]at this;exact this
   refine⟨dL msg i (.req (d'.ask i (m.c.aZ d'.ak))),(nN m.c o val).1,⟨?_,send H'⟩,?_,oJ X z K rfl (λL A=>by
     show(ca.put _).1.find L=_;rw[R,if_neg (by rw[y.1,Q.2];exact A)];exact u.other L A) (λL' A y=>by
    rw[xP (.inr (.inr (.inl (by show d'.ak≠_;rw[u.ak];exact λe=>A e.symm)))),xP (.inr (.inr (.inl λe=>A e.symm)))]) (by have:=oI g (d'.ask i (m.c.aZ d'.ak));dsimp only;omega) (λj hj=>aX hj) ?_⟩
   ·have aM:=qO (m:=m) (n:=n) (n':={ n with aI:=(ca.put (eX e o (m.c.dG o.addr))).1,aJ:=d',dn:=n.dn.CU (if o.aU=2 then 0 else e.word (m.c.dG o.addr)) }) (f:=(g.send (d'.ask i (m.c.aZ d'.ak))).1) (t:=m.trace++[⟨i,n.dn.bT.length,true,if o.aU=2 then 0 else e.word (m.c.dG o.addr)⟩]) (msg:=msg) (val:=val) (msg':=dL msg i (.req (d'.ask i (m.c.aZ d'.ak)))) (val':=(nN m.c o val).1) z rfl (L:=n.aJ.ak) (λL A=>by
     show(ca.put _).1.find L=_;rw[R,if_neg (by rw[y.1,Q.2];exact A)];exact u.other L A)
    rw[aM];simp only[hx];have:=G.abs.goes (x:=some (eX e o (m.c.dG o.addr))) (v:=(nN m.c o val).1 n.aJ.ak) (d:=d') hi K C ar be u.ak aw ax (λ_ b=>V) H';have bj:dL val n.aJ.ak ((nN m.c o val).1 n.aJ.ak)=(nN m.c o val).1:=by
     funext L
     by_cases A:L=n.aJ.ak
     ·rw[A,aK]
     ·rw[aX A,w2 L (by rw[o2];exact A)]
    have bk:dL (m.abs msg val).val n.aJ.ak ((nN m.c o val).1 n.aJ.ak)=(nN m.c o val).1:=bj;rw[bk,<-u.ak]at this;rw[<-u.ak];exact this
   ·rw[w3];exact .done i n.dn.bT.length o (Pv z o1) .same
   ·rw[aK,ae];have ht:=Gq (n':={ n with aI:=(ca.put (eX e o (m.c.dG o.addr))).1,aJ:=d',dn:=n.dn.CU (if o.aU=2 then 0 else e.word (m.c.dG o.addr)) }) o1 W.fU rfl;have hD:Dp d' (.req (d'.ask i (m.c.aZ d'.ak)))=16:=by
     unfold Dp;rw[if_neg V,if_pos (.inr h6),h6];rfl
    have:=alU (d:=d') (L:=n.aJ.ak) (x:=(ca.put (eX e o (m.c.dG o.addr))).1.find n.aJ.ak)
    dsimp only at ht ⊢
    omega
 ·-- the aJ is over
  obtain⟨f1,f2,f3⟩:=F;have F':auF m.c (m.abs msg val) i:=⟨f1,f2,f3⟩
  rw[hd]at f1;rw[hm,hd]at f3;have hp:p=agt m.c n.aJ i:=Out.ans.inj f3;have ab:n.aJ.fits p=true:=adH (by rw[hp,f1];rfl) (by rw[hp];rfl) (by rw[hp];rfl) V;have DO:=NI.aJ V;have hA:n.after i p=(n.aI,n.aJ.end_,true):=by
   unfold Node.after;by_cases k1:n.aJ.aU=1
   ·rw[if_pos k1];unfold dX;rw[if_neg (by rw[k1,ab];simp),if_neg V,if_neg V,if_pos f1];rfl
   ·rw[if_neg k1];by_cases k2:n.aJ.aU=2
    ·rw[if_pos k2];unfold dZ;rw[if_neg (by rw[k2,ab];simp),if_neg V,if_neg V,if_pos f1];rfl
    ·have k3:n.aJ.aU=3:=by have:=DO.aU;omega
     rw[if_neg k2,if_pos k3];unfold eG;rw[if_neg (by rw[k3,ab];simp),if_neg V,if_neg V,if_neg V,if_pos f1];rfl
  have aR:=G.abs.over hi F' (d:=n.aJ.end_) rfl;have af:∀L' y,wt n.aJ.end_ L' y=wt n.aJ L' y:=λL' y=>by rw[xP (.inl rfl),xP (.inr (.inl f1))]
  have hD:Dp n.aJ (.ans p)=14:=by
   unfold Dp;rw[if_neg V,if_pos (.inr f1),f1];rfl
  have hE:Dp n.aJ.end_ .idle=13:=rfl;by_cases ad:n.aJ.aU=3/\n.dn.op.aU=4
  ·have a0:∃o,n.dn.cur=some o:=by
    cases h:n.dn.cur with
    |some o=>exact⟨o,rfl⟩
    |none=>
     have:=ad.2;unfold Proc.op at this;rw[h]at this;exact absurd this J
   obtain⟨o,o1⟩:=a0;have ao:n.dn.op=o:=by unfold Proc.op;rw[o1];rfl
   have aa:n.dn.idx=n.dn.bT.length:=by unfold Proc.idx;rw[o1]
   have w:n.answered m.c i g m.trace p=({ n with aJ:=n.aJ.end_,dn:=n.dn.CU 0 },g,m.trace++[⟨i,n.dn.bT.length,true,0⟩]):=by
    unfold Node.answered;rw[hA];simp only[zbK,if_false,show n.aJ.end_.step=0 from rfl,if_true,show n.aJ.end_.aU=n.aJ.aU from rfl,if_pos ad];unfold Node.done;simp only[aa]
   rw[w];refine⟨dL msg i .idle,val,⟨?_,R1⟩,?_,oJ X z K rfl (λ_ _=>rfl) (λL' _ y=>af L' y) (by dsimp only;omega) (λj hj=>aX hj) (by
    rw[aK,ae];have ht:=Gq (n':={ n with aJ:=n.aJ.end_,dn:=n.dn.CU 0 }) o1 (DO.roll ad.1) rfl
    dsimp only at ht ⊢
    rw[af,hD,hE];omega)⟩
   ·show nU m.c ((m.with_ i { n with aJ:=n.aJ.end_,dn:=n.dn.CU 0 } g _).abs (dL msg i .idle) val);rw[Gp (n':={ n with aJ:=n.aJ.end_,dn:=n.dn.CU 0 }) (msg:=msg) (val:=val) z rfl (λ_=>rfl)];exact aR
   ·have bl:nN m.c o val=(val,0):=by
     have:o.aU=4:=by rw[<-ao];exact ad.2
     unfold nN;rw[if_neg V,if_neg V,if_neg V]
    have:=DF.done (c:=m.c) (P:=m.opAt) i n.dn.bT.length o (Pv z o1) (.same (t:=m.trace) (v:=val));rw[bl]at this;exact this
  ·have w:n.answered m.c i g m.trace p=({ n with aJ:=n.aJ.end_ },g,m.trace):=by
    unfold Node.answered;rw[hA];simp only[zbK,if_false,show n.aJ.end_.step=0 from rfl,if_true,show n.aJ.end_.aU=n.aJ.aU from rfl,if_neg ad]
   rw[w];refine⟨dL msg i .idle,val,⟨?_,R1⟩,.same,oJ X z K rfl (λ_ _=>rfl) (λL' _ y=>af L' y) (by dsimp only;omega) (λj hj=>aX hj) (by
    rw[aK,ae]
    dsimp only
    rw[af,hD,hE];show 33*n.JD+_+_<_;omega)⟩
   show nU m.c ((m.with_ i { n with aJ:=n.aJ.end_ } g _).abs (dL msg i .idle) val);rw[Gp (n':={ n with aJ:=n.aJ.end_ }) (msg:=msg) (val:=val) z rfl (λ_=>rfl)];exact aR
end
def Vz {k s d id l b st:Int}{fl:Bool}{x:List Int}(h:((0<=s/\s<6)/\0<=d/\d<6)/\(0<=id/\id<4096)/\(1<=k/\k<10)/\(0<=l/\l<8)/\(-1<=b/\b<6)/\(0<=st/\st<3)/\x.length<=4):(⟨k,s,d,id,l,b,st,fl,x⟩:Pkt).ok=true:=by
 obtain⟨⟨⟨e,g⟩,i,j⟩,⟨m,n⟩,⟨o,p⟩,⟨q,ha⟩,⟨hb,hc⟩,⟨hd,u⟩,v⟩:=h;simp[Pkt.ok,e,g,i,j,m,n,o,p,q,ha,hb,hc,hd,u,v]
inductive SX (N hm:Int) (E:tu) (r:Row) (v:List Int) (s:Int) (d:bU) (p:Pkt) (e:Ent):Prop
 |attach:p.aU=3->Hold N hm (nT E p.dst (some { e with bP:=false,back:=p.ptr })) r v s d (.ans ⟨9,p.dst,p.src,p.id,p.ak,0,0,e.bP,e.data⟩)->SX N hm E r v s d p e
 |front:p.aU=4->Hold N hm (nT E p.dst (some { e with fwd:=p.ptr })) r v s d (.ans ⟨8,p.dst,p.src,p.id,p.ak,0,0,false,[]⟩)->SX N hm E r v s d p e
 |behind:p.aU=5->Hold N hm (nT E p.dst (some { e with back:=p.ptr })) r v s d (.ans ⟨8,p.dst,p.src,p.id,p.ak,0,0,false,[]⟩)->SX N hm E r v s d p e
 |JK:p.aU=6->-1<=e.fwd/\e.fwd<N->Hold N hm (nT E p.dst none) r v s d (.ans ⟨9,p.dst,p.src,p.id,p.ak,e.fwd,0,e.bP,e.data⟩)->SX N hm E r v s d p e
def Rng.agx {N:Int}{l:List Int}(h:Rng N l)(d:0<N):-1<=hdI l (-1)/\hdI l (-1)<N:=by
 by_cases b:l=[]
 ·rw[b];exact⟨zbt _,by show(-1:Int)<N;omega⟩
 ·have:=h.2 _ (h.hd b).1;omega
def arF {N hm:Int}{E:tu}{r:Row}{v:List Int}{s:Int}{d:bU}{p:Pkt}(hN:0<N)(H:Hold N hm E r v s d (.req p))(hk:3<=p.aU/\p.aU<=6):∃e,E p.dst=some e/\SX N hm E r v s d p e:=by
 obtain⟨hp,_,_⟩:=H.req;have hq:∃q,Out.req p=q/\Hold N hm E r v s d q:=⟨_,rfl,H⟩
 obtain⟨q,hq,H⟩:=hq;cases H with
 |attach k1 k2 k3 k4 W=>
  have e:p=⟨3,s,d.head,d.id,d.ak,s,0,false,[]⟩:=by rw[hp];unfold bU.ask;simp[k1]
  obtain⟨x,h1,h2⟩:=Sr (hm:=hm) k1 k2 k3 k4 W;exact⟨x,by rw[e];exact h1,.attach (by rw[e]) (by rw[e];exact h2)⟩
 |JK k1 k2 L k3 k4=>
  have e:p=⟨6,s,d.next,d.id,d.ak,0,0,false,[]⟩:=by rw[hp];unfold bU.ask;simp[k1]
  obtain⟨x,h1,h2⟩:=Vo (hm:=hm) (r:=r) k1 k2 L k3 k4;have hx:-1<=x.fwd/\x.fwd<N:=by
   obtain⟨⟨y,hy,hf⟩,_⟩:=L.ch;rw[h1]at hy;cases hy;rw[hf];exact Rng.agx ⟨(za1.1 L.rng.1).2,λj hj=>L.rng.2 j (by simp[hj])⟩ hN
  exact⟨x,by rw[e];exact h1,.JK (by rw[e]) hx (by rw[e];exact h2)⟩
 |front k1 k2 M k3 C k4 k5 k6=>
  have e:p=⟨4,s,d.head,d.id,d.ak,d.next,0,false,[]⟩:=by rw[hp];unfold bU.ask;simp[k1]
  obtain⟨x,h1,h2⟩:=Vp (hm:=hm) k1 k2 M k3 C k4 k5 k6;exact⟨x,by rw[e];exact h1,.front (by rw[e]) (by rw[e];exact h2)⟩
 |behind k1 k2 M k3 C C' k4 k5 k6=>
  have e:p=⟨5,s,d.next,d.id,d.ak,d.head,0,false,[]⟩:=by rw[hp];unfold bU.ask;simp[k1]
  obtain⟨x,h1,h2⟩:=SA (hm:=hm) k1 k2 M k3 C C' k4 k5 k6;exact⟨x,by rw[e];exact h1,.behind (by rw[e]) (by rw[e];exact h2)⟩
 |unlock k1 W=>
  have e:p.aU=2:=by rw[hp];unfold bU.ask;simp[k1]
  omega
 |granted _ _=>cases hq
 |attached _ _ _ _ _ _ _ _ _ _=>cases hq
 |Js _ _ _ _ _=>cases hq
 |zS _ _ _ _ _ _ _ _ _=>cases hq
 |vV _ _ _ _ _ _ _ _ _=>cases hq
section
variable {m:cO}{T:Nat}{i:Nat}{n n':Node}{f:Fab}{t:List Evn}{msg msg':Int->Out}{val val':Int->List Int}
def auN {α:Type}{g:Int->α}{j:Int}{x y:α}:dL (dL g j x) j y=dL g j y:=by
 funext k
 by_cases h:k=j
 ·rw[h,aK,aK]
 ·rw[aX h,aX h,aX h]
def adT(X:MX T m)(b:m.aG[i]?=some n)(L:Int):(iK n.home.dR L).data.length<=4:=by
 have d:=X.inv.bH i n b;have:=(lS X.inv.ok).2.2.1;unfold iK;cases h:jY n.home.dR L with
 |none=>exact zaX _
 |some r=>
  have:=(d.dR _ (rH h)).1;simp only[zat]at*;omega
def Px {d:bU}(h0:d.step≠0)(b:d.step≠3)(p q:Pkt):Dp d (.ans q)<Dp d .wait/\Dp d .wait<Dp d (.req p):=by
 unfold Dp loc;simp only[if_neg h0,if_neg b];omega
def BR(X:MX T m)(b:m.aG[i]?=some n)(d:n'.aI=n.aI)(e:n'.aJ=n.aJ)(g:n'.dn=n.dn){s:Int}(h:0<=s/\s<m.c.aG)(hm:∀j,j≠s->msg' j=msg j)(hd:Dp (m.oZ s) (msg' s)<Dp (m.oZ s) (msg s))(k:f.under<=m.fab.under+1):(m.with_ i n' f t).todo msg'<m.todo msg:=by
 obtain⟨val,hv⟩:∃val:Int->List Int,val=λ_=>[]:=⟨_,rfl⟩
 refine Vy (val:=val) (val':=val) ?_ k;have o:n'.JD=m.yQ i:=by rw[Po b];unfold Node.JD;rw[g]
 rw[DI b,o,jJ];refine al2 (i:=s) h (by have:=(lS X.inv.ok).2.1;omega) ?_ ?_ hm hd
 ·show(m.with_ i n' f t).jT=m.jT
  funext L
  rw[Jz b,d,<-sZ b L,lV]
 ·show(m.with_ i n' f t).oZ=m.oZ;rw[Dz b,e,<-lD b,jJ]
def Zq(X:MX T m)(b:m.aG[i]?=some n){L s:Int}{x:Option Ent}{e:Ent}{p q:Pkt}{ca:Cache}(j:0<=s/\s<m.c.aG)(k:0<=L/\L<m.c.aO)(o:∀d,d≠L->ca.find d=n.aI.find d)(u:ca.find L=x)(hm:msg s=.req p)(v:n.aI.find L=some e)(h0:(m.oZ s).step≠0)(w:(∃e',x=some e')/\(m.oZ s).step≠3∨x=none)(y:f.under<=m.fab.under+1):(m.with_ i { n with aI:=ca } f t).todo (dL msg s (.ans q))<m.todo msg:=by
 obtain⟨val,hv⟩:∃val:Int->List Int,val=λ_=>[]:=⟨_,rfl⟩
 refine Vy (val:=val) (val':=val) ?_ y;have g:dL m.oZ i n.aJ=m.oZ:=by rw[<-lD b,jJ]
 have h:dL m.yQ i n.JD=m.yQ:=by rw[<-Po b,jJ]
 rw[DI b,show Node.JD { n with aI:=ca }=n.JD from rfl,h,qO (n':={ n with aI:=ca }) (msg:=msg) (val:=val) b rfl o];simp only[u,g];exact adS (a:=m.abs msg val) (X.range b) j k hm ((sZ b L).trans v) h0 w
def GInv.grant(X:MX T m)(G:GInv m msg val)(k:m.aG[i]?=some n)(hr:n.home.ready≠[])(u:0<m.fab.roomOf i false):
  ∃msg',GInv (m.with_ i { n with home:=(n.home.grant i).1 } (m.fab.send (n.home.grant i).2.1).1 t) msg' val/\(m.with_ i { n with home:=(n.home.grant i).1 } (m.fab.send (n.home.grant i).2.1).1 t).todo msg'<m.todo msg:=by
 have hc:=X.inv.ok;have C:=X.inv.bH i n k;have hi:=X.range k;cases v:n.home.ready with
 |nil=>exact absurd v hr
 |cons L l=>
  obtain⟨r1,r2,r3⟩:=Aw v;obtain⟨e,he,rfl⟩:=zaM.1 r3;have D:=C.home.here e he;unfold wZ at D;simp only[zah,decide_eq_true_eq]at D;obtain⟨⟨l0,l1⟩,l2⟩:=D;have A:m.c.aZ e.1=i:=by unfold Cfg.aZ wX;rw[if_neg V];exact l2
  have o:n.home.bf.owner e.1=-1:=Classical.byContradiction λh=>by
   have:=(C.home.bf.owned e.1).2 h;rw[r1]at this;cases this
  cases y:n.home.bf.ws e.1 with
  |nil=>exact absurd y r2
  |cons w ws=>
   obtain⟨E,t2,t3⟩:=Zm C.home.bf o y;have ho:(m.abs msg val).own e.1=-1:=by show(m.kJ e.1).bf.owner e.1=-1;rw[oU k A];exact o
   have hw:(m.abs msg val).ws e.1=w::ws:=by show(m.kJ e.1).bf.ws e.1=_;rw[oU k A];exact y
   have b:(m.abs msg val).row e.1=iK n.home.dR e.1:=by show iK (m.kJ e.1).dR e.1=_;rw[oU k A]
   obtain⟨d,g,I'⟩:=G.abs.grant ⟨l0,l1⟩ ho hw;have F:n.home.grant i=({ n.home with bf:=(n.home.bf.next e.1).1 },granted n.home.dR i e.1 w.1 w.2,true):=by
    unfold Home.grant;rw[v];simp only;cases hx:n.home.bf.next e.1 with
    |mk tt ww=>
     rw[hx]at E;simp only at E;rw[E]
   rw[F];have hO:alS m.c (m.abs msg val) w.1:=by
    rcases G.abs.bH w.1 d.1 d.2 with⟨_,h⟩|O
    ·rw[g]at h;cases h
    ·exact O
   have H:((m.abs msg val).aJ w.1).id=w.2:=((G.abs.ws e.1).2 w (by rw[hw];simp)).2.2.2.2.1;obtain⟨lw,W⟩:∃lw,Wf m.c.aG ((m.abs msg val).ent e.1) ((m.abs msg val).row e.1) ((m.abs msg val).val e.1) lw:=by
    rcases G.abs.ak e.1 l0 l1 with⟨_,h⟩|⟨h,_⟩
    ·exact h
    ·omega
   obtain⟨cn,cl,_⟩:=lS hc;have ad:=W.rng.agx V;have K:=W.st;have z:=W.head;rw[b]at K z;have M:=hO.idr;rw[H]at M;have aa:=adT X k e.1;have Q:(granted n.home.dR i e.1 w.1 w.2).ok=true:=by
    exact Vz V
   have R:=G.pk.Zk (p:=granted n.home.dR i e.1 w.1 w.2) (λq h=>by rw[show(granted n.home.dR i e.1 w.1 w.2).dst=w.1 from rfl]at h;exact absurd (g.symm.trans h) (λe=>by cases e)) (λq h=>by rw[show(granted n.home.dR i e.1 w.1 w.2).dst=w.1 from rfl]at h;exact absurd (g.symm.trans h) (λe=>by cases e)) Q rfl (X.is hi rfl) (X.is d rfl) u;have ab:((m.abs msg val).aJ w.1).step=1:=((G.abs.ws e.1).2 w (by rw[hw];simp)).2.2.2.2.2;refine⟨_,⟨?_,R.2⟩,BR X k rfl rfl rfl d (λj hj=>aX hj) (by
    rw[show(granted n.home.dR i e.1 w.1 w.2).dst=w.1 from rfl,aK,show msg w.1=.wait from g];exact(Px (by show((m.abs msg val).aJ w.1).step≠0;omega) (by show((m.abs msg val).aJ w.1).step≠3;omega) .zero _).1) (oI _ _)⟩
   show nU m.c ((m.with_ i { n with home:={ n.home with bf:=(n.home.bf.next e.1).1 } } (m.fab.send (granted n.home.dR i e.1 w.1 w.2)).1 t).abs _ val);rw[Gl (n':={ n with home:={ n.home with bf:=(n.home.bf.next e.1).1 } }) (msg:=msg) k (λ_=>rfl) rfl A (λ_ _=>rfl) (λL' h=>by show(n.home.bf.next e.1).1.owner L'=_;rw[t2,if_neg h]) (λL' h=>by show(n.home.bf.next e.1).1.ws L'=_;rw[t3,if_neg h])];have a1:dL (m.abs msg val).row e.1 (iK n.home.dR e.1)=(m.abs msg val).row:=by rw[<-b,jJ]
   simp only[a1,t2,t3,if_true];have a2:granted n.home.dR i e.1 w.1 w.2=⟨7,m.c.aZ e.1,w.1,w.2,e.1,((m.abs msg val).row e.1).head,((m.abs msg val).row e.1).state,false,((m.abs msg val).row e.1).data⟩:=by
    rw[b,A];rfl
   rw[a2];exact I'
set_option maxHeartbeats 1000000 in
theorem GInv.asked(X:MX T m)(G:GInv m msg val)(F:m.aG[i]?=some n){z:Fab}{p:Pkt}(ht:m.fab.take i true=(z,some p))(ai:0<m.fab.roomOf i false):
  ∃msg',GInv (m.with_ i (n.asked m.c i z p).1 (n.asked m.c i z p).2 t) msg' val/\(m.with_ i (n.asked m.c i z p).1 (n.asked m.c i z p).2 t).todo msg'<m.todo msg:=by
 obtain⟨hs,b1,b2,b3,R1,ho,hl,bb⟩:=G.pk.auG ht;have hc:=X.inv.ok;obtain⟨cn,cl,_⟩:=lS hc;have R:=X.inv.bH i n F;have hi:=X.range F;have g:0<=p.src/\p.src<m.c.aG:=by
  have:=G.pk.rg _ p (.inl b3);have bv:=X.inv.fab.len;unfold Fab.is at this;simp only[zah,decide_eq_true_eq]at this;omega
 have aa:(m.abs msg val).msg p.src=.req p:=b3;have hQ:=(X.inv.fab.take i true).2 p (by rw[ht]);obtain⟨O,p1,p2,p3,p4⟩:=G.abs.req g aa;have al:=hQ.ok;have bc:=al;simp only[Pkt.ok,zah,decide_eq_true_eq]at bc;have OL:=O.ak;rw[p2]at OL;have C:p.aU=Aj ((m.abs msg val).aJ p.src).step:=(congrArg Pkt.aU p1).trans (lC p3).1;have ae:0<z.roomOf i false:=by rw[bb];exact ai
 have az:dL msg p.src .idle p.src=.idle:=aK;have Zk:∀q:Pkt,q.ok=true->rG q.aU=false->q.src=i->q.dst=p.src->pK (z.send q).1 (dL msg p.src (.ans q)):=λq h1 h2 h3 h4=>by
  have:=R1.Zk (p:=q) (by rw[h4,az];exact λx e=>by cases e) (by rw[h4,az];exact λx e=>by cases e) h1 h2 (by rw[h3];exact X.is hi hl) (by rw[h4];exact X.is g hl) (by rw[h3];exact ae);rw[h4,auN]at this;exact this.2
 -- the avk requests
 have am:p.aU=1∨p.aU=2->m.c.aZ p.ak=i:=λh=>by
  have be:((m.abs msg val).aJ p.src).step=1∨((m.abs msg val).aJ p.src).step=6:=by
   have:((m.abs msg val).aJ p.src).step=1∨((m.abs msg val).aJ p.src).step=2∨((m.abs msg val).aJ p.src).step=3∨((m.abs msg val).aJ p.src).step=4∨((m.abs msg val).aJ p.src).step=5∨((m.abs msg val).aJ p.src).step=6:=V
   rw[C]at h;rcases this with e|e|e|e|e|e <;> simp[e,Aj]at h ⊢
  have aD:p.dst=m.c.aZ p.ak:=by
   have h1:=congrArg Pkt.dst p1;unfold bU.ask at h1;rcases be with e|e
   ·simpa [e]using h1
   ·simpa [e]using h1
  rw[<-aD];exact b1
 have bw:=L9 ht;have A:p.aU≠6->((m.abs msg val).aJ p.src).step≠3:=λh e=>h (by rw[C,e];rfl);by_cases hk:p.aU=1∨p.aU=2
 ·have D:=am hk;have A:=A V;have aE:∀L,m.c.aZ L=i->(m.abs msg val).own L=n.home.bf.owner L/\(m.abs msg val).ws L=n.home.bf.ws L/\(m.abs msg val).row L=iK n.home.dR L:=λL h=>by
   refine⟨?_,?_,?_⟩
   ·show(m.kJ L).bf.owner L=_;rw[oU F h]
   ·show(m.kJ L).bf.ws L=_;rw[oU F h]
   ·show iK (m.kJ L).dR L=_;rw[oU F h]
  obtain⟨ao,aw,ar⟩:=aE p.ak D;have aL:dL (m.abs msg val).row p.ak (iK n.home.dR p.ak)=(m.abs msg val).row:=by rw[<-ar,jJ]
  have bh:dL (m.abs msg val).own p.ak (n.home.bf.owner p.ak)=(m.abs msg val).own:=by rw[<-ao,jJ]
  have aM:dL (m.abs msg val).ws p.ak (n.home.bf.ws p.ak)=(m.abs msg val).ws:=by rw[<-aw,jJ]
  have M:¬((!(p.ok && decide (p.dst=(i:Int)) && decide (p.src<m.c.aG)) || (decide (p.aU≠1) && decide (p.aU≠2)))=true):=by
   rcases hk with h|h <;> simp[al,b1,g.2,h]
  rcases hk with ab|aR
  ·by_cases v:n.home.bf.owner p.ak=-1/\n.home.bf.ws p.ak=[]
   ·obtain⟨t1,t2,t3⟩:=JR (id:=p.id) R.home.bf g.1 v.1 v.2;have hh:n.home.handle m.c i p=({ n.home with bf:=(n.home.bf.ask p.ak p.src p.id).1 },granted n.home.dR i p.ak p.src p.id,true,0):=by
     unfold Home.handle;rw[if_neg M,if_neg (by rw[D];omega),if_pos ab];simp only[t1,if_true]
    have w:n.asked m.c i z p=({ n with home:={ n.home with bf:=(n.home.bf.ask p.ak p.src p.id).1 } },(z.send (granted n.home.dR i p.ak p.src p.id)).1):=by
     unfold Node.asked;rw[if_pos (.inl ab),hh];simp
    rw[w];have I':=G.abs.lock g aa ab (by rw[ao];exact v.1);obtain⟨lw,W⟩:∃lw,Wf m.c.aG ((m.abs msg val).ent p.ak) ((m.abs msg val).row p.ak) ((m.abs msg val).val p.ak) lw:=by
     rcases G.abs.ak p.ak OL.1 OL.2 with⟨_,h⟩|⟨h,_⟩
     ·exact h
     ·have:=v.1;omega
    have a0:=W.rng.agx V;have a1:=W.st;have ap:=W.head;rw[ar]at a1 ap;have a3:=adT X F p.ak;have aq:(granted n.home.dR i p.ak p.src p.id).ok=true:=by
     exact Vz V
    refine⟨_,⟨?_,Zk _ aq rfl rfl rfl⟩,BR X F rfl rfl rfl g (λj hj=>aX hj) (by
    rw[aK,show msg p.src=.req p from b3];have:=Px O.step A p;exact Nat.lt_trans (this _).1 (this .zero).2) (by dsimp only;exact zav (oI _ _) V)⟩
    show nU m.c ((m.with_ i { n with home:={ n.home with bf:=(n.home.bf.ask p.ak p.src p.id).1 } } _ t).abs _ val);rw[Gl (n':={ n with home:={ n.home with bf:=(n.home.bf.ask p.ak p.src p.id).1 } }) (msg:=msg) F (λ_=>rfl) rfl D (λ_ _=>rfl) (λL' h=>by show(n.home.bf.ask p.ak p.src p.id).1.owner L'=_;rw[t2,if_neg h]) (λL' h=>by show(n.home.bf.ask p.ak p.src p.id).1.ws L'=_;rw[t3])];simp only[aL,t2,t3,if_true,aM];have a2:granted n.home.dR i p.ak p.src p.id=⟨7,m.c.aZ p.ak,p.src,p.id,p.ak,((m.abs msg val).row p.ak).head,((m.abs msg val).row p.ak).state,false,((m.abs msg val).row p.ak).data⟩:=by
     rw[ar,D];rfl
    rw[a2];exact I'
   ·have bj:n.home.bf.owner p.ak≠-1∨n.home.bf.ws p.ak≠[]:=by
     by_cases h:n.home.bf.owner p.ak=-1
     ·exact .inr λh'=>v ⟨h,h'⟩
     ·exact .inl h
    obtain⟨t1,t2,t3⟩:=JU (id:=p.id) R.home.bf g.1 bj;have hh:n.home.handle m.c i p=({ n.home with bf:=(n.home.bf.ask p.ak p.src p.id).1 },.zero,false,0):=by
     unfold Home.handle;rw[if_neg M,if_neg (by rw[D];omega),if_pos ab];simp only[t1,zal,if_false]
    have w:n.asked m.c i z p=({ n with home:={ n.home with bf:=(n.home.bf.ask p.ak p.src p.id).1 } },z):=by
     unfold Node.asked;rw[if_pos (.inl ab),hh];simp
    rw[w];have I':=G.abs.wait g aa ab;have R2:pK z (dL msg p.src .wait):=by
     have mi:∀j q,(dL msg p.src .wait j=.req q↔dL msg p.src .idle j=.req q)/\(dL msg p.src .wait j=.ans q↔dL msg p.src .idle j=.ans q):=λj q=>by
      by_cases h:j=p.src
      ·rw[h,aK,aK];exact⟨⟨λe=>(by cases e),λe=>(by cases e)⟩,⟨λe=>(by cases e),λe=>(by cases e)⟩⟩
      ·rw[aX h,aX h];exact⟨Iff.rfl,Iff.rfl⟩
     refine⟨λk q hq=>?_,R1.rn,R1.an,λj q h=>R1.rc j q ((mi j q).1.1 h),λj q h=>R1.ac j q ((mi j q).2.1 h),λj q h=>R1.src j q ((mi j q).1.1 h),λj q h=>R1.dst j q ((mi j q).2.1 h),λj q h=>R1.rg j q (h.imp (mi j q).1.1 (mi j q).2.1)⟩;have P:=R1.port k q hq;exact⟨λx Q=>⟨(P.rq x Q).1,(P.rq x Q).2.1,(mi _ _).1.2 (P.rq x Q).2.2⟩,λx Q=>⟨(P.rin x Q).1,(P.rin x Q).2.1,(mi _ _).1.2 (P.rin x Q).2.2⟩,λx Q=>⟨(P.an x Q).1,(P.an x Q).2.1,(mi _ _).2.2 (P.an x Q).2.2⟩,λx Q=>⟨(P.ain x Q).1,(P.ain x Q).2.1,(mi _ _).2.2 (P.ain x Q).2.2⟩⟩
    refine⟨_,⟨?_,R2⟩,BR X F rfl rfl rfl g (λj hj=>aX hj) (by
     rw[aK,show msg p.src=.req p from b3];exact(Px O.step A p .zero).2) (by dsimp only;omega)⟩
    show nU m.c ((m.with_ i { n with home:={ n.home with bf:=(n.home.bf.ask p.ak p.src p.id).1 } } _ t).abs _ val);rw[Gl (n':={ n with home:={ n.home with bf:=(n.home.bf.ask p.ak p.src p.id).1 } }) (msg:=msg) F (λ_=>rfl) rfl D (λ_ _=>rfl) (λL' h=>by show(n.home.bf.ask p.ak p.src p.id).1.owner L'=_;rw[t2]) (λL' h=>by show(n.home.bf.ask p.ak p.src p.id).1.ws L'=_;rw[t3,if_neg h])];simp only[aL,t2,t3,if_true,bh];rw[<-aw];exact I'
  ·-- a ak is unlocked
   obtain⟨u1,u2,⟨lw,W⟩,u4,u5,I'⟩:=G.abs.unlock g aa aR;rw[ao]at u1;obtain⟨d,a4⟩:∃d,m.aG[p.src.toNat]?=some d:=⟨_,zab (by have:=X.inv.len;omega)⟩
   have bk:((p.src.toNat:Nat):Int)=p.src:=V
   have y:(m.abs msg val).aJ p.src=d.aJ:=by
    have:=lD a4;rw[bk]at this;exact this
   have DS:=(X.inv.bH _ d a4).aJ (by rw[<-y,u5];decide);have bl:d.aJ.data=[]∨(d.aJ.data.length:Int)=m.c.aV:=DS.dat.imp id λh=>h.1;have q1:p.state=d.aJ.state:=by rw[u4,y];unfold bU.ask;rw[y]at u5;simp[u5]
   have q2:p.ptr=d.aJ.head:=by rw[u4,y];unfold bU.ask;rw[y]at u5;simp[u5]
   have q3:p.flag=decide (d.aJ.data≠[]):=by rw[u4,y];unfold bU.ask;rw[y]at u5;simp[u5]
   have q4:p.data=d.aJ.data:=by rw[u4,y];unfold bU.ask;rw[y]at u5;simp[u5]
   have q5:(if p.flag then p.data else [])=d.aJ.data:=by
    rw[q3,q4];by_cases h:d.aJ.data=[]
    ·simp[h]
    ·simp[h]
   rw[y]at W I';have bm:wZ m.c i p.ak=true:=by
    unfold wZ;simp only[zah,decide_eq_true_eq];refine⟨⟨OL.1,OL.2⟩,?_⟩;have:=D;unfold Cfg.aZ wX at this;rw[if_neg V]at this;exact this
   obtain⟨K,a5⟩:=X.dR i n F p.ak bm;have bp:iK n.home.dR p.ak=K:=by unfold iK;rw[a5];rfl
   have a1:d.aJ.state=0∨d.aJ.state=1∨d.aJ.state=2:=W.st;have a0:d.aJ.head=hdI lw (-1):=W.head;have bx:=W.rng.agx V;have h0:d.aJ.state=0↔d.aJ.head=-1:=by
    rw[a0,W.rng.adD];exact W.st0
   have a6:jy m.c n.home.dR p.ak p.state p.ptr (if p.flag then p.data else [])=(mO n.home.dR p.ak (jd K d.aJ),0):=by
    unfold jy;rw[a5,q1,q2,q5];simp only;rw[if_neg V,if_neg]
    ·rfl
    ·have e1:decide (d.aJ.head=-1)=decide (d.aJ.state=0):=by
      by_cases h:d.aJ.state=0
      ·simp[h,h0.1 h]
      ·have:¬d.aJ.head=-1:=λe=>h (h0.2 e);simp[h,this]
     rw[e1];rcases bl with h|h
     ·simp[h]
     ·simp[h]
   obtain⟨t1,t2,t3⟩:=Ph R.home.bf g.1 u1;have bq:n.home.unlock m.c p=(⟨mO n.home.dR p.ak (jd K d.aJ),(n.home.bf.release p.ak p.src).1⟩,0):=by
    unfold Home.unlock;rw[if_neg (by rw[u1];simp)];simp only[a6,if_true,t1]
   have hh:n.home.handle m.c i p=(⟨mO n.home.dR p.ak (jd K d.aJ),(n.home.bf.release p.ak p.src).1⟩,⟨8,i,p.src,p.id,p.ak,0,0,false,[]⟩,true,0):=by
    unfold Home.handle;rw[if_neg M,if_neg (by rw[D];omega),if_neg V];simp only[bq,if_true]
   have w:n.asked m.c i z p=({ n with home:=⟨mO n.home.dR p.ak (jd K d.aJ),(n.home.bf.release p.ak p.src).1⟩ },(z.send ⟨8,i,p.src,p.id,p.ak,0,0,false,[]⟩).1):=by
    unfold Node.asked;rw[if_pos (.inr aR),hh];simp
   rw[w];have aq:(⟨8,i,p.src,p.id,p.ak,0,0,false,[]⟩:Pkt).ok=true:=by
    exact Vz (by simp only[zan];omega)
   refine⟨_,⟨?_,Zk _ aq rfl rfl rfl⟩,BR X F rfl rfl rfl g (λj hj=>aX hj) (by
    rw[aK,show msg p.src=.req p from b3];have:=Px O.step A p;exact Nat.lt_trans (this _).1 (this .zero).2) (by dsimp only;exact zav (oI _ _) V)⟩
   show nU m.c ((m.with_ i { n with home:=⟨mO n.home.dR p.ak (jd K d.aJ),(n.home.bf.release p.ak p.src).1⟩ } _ t).abs _ val);rw[Gl (n':={ n with home:=⟨mO n.home.dR p.ak (jd K d.aJ),(n.home.bf.release p.ak p.src).1⟩ }) (msg:=msg) F (λ_=>rfl) rfl D (λL' h=>by show iK (mO _ _ _) L'=_;rw[LZ,if_neg h]) (λL' h=>by show(n.home.bf.release p.ak p.src).1.owner L'=_;rw[t2,if_neg h]) (λL' h=>by show(n.home.bf.release p.ak p.src).1.ws L'=_;rw[t3])];have ax:iK (mO n.home.dR p.ak (jd K d.aJ)) p.ak=jd ((m.abs msg val).row p.ak) d.aJ:=by rw[LZ,if_pos rfl,ar,bp]
   simp only[ax,t2,t3,if_true,aM];rw[D]at I';exact I'
 ·-- a cache's requests
  have br:3<=p.aU/\p.aU<=6:=by
   unfold rG at b2;simp only[zah,decide_eq_true_eq]at b2;omega
  obtain⟨a7,H⟩:(m.abs msg val).own p.ak=p.src/\Hold m.c.aG (m.c.aZ p.ak) ((m.abs msg val).ent p.ak) ((m.abs msg val).row p.ak) ((m.abs msg val).val p.ak) p.src ((m.abs msg val).aJ p.src) (.req p):=by
   rcases p4 with⟨h,_⟩|⟨_,h,h'⟩
   ·exfalso;rw[h]at C;have:p.aU=1:=C;omega
   ·exact⟨h,h'⟩
  obtain⟨e,he,Sv⟩:=arF V H br;rw[b1]at he;have b:n.aI.find p.ak=some e:=by rw[<-sZ F];exact he
  have u:=SC b;have a8:=(jm R.aI.aO).1 b;have EO:=R.aI.ent e a8.1;have a3:e.data.length<=4:=R.aI.le hc e a8.1;have af:¬((!p.ok || decide (p.aU<3) || decide (6<p.aU))=true):=by simp[al];omega
  have bt:(m.abs msg val).msg p.src≠.wait:=by rw[aa];exact λe=>by cases e
  -- what is common
  have ag:∀(ca:Cache) (x:Option Ent) (q:Pkt),(∀L,L≠p.ak->ca.find L=n.aI.find L)->ca.find p.ak=x->fP n.aI p=(ca,q,0)->q.ok=true->rG q.aU=false->q.src=i->q.dst=p.src->Hold m.c.aG (m.c.aZ p.ak) (nT ((m.abs msg val).ent p.ak) p.dst x) ((m.abs msg val).row p.ak) ((m.abs msg val).val p.ak) p.src ((m.abs msg val).aJ p.src) (.ans q)->((∃e',x=some e')/\p.aU≠6∨x=none)->
    ∃msg',GInv (m.with_ i (n.asked m.c i z p).1 (n.asked m.c i z p).2 t) msg' val/\(m.with_ i (n.asked m.c i z p).1 (n.asked m.c i z p).2 t).todo msg'<m.todo msg:=λca x q h1 h2 h3 h4 h5 h6 h7 H' h8=>by
   have w:n.asked m.c i z p=({ n with aI:=ca },(z.send q).1):=by
    unfold Node.asked;rw[if_neg hk,h3];simp
   rw[w];rw[b1]at H';have I':=G.abs.served g OL a7 (E:=nT ((m.abs msg val).ent p.ak) i x) (q:=q) (λj hj=>by
    by_cases a9:j=i
    ·rw[a9,he]at hj;cases hj
    ·rw[fD a9];exact hj) H' bt
   refine⟨_,⟨?_,Zk q h4 h5 h6 h7⟩,Zq X F g OL h1 h2 aa b O.step (h8.imp (λh=>⟨h.1,A h.2⟩) id) (by dsimp only;exact zav (oI _ _) V)⟩;show nU m.c ((m.with_ i { n with aI:=ca } _ t).abs _ val);rw[qO (n':={ n with aI:=ca }) (msg:=msg) (val:=val) F rfl h1];simp only[h2];have bu:dL m.oZ i n.aJ=m.oZ:=by rw[<-lD F,jJ]
   simp only[bu];exact I'
  cases Sv with
  |attach k H'=>
   have o:=yC (e:={ e with bP:=false,back:=p.ptr }) (x:=e) R.aI.aO EO.lo (by rw[show({ e with bP:=false,back:=p.ptr }:Ent).ak=e.ak from rfl,u];exact b);have ad:=nG (e:={ e with bP:=false,back:=p.ptr }) (x:=e) R.aI.aO EO.lo (by rw[show({ e with bP:=false,back:=p.ptr }:Ent).ak=e.ak from rfl,u];exact b);refine ag (n.aI.put { e with bP:=false,back:=p.ptr }).1 (some { e with bP:=false,back:=p.ptr }) _ (λL D=>by rw[o,if_neg λh=>D (h.trans u)]) (by rw[o,if_pos u.symm]) ?_ ?_ rfl b1 rfl H' (.inl ⟨⟨_,rfl⟩,V⟩)
   ·unfold fP;rw[if_neg af,b];simp only[k,if_true];rw[ad];simp[DW]
   ·exact Vz V
  |front k H'=>
   have o:=yC (e:={ e with fwd:=p.ptr }) (x:=e) R.aI.aO EO.lo (by rw[show({ e with fwd:=p.ptr }:Ent).ak=e.ak from rfl,u];exact b);have ad:=nG (e:={ e with fwd:=p.ptr }) (x:=e) R.aI.aO EO.lo (by rw[show({ e with fwd:=p.ptr }:Ent).ak=e.ak from rfl,u];exact b);refine ag (n.aI.put { e with fwd:=p.ptr }).1 (some { e with fwd:=p.ptr }) _ (λL D=>by rw[o,if_neg λh=>D (h.trans u)]) (by rw[o,if_pos u.symm]) ?_ ?_ rfl b1 rfl H' (.inl ⟨⟨_,rfl⟩,V⟩)
   ·unfold fP;rw[if_neg af,b];simp only[k];rw[if_neg J,if_pos trivial,ad];simp[DW]
   ·exact Vz (by simp only[zan];omega)
  |behind k H'=>
   have o:=yC (e:={ e with back:=p.ptr }) (x:=e) R.aI.aO EO.lo (by rw[show({ e with back:=p.ptr }:Ent).ak=e.ak from rfl,u];exact b);have ad:=nG (e:={ e with back:=p.ptr }) (x:=e) R.aI.aO EO.lo (by rw[show({ e with back:=p.ptr }:Ent).ak=e.ak from rfl,u];exact b);refine ag (n.aI.put { e with back:=p.ptr }).1 (some { e with back:=p.ptr }) _ (λL D=>by rw[o,if_neg λh=>D (h.trans u)]) (by rw[o,if_pos u.symm]) ?_ ?_ rfl b1 rfl H' (.inl ⟨⟨_,rfl⟩,V⟩)
   ·unfold fP;rw[if_neg af,b];simp only[k];rw[if_neg J,if_neg J,if_pos trivial,ad];simp[DW]
   ·exact Vz (by simp only[zan];omega)
  |JK k bz H'=>
   have ba:=BN (ak:=p.ak) R.aI.aO;refine ag (n.aI.drop p.ak) none _ (λL D=>by rw[ba,if_neg D]) (by rw[ba,if_pos rfl]) ?_ ?_ rfl b1 rfl H' (.inr rfl)
   ·unfold fP;rw[if_neg af,b];simp only[k];rw[if_neg J,if_neg J,if_neg J];simp[DW]
   ·exact Vz V
end
def Hold.data {N hm:Int}{E:tu}{r:Row}{v:List Int}{i:Int}{d:bU}{o:Out}(H:Hold N hm E r v i d o){j:Int}{e:Ent}(b:E j=some e):e.data=v:=by
 cases H with
 |granted _ W=>exact W.data j e b
 |attach _ _ _ _ W=>exact W.data j e b
 |attached _ _ _ _ _ _ _ _ X _=>exact X j e b
 |JK _ _ L _ _=>exact L.data j e b
 |Js _ _ L _ _=>exact L.data j e b
 |front _ _ M _ _ _ _ _=>exact M.data j e b
 |zS _ _ M _ _ _ _ _ _=>exact M.data j e b
 |behind _ _ M _ _ _ _ _ _=>exact M.data j e b
 |vV _ _ M _ _ _ _ _ _=>exact M.data j e b
 |unlock _ W=>exact W.data j e b
def nU.data {c:Cfg}{a:Abs}(I:nU c a){L j:Int}(b:0<=L/\L<c.aO){e:Ent}(d:a.ent L j=some e):e.data=a.val L:=by
 rcases I.ak L b.1 b.2 with⟨_,l,W⟩|⟨_,_,_,H⟩
 ·exact W.data j e d
 ·exact Hold.data H d
section
variable {m:cO}{T:Nat}{i:Nat}{n n1:Node}{f:Fab}{t:List Evn}{msg msg':Int->Out}{val val':Int->List Int}
def GInv.idle(X:MX T m)(G:GInv m msg val)(b:m.aG[i]?=some n)(h0:n.aJ.step=0):msg i=.idle:=by
 have hi:=X.range b;have hd:(m.abs msg val).aJ i=n.aJ:=lD b;rcases G.abs.bH i hi.1 hi.2 with⟨_,h⟩|O
 ·exact h
 ·have:=O.step;rw[hd]at this;exact absurd h0 this
def GInv.begin_(X:MX T m)(G:GInv m msg val)(hn:m.aG[i]?=some n)(h0:n.aJ.step=0)(e1:n1.aI=n.aI)(e2:n1.home=n.home)(e4:n1.num=n.num)(e5:n1.JD=n.JD){k L:Int}(hk:1<=k/\k<=3)(hL:0<=L/\L<m.c.aO)(hm:k=1->n.aI.find L=none)(hm3:k=3->n.aI.find L≠none):
  ∃msg',GInv (m.with_ i (n1.begin_ m.c i m.fab k L).1 (n1.begin_ m.c i m.fab k L).2 t) msg' val/\(m.with_ i (n1.begin_ m.c i m.fab k L).1 (n1.begin_ m.c i m.fab k L).2 t).todo msg'<m.todo msg:=by
 have hc:=X.inv.ok;have hi:=X.range hn;have NX_:=X.bH i n hn;have hd:(m.abs msg val).aJ i=n.aJ:=lD hn;have hidle:=G.idle X hn h0;have hid:0<=n.num/\n.num<4096:=⟨NX_.Ze,NX_.num1⟩
 have I':=G.abs.begin_ (L:=L) (k:=k) (id:=n.num) hi (by rw[hd];exact h0) hk hid hL (λh=>by rw[<-hm h];exact sZ hn L);obtain⟨a1,a2,a3,a4,a5⟩:=adI hc hi (k:=k) hL hid;have hout:1<=m.fab.out:=by
  have:=(lS hc).2.2.2.2.2.1;rw[X.inv.fab.out];exact this.1
 have R':=G.pk.arA (p:=(bU.begin k L n.num).ask i (m.c.aZ L)) (by rw[a3,hidle];exact λq e=>by cases e) (by rw[a3,hidle];exact λq e=>by cases e) a1 a2 (by rw[a3];exact X.is hi rfl) (X.is ⟨a4,a5⟩ rfl) hout;rw[a3]at R';have hb:n1.begin_ m.c i m.fab k L=({ n1 with aJ:=bU.begin k L n.num,num:=(n.num+1).tmod 4096 },(m.fab.send ((bU.begin k L n.num).ask i (m.c.aZ L))).1):=by
  unfold Node.begin_ Node.amb;simp only[e4];rfl
 rw[hb];refine⟨_,⟨?_,R'.2⟩,oJ X hn hL e2 (λL' _=>by show n1.aI.find L'=_;rw[e1]) (λL' hL' y=>by rw[xP (.inl h0),xP (.inr (.inr (.inl λe=>hL' e.symm)))]) (by dsimp only;exact oI _ _) (λj hj=>aX hj) ?_⟩;rotate_left
 ·rw[aK,hidle]
  dsimp only
  have d0:Dp n.aJ .idle=13:=if_pos h0;have d1:Dp (.begin k L n.num) (.req ((bU.begin k L n.num).ask i (m.c.aZ L)))=12+if k=3∨(1:Int)=6 then 13 else 0:=rfl;have e6:Node.JD { n1 with aJ:=bU.begin k L n.num,num:=(n.num+1).tmod 4096 }=n.JD:=e5;rw[e6,d0,d1,e1];by_cases h3:k=3
  ·obtain⟨e,he⟩:=Option.ne_none_iff_exists'.1 (hm3 h3);have w1:wt (.begin k L n.num) L (some e)=3:=by
    unfold wt;rw[if_neg (zdE e),if_pos ⟨h3,(by decide:(1:Int)≠0),(by decide:(1:Int)≠6),rfl⟩]
   have w2:wt n.aJ L (some e)=16:=by
    rw[xP (.inl h0),if_neg (zdE e)]
   rw[he,w1,w2,if_pos (.inl h3)];omega
  ·rw[xP (.inl h0),xP (.inr (.inr (.inr h3))),if_neg (by omega)];omega
 show nU m.c ((m.with_ i { n1 with aJ:=bU.begin k L n.num,num:=(n.num+1).tmod 4096 } _ t).abs _ val);rw[Gp (n':={ n1 with aJ:=bU.begin k L n.num,num:=(n.num+1).tmod 4096 }) (msg:=msg) (val:=val) hn e2 (λL'=>by show n1.aI.find L'=_;rw[e1])];exact I'
def Me {c:Cfg}{P:Int->Nat->Option Opn}{t:List Evn}{b:Bool}{k:Nat}{o:Opn}{j:Int}(d:P j k=some o):DF c P t val ((if b then t else t++[⟨j,k,false,0⟩])++[⟨j,k,true,(nN c o val).2⟩]) (nN c o val).1:=by
 cases b with
 |true=>exact .done j k o d .same
 |false=>exact .done j k o d (.fU j k .same)
def vY {c:Cfg}{P:Int->Nat->Option Opn}{t:List Evn}{b:Bool}{k:Nat}{j:Int}:DF c P t val (if b then t else t++[⟨j,k,false,0⟩]) val:=by
 cases b with
 |true=>exact .same
 |false=>exact .fU j k .same
def GInv.work(X:MX T m)(G:GInv m msg val)(p:m.aG[i]?=some n)(h0:n.aJ.step=0){o:Opn}(o1:n.dn.cur=some o):
  ∃msg' val',GInv (m.with_ i (n.work m.c i m.fab m.trace o).1 (n.work m.c i m.fab m.trace o).2.1 (n.work m.c i m.fab m.trace o).2.2) msg' val'/\DF m.c m.opAt m.trace val (n.work m.c i m.fab m.trace o).2.2 val'/\(m.with_ i (n.work m.c i m.fab m.trace o).1 (n.work m.c i m.fab m.trace o).2.1 (n.work m.c i m.fab m.trace o).2.2).todo msg'<m.todo msg:=by
 have hc:=X.inv.ok;have hi:=X.range p;have K:=X.inv.bH i n p;have D:=K.dn.right o (zas o1);have OO:=ar4 hc D.1;have R:0<=m.c.bW o.addr/\m.c.bW o.addr<m.c.aO:=⟨OO.lo,OO.hi⟩
 have hP:=Pv p o1;have hd:(m.abs msg val).aJ i=n.aJ:=lD p;unfold Node.work;simp only;obtain⟨n1,j⟩:∃n1:Node,n1={ n with dn:={ n.dn with fU:=true } }:=⟨_,rfl⟩
 have v:n1.aI=n.aI:=by rw[j]
 have M:n1.home=n.home:=by rw[j]
 have c3:n1.aJ=n.aJ:=by rw[j]
 have c4:n1.num=n.num:=by rw[j]
 have c5:n1.dn.cur=some o:=by rw[j];exact o1
 have c6:n1.dn.bT=n.dn.bT:=by rw[j]
 rw[<-j,show n.aI=n1.aI from v.symm];have c7:n1.dn.fU=true:=by rw[j]
 have c8:n1.JD=n.JD:=by rw[j];rfl
 have Q:n1.dn.idx=n.dn.bT.length:=by unfold Proc.idx;rw[c5,c6]
 have am:n1.dn.op=o:=by unfold Proc.op;rw[c5];rfl
 obtain⟨C,q⟩:∃C,C=(if n.dn.fU=true then m.trace else m.trace++[⟨i,n.dn.bT.length,false,0⟩]):=⟨_,rfl⟩
 rw[<-q];by_cases k1:o.aU=4/\n1.aI.find (m.c.bW o.addr)=none
 ·rw[if_pos k1];have ao:nN m.c o val=(val,0):=by
   unfold nN;rw[if_neg V,if_neg V,if_neg V]
  refine⟨msg,val,⟨?_,G.pk⟩,?_,oJ X p R M (λz _=>by show n1.aI.find z=_;rw[v]) (λz _ y=>by show wt n1.aJ z y=_;rw[c3]) (za8 _) (λ_ _=>rfl) ?_⟩
  ·show nU m.c ((m.with_ i { n1 with dn:=n1.dn.CU 0 } m.fab _).abs msg val);rw[Gp (n':={ n1 with dn:=n1.dn.CU 0 }) (msg:=msg) (val:=val) p M (λz=>by show n1.aI.find z=_;rw[v])];have:dL m.oZ i n1.aJ=m.oZ:=by rw[c3,<-lD p,jJ]
   simp only[this];exact G.abs
  ·have:=Me (c:=m.c) (t:=m.trace) (val:=val) (b:=n.dn.fU) hP;rw[ao]at this;unfold Node.done;rw[Q,q];exact this
  ·have:=Gq (n':=(n1.done i C 0).1) c5 c7 rfl;have h1:=alU (d:=n1.aJ) (L:=m.c.bW o.addr) (x:=n1.aI.find (m.c.bW o.addr));show 33*Node.JD (n1.done i C 0).1+Dp n1.aJ (msg i)+wt n1.aJ _ (n1.aI.find _)<_;rw[<-c3];omega
 rw[if_neg k1];by_cases k2:o.aU=4
 ·rw[if_pos k2];obtain⟨msg',G',F⟩:=G.begin_ (n1:=n1) (k:=3) (t:=C) X p h0 v M c4 c8 ⟨J,J⟩ R (λh=>absurd h J) (λ_ h=>k1 ⟨k2,v ▸ h⟩);exact⟨msg',val,G',by rw[q];exact vY,F⟩
 rw[if_neg k2];by_cases k3:(n1.aI.find (m.c.bW o.addr)).isSome=true/\(o.aU=1∨((n1.aI.find (m.c.bW o.addr)).getD .zero).bP=true)
 ·rw[if_pos k3];obtain⟨e,he⟩:=zcL.1 k3.1;have E:n.aI.find (m.c.bW o.addr)=some e:=by rw[<-v];exact he
  have W:=k3.2;rw[he]at W;simp only[zat]at W;have w:=(jm K.aI.aO).1 E;have EO:=K.aI.ent e w.1;have ae:o.aU=1∨((o.aU=2∨o.aU=3)/\e.bP=true):=by
   rcases W with h|h
   ·exact .inl h
   ·by_cases h1:o.aU=1
    ·exact .inl h1
    ·exact .inr ⟨by have:=OO.k1;have:=OO.k4;omega,h⟩
  have af:(m.abs msg val).ent (m.c.bW o.addr) i=some e:=by
   show m.jT _ i=_;rw[sZ p];exact E
  have aa:=G.abs.data R af;obtain⟨g,u⟩:∃g:Ent,g={ e with used:=n.aI.dM+1 }:=⟨_,rfl⟩
  have ax:=EO.dat.1;have d1:g.data=e.data:=by rw[u]
  have d2:g.back=e.back:=by rw[u]
  have d3:g.fwd=e.fwd:=by rw[u]
  have d4:g.bP=e.bP:=by rw[u]
  have d5:g.ak=e.ak:=by rw[u]
  obtain⟨w1,w2,w3,w4,w5,w6,w7⟩:=adJ (c:=m.c) (val:=val) (e:=g) (by rw[d4];exact ae) (by rw[d1];exact aa) (by rw[d1];have:=OO.wlo;have:=OO.whi;omega);have y:=qM g o (m.c.dG o.addr);have H:=Zl K.aI.aO E;have TI:=K.aI.touch E;have A:=yC TI.aO (e:=eX g o (m.c.dG o.addr)) (x:=g) (by rw[y.1,d5];exact EO.lo) (by rw[y.1,d5,H,if_pos w.2,u]);have ab:({ eX g o (m.c.dG o.addr)with used:=g.used }:Ent)=eX g o (m.c.dG o.addr):=by rw[<-y.2.1]
  have ad:(eX g o (m.c.dG o.addr)).ak=m.c.bW o.addr:=by rw[y.1,d5];exact w.2
  have ag:({ n1 with aI:=n1.aI.touch (m.c.bW o.addr) }:Node).effect m.c i C=({ n1 with aI:=((n.aI.touch (m.c.bW o.addr)).put (eX g o (m.c.dG o.addr))).1,dn:=n1.dn.CU (if o.aU=2 then 0 else g.word (m.c.dG o.addr)) },C++[⟨i,n.dn.bT.length,true,if o.aU=2 then 0 else g.word (m.c.dG o.addr)⟩]):=by
   unfold Node.effect Node.done;have ai:({ n1 with aI:=n1.aI.touch (m.c.bW o.addr) }:Node).dn.op=o:=am;simp only[ai,Q,v,H,if_true,zat,<-u]
  have ap:({ aI:=n1.aI.touch (m.c.bW o.addr),dn:={ ops:=n.dn.ops,bT:=n.dn.bT,fU:=true },home:=n.home,aJ:=n.aJ,num:=n.num }:Node)={ n1 with aI:=n1.aI.touch (m.c.bW o.addr) }:=by rw[j]
  rw[ap,ag];have hx:((n.aI.touch (m.c.bW o.addr)).put (eX g o (m.c.dG o.addr))).1.find (m.c.bW o.addr)=some (eX g o (m.c.dG o.addr)):=by
   rw[A,if_pos ad.symm,ab]
  have aq:(nN m.c o val).1 (m.c.bW o.addr)≠[]:=by
   rw[<-w1];intro h;have h1:=y.2.2.2;have:=(lS hc).2.2.1;rw[h,d1]at h1;simp only[zan]at h1;omega
  refine⟨msg,(nN m.c o val).1,⟨?_,G.pk⟩,?_,oJ X p R M (λz h=>by
    show((n.aI.touch _).put _).1.find z=_;rw[A,if_neg λh'=>h (h'.trans ad),H,if_neg h]) (λz _ y=>by show wt n1.aJ z y=_;rw[c3]) (za8 _) (λ_ _=>rfl) ?_⟩
  ·show nU m.c ((m.with_ i { n1 with aI:=((n.aI.touch (m.c.bW o.addr)).put (eX g o (m.c.dG o.addr))).1,dn:=n1.dn.CU (if o.aU=2 then 0 else g.word (m.c.dG o.addr)) } m.fab _).abs msg _);rw[qO (n':={ n1 with aI:=((n.aI.touch (m.c.bW o.addr)).put (eX g o (m.c.dG o.addr))).1,dn:=n1.dn.CU (if o.aU=2 then 0 else g.word (m.c.dG o.addr)) }) (msg:=msg) (val:=val) p M (L:=m.c.bW o.addr) (λz h=>by
    show((n.aI.touch _).put _).1.find z=_;rw[A,if_neg λh'=>h (h'.trans ad),H,if_neg h])]
   have ar:dL m.oZ i n1.aJ=m.oZ:=by rw[c3,<-lD p,jJ]
   simp only[hx,ar];have I':=G.abs.hit (L:=m.c.bW o.addr) (e:=e) (e':=eX g o (m.c.dG o.addr)) (v':=(nN m.c o val).1 (m.c.bW o.addr)) hi (by rw[hd];exact h0) R af (w4.trans d2) (w5.trans d3) (w6.trans d4) (by
    rcases ae with h|⟨_,h⟩
    ·refine .inl ⟨by rw[w7 h,d1],?_⟩;unfold nN;rw[if_pos h];rfl
    ·exact .inr ⟨h,w1⟩) aq
   have aw:dL (m.abs msg val).val (m.c.bW o.addr) ((nN m.c o val).1 (m.c.bW o.addr))=(nN m.c o val).1:=by
    funext L
    by_cases h:L=m.c.bW o.addr
    ·rw[h,aK]
    ·rw[aX h,w2 L h];rfl
   rw[aw]at I';exact I'
  ·rw[w3,q];exact Me hP
  ·have h0:=Gq (n':={ n1 with aI:=((n.aI.touch (m.c.bW o.addr)).put (eX g o (m.c.dG o.addr))).1,dn:=n1.dn.CU (if o.aU=2 then 0 else g.word (m.c.dG o.addr)) }) c5 c7 rfl;have h1:=alU (d:=n1.aJ) (L:=m.c.bW o.addr) (x:=((n.aI.touch (m.c.bW o.addr)).put (eX g o (m.c.dG o.addr))).1.find (m.c.bW o.addr))
   dsimp only at h0 ⊢
   rw[<-c3];omega
 rw[if_neg k3];by_cases k4:n1.aI.full (m.c.bW o.addr)=true
 ·rw[if_pos k4];rw[v]at k4;have al:n.aI.vH (m.c.bW o.addr)≠[]:=by
   intro e;unfold Cache.full at k4;simp only[e,zan,zah,decide_eq_true_eq]at k4;have:=(lS hc).2.2.2.2.1;rw[K.aI.ways]at k4;omega
  obtain⟨e,he⟩:∃e,zF (n.aI.vH (m.c.bW o.addr))=some e:=by
   cases h:n.aI.vH (m.c.bW o.addr)with
   |nil=>exact absurd h al
   |cons a l=>exact⟨_,rfl⟩
  have hv:n.aI.qB (m.c.bW o.addr)=some e.ak:=by unfold Cache.qB;rw[he];rfl
  have w:e∈n.aI.l:=by
   have:=(D9 he).1;unfold Cache.vH at this;exact(zbv.1 this).1
  have EO:=K.aI.ent e w;rw[v,hv];simp only[zat];obtain⟨msg',G',F⟩:=G.begin_ (n1:=n1) (k:=3) (L:=e.ak) (t:=C) X p h0 v M c4 c8 ⟨J,J⟩ ⟨EO.lo,EO.hi⟩ (λh=>absurd h J) (λ_ h=>nomatch ((jm K.aI.aO).2 ⟨w,rfl⟩:n.aI.find e.ak=some e).symm.trans h);exact⟨msg',val,G',by rw[q];exact vY,F⟩
 rw[if_neg k4];by_cases k5:o.aU=1
 ·rw[if_pos k5];obtain⟨msg',G',F⟩:=G.begin_ (n1:=n1) (k:=1) (t:=C) X p h0 v M c4 c8 ⟨J,J⟩ R (λ_=>by
   cases h:n.aI.find (m.c.bW o.addr)with
   |none=>rfl
   |some e=>exact absurd ⟨by rw[v,h];rfl,.inl k5⟩ k3) (λh=>absurd h J)
  exact⟨msg',val,G',by rw[q];exact vY,F⟩
 ·rw[if_neg k5];obtain⟨msg',G',F⟩:=G.begin_ (n1:=n1) (k:=2) (t:=C) X p h0 v M c4 c8 ⟨J,J⟩ R (λh=>absurd h J) (λh=>absurd h J);exact⟨msg',val,G',by rw[q];exact vY,F⟩
def X4(X:MX T m)(d:m.aG[i]?=some n)(h:m.fab.roomOf i false≠0):0<m.fab.roomOf i false:=by
 have hi:=X.range d;have b:=X.is hi (f:=m.fab) rfl;have P:=(X.inv.fab.get b).an;unfold Fab.roomOf at h ⊢;rw[if_pos b]at h ⊢;rw[X.inv.fab.out]at h ⊢;simp only[Port.sort,zal,if_false]at h ⊢;omega
def GInv.step(X:MX T m)(G:GInv m msg val)(j:Int):∃msg' val',GInv (m.step j).1 msg' val'/\DF m.c m.opAt m.trace val (m.step j).1.trace val'/\((m.step j).2≠0->(m.step j).1.todo msg'<m.todo msg):=by
 unfold cO.step;cases d:m.bH j with
 |none=>exact⟨msg,val,G,.same,λh=>absurd rfl h⟩
 |some n=>
  simp only;have A:0<=j/\m.aG[j.toNat]?=some n:=by
   unfold cO.bH at d;split at d
   ·exact⟨by assumption,d⟩
   ·cases d
  obtain⟨i,rfl⟩:∃i:Nat,j=i:=⟨j.toNat,V⟩
  rw[zam]at A ⊢;have e:=A.2;have key:∃msg' val',GInv (m.with_ i (n.step m.c i m.fab m.trace).1.1 (n.step m.c i m.fab m.trace).1.2.1 (n.step m.c i m.fab m.trace).1.2.2) msg' val'/\DF m.c m.opAt m.trace val (n.step m.c i m.fab m.trace).1.2.2 val'/\((n.step m.c i m.fab m.trace).2≠0->(m.with_ i (n.step m.c i m.fab m.trace).1.1 (n.step m.c i m.fab m.trace).1.2.1 (n.step m.c i m.fab m.trace).1.2.2).todo msg'<m.todo msg):=by
   unfold Node.step;cases C:m.fab.take i false with
   |mk E D=>
    cases D with
    |some p=>
     obtain⟨msg',val',G',v,F⟩:=G.answered X e C;exact⟨msg',val',G',v,λ_=>F⟩
    |none=>
     simp only;by_cases q:n.home.ready≠[]/\m.fab.roomOf i false≠0
     ·rw[if_pos q];obtain⟨msg',G',F⟩:=G.grant (t:=m.trace) X e q.1 (X4 X e q.2);exact⟨msg',val,G',.same,λ_=>F⟩
     ·rw[if_neg q];cases u:(if m.fab.roomOf i false=0 then(m.fab,none)else m.fab.take i true)with
      |mk H w=>
       cases w with
       |some p=>
        simp only;have g:m.fab.roomOf i false≠0:=λh=>by rw[if_pos h]at u;cases u
        rw[if_neg g]at u;obtain⟨msg',G',F⟩:=G.asked (t:=m.trace) X e u (X4 X e g);exact⟨msg',val,G',.same,λ_=>F⟩
       |none=>
        simp only;have b:GInv (m.with_ i n m.fab m.trace) msg val:=by
         have:m.with_ i n m.fab m.trace=m:=by
          unfold cO.with_;have:m.aG.set i n=m.aG:=by
           apply zbc
           intro k;by_cases h:i=k
           ·rw[<-h,zbl (zaf.1 e).1,e]
           ·rw[zbr h]
          rw[this]
         rw[this];exact G
        cases y:n.dn.cur with
        |none=>exact⟨msg,val,b,.same,λh=>absurd rfl h⟩
        |some o=>
         simp only;by_cases z:n.aJ.step=0
         ·rw[if_pos z];obtain⟨msg',val',G',v,F⟩:=G.work X e z y;exact⟨msg',val',G',v,λ_=>F⟩
         ·rw[if_neg z];exact⟨msg,val,b,.same,λh=>absurd rfl h⟩
  exact key
def GInv.do_(X:MX T m)(G:GInv m msg val)(p:Pck):∃msg' val',GInv (m.do_ p).1 msg' val'/\DF m.c m.opAt m.trace val (m.do_ p).1.trace val'/\((m.do_ p).2=true->(m.do_ p).1.todo msg'<m.todo msg):=by
 unfold cO.do_;split
 ·refine⟨msg,val,⟨?_,?_⟩,.same,λh=>?_⟩
  ·have:(m.deliver p.at_ p.bit p.mask).1.abs msg val=m.abs msg val:=rfl;rw[this];exact G.abs
  ·exact G.pk.deliver X.dst.all _ _ _
  ·have g:=Pq X.dst.all (of_decide_eq_true h);have b:(m.deliver p.at_ p.bit p.mask).1.todo msg=2*pot m.c m.yQ (m.abs msg λ_=>[])+(m.fab.deliver p.at_ p.bit p.mask).1.under:=rfl;have d:m.todo msg=2*pot m.c m.yQ (m.abs msg λ_=>[])+m.fab.under:=rfl;rw[b,d];omega
 ·obtain⟨msg',val',G',e,F⟩:=G.step X p.at_;exact⟨msg',val',G',e,λh=>F (of_decide_eq_true h)⟩
def agy {c:Cfg}(hc:c.ok=true){ps:List (List Opn)}(hp:(ps.length:Int)=c.aG):GInv (cO.new c ps) (λ_=>.idle) c.first:=by
 obtain⟨cn,cl,cw,_⟩:=lS hc;have bH:∀j:Int,0<=j->j<c.aG->∃l,(cO.new c ps).bH j=some (.new c j l):=λj h0 h1=>by
  obtain⟨k,rfl⟩:∃k:Nat,j=k:=⟨j.toNat,by omega⟩
  have hk:k<ps.length:=by omega
  refine⟨ps[k],?_⟩;unfold cO.bH cO.new;rw[if_pos h0,zam];simp[za9,zab hk]
 have out:∀j:Int,¬(0<=j/\j<c.aG)->(cO.new c ps).bH j=none:=λj h=>by
  unfold cO.bH cO.new;by_cases h0:0<=j
  ·rw[if_pos h0];simp only;rw[zaI];rw[zcS];omega
  ·rw[if_neg h0]
 have any:∀j:Int,(∃l,(cO.new c ps).bH j=some (.new c j l))∨(cO.new c ps).bH j=none:=λj=>by
  by_cases h:0<=j/\j<c.aG
  ·exact .inl (bH j h.1 h.2)
  ·exact .inr (out j h)
 have ent:∀L j,(cO.new c ps).jT L j=none:=λL j=>by
  unfold cO.jT;rcases any j with⟨l,h⟩|h
  ·rw[h];rfl
  ·rw[h];rfl
 have own:∀L,((cO.new c ps).kJ L).bf=⟨[],[]⟩:=λL=>by
  unfold cO.kJ;rcases any ((cO.new c ps).c.aZ L)with⟨l,h⟩|h
  ·rw[h];rfl
  ·rw[h]
 have aJ:∀j,((cO.new c ps).oZ j).step=0:=λj=>by
  unfold cO.oZ;rcases any j with⟨l,h⟩|h
  ·rw[h];rfl
  ·rw[h];rfl
 have row:∀L,0<=L->L<c.aO->iK ((cO.new c ps).kJ L).dR L=⟨0,-1,c.first L⟩:=λL h0 h1=>by
  have hh:=DC hc h0;obtain⟨l,h⟩:=bH (c.aZ L) hh.1 hh.2;unfold cO.kJ;have hcc:(cO.new c ps).c=c:=rfl;rw[hcc,h];unfold iK;show(jY (c.jF (c.aZ L) c.aO.toNat) L).getD .zero=_;rw[xK,if_pos ⟨h0,by omega,rfl⟩];rfl
 have first:∀L,0<=L->L<c.aO->c.first L≠[]:=λL h0 h1 e=>by
  have:=congrArg List.length e;unfold Cfg.first at this
  rw[if_neg (by omega)]at this;simp only[zaz,zcB,zan]at this;omega
 refine⟨⟨λL h0 h1=>.inl ⟨?_,[],?_⟩,λj _ _=>.inl ⟨aJ j,rfl⟩,λL=>?_,first,λL _=>?_⟩,?_⟩
 ·show((cO.new c ps).kJ L).bf.owner L=-1;rw[own];rfl
 ·show Wf c.aG ((cO.new c ps).jT L) (iK ((cO.new c ps).kJ L).dR L) (c.first L) [];rw[row L h0 h1];exact⟨⟨zc2,λj hj=>(by cases hj)⟩,trivial,λj e h=>(by rw[ent]at h;cases h),rfl,.inl rfl,(by simp),λh=>absurd (show(0:Int)=2 from h) (by decide),λj e h=>(by rw[ent]at h;cases h),λj e h=>(by rw[ent]at h;cases h),λ_=>rfl⟩
 ·have hw:((cO.new c ps).abs (λ_=>.idle) c.first).ws L=[]:=by
   show((cO.new c ps).kJ L).bf.ws L=[]
   rw[own];rfl
  exact⟨by rw[hw];exact zc2,λw h=>(by rw[hw]at h;cases h)⟩
 ·show((cO.new c ps).kJ L).bf.owner L=-1;rw[own];rfl
 ·have port:∀p∈(cO.new c ps).fab.l,p=.zero:=λp h=>zcK h;have hr:BJ (cO.new c ps).fab=[]:=List.flatMap_eq_nil_iff.2 λp h=>by rw[port p h];rfl
  have ha:BK (cO.new c ps).fab=[]:=List.flatMap_eq_nil_iff.2 λp h=>by rw[port p h];rfl
  refine⟨λk q h=>?_,by rw[hr];exact zc2,by rw[ha];exact zc2,λ_ _ h=>(by cases h),λ_ _ h=>(by cases h),λ_ _ h=>(by cases h),λ_ _ h=>(by cases h),λ_ _ h=>(by rcases h with h|h <;> cases h)⟩;rw[port q (zas h)];exact⟨λp h=>(by cases h),λp h=>(by cases h),λp h=>(by cases h),λp h=>(by cases h)⟩
end
def arG(me:Int):Nat->List Int->List Evn
 |_,[]=>[]
 |k,v::l=>⟨me,k,false,0⟩::⟨me,k,true,v⟩::arG me (k+1) l
def told(me:Int)(n:Node):List Evn:=arG me 0 n.dn.bT++if n.dn.fU=true then [⟨me,n.dn.bT.length,false,0⟩]else []
structure auQ(c:Cfg)(v:Int->List Int)(ws:List Int):Prop where
 len:(ws.length:Int)=c.iC
 row:∀L,0<=L->L<c.aO->((v L).length:Int)=c.aV
 get:∀a,0<=a->a<c.iC->ws.getD a.toNat 0=(v (a / c.aV)).getD (a % c.aV).toNat 0
def jv(c:Cfg)(i:Nat):List Int:=(List.range (i*c.aV.toNat)).map λa=>c.init.getD a 0
def VA {c:Cfg}{i:Nat}(hi:(i:Int)<c.aO)(hw:0<=c.aV):jv c (i+1)=jv c i++c.first i:=by
 unfold jv Cfg.first
 rw[if_neg V,zbD,List.range_add,zbn,zcZ]
 congr 1
 refine zbo λj _=>?_;have:((i:Int)*c.aV).toNat=i*c.aV.toNat:=by
  obtain⟨w,b⟩:=Int.eq_ofNat_of_zero_le hw;rw[b];simp only[zam];rw[<-zcT,zam]
 rw[this];rfl
def DJ(c:Cfg)(i:Nat):(jv c i).length=i*c.aV.toNat:=by simp[jv]
def adU {c:Cfg}(hc:c.ok=true):auQ c c.first (jv c c.aO.toNat):=by
 have P:=lS hc;have hw:0<c.aV:=by omega
 have hlen:((jv c c.aO.toNat).length:Int)=c.iC:=by
  rw[DJ,zcT];unfold Cfg.iC;rw[zbH (by omega),zbH (by omega)]
 refine⟨hlen,λL h0 h1=>?_,λa h0 h1=>?_⟩
 ·unfold Cfg.first
  rw[if_neg (by omega)];simp only[zaz,zcB];omega
 ·have q0:=zde h0 (by omega:0<=c.aV);have q1:a / c.aV<c.aO:=Int.ediv_lt_of_lt_mul hw (by unfold Cfg.iC at h1;exact h1);have r0:=zbS a (by omega:c.aV≠0);have r1:=zbU a hw;have e1:(jv c c.aO.toNat).getD a.toNat 0=c.init.getD a.toNat 0:=by
   rw[zaA];unfold jv;rw[zaw,zbi (by rw[DJ]at hlen;omega)];rfl
  have e2:(c.first (a / c.aV)).getD (a % c.aV).toNat 0=c.init.getD ((a / c.aV*c.aV).toNat+(a % c.aV).toNat) 0:=by
   rw[zaA];unfold Cfg.first
   rw[if_neg (by omega),zaw,zbi (by omega)];rfl
  have e3:a=a / c.aV*c.aV+a % c.aV:=by rw[Int.mul_comm];exact(Int.mul_ediv_add_emod a c.aV).symm
  have e4:=zca q0 (by omega:0<=c.aV);have e5:(a / c.aV*c.aV).toNat+(a % c.aV).toNat=a.toNat:=by omega
  rw[e1,e2,e5]
def ad7(c:Cfg)(ws:List Int):List Cell:=c.av.map .av++[.seq 1 (ws.map I)]
def agz {c:Cfg}{ws b:List Int}:(ad7 c ws).set 8 (.seq 1 (b.map I))=ad7 c b:=rfl
def arH(H:ah)(hb:H.base<=H.next){c:Cfg}(hc:c.ok=true):∃H' q,cl 155 [.agg c.av] H=some (.ref q 0 0,H')/\Made H H' (upd nP q (ad7 c (jv c c.aO.toNat))):=by
 have Bd:=qP hc;have hw:=Bd.aV;have hln:=Bd.aO;let H1:=H.new (.blk 0 31 c.av);let xs:=c.av++[zN]
 have lt1:H.next<H1.next:=by simp only[H1,eF];omega
 have g1:H1.get H.next=.blk 0 31 c.av:=aP rfl
 have hall:xs.all AV.aS=true:=by simp only[xs,zbf,eu];rfl
 have M0:Made H1 (H1.new (.blk 0 246 xs)) (upd nP H1.next (ad7 c [])):=by
  refine kP hall (by simp[xs,ad7]) λi cc y hcc hy=>?_;simp only[ad7]at hcc;have hlen:c.av.length=8:=rfl;by_cases hi:i<8
  ·left;rw[zaG (by rw[zaz];exact hi),zaw]at hcc;rw[zaG hi]at hy;rw[hy]at hcc;exact(zaW hcc).symm
  ·right;have:i=8:=by
    have:=(zaf.1 hy).1;simp only[xs,zar,zak,zan]at this;omega
   subst this;cases hcc;cases hy;exact⟨rfl,1,rfl⟩
 have key:∀k i,i+k=c.aO.toNat->∀Hi,Made H1 Hi (upd nP H1.next (ad7 c (jv c i)))->
   ∃H',AX cl [.ref H.next 0 0,.ref H1.next 0 0,I c.aO,I i] Hi=some (.ref H1.next 0 0,H')/\Made H1 H' (upd nP H1.next (ad7 c (jv c c.aO.toNat))):=by
  intro k
  induction k with
  |zero=>
   intro i hi Hi M;have h1:¬(i:Int)<c.aO:=by omega
   rw[show i=c.aO.toNat by omega]at M;refine⟨Hi,?_,M⟩;rw[WU];simp only[xq_,h1]
  |succ k ih=>
   intro i hi Hi M;have h1:(i:Int)<c.aO:=by omega
   have h6:(i:Int)+1=((i+1:Nat):Int):=by omega
   have h7:=wrap_i64 (a:=((i+1:Nat):Int)) (by omega) (by omega);have fl:=Bl (c:=c) (ak:=i) (by omega) h1;have hwl:i*c.aV.toNat<=8*4:=zdG (by omega) (by omega);have l8:=gX (H:=Hi) (by rw[M.same _ lt1];exact g1);have e1:=Xr Hi.guard c hc i (by omega) h1;obtain⟨y,hy,cy⟩:=M.good.seq (q:=H1.next) aT (i:=8) (m:=1) (l:=(jv c i).map I) rfl;obtain⟨y',He,Hf,t1,t2,t3,t4⟩:=M.good.append (e:=3) (by_:=8) (by rw[M.base];simp only[H1,jh,eF];omega) aT (i:=8) rfl (by decide) (n:=i*c.aV.toNat) (by rw[zaz,DJ,zby]) cy (fH Hi (c.first i)) (yt _) (by unfold most;omega) (by unfold most;omega);rw[<-zbn,<-VA h1 (by omega),pz,agz]at t3;have M':Made H1 Hf (upd nP H1.next (ad7 c (jv c (i+1)))):=by
    exact M.step t3 t4
   obtain⟨H',r,M''⟩:=ih (i+1) (by omega) Hf M';refine⟨H',?_,M''⟩;rw[WU];simp only[xq_,h1,hy,l8,e1,t1,t2,bI,h6,h7,r]
 have e0:jv c 0=[]:=by unfold jv;rw[zbq];rfl
 obtain⟨H',r,M⟩:=key c.aO.toNat 0 (by omega) _ (by rw[e0];exact M0)
 replace r:AX cl [.ref H.next 0 0,.ref H1.next 0 0,I c.aO,I 0] (H1.new (.blk 0 246 xs))=some (.ref H1.next 0 0,H'):=r
 refine⟨H',H1.next,bn rfl rfl (aps _ _ _ ?_),M.wz⟩;have b1:=gX g1;have em:bd 246 [(0,.agg c.av)]=some (.agg xs):=by
  simp only[xq_,am8,jg,fK,ag8,Cfg.av,eH];rfl
 have g3:(H1.new (.blk 0 246 xs)).get H.next=.blk 0 31 c.av:=by rw[bC lt1];exact g1
 have l1:ld (.ref H.next 0 1) (H1.new (.blk 0 246 xs))=some (I c.aO,H1.new (.blk 0 246 xs)):=by rw[dU g3];rfl
 have bx1:fM 31 (.agg c.av) H=some (.ref H.next 0 0,H1):=aC (eu c) (by decide);have bx2:fM 246 (.agg xs) H1=some (.ref H1.next 0 0,H1.new (.blk 0 246 xs)):=aC hall (by decide);simp only[xq_,aiu,bx1,b1,em,bx2,l1,r]
def Zr(H:ah){x:AV}(b:aH H x 4 0 [])(n:Int):cl 154 [I n,x] H=some (B true,H):=by
 refine bg rfl rfl (apr _ _ _ _) ?_ fC;have d:=(b.guard.new (.map .i64 [])).lnS;have e:¬((0:Nat):Int)<((0:Nat):Int):=V
 have r:Fh cl [I n,.mp H.next,x,I ((0:Nat):Int),I 0] (H.guard.new (.map .i64 []))=some (B true,H.guard.new (.map .i64 [])):=by
  rw[aff];have:¬(0:Int)<((0:Nat):Int):=V
  simp only[xq_,this]
 simp only[xq_,ais,d,r]
 try rfl
def SY(H:ah)(hb:H.base<=H.next){c:Cfg}(hc:c.ok=true){p x:AV}{ps:List (List Opn)}(hp:UQ H p ps)(ho:c.sO ps=true)(hx:aH H x 4 0 []):
  ∃H' q,cl 101 [.agg c.av,p,x] H=some (.tup [.ref q 0 0,B true],H')/\Made H H' (upd nP q (ad7 c (jv c c.aO.toNat))):=by
 let H1:=H.new (.blk 0 31 c.av);have g1:H1.get H.next=.blk 0 31 c.av:=aP rfl
 have lt1:H.next<H1.next:=by simp only[H1,eF];omega
 obtain⟨hp1,hp2⟩:=Bj ho;have Bd:=qP hc;have hn:=Bd.aG;have l8:=gX g1;have l0:ld (.ref H.next 0 0) H1=some (I c.aG,H1):=by rw[dU g1];rfl
 have e1:=ajk H1 c hc (hp.iQ (H':=H1) (by omega) λr hr=>bC hr) (by omega) λl hl=>by have:=hp2 l hl;omega
 rw[if_pos ho]at e1;have hx1:aH H1 x 4 0 []:=hx.new _;have e2:=Zr H1 hx1 c.aG;obtain⟨H',q,e3,M⟩:=arH H1 (by simp only[H1,jh,eF];omega) hc;have hx2:aH H' x 4 0 []:=hx1.iQ M.next λr _ hr=>M.same r hr
 have e4:=hx2.lnS;have b0:bi .neq 57 (I 0) (I 0)=some (B false):=by kernel_rfl
 have bx:fM 31 (.agg c.av) H=some (.ref H.next 0 0,H1):=aC (eu c) (by decide);have h1:¬(0:Int)<((0:Nat):Int):=by omega
 have r:E8 cl [p,.ref q 0 0,x,I ((0:Nat):Int),I 0] H'=some (.tup [.ref q 0 0,B true],H'):=by
  rw[afe];simp only[xq_,h1]
 refine⟨H',q,bn rfl rfl (aou _ _ _ _ _ ?_),M.wz⟩;simp only[xq_,ahL,bx,l8,e1,b0,l0,e2,zae,e3,e4,r]
def Zt(H:ah){c:Cfg}(hc:c.ok=true){p x:AV}{ps:List (List Opn)}(b:UQ H p ps)(d:c.sO ps=true)(g:aH H x 4 0 []):cl 54 [.agg c.av,p,x] H=some (B true,H):=by
 refine bg rfl rfl (atq _ _ _ _ _) ?_ fC;let H1:=H.guard.new (.blk 0 31 c.av);have h:H1.get H.next=.blk 0 31 c.av:=aP rfl
 have i:=gX h;obtain⟨H',q,e,_⟩:=SY H1 (by simp only[H1,jh,eF,al9,xY];omega) hc (b.iQ (H':=H1) (by simp only[H1,eF,xY];omega) λr j=>bC j) d (g.guard.new _);have k:fM 31 (.agg c.av) H.guard=some (.ref H.next 0 0,H1):=aC (eu c) J;simp only[xq_,an4,k,i,e]
def Zu(H:ah){c:Cfg}(hc:c.ok=true){p x:AV}{ps:List (List Opn)}(g:UQ H p ps)(h:c.sO ps=true)(j:aH H x 4 0 []):cl 56 [.agg c.av,p,x] H=some (dat (jv c c.aO.toNat),H):=by
 let H1:=H.guard.new (.blk 0 31 c.av);have k:H1.get H.next=.blk 0 31 c.av:=aP rfl
 have n:=gX k;obtain⟨H',q,e,M⟩:=SY H1 (by simp only[H1,jh,eF,al9,xY];omega) hc (g.iQ (H':=H1) (by simp only[H1,eF,xY];omega) λr o=>bC o) h (j.guard.new _);have u:fM 31 (.agg c.av) H.guard=some (.ref H.next 0 0,H1):=aC (eu c) J;have b:=(adU hc).len;have v:=qP hc;have w:cl 103 [.ref q 0 0] H'=some (dat (jv c c.aO.toNat),H'):=by
  have z:=v.iC;have G:=M.good;obtain⟨y,A,d⟩:=G.guard.seq (q:=q) aT (i:=8) (m:=1) (l:=(jv c c.aO.toNat).map I) rfl;have C:nH H'.guard y (jv c c.aO.toNat):=⟨d.is J O,d.one,λe=>by
   rw[e]at b;simp only[zan]at b;unfold Cfg.iC at b;omega⟩
  have D:=Jb H'.guard (by unfold Cfg.iC at b;omega) C;refine bg rfl rfl (aov _ _ _) ?_ sK;simp only[xq_,ahM,A,D]
 refine iy rfl rfl (att _ _ _ _ _ (r:=(dat (jv c c.aO.toNat),H')) ?_) (sK _ _);simp only[xq_,an6,u,n,e,zae,w]
def xQ(all:List Int)(w i:Nat):List Int:=(all.drop (i*w)).take w
def cO.valuesB(m:cO)(all:List Int):Bool:=(List.range m.c.aO.toNat).all λi=>m.Es i (xQ all m.c.aV.toNat i)
def cO.X5(m:cO):Bool:=(List.range m.c.aO.toNat).all λi=>m.single i && (!decide (m.owner i=-1) || m.tq i)
def MB {n i:Nat}(h:i<n):(List.range n).drop i=i::(List.range n).drop (i+1):=by
 rw[zaT (by simpa using h)];simp
def arI {n:Nat}{cells:List AV}{lo hi:Int}(h0:0<=lo)(d:lo<=hi)(e:hi<=n):slS 1 (.vs n 1 cells) (some (I lo)) (some (I hi)) none=some (.vs (hi.toNat-lo.toNat) 1 ((cells.drop lo.toNat).take (hi.toNat-lo.toNat))):=by
 have b:0<=hi:=V
 simp only[slS,jc,h0,b,if_true];rw[if_pos ⟨trivial,V,V⟩];simp
section
variable {b:Nat}{H:ah}{g:bF}{A:Adr}{m:cO}{T:Nat}
def adV {i:Nat}(h:(i:Int)<m.c.aO):m.isL i=true:=by
 unfold cO.isL;rw[decide_eq_true V,decide_eq_true h];rfl
def MX.trl(X:MX T m):m.trace.length<1000000:=by
 have:=X.inv.evs;have hk:=ajA X.inv;omega
def Zv(G:Good b H g)(M:gJ g A m)(X:MX T m){p:AV}{all:List Int}(hl:(all.length:Int)=m.c.iC)
  (hA:∀H1 ev,Step H.next H.guard H1->aH H1 ev 4 m.trace.length (m.trace.flatMap Evn.av)->cl 56 [.agg m.c.av,p,ev] H1=some (dat all,H1)):cl 19 [.ref A.iL 0 0,p] H=some (B (m.valuesB all),H):=by
 refine bg rfl rfl (as3 _ _ _ _) ?_ fC;have Bd:=qP X.inv.ok;have hw:=Bd.aV;have hln:=Bd.aO;have had:=Bd.iC;have hne:all≠[]:=λe=>by rw[e]at hl;simp only[zan]at hl;unfold Cfg.iC at hl;omega
 have hwn:(m.c.aV.toNat:Int)=m.c.aV:=zbH (by omega);have awl:all.length=m.c.aO.toNat*m.c.aV.toNat:=by
  have:((m.c.aO.toNat*m.c.aV.toNat:Nat):Int)=m.c.aO*m.c.aV:=by
   rw[zcT,hwn,zbH (by omega)]
  unfold Cfg.iC at hl;omega
 let H1:=H.guard.new (.blk 0 31 m.c.av);have s1:Step H.next H.guard H1:=Step.new _ (zac _)
 have G1:Good b H1 g:=G.guard.new _;have g1:H1.get H.next=.blk 0 31 m.c.av:=aP rfl
 have e0:=lu G.guard M X.inv.ok;have hbn:H.guard.base<=H.guard.next:=zac _
 have st8:st 8 (.ref H.next 0 0) (.agg m.c.av) (H.guard.new (.blk 0 31 [zI,zI,zI,zI,zI,zI,zI,zN]))=some (aY,H1):=by
  have auR:=eu m.c;show st 8 (.ref H.guard.next 0 0) _ _=_;rw[uf rfl];have cc:(AV.agg m.c.av).cells=m.c.av:=rfl;have lc:m.c.av.length=8:=rfl;rw[cc,lc,if_pos ⟨hbn,rfl,auR,zac _⟩];rfl
 have l8:=gX g1;have lt:=G1.load M.iL (i:=1) (x:=.ref A.trace 0 0) rfl;obtain⟨ev,e1,hev⟩:=Jd G1.guard M.trace X.trl;have e2:=hA H1 ev s1 (hev H1);have e3:=(fH H1 all).lnS;have e4:=Xq H1 m.c X.inv.ok;rw[<-hl]at e4;have l1:ld (.ref H.next 0 1) H1=some (I m.c.aO,H1):=by rw[dU g1];rfl
 have l2:ld (.ref H.next 0 2) H1=some (I m.c.aV,H1):=by rw[dU g1];rfl
 have key:∀k i,i+k=m.c.aO.toNat->IU cl [.ref A.iL 0 0,.ref H.next 0 0,dat all,I m.c.aO,I i] H1=some (B (((List.range m.c.aO.toNat).drop i).all λi=>m.Es i (xQ all m.c.aV.toNat i)),H1):=by
  intro k
  induction k with
  |zero=>
   intro i hi;have h1:¬(i:Int)<m.c.aO:=by omega
   rw[zaP (by simp;omega),aa8];simp only[zcJ];simp only[xq_,h1]
  |succ k ih=>
   intro i hi;have h1:(i:Int)<m.c.aO:=by omega
   have r:=ih (i+1) (by omega);rw[MB (by omega),zb0];have hiw:i*m.c.aV.toNat<=8*4:=zdG (by omega) (by omega);have awu:(i+1)*m.c.aV.toNat<=m.c.aO.toNat*m.c.aV.toNat:=zaF _ (by omega);have hmul:(i:Int)*m.c.aV=((i*m.c.aV.toNat:Nat):Int):=by rw[zcT,hwn]
   have arJ:((i+1:Nat):Int)*m.c.aV=(((i+1)*m.c.aV.toNat:Nat):Int):=by rw[zcT,hwn]
   have hs1:(i+1)*m.c.aV.toNat=i*m.c.aV.toNat+m.c.aV.toNat:=zbD _ _;have w1:=wrap_i64 (a:=((i*m.c.aV.toNat:Nat):Int)) (by omega) (by omega);have w2:=wrap_i64 (a:=(((i+1)*m.c.aV.toNat:Nat):Int)) (by omega) (by omega);have h6:(i:Int)+1=((i+1:Nat):Int):=by omega
   have h7:=wrap_i64 (a:=((i+1:Nat):Int)) (by omega) (by omega);have hsl:=arI (n:=all.length) (cells:=all.map I) (lo:=((i*m.c.aV.toNat:Nat):Int)) (hi:=(((i+1)*m.c.aV.toNat:Nat):Int)) (by omega) (by omega) (by omega);rw[zam,zam,show(i+1)*m.c.aV.toNat-i*m.c.aV.toNat=m.c.aV.toNat by omega]at hsl;have hrl:(xQ all m.c.aV.toNat i).length=m.c.aV.toNat:=by
    unfold xQ;rw[zau,zaR];omega
   have e5:=adP G1 M X (adV h1) (x:=.vs m.c.aV.toNat 1 (((all.map I).drop (i*m.c.aV.toNat)).take m.c.aV.toNat)) (ws:=xQ all m.c.aV.toNat i) (λH' _ _=>by
    have:((all.map I).drop (i*m.c.aV.toNat)).take m.c.aV.toNat=(xQ all m.c.aV.toNat i).map I:=by unfold xQ;rw[zcy,zdo]
    rw[this,hrl];exact aH.vs (by rw[zaz,hrl,zby])) (by omega)
   rw[qH hne]at r ⊢;rw[aa8];cases hr:m.Es i (xQ all m.c.aV.toNat i)with
   |true=>
    rw[hr]at e5;rw[zaJ];simp only[xq_,h1,l2,iM,bI,hmul,h6,h7,arJ,w1,w2,hsl,e5,zae,r]
   |false=>
    rw[hr]at e5;rw[zaL];simp only[xq_,h1,l2,iM,bI,hmul,h6,h7,arJ,w1,w2,hsl,e5,zai]
 have r:=key m.c.aO.toNat 0 (by omega);rw[zaS]at r
 replace r:IU cl [.ref A.iL 0 0,.ref H.next 0 0,dat all,I m.c.aO,I 0] H1=some (B (m.valuesB all),H1):=r
 simp only[xq_,anO,e0,st8,l8,lt,e1,e2,e3,e4,eq_self,zae,l1,r]
def adW(G:Good b H g)(M:gJ g A m)(X:MX T m){p:AV}{lg vb:Bool}(hs:∀L w,m.walk L=some w->SQ w)
  (hL:∀H1 ev,Step H.next H.guard H1->aH H1 ev 4 m.trace.length (m.trace.flatMap Evn.av)->cl 54 [.agg m.c.av,p,ev] H1=some (B lg,H1))
  (hV:∀H1,Step H.next H.guard H1->cl 19 [.ref A.iL 0 0,p] H1=some (B vb,H1)):cl 18 [.ref A.iL 0 0,p] H=some (B (m.X5 && (lg && vb)),H):=by
 refine bg rfl rfl (as2 _ _ _ _) ?_ fC;have Bd:=qP X.inv.ok;have hln:=Bd.aO;let H1:=H.guard.new (.blk 0 31 m.c.av);have s1:Step H.next H.guard H1:=Step.new _ (zac _)
 have G1:Good b H1 g:=G.guard.new _;have g1:H1.get H.next=.blk 0 31 m.c.av:=aP rfl
 have e0:=lu G.guard M X.inv.ok;have hbn:H.guard.base<=H.guard.next:=zac _
 have st8:st 8 (.ref H.next 0 0) (.agg m.c.av) (H.guard.new (.blk 0 31 [zI,zI,zI,zI,zI,zI,zI,zN]))=some (aY,H1):=by
  have auR:=eu m.c;show st 8 (.ref H.guard.next 0 0) _ _=_;rw[uf rfl];have cc:(AV.agg m.c.av).cells=m.c.av:=rfl;have lc:m.c.av.length=8:=rfl;rw[cc,lc,if_pos ⟨hbn,rfl,auR,zac _⟩];rfl
 have l8:=gX g1;have lt:=G1.load M.iL (i:=1) (x:=.ref A.trace 0 0) rfl;obtain⟨ev,e1,hev⟩:=Jd G1.guard M.trace X.trl;have e2:=hL H1 ev s1 (hev H1);have e3:=hV H1 s1;have l1:ld (.ref H.next 0 1) H1=some (I m.c.aO,H1):=by rw[dU g1];rfl
 have key:∀k i,i+k=m.c.aO.toNat->IQ cl [.ref A.iL 0 0,p,.ref H.next 0 0,I m.c.aO,I i] H1=some (B ((((List.range m.c.aO.toNat).drop i).all λi=>m.single i && (!decide (m.owner i=-1) || m.tq i)) && (lg && vb)),H1):=by
  intro k
  induction k with
  |zero=>
   intro i hi;have h1:¬(i:Int)<m.c.aO:=by omega
   rw[zaP (by simp;omega),aa7];simp only[zcJ,zaJ];cases lg with
   |true=>simp only[Int.reduceNeg,xq_,h1,l8,lt,e1,e2,e3,zaJ]
   |false=>simp only[Int.reduceNeg,xq_,h1,l8,lt,e1,e2,zaL]
  |succ k ih=>
   intro i hi;have h1:(i:Int)<m.c.aO:=by omega
   have r:=ih (i+1) (by omega);have h6:(i:Int)+1=((i+1:Nat):Int):=by omega
   have h7:=wrap_i64 (a:=((i+1:Nat):Int)) (by omega) (by omega);have e4:=Zp G1 M X (i:Int);have e5:=JB G1 M X (i:Int);have e6:=X3 G1 M X (i:Int) (hs _);rw[MB (by omega),zb0,aa7];cases h2:m.single i with
   |false=>
    rw[h2]at e4;rw[zaL,zaL,zaL];simp only[Int.reduceNeg,xq_,h1,e4,zai]
   |true=>
    rw[h2]at e4;rw[zaJ];by_cases h3:m.owner i=-1
    ·rw[h3]at e5;rw[decide_eq_true h3,zae,zbI];cases h4:m.tq i with
     |true=>
      rw[h4]at e6;rw[zaJ];simp only[Int.reduceNeg,xq_,h1,e4,zae,e5,e6,bI,h6,h7,r]
     |false=>
      rw[h4]at e6;rw[zaL,zaL];simp only[Int.reduceNeg,xq_,h1,e4,zae,e5,e6,zai]
    ·rw[decide_eq_false h3,zai,zcb,zaJ];simp only[Int.reduceNeg,xq_,h1,e4,zae,e5,h3,bI,h6,h7,r]
 have r:=key m.c.aO.toNat 0 (by omega);rw[zaS]at r
 replace r:IQ cl [.ref A.iL 0 0,p,.ref H.next 0 0,I m.c.aO,I 0] H1=some (B (m.X5 && (lg && vb)),H1):=r
 simp only[xq_,anM,e0,st8,l1,r]
end
section
variable {c:Cfg}{ps:List (List Opn)}{L:Int}
def X6(j:Int):(∃l,(cO.new c ps).bH j=some (.new c j l))∨(cO.new c ps).bH j=none:=by
 unfold cO.bH cO.new;by_cases b:0<=j
 ·rw[if_pos b];simp only[za9];cases h:ps[j.toNat]? with
  |none=>exact .inr rfl
  |some l=>exact .inl ⟨l,by rw[zaj,zbH b]⟩
 ·rw[if_neg b];exact .inr rfl
def Py(j:Int):(cO.new c ps).jT L j=none:=by
 unfold cO.jT;rcases X6 (c:=c) (ps:=ps) j with⟨l,h⟩|h
 ·rw[h];rfl
 ·rw[h];rfl
def MC:(cO.new c ps).copies L=[]:=by
 unfold cO.copies;rw[List.filter_eq_nil_iff];intro i _;rw[Py];simp
def X7(hc:c.ok=true)(k:(ps.length:Int)=c.aG)(h:(cO.new c ps).isL L=true):(cO.new c ps).wG L=⟨0,-1,c.first L⟩:=by
 unfold cO.isL at h;simp only[zah,decide_eq_true_eq]at h;obtain⟨e,g⟩:=h;have i:=DC hc e;have b:∃l,(cO.new c ps).bH (c.aZ L)=some (.new c (c.aZ L) l):=by
  rcases X6 (c:=c) (ps:=ps) (c.aZ L)with h|h
  ·exact h
  ·unfold cO.bH cO.new at h;rw[if_pos i.1]at h;simp only[za9,Option.map_eq_none_iff,List.getElem?_eq_none_iff]at h;omega
 obtain⟨l,b⟩:=b;unfold cO.wG cO.kJ;have d:(cO.new c ps).c=c:=rfl;rw[d,b];unfold iK;show(jY (c.jF (c.aZ L) c.aO.toNat) L).getD .zero=_;have j:L<c.aO:=g;rw[xK,if_pos ⟨e,V,rfl⟩];rfl
def ajE(hc:c.ok=true)(b:(ps.length:Int)=c.aG)(h:(cO.new c ps).isL L=true):Wf (cO.new c ps).c.aG ((cO.new c ps).jT L) ((cO.new c ps).wG L) (c.first L) []:=by
 rw[X7 hc b h];exact⟨⟨zc2,λj d=>(by cases d)⟩,trivial,λj e h=>(by rw[Py]at h;cases h),rfl,.inl rfl,O,λh=>absurd (show(0:Int)=2 from h) J,λj e h=>(by rw[Py]at h;cases h),λj e h=>(by rw[Py]at h;cases h),λ_=>rfl⟩
def agB(hc:c.ok=true)(b:(ps.length:Int)=c.aG):(cO.new c ps).tq L=true:=by
 by_cases h:(cO.new c ps).isL L=true
 ·exact(ajE hc b h).tq
 ·unfold cO.tq;rw[if_pos (by simpa using h)]
def X8(hc:c.ok=true)(b:(ps.length:Int)=c.aG):(cO.new c ps).walk L=if(cO.new c ps).isL L=true then some []else none:=by
 by_cases h:(cO.new c ps).isL L=true
 ·rw[if_pos h];exact(ajE hc b h).walk h
 ·rw[if_neg h];unfold cO.walk;rw[if_neg h]
def Zw:(cO.new c ps).single L=true:=by
 unfold cO.single;rw[MC];rfl
def adX(hc:c.ok=true)(b:(ps.length:Int)=c.aG)(h:(cO.new c ps).isL L=true):(cO.new c ps).Es L (c.first L)=true:=by
 unfold cO.Es;rw[MC,X7 hc b h];simp
end
def S9 {c:Cfg}{n i:Nat}(hi:i<n)(e:(n:Int)<=c.aO)(hw:0<=c.aV):xQ (jv c n) c.aV.toNat i=c.first i:=by
 have g:(i+1)*c.aV.toNat<=n*c.aV.toNat:=zaF _ V;have h:(i+1)*c.aV.toNat=i*c.aV.toNat+c.aV.toNat:=zbD _ _;refine zbc λj=>?_;unfold xQ;rw[zaC];by_cases b:j<c.aV.toNat
 ·rw[if_pos b,zaH];unfold jv;rw[zaw,zbi V,Rn V V  b];have:((i:Int)*c.aV).toNat=i*c.aV.toNat:=by
   obtain⟨w,d⟩:=Int.eq_ofNat_of_zero_le hw;rw[d];simp only[zam];rw[<-zcT,zam]
  rw[this];rfl
 ·rw[if_neg b,zaI];rw[Bl V V];omega
def BU:Cfg:=⟨2,1,1,1,1,1,1,[]⟩
def al3(H:ah):cl 14 [] H=some (B true,H):=by
 have hc:BU.ok=true:=J
 have y:BU.sO [[],[]]=true:=J
 have j:(([[],[]]:List (List Opn)).length:Int)=BU.aG:=rfl;have E:BU.av=[I 2,I 1,I 1,I 1,I 1,I 1,I 1,zN]:=by simp[BU,Cfg.av,dat,gI]
 let k:=H.guard.new (.blk 0 62 [zN,zN]);have q:∀K:ah,UQ (K.new (.blk 0 62 [zN,zN])) (.sl K.next 0 0 1 2 2 true) [[],[]]:=λK=>⟨[zN,zN],jX (n:=2) (m:=1) (l:=[zN,zN]) rfl,λi v l a b=>by
  match i with
  |0=>cases a;cases b;exact⟨aH.nil,λ_=>rfl⟩
  |1=>cases a;cases b;exact⟨aH.nil,λ_=>rfl⟩
  |i+2=>cases a⟩
 have F:UQ k (.sl H.next 0 0 1 2 2 true) [[],[]]:=q H.guard;obtain⟨e,A,g,e1,M,G⟩:=Ls k (by simp only[k,jh,eF,al9,xY];omega) BU hc F y;have X:MX 0 (.new BU [[],[]]):=ajB hc (λz h=>by cases h) y (λl C o ho=>by
  simp only[zao,zaB,or_false,or_self]at C;subst C;cases ho)
 have D:=Pn M.good G X 0;rw[X8 hc j]at D
 replace D:cl 10 [.ref A.iL 0 0,I 0] e=some (.tup [dat [],B true],e):=D
 let d:=e.new (.blk 0 62 [zN,zN]);have G4:Good k.next d g:=M.good.new _
 have Q:∀L w,(cO.new BU [[],[]]).walk L=some w->SQ w:=λL w h=>by
  rw[X8 hc j]at h;split at h
  ·cases h;exact SS
  ·cases h
 have C:((jv BU BU.aO.toNat).length:Int)=(cO.new BU [[],[]]).c.iC:=rfl;have u:∀H1,Step d.next d.guard H1->UQ H1 (.sl e.next 0 0 1 2 2 true) [[],[]]:=λH1 s=>(q e).iQ (zav (zac _) s.next) λr R=>s.low r R
 have ad:(cO.new BU [[],[]]).trace=[]:=rfl;have eL:=λ(H1:ah) (ev:AV) (s:Step d.next d.guard H1) (h:aH H1 ev 4 0 [])=>Zt H1 hc (u H1 s) y h;have eV:∀K,Step d.next d.guard K->cl 19 [.ref A.iL 0 0,.sl e.next 0 0 1 2 2 true] K=some (B ((cO.new BU [[],[]]).valuesB (jv BU BU.aO.toNat)),K):=λK s=>by
  have GK:Good k.next K g:=G4.guard.ext s.next s.low
  exact Zv GK G X (p:=.sl e.next 0 0 1 2 2 true) (all:=jv BU BU.aO.toNat) C λH1 ev s1 h=>Zu H1 hc ((u K s).iQ s1.next λr R=>s1.low r R) y h
 have vt:(cO.new BU [[],[]]).valuesB (jv BU BU.aO.toNat)=true:=by
  unfold cO.valuesB;rw[za6];intro i hi;have T:i<1:=za0.1 hi;show(cO.new BU [[],[]]).Es i (xQ (jv BU BU.aO.toNat) BU.aV.toNat i)=true;rw[S9 (c:=BU) (n:=BU.aO.toNat) T (zbt _) J];exact adX hc j (by
   obtain rfl:i=0:=V
   decide)
 rw[vt]at eV;have W:=adW G4 G X (p:=.sl e.next 0 0 1 2 2 true) (lg:=true) (vb:=true) Q eL eV;have aa:(cO.new BU [[],[]]).X5=true:=by
  unfold cO.X5;rw[za6];intro i hi;rw[Zw,agB hc j];simp
 rw[aa]at W;have ev:bd 31 [(0,I 2),(1,I 1),(2,I 1),(3,I 1),(4,I 1),(5,I 1),(6,I 1)]=some (.agg BU.av):=by
  rw[E];simp only[xq_,amO,jg,fK,aj8];rfl
 have b0:bi .neq 57 (I 0) (I 0)=some (B false):=Z
 have en:bi .eql 25 (.ref A.iL 0 0) zP=some (B false):=Z
 have es:∀H,bs 27 2 [(0,zN),(1,zN)] H=some (.sl H.next 0 0 1 2 2 true,H.new (.blk 0 62 [zN,zN])):=λH=>by
  exact(asw J).trans rfl
 have d0:=(fH d []).lnS
 replace d0:lnS (dat []) d=some (I 0,d):=d0
 refine iy rfl rfl (asW _ _ (r:=(B true,d)) ?_) iY;simp only[k]at e1;simp only[zcz]at W;have ab:bs 27 2 [(0,zN),(1,zN)] e=some (.sl e.next 0 0 1 2 2 true,d):=es e;simp only[xq_,anI,ev,es H.guard,ab,e1,D,W,b0,en,d0]
def adY {w:List Int}(hw:w.length<=1000):SQ w:=λH=>by
 by_cases d:w=[]
 ·rw[d];exact SS H
 let H1:=H.new (.blk 0 22 [dat w]);have e:H1.get H.next=.blk 0 22 [dat w]:=aP rfl
 refine⟨.fn (.func 87) [] [.ref H.next 0 0],H1,bn rfl rfl (anZ _ _ _ ?_),?_,Step.new _ (zac _)⟩
 ·have g:fM 22 (dat w) H=some (.ref H.next 0 0,H1):=by
   have b:=sJ (l:=w);rw[V5 (by rw[b.1];simp[b.2]) J,b.1]
  simp only[xq_,akA,g]
  try rfl
 ·refine zq (p:=sQ yX rP) rfl ?_;rw[qH d]at e;have hc:True/\22<gV/\87≠0/\87∈rP/\True/\w.length<=1000:=⟨trivial,by unfold gV;decide,J,by simp[rP],trivial,hw⟩
  unfold sQ;simp only[e,Iq];rw[if_pos hc,XJ]
def PI(l:List Int):List (Int × Bool):=l.map λx=>(x,true)
def agC(l:List Int)(n:Int):jY (PI l) n=if n∈l then some true else none:=by
 induction l with
 |nil=>rfl
 |cons a l d=>
  show(if a=n then some true else jY (PI l) n)=_;by_cases h:a=n
  ·rw[if_pos h,if_pos (by simp[h])]
  ·rw[if_neg h,d];by_cases b:n∈l
   ·rw[if_pos b,if_pos (by simp[b])]
   ·rw[if_neg b,if_neg (by simp[b,Ne.symm h])]
def X9:∀(l:List Int) (n:Int),n∉l->mO (PI l) n true=PI (l++[n])
 |[],_,_=>rfl
 |a::l,n,h=>by
  have b:¬a=n:=λe=>h (by simp[e]);show(if a=n then _ else(a,true)::mO (PI l) n true)=_;rw[if_neg b,X9 l n λe=>h (by simp[e])];rfl
def ajF {H:ah}{r:Nat}{l:List Int}(h:H.get r=.map .i64 (Il B (PI l)))(n:Int):lk .i64 (.bool false) (.mp r) (I n) false H=some (B (decide (n∈l)),H):=by
 have d:=vG B (PI l) n;show(lkO .i64 (.bool false) (.mp r) (I n) false (some (H.get r))).map (λv=>(v,H))=_;rw[h];simp only[lkO,d,agC];rw[if_pos ⟨trivial,trivial⟩];by_cases b:n∈l
 ·rw[if_pos b,decide_eq_true b];rfl
 ·rw[if_neg b,decide_eq_false b];rfl
def adZ {H:ah}{r:Nat}{l:List Int}(h:H.get r=.map .i64 (Il B (PI l)))(hb:H.base<=r){n:Int}(b:n∉l):mup .i64 (.mp r) (I n) (B true) H=some (aY,H.put r (.map .i64 (Il B (PI (l++[n]))))):=by
 simp only[mup,h];rw[if_pos ⟨trivial,trivial,hb⟩,CQ,X9 l n b]
def arK {H:ah}{r:Nat}{l:List Int}(h:H.get r=.map .i64 (Il B (PI l))):lnM (.mp r) H=some (I l.length,H):=by
 show(amF (.mp r) (some (H.get r))).map (λv=>(v,H))=_;rw[h];simp only[amF,Il,PI,zaz,zaj]
section
variable {b:Nat}{H:ah}{g:bF}{A:Adr}{m:cO}{T:Nat}
def LX.ext(R:LX b H g A m T){K:ah}(s:Step H.next H K):LX b K g A m T:=⟨R.good.ext s.next s.low,by rw[s.base];exact R.base,R.iL,R.keep⟩
def ad1(X:MX T m)(L:Int):(m.copies L).length<=1000:=by
 have:=uH m L m.aG.length;rw[sF]at this;have:=X.len.2;omega
def agD(x y z okv:AV)(i0 k0:Int)(R:LX b H g A m T){l:List Int}(hl:l.Nodup)(hn:l.length<=1000):∀k j {K:ah},j+k=l.length->Step H.next H K->H.next<K.next->K.get H.next=.map .i64 (Il B (PI (l.take j)))->
  ∃K',Step H.next H K'/\K'.next=K.next/\K'.get H.next=.map .i64 (Il B (PI l))/\II cl [x,y,I i0,I k0,z,okv,.mp H.next,dat l,I l.length,I j] K=II cl [x,y,I i0,I k0,z,okv,.mp H.next,dat l,I l.length,I l.length] K':=by
 intro k
 induction k with
 |zero=>
  intro j K hj s hK hm;obtain rfl:j=l.length:=by omega
  rw[zay (zac _)]at hm;exact⟨K,s,rfl,hm,rfl⟩
 |succ k ih=>
  intro j K hj s hK hm;have h1:(j:Int)<l.length:=by omega
  have hS:=fH K l;have s1:=hS.ix (k:=.i64) (i:=(j:Int)) (by omega) h1;rw[zam]at s1;have t1:=hS.ld (i:=j) (by omega);rw[zaw,zab (show j<l.length by omega)]at t1;have hnot:l[j]∉l.take j:=λh=>by
   have h2:=hl;have hd:l.drop j=l[j]::l.drop (j+1):=zaT (by omega);rw[<-zb5 j l]at h2;exact(zbp.1 h2).2.2 _ h l[j] (by rw[hd];exact zdh) rfl
  have e2:=adZ hm (by rw[s.base];exact zav R.base R.good.1) hnot;have ht:l.take j++[l[j]]=l.take (j+1):=by rw[zbP,zab (by omega)];rfl
  rw[ht]at e2;obtain⟨K',s',n',g',r⟩:=ih (j+1) (K:=K.put H.next (.map .i64 (Il B (PI (l.take (j+1)))))) (by omega) (s.trans (Step.put _ (zac _))) (by rw[al8];exact hK) (by simp only[dP,if_true]);have h6:(j:Int)+1=((j+1:Nat):Int):=by omega
  have h7:=wrap_i64 (a:=((j+1:Nat):Int)) (by omega) (by omega);refine⟨K',s',by rw[n',al8],g',?_⟩;rw[<-r,ahH];simp only[xq_,h1,s1,t1,e2,bI,h6,h7]
def Zx(x y n:AV)(i0 p:Int)(R:LX b H g A m T){l w:List Int}(hw:w.Nodup)(o:∀i∈w,i∈l)(hn:w.length<=1000){r1 r2:Nat}(L:r1<r2)(M:H.next<=r1):∀k j {K:ah},j+k=w.length->Step H.next H K->r2<K.next->K.get r1=.map .i64 (Il B (PI l))->K.get r2=.map .i64 (Il B (PI (w.take j)))->
  ∃K',Step H.next H K'/\K'.next=K.next/\K'.get r1=.map .i64 (Il B (PI l))/\IJ cl [x,y,I i0,I p,dat w,n,.mp r1,.mp r2,dat w,I w.length,I j] K=IJ cl [x,y,I i0,I p,dat w,n,.mp r1,.mp r2,dat w,I w.length,I w.length] K':=by
 intro k
 induction k with
 |zero=>
  intro j K Q s q hm e;obtain rfl:j=w.length:=V
  exact⟨K,s,rfl,hm,rfl⟩
 |succ k W=>
  intro j K Q s q hm e;have u:(j:Int)<w.length:=V
  have v:=fH K w;have z:=v.ix (k:=.i64) (i:=(j:Int)) V u;rw[zam]at z;have C:=v.ld (i:=j) V;rw[zaw,zab (show j<w.length by omega)]at C;have d:w[j]∉w.take j:=λh=>by
   have D:=hw;have hd:w.drop j=w[j]::w.drop (j+1):=zaT V;rw[<-zb5 j w]at D;exact(zbp.1 D).2.2 _ h w[j] (by rw[hd];exact zdh) rfl
  have E:=ajF e w[j];rw[decide_eq_false d]at E;have F:=ajF hm w[j];rw[decide_eq_true (o _ (zc3 _))]at F;have G:=adZ e (by rw[s.base];have:=zav R.base R.good.1;omega) d;have X:w.take j++[w[j]]=w.take (j+1):=by rw[zbP,zab V];rfl
  rw[X]at G;obtain⟨K',s',n',g',r⟩:=W (j+1) (K:=K.put r2 (.map .i64 (Il B (PI (w.take (j+1)))))) V (s.trans (Step.put _ V)) (by rw[al8];exact q) (by simp only[dP];rw[if_neg V];exact hm) (by simp only[dP,if_true]);have h6:(j:Int)+1=((j+1:Nat):Int):=V
  have h7:=wrap_i64 (a:=((j+1:Nat):Int)) V V;refine⟨K',s',by rw[n',al8],g',?_⟩;rw[<-r,ahI];simp only[Int.reduceNeg,xq_,u,z,C,E,F,zae,G,bI,h6,h7]
def Zy(x:AV)(i0:Int)(R:LX b H g A m T)(hO:∀L,m.isL L=true->m.owner L=-1->m.tq L=true){k:Nat}(hk:(k:Int)<m.c.aO):
  ∃K,Ec cl [x,.ref A.iL 0 0,I i0,I k] H=Ec cl [x,.ref A.iL 0 0,I i0,I (k+1:Nat)] K/\LX b K g A m T:=by
 have X:=R.keep;have hL:=adV hk;have hln:=(qP X.inv.ok).aO;have e0:=lu R.good R.iL X.inv.ok;have l1:m.c.av[1]?=some (I m.c.aO):=rfl;have e1:=Pn R.good R.iL X (k:Int);let H1:=H.new (.map .i64 []);have R1:LX b H1 g A m T:=R.new _;have e2:=yF R1.good R1.iL X (k:Int);have e3:=(fH H1 (m.copies k)).lnS;have hcl:=ad1 X (k:Int);obtain⟨w,ok,hw1,hw2,hw3⟩:∃w ok,arE (m.walk k)=.tup [dat w,B ok]/\(w.Nodup/\∀i∈w,i∈m.copies k)/\((ok=false/\w=[]/\m.tq k=false)∨(ok=true/\(m.tq k=true->w.length=(m.copies k).length))):=by
  cases hw:m.walk k with
  |none=>
   refine⟨[],false,rfl,⟨by simp,λi h=>by cases h⟩,.inl ⟨rfl,rfl,?_⟩⟩;cases hlb:m.tq k with
   |false=>rfl
   |true=>
    obtain⟨w,h1,_⟩:=L8 hL hlb;rw[hw]at h1;cases h1
  |some w=>
   refine⟨w,true,rfl,Vu hw,.inr ⟨rfl,λhlb=>?_⟩⟩;obtain⟨w',h1,h2⟩:=L8 hL hlb;rw[hw]at h1;cases h1;exact h2
 rw[hw1]at e1;have hwl:w.length<=1000:=by
  have:=yG (N:=m.aG.length) hw2.1 λi hi=>by
   obtain⟨e,he⟩:=(uI hL).1 (hw2.2 i hi);exact Et he
  have:=X.len.2;omega
 obtain⟨K1,s1,n1,g1,r1⟩:=agD x (.ref A.iL 0 0) (dat w) (B ok) i0 k R Eu hcl (m.copies k).length 0 (K:=H1) (by omega) (Step.new _ (zac _)) (by simp only[H1,eF];omega) (aP rfl);have n1':K1.next=H.next+1:=n1
 let K2:=K1.new (.map .i64 []);have s2:Step H.next H K2:=s1.trans (Step.new _ (by omega))
 obtain⟨K3,s3,n3,g3,r3⟩:=Zx x (.ref A.iL 0 0) (B ok) i0 k R hw2.1 hw2.2 hwl (r1:=H.next) (r2:=K1.next) (by omega) (zac _) w.length 0 (K:=K2) (by omega) s2 (by simp only[K2,eF];omega) (by simp only[K2];rw[bC (by omega)];exact g1) (aP rfl);have R3:=R.ext s3;have e4:=(fH K3 w).lnS;have e5:=X3 R3.good R3.iL X (k:Int) (λw h=>adY (by
  obtain⟨h1,h2⟩:=Vu h;have:=yG (N:=m.aG.length) h1 λi hi=>by
   obtain⟨e,he⟩:=(uI hL).1 (h2 i hi);exact Et he
  have:=X.len.2;omega))
 have e6:=arK g3;have e7:=JB R3.good R3.iL X (k:Int);have z0:((0:Nat):Int)=0:=rfl;rw[z0]at r1 r3;have e8:=(fH K2 w).lnS;have hlt:¬((m.copies k).length:Int)<(m.copies k).length:=by omega
 have hlt3:¬(w.length:Int)<w.length:=by omega
 have h6:(k:Int)+1=((k+1:Nat):Int):=by omega
 have h7:=wrap_i64 (a:=((k+1:Nat):Int)) (by omega) (by omega);have e8':lnS (dat w) (K1.new (.map .i64 []))=some (I w.length,K1.new (.map .i64 [])):=e8;have fin:IJ cl [x,.ref A.iL 0 0,I i0,I k,dat w,B ok,.mp H.next,.mp K1.next,dat w,I w.length,I w.length] K3=Ec cl [x,.ref A.iL 0 0,I i0,I (k+1:Nat)] K3:=by
  rw[ahI];rcases hw3 with⟨rfl,rfl,hlb⟩|⟨rfl,hlen⟩
  ·have ho:¬m.owner k=-1:=λh=>by
    have:=hO k hL h;rw[hlb]at this;cases this
   rw[hlb]at e5;have e4':lnS (dat []) K3=some (I 0,K3):=e4;have hz:¬(((([]:List Int).length:Nat)):Int)<((([]:List Int).length:Nat):Int):=by simp
   simp only[Int.reduceNeg,xq_,hz,zai,e4',e5,e7,ho,eq_self,zae,bI,h6,h7]
  ·cases hlb:m.tq k with
   |true=>
    have hle:(w.length:Int)=((m.copies k).length:Int):=by rw[hlen hlb]
    rw[hlb]at e5;rw[<-hle]at e6;by_cases ho:m.owner k=-1
    ·rw[ho]at e7;simp only[Int.reduceNeg,xq_,hlt3,zae,e4,e5,e6,e7,eq_self,bI,h6,h7]
    ·simp only[Int.reduceNeg,xq_,hlt3,zae,e4,e5,e6,e7,ho,eq_self,bI,h6,h7]
   |false=>
    have ho:¬m.owner k=-1:=λh=>by
     have:=hO k hL h;rw[hlb]at this;cases this
    rw[hlb]at e5;simp only[Int.reduceNeg,xq_,hlt3,zae,e5,e7,ho,bI,h6,h7]
 refine⟨K3,?_,R3⟩;rw[<-fin,<-r3,ahG];have r1':II cl [x,.ref A.iL 0 0,I i0,I k,dat w,B ok,.mp H.next,dat (m.copies k),I (m.copies k).length,I 0] (H.new (.map .i64 []))=IJ cl [x,.ref A.iL 0 0,I i0,I k,dat w,B ok,.mp H.next,.mp K1.next,dat w,I w.length,I 0] (K1.new (.map .i64 [])):=by
  rw[show II cl [x,.ref A.iL 0 0,I i0,I k,dat w,B ok,.mp H.next,dat (m.copies k),I (m.copies k).length,I 0] (H.new (.map .i64 []))=_ from r1,ahH];simp only[xq_,hlt,e8']
 simp only[H1]at e2 e3;simp only[xq_,e0,l1,hk,e1,e2,e3,r1']
 try rfl
def VB(x:AV)(i0:Nat)(i:(i0:Int)<1000)(n:∀L,m.isL L=true->m.owner L=-1->m.tq L=true):∀k (j:Nat) {H:ah},j+k=m.c.aO.toNat->LX b H g A m T->
  ∃K,Ec cl [x,.ref A.iL 0 0,I i0,I j] H=IG cl [x,.ref A.iL 0 0,I (i0+1:Nat)] K/\LX b K g A m T:=by
 intro k
 induction k with
 |zero=>
  intro j H o R;have X:=R.keep;have d:=(qP X.inv.ok).aO;have p:=lu R.good R.iL X.inv.ok;have q:m.c.av[1]?=some (I m.c.aO):=rfl;have h:¬(j:Int)<m.c.aO:=V
  have u:(i0:Int)+1=((i0+1:Nat):Int):=V
  have v:=wrap_i64 (a:=((i0+1:Nat):Int)) V V;refine⟨H,?_,R⟩;rw[ahG];simp only[xq_,p,q,h,bI,u,v]
 |succ k w=>
  intro j H o R;have d:=(qP R.keep.inv.ok).aO;obtain⟨K,e,y⟩:=Zy x i0 R n (k:=j) V;obtain⟨K',z,C⟩:=w (j+1) V y;exact⟨K',by rw[e,z],C⟩
def ad2 {msg:Int->Out}{val:Int->List Int}(G:GInv m msg val){L:Int}(b:m.isL L=true)(d:m.owner L=-1):m.tq L=true:=by
 unfold cO.owner at d;rw[if_pos b]at d;have h:=b;unfold cO.isL at h;simp only[zah,decide_eq_true_eq]at h;rcases G.abs.ak L h.1 h.2 with⟨_,l,W⟩|⟨e,_⟩
 ·exact Wf.tq (v:=val L) (l:=l) W
 ·have e:0<=(m.kJ L).bf.owner L:=e;omega
def Zz {x:AV}{cs:List Cho}(Y:aH ah.empty x 4 cs.length (cs.flatMap Cho.av))(wf:∀c∈cs,c.In):
  ∀(k i:Nat) {H:ah} {g:bF} {m:cO},i+k=min cs.length 60->LX b H g A m i->(∃msg val,GInv m msg val)->
  ∃H',IG cl [x,.ref A.iL 0 0,I i] H=some (B true,H'):=by
 intro k
 induction k with
 |zero=>
  intro i H g m hi R D;have j:=(adA Y H).lnS;have wk:=λH=>al3 H;refine⟨H,?_⟩;rw[ahF];by_cases d:(i:Int)<cs.length
  ·have h:¬(i:Int)<60:=V
   simp only[xq_,j,d,h,wk]
  ·simp only[xq_,j,d,wk]
 |succ k p=>
  intro i H g m hi R D;obtain⟨msg,val,q⟩:=D;have X:=R.keep;have u:=R.fab;have j:=(adA Y H).lnS;have d:(i:Int)<cs.length:=V
  have h:(i:Int)<60:=V
  obtain⟨c,hc⟩:∃c,cs[i]?=some c:=⟨_,zab V⟩
  obtain⟨v,w⟩:=agm Y H hc;have o:=R.good.guard;have y:=lu o R.iL X.inv.ok;have z:=adB o R.iL X;have C:=agp H X c;have E:m.c.av[0]?=some (I m.c.aG):=rfl;obtain⟨F,G,K,M⟩:=agq X (wf c (zas hc));obtain⟨Q,g2,T,W,O2,S2⟩:=R.do_ V (qV c m.c.aG m.fab.under) F G K M;obtain⟨msg',val',G',_⟩:=q.do_ X (qV c m.c.aG m.fab.under);generalize (m.do_ (qV c m.c.aG m.fab.under)).1=m2 at*;obtain⟨K3,n,R3⟩:=VB x i V (λL h1 h2=>ad2 G' h1 h2) m2.c.aO.toNat 0 V W
  replace n:Ec cl [x,.ref A.iL 0 0,I i,I 0] Q=IG cl [x,.ref A.iL 0 0,I (i+1:Nat)] K3:=n
  obtain⟨H',e⟩:=p (i+1) V R3 ⟨msg',val',G'⟩;rw[e]at n;refine⟨H',?_⟩;rw[ahF];simp only[xq_,j,d,h,v,w,y,E,u,z,C,T,n]
end
def JV {s:kT}{zi zw zk za zv:List Int}(h:s.Ok zi zw zk za zv)(hi:aH ah.empty s.init 1 zi.length (zi.map I))(hw:aH ah.empty s.who 1 zw.length (zw.map I))(hk:aH ah.empty s.kinds 1 zk.length (zk.map I))(ha:aH ah.empty s.iC 1 za.length (za.map I))(hv:aH ah.empty s.bT 1 zv.length (zv.map I))
  (hc:s.init.aS=true/\s.who.aS=true/\s.kinds.aS=true/\s.iC.aS=true/\s.bT.aS=true) {x:AV} {cs:List Cho} (Y:aH ah.empty x 4 cs.length (cs.flatMap Cho.av)) (wf:∀c∈cs,c.In):
  ∃H',cl 4 [.agg s.cells,x] ah.empty=some (B true,H'):=by
 have Z:avh s zi zw zk za zv:=⟨h,hi,hw,hk,ha,hv,hc⟩
 have d:s.cells.all AV.aS=true:=by
  simp only[kT.cells,zb0,zcJ,hc,zcN];rfl
 let H1:=ah.empty.new (.blk 0 24 s.cells);let c:=s.cfg zi;let ps:=pJ c zw zk za zv 16;obtain⟨n,A,q,f,N,g,mid,b,i,j,hb,p,X,k⟩:=alP Z H1 (zaX _) (mo:=16) J (c:=c) (ps:=ps) rfl rfl;have R:LX b n g A (.new c ps) 0:=⟨j.good,j.base,j.iL,X⟩
 obtain⟨H',e⟩:=Zz Y wf (min cs.length 60) 0 V R ⟨_,_,agy X.inv.ok (Bj k).1⟩
 replace e:IG cl [x,.ref A.iL 0 0,I 0] n=some (B true,H'):=e
 have m:((16:Nat):Int)=16:=rfl;rw[m]at i;have ls:s.cells.length=12:=rfl;have lt:s.cells.take 12=s.cells:=rfl;have o:bi .eql 25 (.ref A.iL 0 0) zP=some (B false):=ZD
 simp only[H1]at i;refine⟨H',bn rfl rfl (avE _ _ _ _ ?_)⟩;simp only[Nat.reduceLT,xq_,hq_,au4,aC d,ls,lt,i,o,e]
end
end Go.Proofs.YtgplhpgkompkmaaGreat
