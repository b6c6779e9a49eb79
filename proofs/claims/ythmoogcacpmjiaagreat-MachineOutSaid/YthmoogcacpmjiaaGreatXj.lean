/-
  Own work: an interpreter over named blocks, its soundness, and what the functions of this seat compute (part 10 of 11).
  Conditions: those of the statement alone.
-/
import Derived.Test.YthmoogcacpmjiaaGreatXi
set_option linter.all false
set_option linter.unusedSectionVars false
set_option linter.unusedVariables false
set_option linter.unusedSimpArgs false
namespace Go.Proofs.YthmoogcacpmjiaaGreat
noncomputable section
def Node.evs(n:Node):Nat:=2*n.proc.values.length+(if n.proc.begun then 1 else 0)
theorem YL {c:Cfg}{d:bD}(h:d.data=[]∨lZ c d.data)(me home:Int):(d.ask me home).ok=true->vF c (d.ask me home):=by
 intro hk;have num:∀v∈d.data,I64 v:=by
  rcases h with h | h
  ·rw [h];intro v hv;cases hv
  ·exact h.2
 refine⟨hk,?_,?_⟩
 ·unfold bD.ask
  repeat' split
  all_goals (simp [Pkt.zero])
 ·unfold bD.ask
  repeat' split
  all_goals first | exact num | (intro v hv;cases hv)
theorem GN {c:Cfg}{me:Int}{h:Home}{r:dX}(S:EK c me h r)(hr:∀e∈h.rows,lZ c e.2.data){line:Int}(hl:lI c me line=true)(who id:Int):(granted h.rows me line who id).ok=true->vF c (granted h.rows me line who id):=by
 intro hk;obtain⟨row,h1,_⟩:=S.rows line hl;have hd:lZ c (rowOf h.rows line).data:=by
  unfold rowOf;rw [h1];exact hr _ (oK h1)
 exact⟨hk,λ_=> hd,hd.2⟩
theorem uZ {c:Cfg}{p:Pkt}(hd:p.data=[])(hk:¬(p.kind=7∨p.kind=9)):p.ok=true->vF c p:=λh=> ⟨h,λe=> absurd e hk,by rw [hd];intro v hv;cases hv⟩
theorem abo {c:Cfg}{rows:Rows}(hr:∀e∈rows,lZ c e.2.data){line state head:Int}{data:List Int}(hd:∀v∈data,I64 v):∀e∈(setRow c rows line state head data).1,lZ c e.2.data:=by
 unfold setRow;cases ha:iV rows line with
 | none=> exact hr
 | some r=>
  simp only;split
  ·exact hr
  ·split
   ·exact hr
   ·rename_i h1 h2;intro e he;rcases oL he with rfl | he
    ·simp only;split
     ·exact hr _ (oK ha)
     ·rename_i h0;simp only [zbh,zaj,decide_eq_true_eq,not_or,not_and,Decidable.not_not] at h2;exact⟨h2.2 h0,hd⟩
    ·exact hr e he
theorem PW {c:Cfg}{me:Int}{h:Home}(hr:∀e∈h.rows,lZ c e.2.data){p:Pkt}(hd:∀v∈p.data,I64 v):∀e∈(h.handle c me p).1.rows,lZ c e.2.data:=by
 unfold Home.handle;split
 ·exact hr
 split
 ·exact hr
 split
 ·simp only;split <;> exact hr
 ·have key:∀e∈(h.unlock c p).1.rows,lZ c e.2.data:=by
   unfold Home.unlock;have hd':∀v∈(if p.flag=true then p.data else []),I64 v:=by
    split
    ·exact hd
    ·intro v hv;cases hv
   generalize (if p.flag=true then p.data else [])=dat at hd' ⊢;split
   ·exact hr
   ·simp only;split
    ·exact abo hr hd'
    ·exact hr
  simp only;split <;> exact key
theorem YM {c:Cfg}(hc:c.ok=true){me:Int}{h:Home}{r:dX}(S:EK c me h r)(hr:∀e∈h.rows,lZ c e.2.data)(p:Pkt):(h.handle c me p).2.1.ok=true->vF c (h.handle c me p).2.1:=by
 unfold Home.handle;have z:Pkt.zero.ok=true->vF c Pkt.zero:=uZ rfl (by simp [Pkt.zero]);split
 ·exact z
 rename_i h1;have hl0:0<=p.line:=by
  simp only [zbh,zbg,not_or,Bool.not_eq_false,zaj] at h1;have:=h1.1.1.1;simp only [Pkt.ok,zaj,decide_eq_true_eq] at this;omega
 split
 ·exact z
 rename_i h2;have hh:lI c me p.line=true:=by
  cases e:lI c me p.line with
  | true=> rfl
  | false=> exact absurd ((DU hc hl0).2 e) h2
 split
 ·simp only;split
  ·exact GN S hr hh _ _
  ·exact z
 ·simp only;split
  ·exact uZ rfl (by simp)
  ·exact z
theorem YN {c:Cfg}{ca:Cache}(I:DW c ca)(p:Pkt):DW c (dU ca p).1/\((dU ca p).2.1.ok=true->vF c (dU ca p).2.1)/\(dU ca p).1.clock=ca.clock/\∀(line:Int),c.ok=true->ca.full line=false->(dU ca p).1.full line=false:=by
 unfold dU;have z:Pkt.zero.ok=true->vF c Pkt.zero:=uZ rfl (by simp [Pkt.zero]);split
 ·exact⟨I,z,rfl,λ_ _ h=> h⟩
 rename_i h1;cases hf:ca.find p.line with
 | none=> exact⟨I,z,rfl,λ_ _ h=> h⟩
 | some e=>
  obtain⟨he,hl⟩:=(gu I.lines).1 hf;have E:=I.ent e he;simp only [zbh,zbg,not_or,Bool.not_eq_false,decide_eq_true_eq] at h1;have put:∀e':Ent,e'.line=e.line->e'.data=e.data->DW c (ca.put e').1/\(ca.put e').1.clock=ca.clock/\∀line,ca.full line=false->(ca.put e').1.full line=false:=λe' h2 h3=> by
   have hf':ca.find e'.line=some e:=by rw [h2,hl];exact hf
   refine⟨I.put (by rw [h2];exact E.lo) (by rw [h2];exact E.hi) (by rw [h3];exact E.dat),by rw [kU I.lines (by rw [h2];exact E.lo) hf'],λline h=> ?_⟩;rw [aad I.lines (by rw [h2];exact E.lo) hf'];exact h
  simp only;split
  ·rename_i k;have u:=put { e with dirty:=false,back:=p.ptr } rfl rfl;exact⟨u.1,λh=> ⟨h,λ_=> E.dat,E.dat.2⟩,u.2.1,λl _ h=> u.2.2 l h⟩
  split
  ·rename_i k;have u:=put { e with fwd:=p.ptr } rfl rfl;exact⟨u.1,uZ rfl (by simp only [k];decide),u.2.1,λl _ h=> u.2.2 l h⟩
  split
  ·rename_i k;have u:=put { e with back:=p.ptr } rfl rfl;exact⟨u.1,uZ rfl (by simp only [k];decide),u.2.1,λl _ h=> u.2.2 l h⟩
  ·exact⟨I.drop _,λh=> ⟨h,λ_=> E.dat,E.dat.2⟩,zL _ _,λl hc h=> Wi hc I h⟩
structure Both(c:Cfg)(me:Int)(n:Node)(t:List Evn)(A:NFT)(B:ahQ):Prop where
 sim:NS c me A.1 B.1
 eq:B.2=A.2
 inv:QJ c me A.1
 fab:su c A.2.1
 evs:A.2.2.length+n.evs=t.length+A.1.evs
theorem Eff.evs {c:Cfg}{me:Int}{n:Node}{r:dw}{t:List Evn}{A:NT}{B:RNT}(E:Eff c me n r t A B)(hb:n.proc.begun=true):A.2.length+n.evs=t.length+A.1.evs:=by
 have h1:A.1.proc=⟨n.proc.ops,n.proc.values++[A.2.getLast?.elim 0 (·.value)],false⟩:=by rw [E.JB]
 have h2:=E.len;unfold Node.evs;rw [h1,hb];simp only [zan,zal,zaw,if_true,zai,if_false];omega
theorem Nu {c:Cfg}(hc:c.ok=true){me:Int}{n:Node}{r:dw}(S:NS c me n r)(I:QJ c me n){f:Fab}(F:su c f)(t:List Evn){p:Pkt}(Q:vF c p):
  Both c me n t (n.answered c me f t p) (r.answered c me f t p):=by
 have hsame:Both c me n t (n,f,t) (r,f,t):=⟨S,rfl,I,F,rfl⟩
 unfold Node.answered dw.answered;rw [uD];by_cases hs:n.deal.step=0
 ·have hh:r.has=false:=by rw [S.sim.has,hs];rfl
  have hf:n.deal.fits p=false:=by
   unfold bD.fits;rw [hs];simp [NR,Iy]
  rw [yC hf,if_pos hh];simp only [oh,if_true];exact hsame
 have hh:r.has=true:=by rw [S.sim.has];simp [hs]
 have hd:r.deal=n.deal:=by rw [S.sim.deal,if_neg hs]
 obtain⟨c1,c2⟩:=aac S.cs n.deal me p;rw [if_neg (by rw [hh];simp),hd];have D:=I.deal hs;cases hA:vO n.deal me n.cache p with
 | mk ca dk=>
  obtain⟨d,ok⟩:=dk;cases hB:V6 n.deal me r.cache p with
  | mk rc rk=>
   rw [hA,hB] at c1 c2;simp only at c1 c2;subst c2;simp only;cases ok with
   | false=>
    simp only [if_true];have e1:ca=n.cache:=by
     cases hfit:n.deal.fits p with
     | false=> rw [yC hfit] at hA;simp only [oh,zad] at hA;exact hA.1.symm
     | true=>
      have:ca=n.cache:=by
       unfold vO at hA
       repeat' split at hA
       ·unfold bV at hA
        repeat' split at hA
        all_goals (simp only [oh,zad,zbR,and_false] at hA)
        all_goals exact hA.1.symm
       ·unfold bW at hA
        repeat' split at hA
        all_goals (simp only [oh,zad,zbR,and_false] at hA)
        all_goals exact hA.1.symm
       ·unfold dh at hA;split at hA
        ·simp only [oh,zad] at hA;exact hA.1.symm
        ·split at hA
         ·exfalso;cases hfd:n.cache.find n.deal.line with
          | none=> simp [hfd] at hA
          | some e=>
           simp only [hfd] at hA
           repeat' split at hA
           all_goals simp at hA
         ·unfold fK at hA
          repeat' split at hA
          all_goals (simp only [oh,zad,zbR,and_false] at hA)
          all_goals exact hA.1.symm
       ·simp only [oh,zad] at hA;exact hA.1.symm
      exact this
    subst e1;have S':NS c me n { r with cache:=rc,deal:=n.deal }:=NS.of c1 S.hs S.sim.ops S.sim.values S.sim.begun S.sim.has (by simp [hs]) S.sim.num;exact⟨S',rfl,I,F,rfl⟩
   | true=>
    simp only [zbR,if_false];have N:=SC I.cache D hs Q hA;have kd:=D.kind;by_cases h0:d.step=0
    ·rw [if_pos h0,if_pos h0];rcases N.way with⟨w1,_,w3⟩ | ⟨w1,_⟩
     rotate_left
     ·exact absurd h0 w1
     subst w3;have hI:QJ c me { n with deal:=d }:=⟨I.proc,I.cache,I.rows,I.home,λh=> absurd h0 h,I.clk⟩
     have S':NS c me { n with deal:=d } { r with cache:=rc,has:=false,deal:=.zero }:=NS.of c1 S.hs S.sim.ops S.sim.values S.sim.begun (by simp [h0]) (by simp [h0]) S.sim.num;have hcur:r.ops[r.values.length]?=n.proc.cur:=by rw [S.sim.ops,S.sim.values];rfl
     try simp only
     rw [hcur];by_cases k3:d.kind=3
     ·have hb:=D.roll (by rw [<-N.kind];exact k3);have hlt:=I.proc.begun hb;obtain⟨o,ho⟩:∃o,n.proc.cur=some o:=⟨_,zab hlt⟩
      have hop:n.proc.op=o:=by unfold Proc.op;rw [ho];rfl
      have hrb:r.begun=true:=by rw [S.sim.begun];exact hb
      rw [ho];simp only [hop,hrb,k3,true_and];by_cases k4:o.kind=4
      ·rw [if_pos k4,if_pos k4];have hidx:n.proc.idx=n.proc.values.length:=by unfold Proc.idx;rw [ho]
       simp only [Node.done,dw.done,Proc.Zf,hb,if_true,hidx,S.sim.values];refine⟨NS.of c1 S.hs S.sim.ops rfl rfl (by simp [h0]) (by simp [h0]) S.sim.num,rfl,⟨⟨I.proc.most,I.proc.right,by simp only [zan,zal,zaw];omega,λh=> by cases h⟩,I.cache,I.rows,I.home,λh=> absurd h0 h,?_⟩,F,?_⟩
       ·have:=I.clk;simp only [zan,zal,zaw];omega
       ·simp only [Node.evs,hb,if_true,zan,zal,zaw,zai,if_false];omega
      ·rw [if_neg k4,if_neg k4];exact⟨NS.of c1 S.hs S.sim.ops S.sim.values hb.symm (by simp [h0]) (by simp [h0]) S.sim.num,rfl,hI,F,rfl⟩
     ·rw [if_neg (by simp [k3])];have hnb:=D.rest (by rw [<-N.kind];exact k3) w1;have hrb:r.begun=false:=by rw [S.sim.begun];exact hnb
      cases hcu:n.proc.cur with
      | none=> exact⟨S',rfl,hI,F,rfl⟩
      | some o=>
       simp only [hrb,zai,false_and,if_false];exact⟨NS.of c1 S.hs S.sim.ops S.sim.values hnb.symm (by simp [h0]) (by simp [h0]) S.sim.num,rfl,hI,F,rfl⟩
    ·rw [if_neg h0,if_neg h0];rcases N.way with⟨_,w2,_⟩ | ⟨_,w2,w3⟩
     ·exact absurd w2 h0
     have hl0:0<=d.line:=by rw [N.line];exact D.lo
     have home:c.gY d.line=d.line.tmod c.nodes:=by
      have:=(Ll hc).1;unfold Cfg.gY zZ;rw [if_neg (by omega),zbK hl0]
     by_cases h6:d.step=6/\d.kind≠3
     ·-- the operation takes effect
      simp only [if_pos h6];have k3:n.deal.kind≠3:=by rw [<-N.kind];exact h6.2
      have W:=D.work k3 w2;obtain⟨o,ho,hol,hk1,hk2⟩:=W.op;have hmem:o∈n.proc.ops:=zas ho;obtain⟨e,he,YO⟩:∃e,ca.find n.deal.line=some e/\(n.deal.kind=2->e.dirty=true):=by
       rcases w3 k3 with⟨w,_⟩ | ⟨_,w⟩
       ·exact absurd h6.1 w
       ·exact w
      have hop:r.ops.getD r.values.length .zero=o:=by
       rw [S.sim.ops,S.sim.values,zay];have:n.proc.ops[n.proc.values.length]?=some o:=ho;rw [this];rfl
      have E:=GL hc (n:={ n with cache:=ca,deal:=d }) (r:={ r with cache:=rc,deal:=d }) (me:=me) c1 S.sim.values N.inv t ho (I.proc.right o hmem).1 (I.proc.right o hmem).2 W.begun (by rw [hol];exact he) (λhk=> by
       have hk':=D.kind;by_cases e2:n.deal.kind=2
       ·exact YO e2
       ·have:=hk1 (by omega);omega)
      rw [hop];have hn1:(({ n with cache:=ca,deal:=d }:Node).effect c me t).1.deal=d:=by rw [E.JB]
      have hn2:(({ n with cache:=ca,deal:=d }:Node).effect c me t).1.home=n.home:=by rw [E.JB]
      have hn3:(({ n with cache:=ca,deal:=d }:Node).effect c me t).1.num=n.num:=by rw [E.JB]
      have hn4:(({ n with cache:=ca,deal:=d }:Node).effect c me t).1.proc=⟨n.proc.ops,n.proc.values++[(({ n with cache:=ca,deal:=d }:Node).effect c me t).2.getLast?.elim 0 (·.value)],false⟩:=by rw [E.JB]
      have hn5:(({ n with cache:=ca,deal:=d }:Node).effect c me t).1.cache.clock=ca.clock:=by
       have hop':({ n with cache:=ca,deal:=d }:Node).proc.op=o:=by unfold Proc.op;rw [show({ n with cache:=ca,deal:=d }:Node).proc.cur=some o from ho];rfl
       unfold Node.effect Node.done;simp only [hop'];rw [show ca.find (c.cZ o.addr)=some e by rw [hol];exact he];simp only [zau];obtain⟨hem,hel⟩:=(gu N.inv.lines).1 he;rw [kU N.inv.lines (x:=e) (by rw [(kG _ _ _).1];exact(N.inv.ent e hem).lo) (by rw [(kG _ _ _).1,hel];exact he)]
      have hr1:((({ r with cache:=rc,deal:=d }:dw).effect c o).1.done me t (({ r with cache:=rc,deal:=d }:dw).effect c o).2).1.deal=d:=by rw [E.rest]
      have hr2:((({ r with cache:=rc,deal:=d }:dw).effect c o).1.done me t (({ r with cache:=rc,deal:=d }:dw).effect c o).2).1.homes=r.homes:=by rw [E.rest]
      have hr3:((({ r with cache:=rc,deal:=d }:dw).effect c o).1.done me t (({ r with cache:=rc,deal:=d }:dw).effect c o).2).1.num=r.num:=by rw [E.rest]
      have hr4:((({ r with cache:=rc,deal:=d }:dw).effect c o).1.done me t (({ r with cache:=rc,deal:=d }:dw).effect c o).2).1.ops=r.ops:=by rw [E.rest]
      have hr5:((({ r with cache:=rc,deal:=d }:dw).effect c o).1.done me t (({ r with cache:=rc,deal:=d }:dw).effect c o).2).1.values=n.proc.values++[(({ n with cache:=ca,deal:=d }:Node).effect c me t).2.getLast?.elim 0 (·.value)]:=by rw [E.rest]
      have hr6:((({ r with cache:=rc,deal:=d }:dw).effect c o).1.done me t (({ r with cache:=rc,deal:=d }:dw).effect c o).2).1.begun=false:=by rw [E.rest]
      have hr7:((({ r with cache:=rc,deal:=d }:dw).effect c o).1.done me t (({ r with cache:=rc,deal:=d }:dw).effect c o).2).1.has=r.has:=by rw [E.rest]
      have hlt:=I.proc.begun W.begun;have al0:ca.clock<=n.proc.values.length+1:=by
       have:=I.clk;rcases N.clk with h | ⟨_,_,h⟩ <;> omega
      refine⟨NS.of E.sim (by rw [hn2,hr2];exact S.hs) (by rw [hr4,hn4];exact S.sim.ops) (by rw [hr5,hn4]) (by rw [hr6,hn4]) (by rw [hr7,hh,hn1];simp [h0]) (by rw [hr1,hn1,if_neg h0]) (by rw [hr3,hn3];exact S.sim.num),?_,?_,?_,E.evs W.begun⟩
      ·simp only [dw.OW,Node.OW,hr1,hn1,E.ev,home]
      ·refine⟨⟨by rw [hn4];exact I.proc.most,by rw [hn4];exact I.proc.right,by rw [hn4];simp only [zan,zal,zaw];omega,by rw [hn4];intro h;cases h⟩,E.inv,by rw [hn2];exact I.rows,by rw [hn2];exact I.home,λ_=> ?_,by rw [hn5,hn4];simp only [zan,zal,zaw];omega⟩;exact⟨by rw [hn1];exact hl0,by rw [hn1,N.line];exact D.hi,by rw [hn1,N.kind];exact D.kind,by rw [hn1];exact N.dat,by rw [hn1];exact N.aeX,by rw [hn1];intro h;exact absurd h h6.2,by rw [hn1];intro _ h;exact absurd h6.1 h,by rw [hn4];intro _ _;rfl⟩
      ·simp only [Node.OW,hn1];exact F.send (YL N.dat _ _)
     ·simp only [if_neg h6];have S':NS c me { n with cache:=ca,deal:=d } { r with cache:=rc,deal:=d }:=NS.of c1 S.hs S.sim.ops S.sim.values S.sim.begun (by simp [h0,hh]) (by simp [h0]) S.sim.num;refine⟨S',?_,⟨I.proc,N.inv,I.rows,I.home,λ_=> ⟨hl0,by rw [N.line];exact D.hi,by rw [N.kind];exact D.kind,N.dat,N.aeX,λh=> D.roll (by rw [<-N.kind];exact h),λk3 k6=> ?_,λk3 k6=> absurd ⟨k6,k3⟩ h6⟩,?_⟩,F.send (YL N.dat _ _),rfl⟩
      ·simp only [dw.OW,Node.OW,home]
      ·have k3':n.deal.kind≠3:=by rw [<-N.kind];exact k3
       have W:=D.work k3' w2;rcases w3 k3' with⟨_,w⟩ | ⟨w,_⟩
       ·subst w;obtain⟨o,ho,hol,hk1,hk2⟩:=W.op;exact⟨W.begun,⟨o,ho,by rw [hol];exact N.line.symm,by rw [N.kind];exact hk1,by rw [N.kind];exact hk2⟩,by simp only;rw [N.line];exact W.full⟩
       ·exact absurd w k6
      ·have:=I.clk;rcases N.clk with h | ⟨k3,k6,_⟩
       ·simp only;omega
       ·exact absurd ⟨k6,by rw [N.kind];exact k3⟩ h6
theorem YP {c:Cfg}(hc:c.ok=true){line:Int}(h:0<=line):c.gY line=line.tmod c.nodes:=by
 have:=(Ll hc).1;unfold Cfg.gY zZ;rw [if_neg (by omega),zbK h]
theorem yD {c:Cfg}(hc:c.ok=true){me:Int}{n:Node}{r:dw}(S:NS c me n r)(I:QJ c me n){f:Fab}(F:su c f)(t:List Evn){k l:Int}(hk:1<=k/\k<=3)(h0:0<=l)(h1:l < c.lines)(hb:n.proc.begun=true)
  (hw:k≠3->(∃o,n.proc.cur=some o/\c.cZ o.addr=l/\(k=1->o.kind=1)/\(k=2->o.kind=2∨o.kind=3))/\n.cache.full l=false):
  Both c me n t ((n.begin_ c me f k l).1,(n.begin_ c me f k l).2,t) ((r.begin_ c me f k l).1,(r.begin_ c me f k l).2,t):=by
 unfold Node.begin_ dw.begin_;have hs:(bD.begin k l n.num).step≠0:=by show(1:Int)≠0;decide
 simp only [S.sim.num];refine⟨NS.of S.cs S.hs S.sim.ops S.sim.values S.sim.begun (by simp [bD.begin]) (by simp [bD.begin]) rfl,?_,⟨I.proc,I.cache,I.rows,I.home,λ_=> ?_,I.clk⟩,F.send (YL (.inl rfl) _ _),rfl⟩
 ·simp only [dw.OW,Node.OW,bD.begin];rw [YP hc h0]
 ·refine⟨h0,h1,hk,.inl rfl,λ_ h=> absurd h (by simp [bD.begin]),λ_=> hb,λk3 _=> ?_,λ_ h=> absurd h (by simp [bD.begin])⟩;obtain⟨⟨o,q1,q2,q3,q4⟩,q5⟩:=hw k3;exact⟨hb,⟨o,q1,q2,q3,q4⟩,q5⟩
theorem vg {ca:Cache}(hl:Lines ca.l){line:Int}{e:Ent}(h:ca.find line=some e):(ca.touch line).find line=some { e with used:=ca.clock+1 }:=by
 obtain⟨he,hel⟩:=(gu hl).1 h;rw [xH hl h];unfold Cache.find;rw [gu (xM hl λy _=> by
  split
  ·rename_i h;rw [h];exact hel
  ·rfl)]
 exact⟨zaM.2 ⟨e,he,by rw [if_pos hel]⟩,hel⟩
theorem EG {ca:Cache}(hl:Lines ca.l){line:Int}{e:Ent}(h:ca.find line=some e):(ca.touch line).clock=ca.clock+1:=by rw [xH hl h]
theorem abp {c:Cfg}(hc:c.ok=true){me:Int}{n:Node}{r:dw}(S:NS c me n r)(I:QJ c me n){f:Fab}(F:su c f)(t:List Evn){o:Opn}(ho:n.proc.cur=some o)(hd:n.deal.step=0):
  Both c me n t (n.work c me f t o) (r.work c me f t o):=by
 have hmem:o∈n.proc.ops:=zas ho;have hlt:n.proc.values.length < n.proc.ops.length:=(zaf.1 ho).1;have R:=I.proc.right o hmem;have O:=aoL hc R.1
 -- it has begun
 let n1:Node:={ n with proc:={ n.proc with begun:=true } }
 let r1:dw:={ r with begun:=true }
 have S1:NS c me n1 r1:=NS.of S.cs S.hs S.sim.ops S.sim.values rfl S.sim.has S.sim.deal S.sim.num;have I1:QJ c me n1:=⟨⟨I.proc.most,I.proc.right,I.proc.vals,λ_=> hlt⟩,I.cache,I.rows,I.home,λh=> absurd hd h,I.clk⟩
 have ho1:n1.proc.cur=some o:=ho;have hb1:n1.proc.begun=true:=rfl;have hop:n1.proc.op=o:=by unfold Proc.op;rw [ho1];rfl
 have hidx:n1.proc.idx=n.proc.values.length:=by unfold Proc.idx;rw [ho1]
 obtain⟨t1,ht1⟩:∃t1,t1=if n.proc.begun then t else t++[⟨me,n.proc.values.length,false,0⟩]:=⟨_,rfl⟩
 have ht1':(if r.begun=true then t else t++[(⟨me,r.values.length,false,0⟩:Evn)])=t1:=by rw [ht1,S.sim.begun,S.sim.values]
 have hev:t1.length+n.evs=t.length+n1.evs:=by
  rw [ht1];unfold Node.evs;show _=t.length+(2*n.proc.values.length+(if true=true then 1 else 0))
  cases n.proc.begun
  ·simp only [zai,if_false,zan,zal,zaw,if_true];omega
  ·simp only [if_true]
 have lift:∀{A:NFT} {B:ahQ},Both c me n1 t1 A B->Both c me n t A B:=λ{A B} h=> ⟨h.sim,h.eq,h.inv,h.fab,by have:=h.evs;omega⟩
 have hfind:r.cache.find (o.addr.tdiv c.words)=n.cache.find (c.cZ o.addr):=by rw [S.cs.find,O.line]
 have hfull:(n.cache.find (c.cZ o.addr)=none/\0<=o.addr.tdiv c.words/\r.cache.ways<=((r.cache.mF (o.addr.tdiv c.words)).length:Int))↔n.cache.full (c.cZ o.addr)=true:=by
  unfold Cache.full;rw [S.sim.ways,S.cs.count,<-O.line];simp only [zaj,decide_eq_true_eq,Option.isNone_iff_eq_none];exact⟨λh=> ⟨h.1,h.2.2⟩,λh=> ⟨h.1,O.lo,h.2⟩⟩
 unfold Node.work dw.work
 dsimp only
 rw [<-ht1,ht1',hfind];by_cases c1:o.kind=4/\n.cache.find (c.cZ o.addr)=none
 ·rw [if_pos c1,if_pos c1];refine lift ?_;simp only [Node.done,dw.done,Proc.Zf,if_true];have hidx':({ n with proc:={ n.proc with begun:=true } }:Node).proc.idx=n.proc.values.length:=hidx;simp only at hidx';rw [hidx',S.sim.values];refine⟨NS.of S.cs S.hs S.sim.ops rfl rfl S.sim.has S.sim.deal S.sim.num,rfl,⟨⟨I.proc.most,I.proc.right,by simp only [zan,zal,zaw];omega,λh=> by cases h⟩,I.cache,I.rows,I.home,λh=> absurd hd h,?_⟩,F,?_⟩
  ·have:=I.clk;simp only [zan,zal,zaw];omega
  ·simp only [Node.evs,n1,if_true,zan,zal,zaw,zai,if_false];omega
 rw [if_neg c1,if_neg c1];by_cases c2:o.kind=4
 ·rw [if_pos c2,if_pos c2,<-O.line];exact lift (yD hc S1 I1 F t1 ⟨by decide,by decide⟩ O.lo O.hi hb1 λh=> absurd rfl h)
 rw [if_neg c2,if_neg c2];by_cases c3:(n.cache.find (c.cZ o.addr)).isSome=true/\(o.kind=1∨((n.cache.find (c.cZ o.addr)).getD .zero).dirty=true)
 ·rw [if_pos c3,if_pos c3];obtain⟨e,he⟩:=Option.isSome_iff_exists.1 c3.1;have YO:o.kind=2∨o.kind=3->e.dirty=true:=λh=> by
   rcases c3.2 with h' | h'
   ·omega
   ·rw [he] at h';exact h'
  have E:=GL hc (n:={ n1 with cache:=n.cache.touch (c.cZ o.addr) }) (r:={ r1 with cache:=r.cache.touch (c.cZ o.addr) }) (me:=me) (S.cs.touch he) S.sim.values (I.cache.touch he) t1 ho1 R.1 R.2 hb1 (vg I.cache.lines he) (λh=> YO h);have hev2:=E.evs hb1;have hn5:(({ n1 with cache:=n.cache.touch (c.cZ o.addr) }:Node).effect c me t1).1.cache.clock=n.cache.clock+1:=by
   unfold Node.effect Node.done;have hop':({ n1 with cache:=n.cache.touch (c.cZ o.addr) }:Node).proc.op=o:=hop;simp only [hop'];rw [vg I.cache.lines he];simp only [zau];have T:=I.cache.touch he;have hem:=(gu T.lines).1 (vg I.cache.lines he);rw [kU T.lines (x:={ e with used:=n.cache.clock+1 }) (by rw [(kG _ _ _).1];exact(T.ent _ hem.1).lo) ((congrArg (n.cache.touch (c.cZ o.addr)).find (((kG _ _ _).1).trans hem.2)).trans (vg I.cache.lines he))];exact EG I.cache.lines he
  refine lift ?_;rw [<-O.line];have hn1:(({ n1 with cache:=n.cache.touch (c.cZ o.addr) }:Node).effect c me t1).1.deal=n.deal:=by rw [E.JB]
  have hn2:(({ n1 with cache:=n.cache.touch (c.cZ o.addr) }:Node).effect c me t1).1.home=n.home:=by rw [E.JB]
  have hn3:(({ n1 with cache:=n.cache.touch (c.cZ o.addr) }:Node).effect c me t1).1.num=n.num:=by rw [E.JB]
  have hn4:(({ n1 with cache:=n.cache.touch (c.cZ o.addr) }:Node).effect c me t1).1.proc=⟨n.proc.ops,n.proc.values++[(({ n1 with cache:=n.cache.touch (c.cZ o.addr) }:Node).effect c me t1).2.getLast?.elim 0 (·.value)],false⟩:=by rw [E.JB]
  refine⟨NS.of E.sim (by rw [hn2,E.rest];exact S.hs) (by rw [hn4,E.rest];exact S.sim.ops) (by rw [hn4,E.rest]) (by rw [hn4,E.rest]) (by rw [hn1,E.rest];exact S.sim.has) (by rw [hn1,E.rest];exact S.sim.deal) (by rw [hn3,E.rest];exact S.sim.num),?_,⟨⟨by rw [hn4];exact I.proc.most,by rw [hn4];exact I.proc.right,by rw [hn4];simp only [zan,zal,zaw];omega,by rw [hn4];intro h;cases h⟩,E.inv,by rw [hn2];exact I.rows,by rw [hn2];exact I.home,λh=> absurd (by rw [hn1];exact hd) h,?_⟩,F,hev2⟩
  ·show(f,_)=(f,_)
   rw [E.ev]
  ·have:=I.clk;rw [hn5,hn4];simp only [zan,zal,zaw];omega
 rw [if_neg c3,if_neg c3];by_cases c4:n.cache.full (c.cZ o.addr)=true
 ·rw [if_pos c4,if_pos (hfull.2 c4),S.cs.lX I.cache.V9,<-O.line];have hset:n.cache.mF (c.cZ o.addr)≠[]:=by
   intro e;unfold Cache.full at c4;simp only [e,zaw,zaj,decide_eq_true_eq] at c4;have:=(Ll hc).2.2.2.2.1;rw [I.cache.ways] at c4;omega
  obtain⟨e,he⟩:∃e,lG (n.cache.mF (c.cZ o.addr))=some e:=by
   cases h:n.cache.mF (c.cZ o.addr) with
   | nil=> exact absurd h hset
   | cons a l=> exact⟨_,rfl⟩
  have hv:n.cache.lX (c.cZ o.addr)=some e.line:=by unfold Cache.lX;rw [he];rfl
  have hem:e∈n.cache.l:=by
   have:=(tK he).1;unfold Cache.mF at this;exact(zbo.1 this).1
  have E:=I.cache.ent e hem;rw [hv];simp only [zau];exact lift (yD hc S1 I1 F t1 ⟨by decide,by decide⟩ E.lo E.hi hb1 λh=> absurd rfl h)
 rw [if_neg c4,if_neg λh=> c4 (hfull.1 h)];have c4':n.cache.full (c.cZ o.addr)=false:=by simpa using c4
 by_cases c5:o.kind=1
 ·rw [if_pos c5,if_pos c5,<-O.line];exact lift (yD hc S1 I1 F t1 ⟨by decide,by decide⟩ O.lo O.hi hb1 λ_=> ⟨⟨o,ho1,rfl,λ_=> c5,λh=> by omega⟩,c4'⟩)
 ·rw [if_neg c5,if_neg c5,<-O.line];have k1:=O.k1;have k4:=O.k4;exact lift (yD hc S1 I1 F t1 ⟨by decide,by decide⟩ O.lo O.hi hb1 λ_=> ⟨⟨o,ho1,rfl,λh=> by omega,λ_=> by omega⟩,c4'⟩)
theorem YQ {c:Cfg}(hc:c.ok=true){me:Int}{n:Node}{r:dw}(S:NS c me n r)(I:QJ c me n){f:Fab}(F:su c f)(t:List Evn){p:Pkt}(Q:vF c p):
  Both c me n t ((n.asked c me f p).1,(n.asked c me f p).2,t) ((r.asked c me f p).1,(r.asked c me f p).2,t):=by
 unfold Node.asked dw.asked;by_cases hk:p.kind=1∨p.kind=2
 ·rw [if_pos hk,if_pos hk];obtain⟨h1,h2,h3⟩:=S.hs.handle hc I.home p;have hr:=PW (c:=c) (me:=me) I.rows Q.num;have hok:=YM hc S.hs I.rows p;cases hA:n.home.handle c me p with
  | mk h x=>
   cases hB:r.homes.handle c me p with
   | mk rh rx=>
    rw [hA,hB] at h1 h2;rw [hA] at h3 hr hok;simp only at h1 h2 h3 hr hok;subst h2;obtain⟨out,ok,e⟩:=rx;simp only at hok ⊢;refine⟨NS.of S.cs h1 S.sim.ops S.sim.values S.sim.begun S.sim.has S.sim.deal S.sim.num,rfl,⟨I.proc,I.cache,hr,h3,λhs=> ?_,I.clk⟩,?_,rfl⟩
    ·have D:=I.deal hs;exact⟨D.lo,D.hi,D.kind,D.dat,D.aeX,D.roll,λa b=> by have W:=D.work a b;exact⟨W.begun,W.op,W.full⟩,D.rest⟩
    ·simp only;split
     ·exact F.send hok
     ·exact F
 ·rw [if_neg hk,if_neg hk];obtain⟨h1,h2⟩:=V8 S.cs p;obtain⟨i1,i2,i3,i4⟩:=YN I.cache p;cases hA:dU n.cache p with
  | mk ca x=>
   cases hB:DK r.cache p with
   | mk rc rx=>
    rw [hA,hB] at h1 h2;rw [hA] at i1 i2 i3 i4;simp only at h1 h2 i1 i2 i3 i4;subst h2;obtain⟨out,e⟩:=rx;simp only at i2 ⊢;refine⟨NS.of h1 S.hs S.sim.ops S.sim.values S.sim.begun S.sim.has S.sim.deal S.sim.num,rfl,⟨I.proc,i1,I.rows,I.home,λhs=> ?_,by simp only;rw [i3];exact I.clk⟩,?_,rfl⟩
    ·have D:=I.deal hs;exact⟨D.lo,D.hi,D.kind,D.dat,D.aeX,D.roll,λa b=> by have W:=D.work a b;exact⟨W.begun,W.op,i4 _ hc W.full⟩,D.rest⟩
    ·simp only;split
     ·exact F.send i2
     ·exact F
theorem Nv(f:Fab)(i:Int)(req:Bool):(f.take i req).2=none↔f.waiting i req=0:=by
 unfold Fab.take Fab.waiting;split
 ·cases(f.port i).ru req <;> simp
 ·simp
theorem Nw {f:Fab}{i:Int}{req:Bool}(h:(f.take i req).2=none):(f.take i req).1=f:=by
 unfold Fab.take at h ⊢;split
 ·rename_i hi;rw [if_pos hi] at h;cases hl:(f.port i).ru req with
  | nil=> rfl
  | cons p l=> rw [hl] at h;cases h
 ·rfl
theorem abq {c:Cfg}(hc:c.ok=true){me:Int}{n:Node}{r:dw}(S:NS c me n r)(I:QJ c me n){f:Fab}(F:su c f)(t:List Evn):
  Both c me n t (n.step c me f t).1 (r.step c me f t).1/\(r.step c me f t).2=(n.step c me f t).2:=by
 unfold Node.step dw.step;obtain⟨t1,t2⟩:=F.take me false;cases h1:f.take me false with
 | mk f' x=>
  rw [h1] at t1 t2;cases x with
  | some p=> exact⟨Nu hc S I t1 t (t2 p rfl),rfl⟩
  | none=>
   simp only;have hroom:=F.room me false;have aly:=S.hs.ready I.home;rw [aly];by_cases hg:n.home.ready≠[]/\f.roomOf me false≠0
   ·rw [if_pos hg,if_pos (show 0 < f.roomOf me false/\n.home.ready≠[] from⟨by omega,hg.1⟩)];obtain⟨g1,g2,g3⟩:=S.hs.grant I.home;refine⟨⟨NS.of S.cs g1 S.sim.ops S.sim.values S.sim.begun S.sim.has S.sim.deal S.sim.num,by simp only [g2],⟨I.proc,I.cache,?_,g3,λhs=> ?_,I.clk⟩,F.send ?_,rfl⟩,rfl⟩
    ·have:(n.home.grant me).1.rows=n.home.rows:=by
      unfold Home.grant;cases n.home.ready with
      | nil=> rfl
      | cons line l=>
       simp only;cases n.home.turns.next line with
       | mk tt w=> cases w <;> rfl
     simp only;rw [this];exact I.rows
    ·have D:=I.deal hs;exact⟨D.lo,D.hi,D.kind,D.dat,D.aeX,D.roll,λa b=> by have W:=D.work a b;exact⟨W.begun,W.op,W.full⟩,D.rest⟩
    ·unfold Home.grant;cases hr:n.home.ready with
     | nil=> exact absurd hr hg.1
     | cons line l=>
      have hm:=(DV hr).2.2;have hh:lI c me line=true:=by
       obtain⟨e,he,rfl⟩:=zaM.1 hm;exact I.home.here e he
      simp only;cases n.home.turns.next line with
      | mk tt w=>
       cases w with
       | none=> exact uZ rfl (by simp [Pkt.zero])
       | some w=> exact GN S.hs I.rows hh _ _
   ·rw [if_neg hg,if_neg (show¬(0 < f.roomOf me false/\n.home.ready≠[]) by rintro⟨a,b⟩;exact hg ⟨b,by omega⟩)];have hw:=Nv f me true;obtain⟨u1,u2⟩:=F.take me true;by_cases hr:f.roomOf me false=0∨f.waiting me true=0
    ·have e1:(if f.roomOf me false=0 then(f,none) else f.take me true).2=(none:Option Pkt):=by
      split
      ·rfl
      ·rcases hr with hr | hr
       ·rename_i h;exact absurd hr h
       ·exact hw.2 hr
     rw [if_neg (show¬(0 < f.roomOf me false/\0 < f.waiting me true) by rintro⟨a,b⟩;rcases hr with hr | hr <;> omega)];cases hx:(if f.roomOf me false=0 then(f,none) else f.take me true:Fab × Option Pkt) with
     | mk f2 y=>
      rw [hx] at e1;simp only at e1;subst e1;simp only;have hcur:r.ops[r.values.length]?=n.proc.cur:=by rw [S.sim.ops,S.sim.values];rfl
      rw [hcur];cases hcu:n.proc.cur with
      | none=> exact⟨⟨S,rfl,I,F,rfl⟩,rfl⟩
      | some o=>
       simp only;by_cases hd:n.deal.step=0
       ·have hh:r.has=false:=by rw [S.sim.has];simp [hd]
        rw [if_pos hd,if_pos hh];exact⟨abp hc S I F t hcu hd,rfl⟩
       ·have hh:¬r.has=false:=by rw [S.sim.has];simp [hd]
        rw [if_neg hd,if_neg hh];exact⟨⟨S,rfl,I,F,rfl⟩,rfl⟩
    ·simp only [not_or] at hr;rw [if_neg hr.1,if_pos (show 0 < f.roomOf me false/\0 < f.waiting me true from⟨by omega,by omega⟩)];cases hx:f.take me true with
     | mk f2 y=>
      rw [hx] at hw u1 u2;simp only at hw u1 u2;cases y with
      | none=> exact absurd (hw.1 rfl) hr.2
      | some p=>
       simp only [zau];exact⟨YQ hc S I u1 t (u2 p rfl),by first | trivial | rfl⟩
structure MInv(m:fE):Prop where
 ok:m.c.ok=true
 len:(m.nodes.length:Int)=m.c.nodes
 fab:su m.c m.fab
 node:∀(i:Nat) n,m.nodes[i]?=some n->QJ m.c i n
 evs:m.trace.length=(m.nodes.map Node.evs).sum
structure Zh(m:fE)(r:eG):Prop where
 c:r.c=m.c
 len:r.nodes.length=m.nodes.length
 fab:r.fab=m.fab.l
 ev:r.ev=m.trace
 node:∀(i:Nat) n rn,m.nodes[i]?=some n->r.nodes[i]?=some rn->NS m.c i n rn
theorem Zh.sim {m:fE}{r:eG}(S:Zh m r):Sim m r:=⟨S.c,S.len,S.fab,S.ev,λi n rn h1 h2=> (S.node i n rn h1 h2).sim⟩
theorem Zh.acQ {m:fE}{r:eG}(S:Zh m r)(I:MInv m):r.acQ=m.fab:=by
 unfold eG.acQ;rw [S.c,S.fab,<-I.fab.out,<-I.fab.inn]
theorem YR {α:Type}(f:α->Nat):∀{l:List α} {i:Nat} {a a':α},l[i]?=some a->((l.set i a').map f).sum+f a=(l.map f).sum+f a'
 | [],i,a,a',h=> by simp at h
 | x::l,0,a,a',h=> by
  simp only [zaZ,zaa] at h;subst h;simp only [List.set_cons_zero,zaB,zcl];omega
 | x::l,i+1,a,a',h=> by
  simp only [zbG] at h;have:=YR f (a':=a') h;simp only [List.set_cons_succ,zaB,zcl];omega
theorem YS {m:fE}{r:eG}(S:Zh m r)(I:MInv m)(i:Int):Zh (m.step i).1 (r.step i).1/\MInv (m.step i).1/\(r.step i).2=(m.step i).2:=by
 unfold fE.step eG.step fE.node;by_cases h0:0<=i
 ·rw [if_pos h0,if_pos h0];cases hn:m.nodes[i.toNat]? with
  | none=>
   have:r.nodes[i.toNat]?=none:=by
    rw [List.getElem?_eq_none_iff] at hn ⊢;rw [S.len];exact hn
   rw [this];exact⟨S,I,rfl⟩
  | some n=>
   have hi:=(zaf.1 hn).1;obtain⟨rn,hr⟩:∃rn,r.nodes[i.toNat]?=some rn:=⟨_,zab (by rw [S.len];exact hi)⟩
   rw [hr];have hii:((i.toNat:Nat):Int)=i:=by omega
   have N:=S.node i.toNat n rn hn hr;have NI:=I.node i.toNat n hn;rw [hii] at N NI;obtain⟨b1,b2⟩:=abq I.ok N NI I.fab m.trace;have hf:=S.acQ I;simp only [S.c,hf,S.ev];cases hA:n.step m.c i m.fab m.trace with
   | mk A k=>
    cases hB:rn.step m.c i m.fab m.trace with
    | mk B rk=>
     rw [hA,hB] at b1 b2;simp only at b1 b2;subst b2;obtain⟨n',f',t'⟩:=A;obtain⟨rn',rf',rt'⟩:=B;have he:=b1.eq;simp only [zad] at he;obtain⟨rfl,rfl⟩:=he;refine⟨⟨rfl,by simp only [zb3];exact S.len,rfl,rfl,λj a b ha hb=> ?_⟩,⟨I.ok,by simp only [zb3];exact I.len,b1.fab,λj a ha=> ?_,?_⟩,rfl⟩
     ·simp only at ha hb ⊢;by_cases hj:j=i.toNat
      ·subst hj;rw [zbw hi] at ha;rw [zbw (by rw [S.len];exact hi)] at hb;cases ha;cases hb;rw [hii];exact b1.sim
      ·rw [zbT (λe=> hj e.symm)] at ha hb;exact S.node j a b ha hb
     ·simp only at ha ⊢;by_cases hj:j=i.toNat
      ·subst hj;rw [zbw hi] at ha;cases ha;rw [hii];exact b1.inv
      ·rw [zbT (λe=> hj e.symm)] at ha;exact I.node j a ha
     ·have e1:=YR Node.evs (a':=n') hn;have e2:=b1.evs;have e3:=I.evs;simp only at e2 ⊢;omega
 ·rw [if_neg h0,if_neg h0];exact⟨S,I,rfl⟩
theorem Ny {m:fE}{r:eG}(S:Zh m r)(I:MInv m)(a b k:Int):Zh (m.deliver a b k).1 (r.deliver a b k).1/\MInv (m.deliver a b k).1/\(r.deliver a b k).2=(m.deliver a b k).2:=by
 unfold fE.deliver eG.deliver;rw [S.acQ I];exact⟨⟨S.c,S.len,rfl,S.ev,S.node⟩,⟨I.ok,I.len,I.fab.deliver a b k,I.node,I.evs⟩,rfl⟩
section
variable {b:Nat}{H:aj}{g:Store}{q:Nat}{ca:Cache}
theorem YT(G:Good b H g)(hb:H.base<=b)(h:g q=some (bg ca))(C:COk ca)(p:Pkt):
  ∃H',cl 165 [.ref q 0 0,.agg p.av] H=some (UR (dU ca p),H')/\Good b H' (upd g q (bg (dU ca p).1))/\Step b H H':=by
 by_cases hx:(!p.ok || decide (p.kind < 3) || decide (6 < p.kind))=true
 ·exact Nq G hb h C p (.inl hx)
 ·cases hf:ca.find p.line with
  | none=> exact Nq G hb h C p (.inr hf)
  | some e=> exact abk G hb h C p hx hf
end
theorem fok {c:Cfg}(hc:c.ok=true){f:Fab}(F:su c f):FOk c f:=by
 have B:=pJ hc;refine⟨hc,by have:=F.len;have:=B.nodes;omega,λp hp s hs=> ?_,λp hp s hs q hq=> ?_⟩
 ·have P:=F.port p hp
  match s,hs with
  | 0,_=> exact P.rq
  | 1,_=> exact P.rin
  | 2,_=> exact P.an
  | 3,_=> exact P.ain
 ·have P:=F.port p hp;have Q:vF c q:=by
   match s,hs with
   | 0,_=> exact P.pkt q (.inl hq)
   | 1,_=> exact P.pkt q (.inr (.inr (.inl hq)))
   | 2,_=> exact P.pkt q (.inr (.inl hq))
   | 3,_=> exact P.pkt q (.inr (.inr (.inr hq)))
  have:=Q.ok;simp only [Pkt.ok,zaj,decide_eq_true_eq] at this;omega
theorem Nz {c:Cfg}{p:Pkt}(Q:vF c p):p.data.length < 1000000000:=by
 have:=Q.ok;simp only [Pkt.ok,zaj,decide_eq_true_eq] at this;omega
structure HSz(h:Home):Prop where
 t:TOk h.turns
 r:∀e∈h.rows,e.2.data.length < 1000000000
theorem NC {h:Home}(hr:∀e∈h.rows,e.2.data.length < 1000000000)(line:Int):(rowOf h.rows line).data.length < 1000000000:=by
 unfold rowOf;cases ha:iV h.rows line with
 | none=> exact(show(0:Nat) < 1000000000 by decide)
 | some r=> exact hr _ (oK ha)
def kZ(c:Cfg)(me:Int)(n:Node)(p:Pkt):Node × Pkt × Bool:=
 if p.kind=1∨p.kind=2 then({ n with home:=(n.home.handle c me p).1 },(n.home.handle c me p).2.1,(n.home.handle c me p).2.2.1 && decide ((n.home.handle c me p).2.2.2=0))
 else({ n with cache:=(dU n.cache p).1 },(dU n.cache p).2.1,decide ((dU n.cache p).2.2=0))
theorem abr(c:Cfg)(me:Int)(n:Node)(f:Fab)(p:Pkt):n.asked c me f p=((kZ c me n p).1,if(kZ c me n p).2.2=true then(f.send (kZ c me n p).2.1).1 else f):=by
 unfold Node.asked kZ;split
 ·rcases h:n.home.handle c me p with⟨h1,o,ok,e⟩
  simp
 ·rcases h:dU n.cache p with⟨h1,o,e⟩
  simp
theorem ND {c:Cfg}{me:Int}{n:Node}(C:COk n.cache)(Z:HSz n.home)(p:Pkt):(kZ c me n p).2.1.data.length < 1000000000:=by
 have z0:(0:Nat) < 1000000000:=by decide
 unfold kZ;split
 ·simp only [Home.handle]
  repeat' split
  all_goals first | exact z0 | exact NC Z.r _
 ·simp only [dU];split
  ·exact z0
  ·cases hf:n.cache.find p.line with
   | none=> exact z0
   | some e=>
    have he:=C.dat e (za3 hf);simp only
    repeat' split
    all_goals first | exact z0 | exact he
section
variable {b:Nat}{H:aj}{g0:Store}{S:NY}{c:Cfg}{me:Int}{k:Nat}{K K':aj}{g:Store}{ls:Lcl}{w w':NFT}
theorem YU(W:Walk b H g0 S c me k K g ls w)(hc:c.ok=true)(C:COk w.1.cache)(Z:HSz w.1.home)(p:Pkt)(hpl:p.data.length < 1000000000):
  ∃K' g',cl 111 [.ref (S.a 0) 0 0,.agg p.av] K=some (.tup [.agg (kZ c me w.1 p).2.1.av,B (kZ c me w.1 p).2.2],K')/\Walk b H g0 S c me k K' g' ls ((kZ c me w.1 p).1,w.2):=by
 have W0:=Walk.of W.loc.good W.base W.Nr;have W1:=W0.newL (ty:=70) (xs:=p.av) (r:=K.next) (aI p) rfl;have W2:=W1.newL (ty:=70) (xs:=zP9) (r:=K.next+1) rfl (by rw [nNew]);have W3:=W2.newL (ty:=70) (xs:=zP9) (r:=K.next+1+1) rfl (by rw [nNew,nNew]);have k2:fF (fF noL K.next p.av) (K.next+1) zP9 K.next=some p.av:=by rw [aA (by omega),ak]
 have k3:fF (fF (fF noL K.next p.av) (K.next+1) zP9) (K.next+1+1) zP9 K.next=some p.av:=by rw [aA (by omega)];exact k2
 have k4:fF (fF (fF noL K.next p.av) (K.next+1) zP9) (K.next+1+1) zP9 (K.next+1)=some zP9:=by rw [aA (by omega),ak]
 have k5:fF (fF (fF noL K.next p.av) (K.next+1) zP9) (K.next+1+1) zP9 (K.next+1+1)=some zP9:=ak;have lk:=W2.loc.ld k2 (i:=0) (v:=I p.kind) rfl;have lp:=W3.loc.lda k3 (i:=0) (n:=9) (ys:=p.av) rfl rfl (by decide);have lh:=W3.ldN (i:=11) (v:=.ref (S.a 3) 0 0) rfl;have lc:=W3.ldN (i:=0) (v:=.ref (S.a 1) 0 0) rfl
 -- the end
 have fin:∀{K4:aj} {g4:Store} {n':Node} {out:Pkt} {v:AV},Walk b K (lay g ls) S c me w.2.1.l.length K4 g4 (fF (fF (fF noL K.next p.av) (K.next+1) zP9) (K.next+1+1) zP9) (n',w.2)->
   (∀f args,cl f args (((K.new (.blk 0 70 p.av)).new (.blk 0 70 zP9)).new (.blk 0 70 zP9))=some (v,K4)->
   (∀{β:Type} (kk:Option β),ckR (K.next+1+1) (K.next+1+1+1) (((K.new (.blk 0 70 p.av)).new (.blk 0 70 zP9)).new (.blk 0 70 zP9)) K4 kk=kk)/\
   ∃K5 K6 g',st 9 (.ref (K.next+1+1) 0 0) (.agg out.av) K4=some (aN,K5)/\lda 9 (.ref (K.next+1+1) 0 0) K5=some (.agg out.av,K5)/\st 9 (.ref (K.next+1) 0 0) (.agg out.av) K5=some (aN,K6)/\lda 9 (.ref (K.next+1) 0 0) K6=some (.agg out.av,K6)/\Walk b H g0 S c me k K6 g' ls (n',w.2)):=by
  intro K4 g4 n' out v W4 f args hcl;refine⟨λkk=> alr λr h1 h2=> ?_,?_⟩
  ·obtain rfl:r=K.next+1+1:=by omega
   exact SA W3.loc.good W4.loc.good (Sm _ _ _ _ _ hcl) (mZ k5) (mZ k5)
  ·obtain⟨K5,u1,u2,W5⟩:=W4.whole k5 (n:=9) (vs:=out.av) rfl (aT _) (by decide) (aI _);obtain⟨K6,u3,u4,W6⟩:=W5.whole (r:=K.next+1) (xs:=zP9) (by rw [aA (by omega)];exact k4) (n:=9) (vs:=out.av) rfl (aT _) (by decide) (aI _);obtain⟨g',W'⟩:=W.app (K':=K6) (w':=(n',w.2)) (by
    have:=W6.res;rw [W.len] at this;exact this)
   exact⟨K5,K6,g',u1,u2,u3,u4,W'⟩
 by_cases hk:p.kind=1∨p.kind=2
 ·have hm:kZ c me w.1 p=({ w.1 with home:=(w.1.home.handle c me p).1 },(w.1.home.handle c me p).2.1,(w.1.home.handle c me p).2.2.1 && decide ((w.1.home.handle c me p).2.2.2=0)):=by unfold kZ;rw [if_pos hk]
  rw [hm];have HI:=W3.Nr.node.2.2.2;obtain⟨K4,a1,a2,a3⟩:=Yw W3.loc.good W3.base HI hc Z.t.nd Z.t.ws Z.r p hpl;have W4:=W3.home a2 a3;obtain⟨ck,K5,K6,g',u1,u2,u3,u4,W'⟩:=fin W4 _ _ a1 (out:=(w.1.home.handle c me p).2.1);refine⟨K6,g',aO rfl rfl (ac5 _ _ _ _ ?_),W'⟩;simp only [Sv] at a1;obtain⟨ok,hok⟩:∃ok,(w.1.home.handle c me p).2.2.1=ok:=⟨_,rfl⟩
  rw [hok] at a1 ⊢;have cR:∀{β:Type} (kk:Option β),ckR ((K.new (.blk 0 70 p.av)).new (.blk 0 70 zP9)).next (((K.new (.blk 0 70 p.av)).new (.blk 0 70 zP9)).new (.blk 0 70 zP9)).next (((K.new (.blk 0 70 p.av)).new (.blk 0 70 zP9)).new (.blk 0 70 zP9)) K4 kk=kk:=by
   intro β kk;simp only [nNew];exact ck kk
  rcases hk with h1 | h1
  ·rw [h1] at lk;cases ok with
   | true=> simp -implicitDefEqProofs only [Nat.reduceLT,xq_,F9,aB (aI p),lk,lh,lp,a1,ck,u1,u2,u3,u4,zaN]
   | false=> simp -implicitDefEqProofs only [Nat.reduceLT,xq_,F9,aB (aI p),lk,lh,lp,a1,ck,u1,u2,u3,u4,zaP]
  ·rw [h1] at lk;cases ok with
   | true=> simp -implicitDefEqProofs only [Nat.reduceLT,Int.reduceEq,xq_,F9,aB (aI p),lk,lh,lp,a1,ck,u1,u2,u3,u4,zaN]
   | false=> simp -implicitDefEqProofs only [Nat.reduceLT,Int.reduceEq,xq_,F9,aB (aI p),lk,lh,lp,a1,ck,u1,u2,u3,u4,zaP]
 ·have hm:kZ c me w.1 p=({ w.1 with cache:=(dU w.1.cache p).1 },(dU w.1.cache p).2.1,decide ((dU w.1.cache p).2.2=0)):=by unfold kZ;rw [if_neg hk]
  rw [hm];obtain⟨K4,a1,a2,a3⟩:=YT W3.loc.good W3.base (W3.loc.obj W3.nw.node.2.1) C p;have W4:=W3.cache a2 a3;obtain⟨ck,K5,K6,g',u1,u2,u3,u4,W'⟩:=fin W4 _ _ a1 (out:=(dU w.1.cache p).2.1);refine⟨K6,g',aO rfl rfl (ac5 _ _ _ _ ?_),W'⟩;have h1:¬p.kind=1:=λh=> hk (.inl h);have h2:¬p.kind=2:=λh=> hk (.inr h);simp only [UR] at a1;simp -implicitDefEqProofs only [Nat.reduceLT,xq_,F9,aB (aI p),lk,h1,h2,lc,lp,a1,ck,u1,u2,u3,u4]
end
section
variable {b:Nat}{H:aj}{g0:Store}{S:NY}{c:Cfg}{me:Int}{k:Nat}{K K':aj}{g:Store}{ls:Lcl}{w w':NFT}
theorem take_len(f:Fab)(i:Int)(req:Bool):(f.take i req).1.l.length=f.l.length:=by
 unfold Fab.take;split
 ·split
  ·rfl
  ·simp [Fab.put]
 ·rfl
theorem Walk.zJ(W:Walk b H g0 S c me k K g ls w)(F:FOk c w.2.1):∃K' g',cl 110 [.ref S.f 0 0,I me] K=some (eU (w.2.1.take me true).2,K')/\Walk b H g0 S c me k K' g' ls (w.1,(w.2.1.take me true).1,w.2.2):=by
 obtain⟨K',g1,h1,h2,h3,h4,h5⟩:=Proofs.YthmoogcacpmjiaaGreat.zJ W.loc.good W.base W.Nr.fab W.nw.RH F me;obtain⟨g',W'⟩:=W.net h2 h3 (take_len _ _ _) h4 h5;exact⟨K',g',h1,W'⟩
theorem Walk.Jy(W:Walk b H g0 S c me k K g ls w)(F:FOk c w.2.1):∃K' g',cl 100 [.ref S.f 0 0,I me] K=some (eU (w.2.1.take me false).2,K')/\Walk b H g0 S c me k K' g' ls (w.1,(w.2.1.take me false).1,w.2.2):=by
 obtain⟨K',g1,h1,h2,h3,h4,h5⟩:=Proofs.YthmoogcacpmjiaaGreat.Jy W.loc.good W.base W.Nr.fab W.nw.RH F me;obtain⟨g',W'⟩:=W.net h2 h3 (take_len _ _ _) h4 h5;exact⟨K',g',h1,W'⟩
theorem Walk.room(W:Walk b H g0 S c me k K g ls w)(F:FOk c w.2.1)(req:Bool):∃K',cl 107 [.ref S.f 0 0,I me,B req] K=some (I (w.2.1.roomOf me req),K')/\Walk b H g0 S c me k K' g ls w:=by
 obtain⟨K',h1,h2,h3⟩:=af6 W.loc.good W.base W.Nr.fab F me req;exact⟨K',h1,W.same h2 h3⟩
theorem PX(W:Walk b H g0 S c me k K g ls w)(hc:c.ok=true)(F:su c w.2.1)(C:COk w.1.cache)(Z:HSz w.1.home):
  ∃K' g',match(if w.2.1.roomOf me false=0 then(w.2.1,none) else w.2.1.take me true) with
   | (f',some p)=> cl 69 [.ref (S.a 0) 0 0,.ref S.f 0 0] K=some (B true,K')/\Walk b H g0 S c me k K' g' ls ((w.1.asked c me f' p).1,(w.1.asked c me f' p).2,w.2.2)
   | (_,none)=> cl 69 [.ref (S.a 0) 0 0,.ref S.f 0 0] K=some (B false,K')/\Walk b H g0 S c me k K' g' ls w:=by
 have W0:=Walk.of W.loc.good W.base W.Nr;have li:=W0.ldN (i:=10) (v:=I me) rfl;obtain⟨K1,a1,W1⟩:=W0.room (fok hc F) false;by_cases hr:w.2.1.roomOf me false=0
 ·simp only [if_pos hr];rw [hr] at a1;obtain⟨g',W'⟩:=W.app (K':=K1) (w':=w) (by
   have:=W1.res;rw [W.len] at this;exact this)
  refine⟨K1,g',aO rfl rfl (aay _ _ _ _ ?_),W'⟩;simp -implicitDefEqProofs only [xq_,WV,li,a1]
 ·simp only [if_neg hr];have li1:=W1.ldN (i:=10) (v:=I me) rfl;obtain⟨K2,g2,b1,W2⟩:=W1.zJ (fok hc F);obtain⟨F2,Q2⟩:=F.take me true;have W3:=W2.newL (ty:=70) (xs:=zP9) (r:=K2.next) rfl rfl;cases ht:w.2.1.take me true with
  | mk f' po=>
   rw [ht] at b1 W2 W3 F2 Q2;simp only at b1 W2 W3 F2 Q2;obtain⟨K4,u1,u2,W4⟩:=W3.whole ak (n:=9) (vs:=(po.getD .zero).av) rfl (aT _) (by decide) (aI _);simp only [eU] at b1;cases po with
   | none=>
    simp only [zaY,zaL] at b1 u1 u2;have hf':f'=w.2.1:=by
     have:=Nw (f:=w.2.1) (i:=me) (req:=true) (by rw [ht]);rw [ht] at this;exact this
    subst hf';obtain⟨g',W'⟩:=W.app (K':=K4) (w':=w) (by
     have:=W4.res;rw [W.len] at this;exact this)
    refine⟨K4,g',aO rfl rfl (aay _ _ _ _ ?_),W'⟩;simp -implicitDefEqProofs only [xq_,WV,li,a1,hr,li1,b1,u1,zak]
   | some p=>
    simp only [zau,zaJ] at b1 u1 u2;have Q:=Q2 p rfl;obtain⟨K5,g5,c1,W5⟩:=YU W4 hc C Z p (Nz Q);have W6:=W5.newL (ty:=70) (xs:=zP9) (r:=K5.next) rfl rfl;obtain⟨K7,u3,u4,W7⟩:=W6.whole ak (n:=9) (vs:=(kZ c me w.1 p).2.1.av) rfl (aT _) (by decide) (aI _);simp only [abr];cases hok:(kZ c me w.1 p).2.2 with
    | false=>
     rw [hok] at c1;obtain⟨g',W'⟩:=W.app (K':=K7) (w':=((kZ c me w.1 p).1,f',w.2.2)) (by
      have:=W7.res;rw [W.len] at this;exact this)
     refine⟨K7,g',aO rfl rfl (aay _ _ _ _ ?_),by simpa using W'⟩;simp -implicitDefEqProofs only [xq_,WV,I7,li,a1,hr,li1,b1,u1,u2,zae,c1,u3]
    | true=>
     rw [hok] at c1;obtain⟨K8,g8,d1,W8⟩:=W7.send (fok hc F2) (kZ c me w.1 p).2.1 (ND C Z p);obtain⟨g',W'⟩:=W.app (K':=K8) (w':=((kZ c me w.1 p).1,(f'.send (kZ c me w.1 p).2.1).1,w.2.2)) (by
      have:=W8.res;rw [W.len] at this;exact this)
     refine⟨K8,g',aO rfl rfl (aay _ _ _ _ ?_),by simpa using W'⟩;simp -implicitDefEqProofs only [xq_,WV,I7,li,a1,hr,li1,b1,u1,u2,zae,c1,u3,u4,d1]
theorem YV(W:Walk b H g0 S c me k K g ls w)(hc:c.ok=true)(F:su c w.2.1)(Z:HSz w.1.home):
  ∃K' g',if w.1.home.ready≠[]/\w.2.1.roomOf me false≠0 then
    cl 68 [.ref (S.a 0) 0 0,.ref S.f 0 0] K=some (B true,K')/\Walk b H g0 S c me k K' g' ls ({ w.1 with home:=(w.1.home.grant me).1 },(w.2.1.send (w.1.home.grant me).2.1).1,w.2.2)
   else cl 68 [.ref (S.a 0) 0 0,.ref S.f 0 0] K=some (B false,K')/\Walk b H g0 S c me k K' g' ls w:=by
 have W0:=Walk.of W.loc.good W.base W.Nr;have lh:=W0.ldN (i:=11) (v:=.ref (S.a 3) 0 0) rfl;have li:=W0.ldN (i:=10) (v:=I me) rfl;have e1:=Ux W0.loc.good W0.Nr.node.2.2.2 Z.t;by_cases h1:w.1.home.ready=[]
 ·simp only [if_neg (show¬(w.1.home.ready≠[]/\w.2.1.roomOf me false≠0) from λh=> h.1 h1)];have hd:decide (w.1.home.ready≠[])=false:=by rw [decide_eq_false];exact λh=> h h1
  rw [hd] at e1;refine⟨K,g,aO rfl rfl (afk _ _ _ _ ?_),W⟩;simp -implicitDefEqProofs only [xq_,aax,lh,e1,zak]
 ·have hd:decide (w.1.home.ready≠[])=true:=decide_eq_true h1;rw [hd] at e1;obtain⟨K1,a1,W1⟩:=W0.room (fok hc F) false;by_cases hr:w.2.1.roomOf me false=0
  ·simp only [if_neg (show¬(w.1.home.ready≠[]/\w.2.1.roomOf me false≠0) from λh=> h.2 hr)];rw [hr] at a1;obtain⟨g',W'⟩:=W.app (K':=K1) (w':=w) (by
    have:=W1.res;rw [W.len] at this;exact this)
   refine⟨K1,g',aO rfl rfl (afk _ _ _ _ ?_),W'⟩;simp -implicitDefEqProofs only [xq_,aax,lh,e1,zae,li,a1]
  ·simp only [if_pos (show w.1.home.ready≠[]/\w.2.1.roomOf me false≠0 from⟨h1,hr⟩)];have lh1:=W1.ldN (i:=11) (v:=.ref (S.a 3) 0 0) rfl;obtain⟨K2,b1,b2,b3⟩:=abl W1.loc.good W1.base W1.Nr.node.2.2.2 Z.t Z.r;have W2:=W1.home b2 b3;have W3:=W2.newL (ty:=70) (xs:=zP9) (r:=K2.next) rfl rfl;obtain⟨K4,u1,u2,W4⟩:=W3.whole ak (n:=9) (vs:=(w.1.home.grant me).2.1.av) rfl (aT _) (by decide) (aI _);have hsm:(w.1.home.grant me).2.1.data.length < 1000000000:=by
    have z0:(0:Nat) < 1000000000:=by decide
    unfold Home.grant
    repeat' split
    all_goals first | exact z0 | exact NC Z.r _
   obtain⟨K5,g5,d1,W5⟩:=W4.send (fok hc F) (w.1.home.grant me).2.1 hsm;obtain⟨g',W'⟩:=W.app (K':=K5) (w':=({ w.1 with home:=(w.1.home.grant me).1 },(w.2.1.send (w.1.home.grant me).2.1).1,w.2.2)) (by
    have:=W5.res;rw [W.len] at this;exact this)
   refine⟨K5,g',aO rfl rfl (afk _ _ _ _ ?_),W'⟩;simp -implicitDefEqProofs only [xq_,aax,lh,e1,zae,li,a1,hr,lh1,b1,u1,u2,d1]
theorem Walk.YW(W:Walk b H g0 S c me k K g ls w)(d:bD):∃K' g',st 9 (.ref (S.a 0) 0 12) (.agg d.av) K=some (aN,K')/\Walk b H g0 S c me k K' g' ls ({ w.1 with deal:=d },w.2):=by
 obtain⟨K',h1,h2,h3,_⟩:=W.loc.good.stores W.base (W.loc.obj W.nw.node.1) (i:=12) (n:=9) (vs:=d.av) (by rw [fA];decide) rfl (aP d);have e:mY (uh S.a c me w.1.deal w.1.num) 12 d.av=uh S.a c me d w.1.num:=rfl;rw [e] at h2;exact⟨K',_,h1,W.own h2 h3⟩
theorem Walk.alz(W:Walk b H g0 S c me k K g ls w)(z:Int):∃K' g',st 1 (.ref (S.a 0) 0 21) (I z) K=some (aN,K')/\Walk b H g0 S c me k K' g' ls ({ w.1 with num:=z },w.2):=by
 obtain⟨K',h1,h2,h3,_⟩:=W.loc.good.store W.base (W.loc.obj W.nw.node.1) (i:=21) (v:=I z) (by rw [fA];decide) bQ;have e:(uh S.a c me w.1.deal w.1.num).set 21 (.av (I z))=uh S.a c me w.1.deal z:=rfl;rw [e] at h2;exact⟨K',_,h1,W.own h2 h3⟩
theorem yE(W:Walk b H g0 S c me k K g ls w)(hc:c.ok=true)(F:su c w.2.1)(hn:0<=w.1.num/\w.1.num < 1000000)(kind line:Int):
  ∃K' g',cl 115 [.ref (S.a 0) 0 0,.ref S.f 0 0,I kind,I line] K=some (.tup [],K')/\Walk b H g0 S c me k K' g' ls ((w.1.begin_ c me w.2.1 kind line).1,(w.1.begin_ c me w.2.1 kind line).2,w.2.2):=by
 have ln:=W.ldN (i:=21) (v:=I w.1.num) rfl;have e1:=abg K kind line w.1.num;obtain⟨K1,g1,a1,W1⟩:=W.YW (.begin kind line w.1.num);have ln1:=W1.ldN (i:=21) (v:=I w.1.num) rfl;have w1:=wrap_i64 (a:=w.1.num+1) (by omega) (by omega);have aoh:=qV (P:=Tryz.prog) (k:=.i64) (t:=3) (a:=w.1.num+1) (b:=4096) (by decide);obtain⟨K2,g2,b1,W2⟩:=W1.alz ((w.1.num+1).tmod 4096);obtain⟨K3,g3,d1,W3⟩:=PV W2 hc (fok hc F) (show(0:Nat) < 1000000000 by decide);refine⟨K3,g3,aO rfl rfl (ajo _ _ _ _ _ _ ?_),W3⟩;simp -implicitDefEqProofs only [xq_,ac7,ln,e1,a1,ln1,bf,w1,aoh,b1,d1]
end
theorem short:∀(n:Nat) (l:List Int),l.Nodup->(∀x∈l,0<=x/\x < n)->l.length<=n
 | 0,[],_,_=> zac _
 | 0,x::l,_,h=> by have:=h x (by simp);omega
 | n+1,l,hd,h=> by
  by_cases hm:(n:Int)∈l
  ·have h1:=short n (l.erase n) (hd.erase (n:Int)) λx hx=> by
    have:=(hd.mem_erase_iff).1 hx;have:=h x this.2;omega
   rw [List.length_erase_of_mem hm] at h1;omega
  ·have:=short n l hd λx hx=> by
    have:=h x hx;have:x≠n:=λe=> hm (e ▸ hx);omega
   omega
theorem cok {c:Cfg}(hc:c.ok=true){ca:Cache}(I:DW c ca)(hk:ca.clock < 1000000000):COk ca:=by
 have B:=pJ hc;refine⟨?_,by rw [I.sets];exact B.sets.1,⟨I.aeW,hk⟩,λe he=> ?_,λe he=> ?_⟩
 ·have h1:(ca.l.map (·.line)).Nodup:=List.pairwise_map.2 I.lines;have:=short c.lines.toNat _ h1 λx hx=> by
   obtain⟨e,he,rfl⟩:=zaM.1 hx;have E:=I.ent e he;have h1:=E.lo;have h2:=E.hi;omega
  rw [zaE] at this;have:=B.lines;omega
 ·have:=(I.ent e he).dat.1;have:=B.words;omega
 ·have:=I.ent e he;exact⟨this.u0,by have:=this.used;omega⟩
theorem psz {c:Cfg}{p:Proc}(I:aoz c p):PSz p:=⟨by have:=I.most;omega,I.vals⟩
theorem hsz {c:Cfg}(hc:c.ok=true){me:Int}{n:Node}(I:QJ c me n)(hw:∀line,(n.home.turns.ws line).length < 1000000):HSz n.home:=by
 have B:=pJ hc;have hk:∀e∈n.home.turns.wait,0<=e.1/\e.1 < c.lines:=λe he=> by
  have:=I.home.here e he;unfold lI at this;simp only [zaj,decide_eq_true_eq] at this;omega
 refine⟨⟨I.home.turns.wk,λe he=> by have:=hk e he;have:=B.lines;omega,?_,hw⟩,λe he=> by have:=(I.rows e he).1;have:=B.words;omega⟩;have:=short c.lines.toNat _ I.home.turns.wk λx hx=> by
  obtain⟨e,he,rfl⟩:=zaM.1 hx;have:=hk e he;omega
 rw [zaE] at this;have:=B.lines;omega
section
variable {b:Nat}{H:aj}{g0:Store}{S:NY}{c:Cfg}{me:Int}{k:Nat}{K K':aj}{g:Store}{ls:Lcl}{w w':NFT}
def agj(c:Cfg)(me:Int)(n:Node)(f:Fab)(t:List Evn)(o:Opn):NFT:=
 let line:=c.cZ o.addr;let e:=n.cache.find line
 if o.kind=4/\e=none then((n.done me t 0).1,f,(n.done me t 0).2)
 else if o.kind=4 then((n.begin_ c me f 3 line).1,(n.begin_ c me f 3 line).2,t)
 else if e.isSome=true/\(o.kind=1∨(e.getD .zero).dirty=true) then
  let n:={ n with cache:=n.cache.touch line }
  ((n.effect c me t).1,f,(n.effect c me t).2)
 else if n.cache.full line=true then((n.begin_ c me f 3 ((n.cache.lX line).getD 0)).1,(n.begin_ c me f 3 ((n.cache.lX line).getD 0)).2,t)
 else if o.kind=1 then((n.begin_ c me f 1 line).1,(n.begin_ c me f 1 line).2,t)
 else((n.begin_ c me f 2 line).1,(n.begin_ c me f 2 line).2,t)
theorem agk(n:Node)(f:Fab)(t:List Evn)(o:Opn):n.work c me f t o=agj c me { n with proc:={ n.proc with begun:=true } } f (if n.proc.begun then t else t++[⟨me,n.proc.values.length,false,0⟩]) o:=rfl
theorem SE(W:Walk b H g0 S c me k K g ls w)(hc:c.ok=true)(F:su c w.2.1)(hp:PSz w.1.proc)(CI:DW c w.1.cache)(hk:w.1.cache.clock < 1000)(hn:0<=w.1.num/\w.1.num < 1000000)(hl:w.2.2.length < 1000000){r7:Nat}{o:Opn}(h7:ls r7=some o.av):
  ∃K' g',mV cl (.ref (S.a 0) 0 0) (.ref S.f 0 0) (.ref S.t 0 0) (.ref r7 0 0) K=some (B true,K')/\Walk b H g0 S c me k K' g' ls (agj c me w.1 w.2.1 w.2.2 o):=by
 have C:=cok hc CI (by omega);have W0:=Walk.of W.loc.good W.base W.Nr;have lc:=W.alu (i:=2) (n:=8) (ys:=c.av) rfl rfl (by decide);have la:=W.loc.ld h7 (i:=1) (v:=I o.addr) rfl;obtain⟨line,PY⟩:∃line,c.cZ o.addr=line:=⟨_,rfl⟩
 have el:=Ed K c hc o.addr;rw [PY] at el;have l0:=W.ldN (i:=0) (v:=.ref (S.a 1) 0 0) rfl;have ef:=W.find C line;obtain⟨fo,hfo⟩:∃fo,w.1.cache.find line=fo:=⟨_,rfl⟩
 rw [hfo] at ef;simp only [mD] at ef;have hr7:r7 < K.next:=W.loc.good.lt (mZ h7)
 have W1:=W.newL (ty:=93) (xs:=zE6) (r:=K.next) rfl rfl;obtain⟨K2,u1,u2,W2⟩:=W1.whole ak (n:=6) (vs:=(fo.getD .zero).av) rfl rfl (by decide) (jK _);have k7:fF (fF ls K.next zE6) K.next (fo.getD .zero).av r7=some o.av:=by rw [aA (by omega),aA (by omega)];exact h7
 have lk:=W2.loc.ld k7 (i:=0) (v:=I o.kind) rfl;have ldd:=W2.loc.ld (r:=K.next) (xs:=(fo.getD .zero).av) ak (i:=4) (v:=B (fo.getD .zero).dirty) rfl;have l02:=W2.ldN (i:=0) (v:=.ref (S.a 1) 0 0) rfl;have PZ:=MP W2.loc.good (W2.loc.obj W2.nw.node.2.1) C.len C.sets line;have aoN:=PG W2.loc.good (W2.loc.obj W2.nw.node.2.1) C.len C.sets C.used line
 -- what is called is called of the node
 have back:∀{K3:aj} {g3:Store} {w3:NFT},Walk b H g0 S c me k K3 g3 (fF (fF ls K.next zE6) K.next (fo.getD .zero).av) w3->∃g',Walk b H g0 S c me k K3 g' ls w3:=by
  intro K3 g3 w3 W3;refine⟨g3,W3.hb,⟨W3.loc.good.sub λq cs hq=> ?_,λr hr=> ?_⟩,W3.nw,W3.off,W3.step,W3.len⟩
  ·unfold lay at hq ⊢;by_cases hqr:q=K.next
   ·subst hqr;have hnone:ls K.next=none:=by
     cases e:ls K.next with
     | none=> rfl
     | some xs=>
      have:=W.loc.good.lt (mZ (g:=g) e);omega
    rw [hnone] at hq;simp only at hq;have:=W3.loc.free K.next (by rw [ak];simp)
    rw [this] at hq;cases hq
   ·rw [aA hqr,aA hqr];exact hq
  ·refine W3.loc.free r ?_;have hne:r≠K.next:=λe=> by
    subst e;cases e2:ls K.next with
    | none=> exact hr e2
    | some xs=>
     have:=W.loc.good.lt (mZ (g:=g) e2);omega
   rw [aA hne,aA hne];exact hr
 unfold agj;simp only [PY,hfo];by_cases h4:o.kind=4
 ·rw [h4] at lk;cases fo with
  | none=>
   rw [if_pos ⟨h4,rfl⟩];obtain⟨K3,g3,a1,W3⟩:=YK W2 hp hl 0;obtain⟨g',W'⟩:=back W3;refine⟨K3,g',?_,W'⟩;simp -implicitDefEqProofs only [xq_,mV,kD,lc,la,el,l0,ef,u1,lk,zaL,zak,a1]
  | some e=>
   rw [if_neg (by simp),if_pos h4];obtain⟨K3,g3,a1,W3⟩:=yE W2 hc F hn 3 line;obtain⟨g',W'⟩:=back W3;refine⟨K3,g',?_,W'⟩;simp -implicitDefEqProofs only [Int.reduceEq,xq_,mV,kD,lc,la,el,l0,ef,u1,lk,zaJ,zae,a1]
 ·rw [if_neg (λh=> h4 h.1),if_neg h4];by_cases hd:fo.isSome=true/\(o.kind=1∨(fo.getD .zero).dirty=true)
  ·rw [if_pos hd];obtain⟨e,rfl⟩:=Option.isSome_iff_exists.1 hd.1;obtain⟨K3,a1,a2,a3⟩:=Un W2.loc.good W2.base (W2.loc.obj W2.nw.node.2.1) C.len C.clk line;have W3:=W2.cache a2 a3;have hC:COk (w.1.cache.touch line):=cok hc (CI.touch hfo) (by rw [EG CI.lines hfo];omega);obtain⟨K4,g4,b1,W4⟩:=Ns W3 hc hp hC hl;obtain⟨g',W'⟩:=back W4;refine⟨K4,g',?_,W'⟩;by_cases h1:o.kind=1
   ·rw [h1] at lk;simp -implicitDefEqProofs only [Int.reduceEq,xq_,mV,kD,lc,la,el,l0,ef,u1,lk,zaJ,a1,l02,b1]
   ·have hdd:=hd.2.resolve_left h1;rw [hdd] at ldd;simp -implicitDefEqProofs only [xq_,mV,kD,lc,la,el,l0,ef,u1,lk,h4,h1,ldd,zaJ,a1,l02,b1]
  ·rw [if_neg hd]
   -- the condition
   have hcond:∀(X Y:Option (AV × aj)),(fo.isSome=false)∨(fo.isSome=true/\¬o.kind=1/\(fo.getD .zero).dirty=false):=λ_ _=> by
    cases h:fo.isSome with
    | false=> exact .inl rfl
    | true=>
     refine .inr ⟨rfl,λh1=> hd ⟨h,.inl h1⟩,?_⟩;cases h2:(fo.getD .zero).dirty with
     | false=> rfl
     | true=> exact absurd ⟨h,.inr h2⟩ hd
   have hcond:=hcond none none;by_cases hfl:w.1.cache.full line=true
   ·rw [if_pos hfl];rw [hfl] at PZ;obtain⟨K3,g3,a1,W3⟩:=yE W2 hc F hn 3 ((w.1.cache.lX line).getD 0);obtain⟨g',W'⟩:=back W3;refine⟨K3,g',?_,W'⟩;rcases hcond with hs | ⟨hs,h1,h2⟩
    ·rw [hs] at ef;simp -implicitDefEqProofs only [xq_,mV,kD,lc,la,el,l0,ef,u1,lk,h4,l02,PZ,aoN,a1]
    ·rw [hs] at ef;rw [h2] at ldd;simp -implicitDefEqProofs only [xq_,mV,kD,lc,la,el,l0,ef,u1,lk,h4,h1,ldd,l02,PZ,aoN,a1]
   ·rw [if_neg hfl];have hff:w.1.cache.full line=false:=by cases h:w.1.cache.full line <;> simp_all
    rw [hff] at PZ;by_cases h1:o.kind=1
    ·rw [if_pos h1];obtain⟨K3,g3,a1,W3⟩:=yE W2 hc F hn 1 line;obtain⟨g',W'⟩:=back W3;refine⟨K3,g',?_,W'⟩;have hs:fo.isSome=false:=hcond.resolve_right λh=> h.2.1 h1;rw [hs] at ef;rw [h1] at lk;simp -implicitDefEqProofs only [Int.reduceEq,xq_,mV,kD,lc,la,el,l0,ef,u1,lk,l02,PZ,a1]
    ·rw [if_neg h1];obtain⟨K3,g3,a1,W3⟩:=yE W2 hc F hn 2 line;obtain⟨g',W'⟩:=back W3;refine⟨K3,g',?_,W'⟩;rcases hcond with hs | ⟨hs,_,h2⟩
     ·rw [hs] at ef;simp -implicitDefEqProofs only [xq_,mV,kD,lc,la,el,l0,ef,u1,lk,h4,h1,l02,PZ,a1]
     ·rw [hs] at ef;rw [h2] at ldd;simp -implicitDefEqProofs only [xq_,mV,kD,lc,la,el,l0,ef,u1,lk,h4,h1,ldd,l02,PZ,a1]
end
section
variable {b:Nat}{H:aj}{g0:Store}{S:NY}{c:Cfg}{me:Int}{k:Nat}{K K':aj}{g:Store}{ls:Lcl}{w w':NFT}
theorem Walk.to(W:Walk b H g0 S c me k K g ls w){K':aj}{g1:Store}{l1:Lcl}(W1:Walk b K (lay g ls) S c me w.2.1.l.length K' g1 l1 w'):∃g',Walk b H g0 S c me k K' g' ls w':=
 W.app (by have:=W1.res;rw [W.len] at this;exact this)
theorem YX(W:Walk b H g0 S c me k K g ls w)(hc:c.ok=true)(F:su c w.2.1)(NI:QJ c me w.1)(hn:0<=w.1.num/\w.1.num < 1000000)(hl:w.2.2.length < 999999):
  ∃K' g',match w.1.proc.cur with
   | some o=> if w.1.deal.step=0 then cl 70 [.ref (S.a 0) 0 0,.ref S.f 0 0,.ref S.t 0 0] K=some (B true,K')/\Walk b H g0 S c me k K' g' ls (w.1.work c me w.2.1 w.2.2 o)
     else cl 70 [.ref (S.a 0) 0 0,.ref S.f 0 0,.ref S.t 0 0] K=some (B false,K')/\Walk b H g0 S c me k K' g' ls w
   | none=> cl 70 [.ref (S.a 0) 0 0,.ref S.f 0 0,.ref S.t 0 0] K=some (B false,K')/\Walk b H g0 S c me k K' g' ls w:=by
 have P:=psz NI.proc;have al0:w.1.cache.clock < 1000:=by have:=NI.clk;have:=NI.proc.vals;have:=NI.proc.most;omega
 have W0:=Walk.of W.loc.good W.base W.Nr;have l1:=W0.ldN (i:=1) (v:=.ref (S.a 2) 0 0) rfl;obtain⟨K1,a1,W1⟩:=W0.cur P;have W2:=W1.newL (ty:=86) (xs:=[zI,zI,zI]) (r:=K1.next) rfl rfl;obtain⟨K3,b1,b2,W3⟩:=W2.whole ak (n:=3) (vs:=w.1.proc.op.av) rfl (dn _) (by decide) (lF _);have k7:fF (fF noL K1.next [zI,zI,zI]) K1.next w.1.proc.op.av K1.next=some w.1.proc.op.av:=ak
 have ls3:=W3.ldN (i:=15) (v:=I w.1.deal.step) rfl;cases hcur:w.1.proc.cur with
 | none=>
  rw [hcur] at a1;simp only [zaL] at a1;obtain⟨g',W'⟩:=W.to W3;refine⟨K3,g',aO rfl rfl (aaz _ _ _ _ _ ?_),W'⟩;simp -implicitDefEqProofs only [xq_,WW,l1,a1,b1,zak]
 | some o=>
  rw [hcur] at a1;simp only [zaJ] at a1;by_cases hs:w.1.deal.step=0;rotate_left
  ·simp only [if_neg hs];obtain⟨g',W'⟩:=W.to W3;refine⟨K3,g',aO rfl rfl (aaz _ _ _ _ _ ?_),W'⟩;simp -implicitDefEqProofs only [Nat.reduceAdd,xq_,WW,l1,a1,b1,zae,zak,ls3,hs]
  ·simp only [if_pos hs];rw [hs] at ls3;have hop:w.1.proc.op=o:=by simp only [Proc.op,hcur,zau]
   have hidx:w.1.proc.idx=w.1.proc.values.length:=by simp only [Proc.idx,hcur]
   have lp:=W3.ldN (i:=1) (v:=.ref (S.a 2) 0 0) rfl;have eb:=L9 W3.loc.good (W3.loc.obj W3.nw.node.2.2.1);rw [agk];cases hbg:w.1.proc.begun with
   | true=>
    rw [hbg] at eb;have he:({ w.1 with proc:={ w.1.proc with begun:=true } }:Node)=w.1:=by
     rcases hw:w.1 with⟨ca,pr,ho,de,nu⟩
     rw [hw] at hbg;simp only at hbg;rcases pr with⟨x1,x2,x3⟩
     simp only at hbg;subst hbg;rfl
    rw [he];simp only [if_true];obtain⟨K4,g4,c1,W4⟩:=SE W3 hc F P NI.cache al0 hn (by omega) (o:=w.1.proc.op) k7;rw [hop] at W4;obtain⟨g',W'⟩:=W.to W4;refine⟨K4,g',aO rfl rfl (aaz _ _ _ _ _ ?_),W'⟩;simp -implicitDefEqProofs only [Nat.reduceAdd,xq_,WW,l1,a1,b1,zae,ls3,lp,eb,c1]
   | false=>
    rw [hbg] at eb;simp only [zai,if_false];obtain⟨v,K4,d1,d2,d3⟩:=YG W3.loc.good W3.base (W3.loc.obj W3.nw.node.2.2.1) P.ops (by have:=P.ops;have:=P.vals;omega) P.vals;have hbp:w.1.proc.xG={ w.1.proc with begun:=true }:=by
     unfold Proc.xG;rw [if_neg (by rw [hbg,hcur];simp)]
    rw [hbp] at d2;have W4:=W3.proc d2 d3;have li:=W4.ldN (i:=10) (v:=I me) rfl;obtain⟨K5,g5,e1,W5⟩:=W4.alv (show w.2.2.length < 1000000 by omega) me w.1.proc.idx;obtain⟨K6,g6,c1,W6⟩:=SE W5 hc F (show PSz ({ w.1.proc with begun:=true }:Proc) from⟨P.ops,P.vals⟩) NI.cache al0 hn (by simp only [zan,zal,zaw];omega) (o:=w.1.proc.op) k7;rw [hop,hidx] at W6;obtain⟨g',W'⟩:=W.to W6;refine⟨K6,g',aO rfl rfl (aaz _ _ _ _ _ ?_),W'⟩;simp -implicitDefEqProofs only [Nat.reduceAdd,xq_,WW,l1,a1,b1,zae,zak,ls3,lp,eb,d1,li,e1,c1]
theorem UA(W:Walk b H g0 S c me k K g ls w)(hc:c.ok=true)(F:su c w.2.1)(NI:QJ c me w.1)(hl:w.2.2.length < 999999)(hdd:w.1.deal.data.length < 1000000000):
  ∃K' g',match w.2.1.take me false with
   | (f',some p)=> cl 67 [.ref (S.a 0) 0 0,.ref S.f 0 0,.ref S.t 0 0] K=some (B true,K')/\Walk b H g0 S c me k K' g' ls (w.1.answered c me f' w.2.2 p)
   | (_,none)=> cl 67 [.ref (S.a 0) 0 0,.ref S.f 0 0,.ref S.t 0 0] K=some (B false,K')/\Walk b H g0 S c me k K' g' ls w:=by
 have P:=psz NI.proc;have Bd:=pJ hc;have al0:w.1.cache.clock < 1000:=by have:=NI.clk;have:=NI.proc.vals;have:=NI.proc.most;omega
 have C:=cok hc NI.cache (by omega);have W0:=Walk.of W.loc.good W.base W.Nr;have li:=W0.ldN (i:=10) (v:=I me) rfl;obtain⟨K1,g1,a1,W1⟩:=W0.Jy (fok hc F);obtain⟨F1,Q1⟩:=F.take me false;have W2:=W1.newL (ty:=70) (xs:=zP9) (r:=K1.next) rfl rfl;cases ht:w.2.1.take me false with
 | mk f' po=>
  rw [ht] at a1 W1 W2 F1 Q1;simp only at a1 W1 W2 F1 Q1;obtain⟨K3,u1,u2,W3⟩:=W2.whole ak (n:=9) (vs:=(po.getD .zero).av) rfl (aT _) (by decide) (aI _);simp only [eU] at a1;cases po with
  | none=>
   simp only [zaY,zaL] at a1 u1 u2;have hf':f'=w.2.1:=by
    have:=Nw (f:=w.2.1) (i:=me) (req:=false) (by rw [ht]);rw [ht] at this;exact this
   subst hf';obtain⟨g',W'⟩:=W.to W3;refine⟨K3,g',aO rfl rfl (TY _ _ _ _ _ ?_),W'⟩;simp -implicitDefEqProofs only [xq_,I5,li,a1,u1,zak]
  | some p=>
   simp only [zau,zaJ] at a1 u1 u2;have Q:=Q1 p rfl;obtain⟨K4,g4,b1,W4⟩:=abn W3 C hdd p (Nz Q);unfold Node.answered;obtain⟨ca,d,ok,hA⟩:∃ca d ok,w.1.after me p=(ca,d,ok):=⟨_,_,_,rfl⟩
   rw [hA] at b1 W4;simp only [qE] at b1 W4;simp only [hA];have W5:=W4.newL (ty:=57) (xs:=zD9) (r:=K4.next) rfl rfl;obtain⟨K6,u3,u4,W6⟩:=W5.whole ak (n:=9) (vs:=d.av) rfl rfl (by decide) (aP d);cases ok with
   | false=>
    simp only [if_true];obtain⟨g',W'⟩:=W.to W6;refine⟨K6,g',aO rfl rfl (TY _ _ _ _ _ ?_),W'⟩;simp -implicitDefEqProofs only [xq_,I5,li,a1,u1,u2,zae,b1,u3,zak]
   | true=>
    simp only [zbR,if_false];have hs:w.1.deal.step≠0:=λh0=> by
     have hf:w.1.deal.fits p=false:=by unfold bD.fits;rw [h0];simp [NR,Iy]
     rw [uD,yC hf] at hA;simp [oh] at hA
    have NX:=SC NI.cache (NI.deal hs) hs Q (by rw [<-uD];exact hA);have hd2:d.data.length < 1000000000:=by
     rcases NX.dat with h | h
     ·rw [h];decide
     ·have:=h.1;have:=Bd.words;omega
    have hck:ca.clock < 1000000000:=by rcases NX.clk with h | h <;> omega
    have C2:COk ca:=cok hc NX.inv hck;obtain⟨K7,g7,c1,W7⟩:=W6.YW d;have lp:=W7.ldN (i:=1) (v:=.ref (S.a 2) 0 0) rfl;obtain⟨K8,d1,W8⟩:=W7.cur P;have W9:=W8.newL (ty:=86) (xs:=[zI,zI,zI]) (r:=K8.next) rfl rfl;obtain⟨K10,u5,u6,W10⟩:=W9.whole ak (n:=3) (vs:=w.1.proc.op.av) rfl (dn _) (by decide) (lF _);have hlt:K4.next < K8.next:=W8.loc.good.lt (q:=K4.next) (mZ (g:=g7) ak)
    have k9:fF (fF (fF (fF (fF (fF noL K1.next zP9) K1.next p.av) K4.next zD9) K4.next d.av) K8.next [zI,zI,zI]) K8.next w.1.proc.op.av K4.next=some d.av:=by
     rw [aA (by omega),aA (by omega),ak]
    have l3:=W10.loc.ld k9 (i:=3) (v:=I d.step) rfl;have l0:=W10.loc.ld k9 (i:=0) (v:=I d.kind) rfl;have lo:=W10.loc.ld (r:=K8.next) (xs:=w.1.proc.op.av) ak (i:=0) (v:=I w.1.proc.op.kind) rfl;by_cases h0:d.step=0
    ·simp only [if_pos h0];rw [h0] at l3;by_cases hf:d.kind=3/\w.1.proc.op.kind=4
     ·simp only [if_pos hf];rw [hf.1] at l0;rw [hf.2] at lo;obtain⟨K11,g11,e1,W11⟩:=YK W10 P (show w.2.2.length < 1000000 by omega) 0;obtain⟨g',W'⟩:=W.to W11;refine⟨K11,g',aO rfl rfl (TY _ _ _ _ _ ?_),W'⟩;simp -implicitDefEqProofs only [Int.reduceEq,xq_,I5,li,a1,u1,u2,zae,b1,u3,u4,c1,lp,d1,u5,l3,l0,lo,e1]
     ·simp only [if_neg hf];obtain⟨g',W'⟩:=W.to W10;refine⟨K10,g',aO rfl rfl (TY _ _ _ _ _ ?_),W'⟩;by_cases hk:d.kind=3
      ·have ho:¬w.1.proc.op.kind=4:=λh=> hf ⟨hk,h⟩;rw [hk] at l0;simp -implicitDefEqProofs only [Int.reduceEq,xq_,I5,li,a1,u1,u2,zae,b1,u3,u4,c1,lp,d1,u5,l3,l0,lo,ho]
      ·simp -implicitDefEqProofs only [Int.reduceEq,xq_,I5,li,a1,u1,u2,zae,b1,u3,u4,c1,lp,d1,u5,l3,l0,hk]
    ·simp only [if_neg h0];by_cases h6:d.step=6/\d.kind≠3
     ·simp only [if_pos h6];rw [h6.1] at l3;have hk:=h6.2;simp only [ne_eq] at hk;obtain⟨K11,g11,e1,W11⟩:=Ns W10 hc P C2 (show w.2.2.length < 1000000 by omega);obtain⟨K12,g12,e2,W12⟩:=PV W11 hc (fok hc F1) hd2;obtain⟨g',W'⟩:=W.to W12;refine⟨K12,g',aO rfl rfl (TY _ _ _ _ _ ?_),W'⟩;simp -implicitDefEqProofs only [Int.reduceEq,xq_,I5,Ea,li,a1,u1,u2,zae,b1,u3,u4,c1,lp,d1,u5,l3,l0,hk,zak,e1,e2]
     ·simp only [if_neg h6];obtain⟨K12,g12,e2,W12⟩:=PV W10 hc (fok hc F1) hd2;obtain⟨g',W'⟩:=W.to W12;refine⟨K12,g',aO rfl rfl (TY _ _ _ _ _ ?_),W'⟩;by_cases h66:d.step=6
      ·have hk:d.kind=3:=Classical.byContradiction λh=> h6 ⟨h66,h⟩;rw [h66] at l3;rw [hk] at l0;simp -implicitDefEqProofs only [Int.reduceEq,xq_,I5,Ea,li,a1,u1,u2,zae,b1,u3,u4,c1,lp,d1,u5,l3,l0,zae,e2]
      ·simp -implicitDefEqProofs only [xq_,I5,Ea,li,a1,u1,u2,zae,b1,u3,u4,c1,lp,d1,u5,l3,h0,h66,e2]
theorem abt(W:Walk b H g0 S c me k K g ls w)(hc:c.ok=true)(F:su c w.2.1)(NI:QJ c me w.1)(hn:0<=w.1.num/\w.1.num < 1000000)(hl:w.2.2.length < 999999)(hdd:w.1.deal.data.length < 1000000000)(hw:∀line,(w.1.home.turns.ws line).length < 1000000):
  ∃K' g',cl 36 [.ref (S.a 0) 0 0,.ref S.f 0 0,.ref S.t 0 0] K=some (I (w.1.step c me w.2.1 w.2.2).2,K')/\Walk b H g0 S c me k K' g' ls (w.1.step c me w.2.1 w.2.2).1:=by
 have Z:=hsz hc NI hw;have C:=cok hc NI.cache (by have:=NI.clk;have:=NI.proc.vals;have:=NI.proc.most;omega);unfold Node.step;obtain⟨K1,g1,h1⟩:=UA W hc F NI hl hdd;cases ht:w.2.1.take me false with
 | mk f' po=>
  rw [ht] at h1;cases po with
  | some p=>
   obtain⟨a1,W1⟩:=h1;refine⟨K1,g1,aO rfl rfl (TV _ _ _ _ _ ?_),W1⟩;simp -implicitDefEqProofs only [xq_,O6,a1]
  | none=>
   obtain⟨a1,W1⟩:=h1;simp only;obtain⟨K2,g2,h2⟩:=YV W1 hc F Z;by_cases hg:w.1.home.ready≠[]/\w.2.1.roomOf me false≠0
   ·rw [if_pos hg] at h2 ⊢;obtain⟨a2,W2⟩:=h2;refine⟨K2,g2,aO rfl rfl (TV _ _ _ _ _ ?_),W2⟩;simp -implicitDefEqProofs only [xq_,O6,a1,a2]
   ·rw [if_neg hg] at h2 ⊢;obtain⟨a2,W2⟩:=h2;obtain⟨K3,g3,h3⟩:=PX W2 hc F C Z;cases hr:(if w.2.1.roomOf me false=0 then(w.2.1,none) else w.2.1.take me true) with
    | mk f2 po2=>
     rw [hr] at h3;cases po2 with
     | some p=>
      obtain⟨a3,W3⟩:=h3;refine⟨K3,g3,aO rfl rfl (TV _ _ _ _ _ ?_),W3⟩;simp -implicitDefEqProofs only [xq_,O6,a1,a2,a3]
     | none=>
      obtain⟨a3,W3⟩:=h3;simp only;obtain⟨K4,g4,h4⟩:=YX W3 hc F NI hn hl;cases hcu:w.1.proc.cur with
      | none=>
       rw [hcu] at h4;obtain⟨a4,W4⟩:=h4;refine⟨K4,g4,aO rfl rfl (TV _ _ _ _ _ ?_),W4⟩;simp -implicitDefEqProofs only [xq_,O6,a1,a2,a3,a4]
      | some o=>
       rw [hcu] at h4;simp only at h4 ⊢;by_cases hs:w.1.deal.step=0
       ·rw [if_pos hs] at h4 ⊢;obtain⟨a4,W4⟩:=h4;refine⟨K4,g4,aO rfl rfl (TV _ _ _ _ _ ?_),W4⟩;simp -implicitDefEqProofs only [xq_,O6,a1,a2,a3,a4]
       ·rw [if_neg hs] at h4 ⊢;obtain⟨a4,W4⟩:=h4;refine⟨K4,g4,aO rfl rfl (TV _ _ _ _ _ ?_),W4⟩;simp -implicitDefEqProofs only [xq_,O6,a1,a2,a3,a4]
end
theorem abu {H:aj}{r:Nat}{o:dQ}(h:H.get r=o):H.put r o=H:=by
 subst h;unfold aj.put;have:(λx=> if x=r then H.get r else H.get x)=H.get:=by
  funext x
  split
  ·rename_i e;rw [e]
  ·rfl
 rw [this]
theorem agl {H:aj}{r:Nat}{o o':dQ}:(H.put r o).put r o'=H.put r o':=by
 unfold aj.put
 congr 1
 funext x
 simp only;split <;> rfl
def pI(bit mask:Int)(i:Nat)(l:List By):List By:=l.mapIdx λj c=> if j < i then c ^^^ rD bit mask j else c
theorem nZ(bit mask:Int)(i:Nat)(l:List By):(pI bit mask i l).length=l.length:=by simp [pI]
theorem UC(bit mask:Int)(l:List By):pI bit mask 0 l=l:=by
 unfold pI
 apply zbb
 intro i;rw [zba];cases l[i]? <;> simp
theorem YZ(bit mask:Int)(l:List By):pI bit mask l.length l=nR bit mask l:=by
 unfold pI nR
 apply zbb
 intro i;rw [zba,zba];cases h:l[i]? with
 | none=> rfl
 | some c=> simp [(zaf.1 h).1]
theorem NG(bit mask:Int){i:Nat}{l:List By}{c:By}(h:l[i]?=some c):(pI bit mask i l)[i]?=some c:=by
 unfold pI;rw [zba,h];simp
theorem GR(bit mask:Int){i:Nat}{l:List By}{c:By}(h:l[i]?=some c):pI bit mask (i+1) l=(pI bit mask i l).set i (c ^^^ rD bit mask i):=by
 apply zbb
 intro j;have hi:=(zaf.1 h).1;unfold pI;rw [zba,List.getElem?_set,zba,zcj];by_cases e:i=j
 ·subst e;rw [if_pos rfl,if_pos hi,h];simp
 ·rw [if_neg e];cases hj:l[j]? with
  | none=> rfl
  | some d=>
   simp only [zah]
   congr 1
   by_cases h1:j < i
   ·rw [if_pos h1,if_pos (by omega)]
   ·rw [if_neg h1,if_neg (by omega)]
theorem zQ(bit mask:Int){i:Nat}{l:List By}{c:By}(h:l[i]?=some c)(hm:rD bit mask i=0#8):pI bit mask (i+1) l=pI bit mask i l:=by
 rw [GR bit mask h,hm,BitVec.xor_zero]
 apply zbb
 intro j;rw [List.getElem?_set];split
 ·rename_i e;subst e;split
  ·rw [NG bit mask h]
  ·rename_i hh;rw [zaG (by omega)]
 ·rfl
theorem UD {K0:aj}{r n:Nat}{l:List By}{bit mask:Int}(hb:In64 bit)(h0:0<=mask)(h1:mask<=65535)(hs:l.length < 1000)(hr:r < K0.next)(hbase:K0.base<=r):
  ∀(k i:Nat),i+k=l.length->Jd cl0 [I bit,.s (.int .u16 mask),.sl r 0 0 1 l.length l.length false,I l.length,I i] (K0.put r (.blk 0 (5+eH) ((pI bit mask i l).map Y)))
   =some (.sl r 0 0 1 l.length l.length false,K0.put r (.blk 0 (5+eH) ((pI bit mask l.length l).map Y))):=by
 obtain⟨hb1,hb2⟩:=hb;intro k
 induction k with
 | zero=>
  intro i hi;have h1:¬((i:Int) < l.length):=by omega
  obtain rfl:i=l.length:=by omega
  rw [Xa];simp -implicitDefEqProofs only [Int.reduceNeg,xq_,h1]
 | succ k ih=>
  intro i hi;have h2:(i:Int) < l.length:=by omega
  have h6:(i:Int)+1=((i+1:Nat):Int):=by omega
  have h7:=wrap_i64 (a:=((i+1:Nat):Int)) (by omega) (by omega);obtain⟨c,hc⟩:∃c,l[i]?=some c:=⟨_,zab (by omega)⟩
  have w8:=wrap_i64 (a:=8*(i:Int)) (by omega) (by omega);have ihn:=ih (i+1) (by omega);rw [Xa];by_cases hov:8*(i:Int) - bit < 9223372036854775808
  ·have wd:=wrap_i64 (a:=8*(i:Int) - bit) (by omega) (by omega);by_cases hA:8*(i:Int) - bit<=-8
   ·have hm:rD bit mask i=0#8:=by unfold rD;rw [if_pos (.inl hA)]
    rw [zQ bit mask hc hm] at ihn;simp -implicitDefEqProofs only [Int.reduceNeg,xq_,h2,gJ,w8,jf,wd,hA,zo,bf,h6,h7,ihn]
   by_cases hB:16<=8*(i:Int) - bit
   ·have hm:rD bit mask i=0#8:=by unfold rD;rw [if_pos (.inr hB)]
    rw [zQ bit mask hc hm] at ihn;simp -implicitDefEqProofs only [Int.reduceNeg,xq_,h2,gJ,w8,jf,wd,hA,hB,zo,bf,h6,h7,ihn]
   have hd:∃d:Int,8*(i:Int) - bit=d/\-8 < d/\d < 16:=⟨_,rfl,by omega,by omega⟩
   obtain⟨d,hd,hd1,hd2⟩:=hd;have wd8:=wrap_i64 (a:=d+8) (by omega) (by omega);have wdd:=wrap_i64 (a:=d) (by omega) (by omega);have ds:¬(d<=-8):=by omega
   have db:¬(16<=d):=by omega
   obtain⟨m,rfl⟩:∃m:Nat,mask=m:=⟨mask.toNat,by omega⟩
   have apP:AV.s (.int .u16 (m:Int))=U16 (BitVec.ofNat 16 m):=by
    have hv:(((BitVec.ofNat 16 m).toNat:Nat):Int)=m:=by rw [zci,zcc (by omega)]
    show AV.s (.int .u16 (m:Int))=AV.s (.int .u16 (((BitVec.ofNat 16 m).toNat:Nat):Int));rw [hv]
   let K:aj:=K0.put r (.blk 0 (5+eH) ((pI bit m i l).map Y));have byK:bG K (.sl r 0 0 1 l.length l.length false) (pI bit m i l):=by
    refine⟨⟨by simp,rfl,(nZ ..).symm,⟨hr,zac _⟩,_,_,qx,?_,?_⟩,by rw [nZ];exact hs⟩
    ·rw [zaE,nZ];omega
    ·rw [nZ,zbE,zaO,zar (by rw [zaE,nZ];exact zac _)]
   have s1:ix 1 (.sl r 0 0 1 l.length l.length false) (I i) K=some (.ref r 0 i,K):=by
    have:=byK.ix (i:=i) (by rw [nZ];omega)
    simpa [cO] using this
   have s2:ld (.ref r 0 i) K=some (Y c,K):=by
    have:=byK.ld (NG bit m hc)
    simpa [cO] using this
   have e1:cv 33 230 (.s (.int .u16 (m:Int))) K=some (U32 (BitVec.ofNat 32 m),K):=by
    refine(VK (k:=.u16) (n:=(m:Int)) (H:=K)).trans ?_;rw [xR (k:=.u32) rfl];rfl
   let u1:BitVec 32:=BitVec.ofNat 32 m <<< 8;let u2:BitVec 32:=u1 <<< (d+8).toNat;have e2:bi .shl 230 (U32 (BitVec.ofNat 32 m)) (.s (.int .u64 8))=some (U32 u1):=WA (k:=.u32) rfl _ 8 (by decide) (by decide);have e3:bi .shl 230 (U32 u1) (I (d+8))=some (U32 u2):=WA (k:=.u32) rfl u1 (d+8) (by omega) (show d+8<=(32:Int) by omega);have e4:bi .shr 230 (U32 u2) (.s (.int .u64 24))=some (U32 (u2 >>> 24)):=ae1 (k:=.u32) u2 24 (by decide) (by decide);have e5:cv 230 5 (U32 (u2 >>> 24)) K=some (Y ((u2 >>> 24).setWidth 8),K):=
    (ZY (k:=.u32) (n:=((u2 >>> 24).toNat:Int)) (H:=K)).trans (congrArg (λv=> some (v,K)) (ahW (k:=.u32) (k':=.u8) rfl _))
   have hm:(u2 >>> 24).setWidth 8=rD bit m i:=by
    unfold rD;rw [if_neg (by rw [hd];omega),hd];rfl
   rw [hm] at e5;have e6:bi .xor 5 (Y c) (Y (rD bit m i))=some (Y (c ^^^ rD bit m i)):=ae0 (k:=.u8) rfl _ _;have e7:st 1 (.ref r 0 i) (Y (c ^^^ rD bit m i)) K=some (aN,K0.put r (.blk 0 (5+eH) ((pI bit m (i+1) l).map Y))):=by
    refine(QC (H:=K) (r:=r) (gg:=0) (off:=i) (ty:=5+eH) (xs:=(pI bit m i l).map Y) (v:=Y (c ^^^ rD bit m i)) bQ qx hbase (by rw [zaE,nZ];omega)).trans ?_;show some (aN,(K0.put r _).put r _)=_;rw [agl,GR bit m hc,List.map_set]
   simp only [K] at s1 s2 e1 e5 e7;simp -implicitDefEqProofs only [Int.reduceNeg,xq_,h2,gJ,w8,jf,hd,wdd,ds,db,s1,s2,e1,e2,e3,e4,e5,e6,e7,wd8,zo,bf,h6,h7,ihn]
  ·have wd:IntKind.i64.wrap (8*(i:Int) - bit)=8*(i:Int) - bit - 18446744073709551616:=by
    simp only [IntKind.wrap,IntKind.signed,IntKind.bits];simp;omega
   have hA:8*(i:Int) - bit - 18446744073709551616<=-8:=by omega
   have hm:rD bit mask i=0#8:=by unfold rD;rw [if_pos (.inr (by omega))]
   rw [zQ bit mask hc hm] at ihn;simp -implicitDefEqProofs only [Int.reduceNeg,xq_,h2,gJ,w8,jf,wd,hA,zo,bf,h6,h7,ihn]
theorem alA {H:aj}(hb:H.base<=H.next){x:AV}{l:List By}(hx:bG H x l)(hl:l≠[]){bit mask:Int}(hbit:In64 bit)(h0:0<=mask)(h1:mask<=65535):
  ∃r H',cl0 96 [x,I bit,.s (.int .u16 mask)] H=some (.sl r 0 0 1 l.length l.length false,H')/\Gro H H'/\bG H' (.sl r 0 0 1 l.length l.length false) (nR bit mask l)/\H'.base<=H'.next:=by
 let H1:=H.new (.blk 0 5 []);let K0:=H1.new (.blk 0 (5+eH) (l.map Y));have e1:=XV hx hl;have n1:H1.next=H.next+1:=nNew
 have n2:K0.next=H.next+1+1:=by simp only [K0,nNew,n1]
 have g:Gro H K0:=(Gro.new H 0 _ _).trans (Gro.new H1 0 _ _);have at_:K0.get (H.next+1)=.blk 0 (5+eH) (l.map Y):=aK n1.symm;have ps:K0.put (H.next+1) (.blk 0 (5+eH) ((pI bit mask 0 l).map Y))=K0:=by rw [UC];exact abu at_
 have lp:=UD (K0:=K0) (r:=H.next+1) (n:=0) (l:=l) hbit h0 h1 hx.small (by omega) (by rw [g.base];omega) l.length 0 (by omega);rw [ps] at lp;have ln:lnS (.sl (H.next+1) 0 0 1 l.length l.length false) K0=some (I l.length,K0):=rfl;refine⟨H.next+1,K0.put (H.next+1) (.blk 0 (5+eH) ((pI bit mask l.length l).map Y)),fO (anR _ _ _ _ _ ?_),g.put (by omega),?_,by show K0.base<=K0.next;rw [g.base];omega⟩
 ·simp -implicitDefEqProofs only [xq_,ai1,e1];exact lp
 ·rw [YZ];refine⟨⟨by simp,rfl,(ig ..).symm,⟨by show H.next+1 < K0.next;omega,zac _⟩,_,_,qx,?_,?_⟩,by rw [ig];exact hx.small⟩
  ·rw [zaE,ig];omega
  ·rw [ig,zbE,zaO,zar (by rw [zaE,ig];exact zac _)]
theorem aoi(c:By):yOf (Y c)=some c:=by
 have h:=c.isLt;show(if(0:Int)<=(c.toNat:Int)/\(c.toNat:Int) < 256 then some (BitVec.ofInt 8 (c.toNat:Int)) else none)=some c;rw [if_pos ⟨by omega,by omega⟩,nS]
theorem aei:∀l:List By,(l.map Y).mapM yOf=some l
 | []=> rfl
 | c::l=> by rw [zaB,zbn,aoi,aei l];rfl
theorem UE {H:aj}{r n:Nat}{l:List By}(hn:l.length=n)(h:bG H (.sl r 0 0 1 n n false) l)(h0:0 < n)(h8:n<=800):bytesOf (.sl r 0 0 1 n n false) H=some l:=by
 subst hn;obtain⟨⟨hl,_,_,⟨hr,_⟩,ty,all,h2,h3,h4⟩,hs⟩:=h;rw [zbE] at h4 h3;simp only [bytesOf,h2];rw [if_pos ⟨trivial,trivial,h3,h0,h8⟩,<-h4];exact aei l
theorem NH(p:Pkt):(pG p).length=12+8*p.data.length:=by
 rw [oN];rfl
theorem Y0 {H:aj}{r:Nat}{p:Pkt}(hp:p.fit){bit mask:Int}(h0:0<=mask)(h1:mask<=65535){n:Nat}(hn:n=(pG p).length)(h:bG H (.sl r 0 0 1 n n false) (nR bit mask (pG p))):
  cl 95 [.sl r 0 0 1 n n false] H=some (if turns p.bytes bit mask=true then .tup [.agg Pkt.zero.av,I 2] else .tup [.agg p.av,I 0],H):=by
 refine Df (p:=y9) rfl ?_;have ok:=hp.ok;simp only [Pkt.ok,zaj,decide_eq_true_eq] at ok;have hlen:=NH p;unfold y9;simp only [UE (by rw [ig,hn]) h (by omega) (by omega)];by_cases ht:turns p.bytes bit mask=true
 ·rw [if_pos ht];have hne:∀y,nR bit mask (pG p)≠iP y:=λy=> O4 h0 h1 (by
   have:(iP (dL p)).length=p.bytes:=oN p;rw [this];exact ht)
  rw [dif_neg (λ⟨q,_,hq⟩=> hne _ hq.symm),if_pos hne]
 ·rw [if_neg ht];have he:nR bit mask (pG p)=pG p:=TU h0 h1 (by rw [oN];simpa using ht);have hex:∃q:Pkt,q.fit/\pG q=nR bit mask (pG p):=⟨p,hp,he.symm⟩
  rw [dif_pos hex];have hs:=Classical.choose_spec hex;have:Classical.choose hex=p:=pack_inj hs.1 hp (hs.2.trans he);rw [this]
theorem SG(p:Pkt)(n:Int):Frz 9 (.tup [.agg p.av,I n]):=qY λx hx=> by
 simp only [zam,zaH,or_false] at hx;rcases hx with rfl | rfl
 ·exact kC λx hx=> by
   simp only [Pkt.av,zam,zaH,or_false] at hx;rcases hx with rfl | rfl | rfl | rfl | rfl | rfl | rfl | rfl | rfl <;> first | exact dZ | exact qZ
 ·exact dZ
theorem agm(H:aj){p:Pkt}(hp:p.fit){bit mask:Int}(hbit:In64 bit)(h0:0<=mask)(h1:mask<=65535):
  cl 62 [.agg p.av,I bit,.s (.int .u16 mask)] H=some (if turns p.bytes bit mask=true then .tup [.agg Pkt.zero.av,I 2] else .tup [.agg p.av,I 0],H):=by
 have ax:p.av=p.avx (dat p.data):=rfl;let o1:dQ:=.blk 0 70 p.av;let o2:dQ:=.blk 0 70 zPk;let K:=(H.guard.new o1).new o2;have hlen:=NH p;have hK:K.base<=K.next:=by simp only [K,bNew,nNew];exact(by omega:H.next<=H.next+1+1)
 obtain⟨y,K1,e1,g1,b1,hb1⟩:=ak4 hK p (kY K p.data) hp.ok;rw [<-ax] at e1;have e1':cl 94 [.agg p.av] K=some (.tup [y,I 0],K1):=Df (p:=cl0 94) rfl e1;obtain⟨r,K2,e2,g2,b2,hb2⟩:=alA hb1 b1 (bit:=bit) (mask:=mask) (λe=> by rw [e] at hlen;simp at hlen;omega) hbit h0 h1;have e2':cl 96 [y,I bit,.s (.int .u16 mask)] K1=some (_,K2):=Df (p:=cl0 96) rfl e2;have e3:=Y0 hp h0 h1 rfl b2;have hR:K2.get (H.next+1)=o2:=by
  rw [g2.same _ (zax (show H.next+1 < K.next by simp only [K,nNew];exact Nat.lt_succ_self _) g1.next),g1.same _ (by simp only [K,nNew];exact Nat.lt_succ_self _)];exact aK rfl
 have hbase:K2.base<=H.next+1:=by
  rw [g2.base,g1.base];exact za8 _
 have key:∀q:Pkt,st 9 (.ref (H.next+1) 0 0) (.agg q.av) K2=some (aN,K2.put (H.next+1) (.blk 0 70 q.av))/\lda 9 (.ref (H.next+1) 0 0) (K2.put (H.next+1) (.blk 0 70 q.av))=some (.agg q.av,K2.put (H.next+1) (.blk 0 70 q.av)):=λq=> by
  refine⟨?_,(fJ (off:=0) (n:=9) qx (zac _)).trans rfl⟩;rw [QD (aI _) (show q.av.length=9 from rfl) hR hbase (by decide)];rfl
 have l1:lda 9 (.ref H.next 0 0) K=some (.agg p.av,K):=by
  have:K.get H.next=.blk 0 70 p.av:=by
   simp only [K];rw [aQ (by rw [nNew];exact Nat.lt_succ_self _)];exact aK rfl
  exact(fJ (off:=0) (n:=9) this (zac _)).trans rfl
 by_cases ht:turns p.bytes bit mask=true
 ·rw [if_pos ht] at e3 ⊢;refine aY rfl rfl (aiF _ _ _ _ _) ?_ (SG _ _);obtain⟨k1,k2⟩:=key .zero;simp only [K,o1,o2] at e1' l1;have n1:H.guard.next=H.next:=rfl
  simp -implicitDefEqProofs only [Nat.reduceLT,xq_,hq_,afg,aB,l1,e1',e2',e3,k1,k2,zae]
 ·rw [if_neg ht] at e3 ⊢;refine aY rfl rfl (aiF _ _ _ _ _) ?_ (SG _ _);obtain⟨k1,k2⟩:=key p;simp only [K,o1,o2] at e1' l1;have n1:H.guard.next=H.next:=rfl
  simp -implicitDefEqProofs only [Nat.reduceLT,xq_,hq_,afg,aB,l1,e1',e2',e3,k1,k2,zae]
theorem SH:∀(l:List Port) (i:Nat) (k:Nat) {j:Nat} {k':Int},uw (l.flatMap λp=> [p.rq,p.an]) (2*i) (k:Int)=some (j,k')->findAt l i k=some (j / 2,decide (j % 2=0),k'.toNat)
 | [],i,k,j,k',h=> by cases h
 | p::l,i,k,j,k',h=> by
  simp only [zaI,zbO,zaW,uw] at h;simp only [findAt];by_cases h1:k < p.rq.length
  ·rw [if_pos ⟨by omega,by omega⟩] at h;cases h;rw [if_pos h1,show 2*i / 2=i by omega,show 2*i % 2=0 by omega];rfl
  ·rw [if_neg (λhh=> h1 (by omega))] at h;rw [if_neg h1];by_cases h2:k < p.rq.length+p.an.length
   ·rw [if_pos ⟨by omega,by omega⟩] at h;cases h;rw [if_pos h2,show(2*i+1) / 2=i by omega,show(2*i+1) % 2=1 by omega];simp only [zaa,zad,true_and];exact⟨by simp,by omega⟩
   ·rw [if_neg (λhh=> h2 (by omega))] at h;rw [if_neg h2];rw [show(k:Int) - p.rq.length - p.an.length=((k - (p.rq.length+p.an.length):Nat):Int) by omega,show 2*i+1+1=2*(i+1) by omega] at h;exact SH l (i+1) _ h
theorem apG {b:Nat}{K:aj}{gk:Store}{r:Nat}{ys:List AV}(Gk:Good b K gk)(hk:K.base<=b)(hz:gk r=some (ys.map Cell.av))(hy:ys.length=2){y:List AV}(h9:y.length=2)(ha:y.all AV.aH=true):
  ∃K',st 2 (.ref r 0 0) (.agg y) K=some (aN,K')/\Good b K' (upd gk r (y.map Cell.av))/\Step b K K':=by
 obtain⟨K',t1,t2,t3,t4⟩:=Gk.stores hk hz (i:=0) (n:=2) (vs:=y) (by simp [hy]) h9 ha;have e:mY (ys.map Cell.av) 0 y=y.map Cell.av:=by
  unfold mY;rw [zaS (by simp [h9,hy])];simp
 rw [e] at t2;exact⟨K',t1,t2,t3⟩
theorem Y1 {fab:Fab}{d:Nat}{req:Bool}{l:List Pkt}:(fab.put d ((fab.port d).mP req l)).fM=fab.fM:=by
 unfold Fab.fM Fab.put;rw [zaq];have key:∀(ls:List Port) (d:Nat),((ls.set d ((ls.getD d .zero).mP req l)).flatMap λp=> [p.rq,p.an])=ls.flatMap λp=> [p.rq,p.an]:=by
  intro ls
  induction ls with
  | nil=> intro d;rfl
  | cons p ls ih=>
   intro d;cases d with
   | zero=> cases req <;> simp [Port.mP]
   | succ d=> simpa using ih d
 have:=key fab.l d;unfold Fab.port;rw [zaq];exact this
theorem SI:∀(ls:List Port) (j:Nat) {l:List Pkt},(ls.flatMap λp=> [p.rq,p.an])[j]?=some l->(ls.getD (j / 2) .zero).sort (decide (j % 2=0))=l
 | [],j,l,h=> by simp at h
 | p::ls,0,l,h=> by simpa [Port.sort] using h
 | p::ls,1,l,h=> by simpa [Port.sort] using h
 | p::ls,j+2,l,h=> by
  have h':(ls.flatMap λp=> [p.rq,p.an])[j]?=some l:=by simpa using h
  have:=SI ls j h';rw [show(j+2) / 2=j / 2+1 by omega,show(j+2) % 2=j % 2 by omega]
  simpa using this
section
variable {b:Nat}{H:aj}{g:Store}{f:Nat}{P:Nat->Nat->Nat}{c:Cfg}{fab:Fab}
theorem UF(G:Good b H g)(hb:H.base<=b)(F:fD g f P c fab)(J:Po P fab.l.length)(K:FOk c fab)(h0:fab.l.length≠0)(hfit:∀p∈fab.all,p.fit/\fab.is p.dst=true){at_ bit mask:Int}(h64:In64 at_)(hbit:In64 bit)(m0:0<=mask)(m1:mask<=65535):
  ∃H' g',cl 35 [.ref f 0 0,I at_,I bit,.s (.int .u16 mask)] H=some (I (fab.deliver at_ bit mask).2,H')/\Good b H' g'/\fD g' f P c (fab.deliver at_ bit mask).1/\Off (JG P fab.l.length) g g'/\Step b H H':=by
 have hb0:H.base<=H.next:=zaz hb G.1
 have GU:∀l∈fab.fM,l.length < 1000/\∀p∈l,p.data.length < 1000000000:=by
  intro l hl;unfold Fab.fM at hl;obtain⟨p,hp,hl⟩:=za5.1 hl;simp only [zam,zaH,or_false] at hl;rcases hl with rfl | rfl
  ·exact⟨K.small hp (s:=0) (by decide),K.dat p hp 0 (by decide)⟩
  ·exact⟨K.small hp (s:=2) (by decide),K.dat p hp 2 (by decide)⟩
 have e1:=Ep G F K.len h0 GU at_ h64;have hn0:g H.next=none:=G.isNone (zac _)
 have G1:=G.newObj (ty:=70) (xs:=zP9) rfl;obtain⟨K1,s1,l1,G2,S2⟩:=af8 G1 (by rw [bNew];exact hb) upd_same rfl (y:=((fab.pkt at_).getD .zero).av) (aT _) (aI _);rw [mJ] at G2;have S02:=(Step.new (.blk 0 70 zP9) G.1).trans S2;cases hp:fab.pkt at_ with
 | none=>
  have hd:fab.deliver at_ bit mask=(fab,3):=by
   unfold Fab.deliver;unfold Fab.pkt at hp;split at hp
   ·rename_i h;rw [if_pos h]
   ·rename_i h;rw [if_neg h,hp]
  rw [hd];rw [hp] at e1 s1;refine⟨K1,g,aO rfl rfl (aar _ _ _ _ _ _ ?_),G2.sub ((pz.refl g).more hn0 _),F,Off.refl _ _,S02⟩;simp only [eU,zaY,zaL] at e1 s1;simp -implicitDefEqProofs only [xq_,WO,e1,s1,zak]
 | some p=>
  rw [hp] at e1 s1 l1 G2;simp only [eU,zau,zaJ] at e1 s1 l1 G2;have hat:¬at_ < 0:=by
   intro h;unfold Fab.pkt at hp;rw [if_pos h] at hp;cases hp
  have hall:fab.all[at_.toNat]?=some p:=by
   unfold Fab.pkt at hp
   rwa [if_neg hat] at hp
  obtain⟨pf,pd⟩:=hfit p (zas hall);have e2:=agm K1 pf hbit m0 m1;have hd:fab.deliver at_ bit mask=if turns p.bytes bit mask=true then(fab,2) else
    if fab.room (DC p.kind)<=((fab.port p.dst).ru (DC p.kind)).length then(fab,5) else
    ((fab.put p.dst ((fab.port p.dst).mP (DC p.kind) ((fab.port p.dst).ru (DC p.kind)++[p]))).remove at_.toNat,0):=by
   unfold Fab.deliver;rw [if_neg hat,hall]
  have hk1:K1.base<=b:=by rw [S02.base];exact hb
  by_cases ht:turns p.bytes bit mask=true
  ·rw [if_pos ht] at e2 hd;rw [hd];obtain⟨K2,s3,l3,G3,S3⟩:=af8 G2 hk1 upd_same (aT _) (y:=Pkt.zero.av) (aT _) (aI _);rw [mJ] at G3;refine⟨K2,g,aO rfl rfl (aar _ _ _ _ _ _ ?_),G3.sub ((pz.refl g).more hn0 _),F,Off.refl _ _,S02.trans S3⟩;simp -implicitDefEqProofs only [Int.reduceEq,xq_,WO,e1,s1,zae,l1,e2,s3,zak]
  rw [if_neg ht] at e2 hd;rw [hd];obtain⟨K2,s3,l3,G3,S3⟩:=af8 G2 hk1 upd_same (aT _) (y:=p.av) (aT _) (aI _);rw [mJ] at G3;have S03:=S02.trans S3;have F3:=F.sub ((pz.refl g).more hn0 (p.av.map Cell.av));obtain⟨d,hdd,hdl⟩:=yw pd;obtain⟨x,r,gg,o,h1,h2,h3⟩:=yx G3 F3 hdl;have hdst:ld (.ref H.next 0 2) K2=some (I p.dst,K2):=G3.load upd_same (i:=2) rfl;have hkind:ld (.ref H.next 0 0) K2=some (I p.kind,K2):=G3.load upd_same (i:=0) rfl;let req:=DC p.kind;have rq:=Gw K2.guard p.kind;obtain⟨K3,t1,t2⟩:=BX K2.guard (zac _) (P d) req;obtain⟨K3,t1,t2⟩:=drawn t1 t2;have G4:=G3.ext t2.next t2.same
  have hk3:K3.base<=b:=by rw [t2.base,S03.base];exact hb
  have S34:Step b K2 K3:=⟨t2.base,t2.next,λr hr=> t2.same r (zax hr G3.1)⟩
  have l9:lda 9 (.ref H.next 0 0) K3=some (.agg p.av,K3):=G4.loads upd_same (i:=0) (n:=9) (xs:=p.av) rfl rfl (by decide);have hbx:=eu (F3.port hdl) (oV req);have hR:=GI K.ok (iIx req);obtain⟨K4,q1,q2,q3⟩:=aaA G4 hk3 hbx hR.1 hR.2 (K.small (Fab.rJ hdl) (oV req)) p (by have:=pf.ok;simp only [Pkt.ok,zaj,decide_eq_true_eq] at this;omega);rw [EC] at q1 q2;have hroom:JH c (iIx req)=fab.room req:=by
   have apH:fab.inn=c.inn:=F.2.2.2;unfold Fab.room;cases req <;> simp [iIx,JH,apH]
  have hle:=K.box _ (Fab.rJ hdl) _ (oV req);rw [EC] at hle;have f1:(abf (P d) req)[1]?=some (.ref (P d (iIx req)) 0 0):=rfl;have S04:=(S03.trans S34).trans q3;have hk4:K4.base<=b:=by rw [S04.base];exact hb
  have hdp:p.dst=(d:Int):=hdd;have hpn:P d (iIx req)≠H.next:=λe=> F.PS G ⟨d,iIx req,hdl,oV req,e.symm⟩
  by_cases hfull:JH c (iIx req)=(((fab.port d).ru req).length:Int)
  ·rw [if_pos hfull] at q1 q2;rw [if_pos (show fab.room (DC p.kind)<=((fab.port p.dst).ru (DC p.kind)).length by rw [hdp];show fab.room req<=_;rw [<-hroom];exact Int.le_of_eq hfull)];rw [dN (by rw [hbx,EC])] at q2;refine⟨K4,g,aO rfl rfl (aar _ _ _ _ _ _ ?_),q2.sub ((pz.refl g).more hn0 _),F,Off.refl _ _,S04⟩;rw [hdp] at hdst;simp only [req] at rq t1 f1 q1;simp -implicitDefEqProofs only [Int.reduceEq,xq_,WO,e1,s1,zae,l1,e2,s3,h1,hdst,h2,h3,hkind,rq,t1,f1,l9,q1,zak]
  ·rw [if_neg hfull] at q1 q2;rw [if_neg (show¬fab.room (DC p.kind)<=((fab.port p.dst).ru (DC p.kind)).length by rw [hdp];show¬fab.room req<=_;rw [<-hroom];exact λh=> hfull (Int.le_antisymm h hle))];have F4:=F3.fill J hdl (oV req) (p':=(fab.port d).mP req ((fab.port d).ru req++[p])) (l:=(fab.port d).ru req++[p]) (zH _ _ _);rw [hdp];show∃H' g',_/\_/\fD g' f P c ((fab.put d ((fab.port d).mP req ((fab.port d).ru req++[p]))).remove at_.toNat)/\_/\_;generalize agn:fab.put d ((fab.port d).mP req ((fab.port d).ru req++[p]))=JE at*;have alB:JE.fM=fab.fM:=by rw [<-agn];exact Y1
   have hlen1:JE.l.length=fab.l.length:=by rw [<-agn];simp [Fab.put]
   have e5:=Yj q2 F4 (by rw [hlen1];exact K.len) (by rw [hlen1];exact h0) (λl hl=> (GU l (by rw [<-alB];exact hl)).1) at_ h64;rw [alB] at e5;cases hf:uw fab.fM 0 at_ with
   | none=>
    exfalso;have:=zD hf;rw [show fab.fM.flatten=fab.all from uY fab.l] at this;have h2:=(zaf.1 hall).1;omega
   | some jk=>
    obtain⟨j,k⟩:=jk;rw [hf] at e5;obtain⟨_,l,z2,z3,z4,z5,z6⟩:=qw hf;rw [Nat.sub_zero] at z2;have hj:j < 2*fab.l.length:=by
     have:=(zaf.1 z2).1
     rwa [Fab.fM,nT] at this
    have hj2:j / 2 < JE.l.length:=by rw [hlen1];omega
    obtain⟨kn,rfl⟩:∃kn:Nat,k=kn:=⟨k.toNat,by omega⟩
    have hfa:findAt JE.l 0 at_.toNat=some (j / 2,decide (j % 2=0),kn):=by
     have hh:=SH JE.l 0 at_.toNat (j:=j) (k':=kn) (by
      show uw JE.fM 0 _=_;rw [alB,Int.toNat_of_nonneg (by omega)];exact hf)
     simpa using hh
    have ex1:uy P (some (j,(kn:Int)))=.tup [.agg (jD P j),I kn,B true]:=rfl;rw [ex1] at e5;let rq2:Bool:=decide (j % 2=0);have hP:(if j % 2=0 then 0 else 2)=oIx rq2:=by
     by_cases h:j % 2=0 <;> simp [rq2,h,oIx]
    have hp3:=Yi F4 (j:=j) (l:=l) (by rw [alB];exact z2);rw [hP] at hp3;have hq4:=eu (F4.port hj2) (qB rq2);have hl:(JE.port (j / 2:Nat)).sort rq2=l:=by
     have:=SI JE.l j (show JE.fM[j]?=some l by rw [alB];exact z2);unfold Fab.port;rw [zaq];exact this
    have hkl:kn < l.length:=by omega
    obtain⟨hl3,hd3⟩:=GU l (zas z2);have n4:(upd (upd g H.next (p.av.map Cell.av)) (P d (iIx req)) (kV ((fab.port d).ru req++[p]) (JH c (iIx req)))) K4.next=none:=q2.isNone (zac _)
    have G5:=q2.newObj (ty:=115) (xs:=[zP,zP]) rfl;obtain⟨K5,u1,G6,S6⟩:=apG G5 (by rw [bNew];exact hk4) upd_same rfl (y:=jD P j) rfl rfl;rw [mJ] at G6;have u2:ld (.ref K4.next 0 0) K5=some (.ref (P (j / 2) (oIx rq2)) 0 0,K5):=by
     refine G6.load upd_same (i:=0) ?_;rw [<-hP];rfl
    have S05:=(S04.trans (Step.new _ q2.1)).trans S6;have hk5:K5.base<=b:=by rw [S05.base];exact hb
    have hne:P (j / 2) (oIx rq2)≠K4.next:=λe=> by rw [e,n4] at hp3;cases hp3
    obtain⟨v,K6,y1,G7,S7⟩:=Us G6 hk5 (by rw [upd_ne hne];exact hp3) hl3 hd3 kn hkl;have hJ1:Po P JE.l.length:=by rw [hlen1];exact J
    have F7:=F4.fill hJ1 hj2 (qB rq2) (p':=(JE.port (j / 2:Nat)).drop rq2 kn) (l:=l.eraseIdx kn) (by
     intro t ht;have:=wO (JE.port (j / 2:Nat)) rq2 (l.eraseIdx kn) t ht;unfold Port.drop;rw [hl];exact this)
    have aoh:JE.remove at_.toNat=JE.put (j / 2:Nat) ((JE.port (j / 2:Nat)).drop rq2 kn):=by
     unfold Fab.remove;rw [hfa]
    rw [aoh];rw [oU] at F7;let g':=upd (upd g (P d (iIx req)) (kV ((fab.port d).ru req++[p]) (JH c (iIx req)))) (P (j / 2) (oIx rq2)) (kV (l.eraseIdx kn) c.out);have ne2:P (j / 2) (oIx rq2)≠H.next:=λe=> F.PS G ⟨j / 2,oIx rq2,by omega,qB rq2,e.symm⟩
    have apI:pz g' (upd (upd (upd g H.next (p.av.map Cell.av)) (P d (iIx req)) (kV ((fab.port d).ru req++[p]) (JH c (iIx req)))) (P (j / 2) (oIx rq2)) (kV (l.eraseIdx kn) c.out)):=(((pz.refl g).more hn0 _).both _ _).both _ _;have F8:fD g' f P c (JE.put (j / 2:Nat) ((JE.port (j / 2:Nat)).drop rq2 kn)):=by
     have hJ:Po P fab.l.length:=J;have A:=F.fill J hdl (oV req) (p':=(fab.port d).mP req ((fab.port d).ru req++[p])) (l:=(fab.port d).ru req++[p]) (zH _ _ _);rw [agn] at A;have B:=A.fill hJ1 hj2 (qB rq2) (p':=(JE.port (j / 2:Nat)).drop rq2 kn) (l:=l.eraseIdx kn) (by
      intro t ht;have:=wO (JE.port (j / 2:Nat)) rq2 (l.eraseIdx kn) t ht;unfold Port.drop;rw [hl];exact this)
     rw [oU] at B;exact B
    refine⟨K6,g',aO rfl rfl (aar _ _ _ _ _ _ ?_),G7.sub λq cs hq=> ?_,F8,(Off.upd ⟨d,iIx req,hdl,oV req,rfl⟩).trans (Off.upd ⟨j / 2,oIx rq2,by omega,qB rq2,rfl⟩),S05.trans S7⟩
    ·rw [hdp] at hdst;simp only [req] at rq t1 f1 q1;simp -implicitDefEqProofs only [xq_,WO,e1,s1,zae,l1,e2,s3,h1,hdst,h2,h3,hkind,rq,t1,f1,l9,q1,e5,u1,u2,y1]
    ·have:=apI q cs hq;by_cases e:q=P (j / 2) (oIx rq2)
     ·subst e;rw [upd_same] at this ⊢;exact this
     ·rw [upd_ne e] at this ⊢;have h4:q≠K4.next:=λe'=> by rw [e',n4] at this;cases this
      rw [upd_ne h4];exact this
end
def DX(f:Fab):Prop:=∀p∈f.l,∀q,q∈p.rq∨q∈p.an->f.is q.dst=true
theorem alC(f:Fab)(i:Int)(p:Port)(k:Int):(f.put i p).is k=f.is k:=by
 unfold Fab.is Fab.put;simp
theorem DX.put {f:Fab}(D:DX f)(i:Int){p:Port}(h:∀q,q∈p.rq∨q∈p.an->f.is q.dst=true):DX (f.put i p):=by
 intro x hx q hq;rw [alC];unfold Fab.put at hx;rcases zbM hx with hx | rfl
 ·exact D x hx q hq
 ·exact h q hq
theorem DX.at {f:Fab}(D:DX f)(i:Int):∀q,q∈(f.port i).rq∨q∈(f.port i).an->f.is q.dst=true:=by
 intro q hq;unfold Fab.port at hq;rw [zay] at hq;cases h:f.l[i.toNat]? with
 | none=> rw [h] at hq;simp [Port.zero] at hq
 | some p=> rw [h] at hq;exact D p (zas h) q hq
theorem DX.send {f:Fab}(D:DX f)(p:Pkt):DX (f.send p).1:=by
 unfold Fab.send;split
 ·exact D
 ·rename_i hc;split
  ·exact D
  ·refine D.put _ λq hq=> ?_;have hd:f.is p.dst=true:=by
    cases h:f.is p.dst with
    | true=> rfl
    | false=> simp [h] at hc
   cases hk:DC p.kind with
   | true=>
    rw [hk] at hq;simp only [Port.lY,Port.sort,if_true,za1,zaT] at hq;rcases hq with(hq | rfl) | hq
    ·exact D.at _ q (.inl hq)
    ·exact hd
    ·exact D.at _ q (.inr hq)
   | false=>
    rw [hk] at hq;simp only [Port.lY,Port.sort,zai,if_false,za1,zaT] at hq;rcases hq with hq | hq | rfl
    ·exact D.at _ q (.inl hq)
    ·exact D.at _ q (.inr hq)
    ·exact hd
theorem DX.mP {f:Fab}(D:DX f)(i:Int)(req:Bool)(l:List Pkt):DX (f.put i ((f.port i).mP req l)):=by
 refine D.put _ λq hq=> D.at i q ?_;cases req <;> exact hq
theorem DX.take {f:Fab}(D:DX f)(i:Int)(req:Bool):DX (f.take i req).1:=by
 unfold Fab.take;split
 ·split
  ·exact D
  ·exact D.mP _ _ _
 ·exact D
theorem DX.remove {f:Fab}(D:DX f)(k:Nat):DX (f.remove k):=by
 unfold Fab.remove;split
 ·refine D.put _ λq hq=> ?_;rename_i i req k' _;refine D.at i q ?_;cases req with
  | true=>
   simp only [Port.drop,Port.lY,Port.sort,if_true] at hq;exact hq.imp List.mem_of_mem_eraseIdx id
  | false=>
   simp only [Port.drop,Port.lY,Port.sort,zai,if_false] at hq;exact hq.imp id List.mem_of_mem_eraseIdx
 ·exact D
theorem DX.deliver {f:Fab}(D:DX f)(a b k:Int):DX (f.deliver a b k).1:=by
 unfold Fab.deliver;split
 ·exact D
 split
 ·exact D
 split
 ·exact D
 split
 ·exact D
 ·exact(D.mP _ _ _).remove _
theorem DX.all {f:Fab}(D:DX f):∀p∈f.all,f.is p.dst=true:=by
 intro p hp;unfold Fab.all at hp;obtain⟨q,hq,hp⟩:=za5.1 hp;rcases za1.1 hp with hp | hp
 ·exact D q hq p (.inl hp)
 ·exact D q hq p (.inr hp)
theorem DX.new(c:Cfg):DX (.new c):=by
 intro p hp q hq;rw [Fab.new,List.mem_replicate] at hp;rw [hp.2] at hq;simp [Port.zero] at hq
structure NX(T:Nat)(n:Node):Prop where
 UU:0<=n.num
 num1:n.num < 4096
 dat:n.deal.data.length<=4
 ws:∀line,(n.home.turns.ws line).length<=T
theorem NX.mono {T T':Nat}{n:Node}(h:NX T n)(hT:T<=T'):NX T' n:=⟨h.UU,h.num1,h.dat,λl=> zaz (h.ws l) hT⟩
section
variable {d:bD}{ca:Cache}{p:Pkt}{me:Int}
theorem findLe(hc:∀e∈ca.l,e.data.length<=4){line:Int}{e:Ent}(h:ca.find line=some e):e.data.length<=4:=by
 unfold Cache.find at h;exact hc e (za3 h)
theorem Y2(hd:d.data.length<=4)(hp:p.data.length<=4):(bV d me ca p).2.1.data.length<=4:=by
 unfold bV oh
 repeat' split
 all_goals first
  | exact hd
  | exact hp
  | exact zaU _
  | (show List.length (if _ then _ else _)<=4;split <;> first | exact hp | exact zaU _)
theorem Ap(hd:d.data.length<=4):(bC d me ca).2.data.length<=4:=by
 unfold bC;simp only
 repeat' split
 all_goals first
  | exact hd
  | exact zaU _
theorem abv(hc:∀e∈ca.l,e.data.length<=4)(hd:d.data.length<=4)(hp:p.data.length<=4):(bW d me ca p).2.1.data.length<=4:=by
 unfold bW oh;split
 ·exact zaU _
 split
 ·refine Ap ?_;cases h:ca.find d.line with
  | none=> exact hp
  | some e=> exact findLe hc h
 split
 ·refine Ap ?_;cases h:ca.find d.line with
  | none=> exact hp
  | some e=> exact hd
 split
 ·exact hd
 ·exact zaU _
theorem agp(hc:∀e∈ca.l,e.data.length<=4)(hd:d.data.length<=4):(dh d ca p).2.1.data.length<=4:=by
 unfold dh oh fK;split
 ·exact zaU _
 split
 ·simp only;split
  ·exact zaU _
  ·rename_i e h;split
   ·show List.length (if e.dirty=true then e.data else [])<=4;split
    ·exact findLe hc h
    ·exact zaU _
   ·split <;> exact zaU _
 repeat' split
 all_goals first
  | exact hd
  | exact zaU _
end
section
variable {T:Nat}{n:Node}{c:Cfg}{me:Int}{f:Fab}{t:List Evn}
theorem Y3(h:NX T n)(v:Int):NX T (n.done me t v).1:=⟨h.UU,h.num1,h.dat,h.ws⟩
theorem NJ(h:NX T n):NX T (n.effect c me t).1:=⟨h.UU,h.num1,h.dat,h.ws⟩
theorem BZ(h:NX T n)(kind line:Int):NX T (n.begin_ c me f kind line).1:=by
 have h0:=h.UU;have h1:(n.num+1).tmod 4096=(n.num+1) % 4096:=zbK (by omega);refine⟨?_,?_,zaU _,h.ws⟩
 ·show 0<=(n.num+1).tmod 4096;omega
 ·show(n.num+1).tmod 4096 < 4096;omega
theorem Cb {n:Node}(h:DX f)(kind line:Int):DX (n.begin_ c me f kind line).2:=h.send _
theorem Y4 {n:Node}(h:DX f):DX (n.OW c me f):=h.send _
theorem abw(hc:∀e∈n.cache.l,e.data.length<=4)(h:NX T n){p:Pkt}(hp:p.data.length<=4):(n.after me p).2.1.data.length<=4:=by
 unfold Node.after oh
 repeat' split
 ·exact Y2 h.dat hp
 ·exact abv hc h.dat hp
 ·exact agp hc h.dat
 ·exact zaU _
theorem UG(hc:∀e∈n.cache.l,e.data.length<=4)(h:NX T n)(D:DX f){p:Pkt}(hp:p.data.length<=4):NX T (n.answered c me f t p).1/\DX (n.answered c me f t p).2.1:=by
 have hd:=abw (me:=me) hc h hp;unfold Node.answered;split;rename_i ca d ok e;rw [e] at hd;have h1:NX T { n with cache:=ca,deal:=d }:=⟨h.UU,h.num1,hd,h.ws⟩
 split
 ·exact⟨⟨h.UU,h.num1,h.dat,h.ws⟩,D⟩
 ·simp only;split
  ·split
   ·exact⟨Y3 (me:=me) (t:=t) h1 0,D⟩
   ·exact⟨h1,D⟩
  ·split
   ·exact⟨NJ (c:=c) (me:=me) (t:=t) h1,Y4 D⟩
   ·exact⟨h1,Y4 D⟩
theorem aej {t:Turns}(h:∀line,(t.ws line).length<=T)(line who id:Int):∀l,((t.ask line who id).1.ws l).length<=T+1:=by
 intro l;unfold Turns.ask;split
 ·exact zbA (h l)
 split
 ·unfold Turns.ws;simp only;rw [jR];split
  ·rw [zau,zan];exact Nat.succ_le_succ (h line)
  ·exact zbA (h l)
 ·exact zbA (h l)
theorem UH {t:Turns}(h:∀line,(t.ws line).length<=T)(line who:Int):∀l,((t.release line who).1.ws l).length<=T:=by
 intro l;unfold Turns.release;split <;> exact h l
theorem agq {t:Turns}(h:∀line,(t.ws line).length<=T)(line:Int):∀l,((t.next line).1.ws l).length<=T:=by
 intro l;unfold Turns.next
 split
 ·exact h l
 split
 ·exact h l
 ·rename_i w ws e;have hh:=h line;rw [e] at hh;unfold Turns.ws;simp only;rw [jR];split
  ·rw [zau];exact Nat.le_of_succ_le hh
  ·exact h l
theorem Y5 {hm:Home}(h:∀line,(hm.turns.ws line).length<=T)(p:Pkt):∀l,((hm.handle c me p).1.turns.ws l).length<=T+1:=by
 have h':∀l,(hm.turns.ws l).length<=T+1:=λl=> zbA (h l);unfold Home.handle;split
 ·exact h'
 split
 ·exact h'
 split
 ·simp only;split
  ·exact aej h _ _ _
  ·exact aej h _ _ _
 ·have hu:∀l,((hm.unlock c p).1.turns.ws l).length<=T+1:=by
   unfold Home.unlock;split
   ·exact h'
   ·simp only;generalize setRow c hm.rows p.line p.state p.ptr (if p.flag then p.data else [])=r;split
    ·exact λl=> zbA (UH h _ _ l)
    ·exact h'
  simp only;split <;> exact hu
theorem abx {hm:Home}(h:∀line,(hm.turns.ws line).length<=T):∀l,((hm.grant me).1.turns.ws l).length<=T:=by
 unfold Home.grant;split
 ·exact h
 ·rename_i line _ _;have hn:=agq h line;split
  ·rename_i e;rw [e] at hn;exact hn
  ·exact h
theorem ags(h:NX T n)(D:DX f)(p:Pkt):NX (T+1) (n.asked c me f p).1/\DX (n.asked c me f p).2:=by
 unfold Node.asked;split
 ·have hw:=Y5 (c:=c) (me:=me) h.ws p;split;rename_i hm out ok e he;rw [he] at hw;refine⟨⟨h.UU,h.num1,h.dat,hw⟩,?_⟩;simp only;split
  ·exact D.send _
  ·exact D
 ·split;refine⟨⟨h.UU,h.num1,h.dat,λl=> zbA (h.ws l)⟩,?_⟩;simp only;split
  ·exact D.send _
  ·exact D
theorem alD(h:NX T n)(D:DX f)(o:Opn):NX T (n.work c me f t o).1/\DX (n.work c me f t o).2.1:=by
 have h1:NX T { n with proc:={ n.proc with begun:=true } }:=⟨h.UU,h.num1,h.dat,h.ws⟩
 unfold Node.work;simp only;split
 ·exact⟨Y3 (me:=me) (t:=t) h1 0,D⟩
 split
 ·exact⟨BZ (c:=c) (me:=me) (f:=f) h1 _ _,Cb D _ _⟩
 split
 ·exact⟨NJ (c:=c) (me:=me) (t:=if n.proc.begun then t else t++[⟨me,n.proc.values.length,false,0⟩]) ⟨h.UU,h.num1,h.dat,h.ws⟩,D⟩
 split
 ·exact⟨BZ (c:=c) (me:=me) (f:=f) h1 _ _,Cb D _ _⟩
 split
 ·exact⟨BZ (c:=c) (me:=me) (f:=f) h1 _ _,Cb D _ _⟩
 ·exact⟨BZ (c:=c) (me:=me) (f:=f) h1 _ _,Cb D _ _⟩
theorem aek(hc:∀e∈n.cache.l,e.data.length<=4)(hf:∀i req p,(f.take i req).2=some p->p.data.length<=4)(h:NX T n)(D:DX f):NX (T+1) (n.step c me f t).1.1/\DX (n.step c me f t).1.2.1:=by
 have h':=h.mono (za8 T);unfold Node.step;split
 ·rename_i f' p e;have D':=D.take me false;have hp:=hf me false p (by rw [e]);rw [e] at D';obtain⟨a,b⟩:=UG (c:=c) (me:=me) (t:=t) hc h' D' hp;exact⟨a,b⟩
 ·split
  ·exact⟨⟨h.UU,h.num1,h.dat,λl=> zbA (abx h.ws l)⟩,D.send _⟩
  ·split
   ·rename_i f' p e;have D':DX f':=by
     split at e
     ·cases e
     ·have:=D.take me true;rw [e] at this;exact this
    exact ags h D' p
   ·split
    ·split
     ·exact alD h' D _
     ·exact⟨h',D⟩
    ·exact⟨h',D⟩
end
structure MX(T:Nat)(m:fE):Prop where
 inv:MInv m
 sim:∃r,Zh m r
 dst:DX m.fab
 node:∀(i:Nat) n,m.nodes[i]?=some n->NX T n
theorem MX.mono {T T':Nat}{m:fE}(h:MX T m)(hT:T<=T'):MX T' m:=⟨h.inv,h.sim,h.dst,λi n hn=> (h.node i n hn).mono hT⟩
theorem DW.le {c:Cfg}(hc:c.ok=true){ca:Cache}(I:DW c ca):∀e∈ca.l,e.data.length<=4:=by
 intro e he;have h1:=(I.ent e he).dat;have h2:=(Ll hc).2.2.1;have:=h1.1;omega
theorem MX.step {T:Nat}{m:fE}(X:MX T m)(i:Int):MX (T+1) (m.step i).1:=by
 obtain⟨r,S⟩:=X.sim;obtain⟨h1,h2,h3⟩:=YS S X.inv i;refine⟨h2,⟨_,h1⟩,?_,?_⟩
 ·unfold fE.step;split
  ·exact X.dst
  ·rename_i n hn;split;rename_i n' f t k e;unfold fE.node at hn;split at hn
   ·rename_i hi;have NI:=X.inv.node _ n hn;have:=(aek (c:=m.c) (me:=i) (t:=m.trace) (NI.cache.le X.inv.ok) (λi req p hp=> by
     have:=((X.inv.fab.take i req).2 p hp).ok;simp only [Pkt.ok,zaj,decide_eq_true_eq] at this;omega) (X.node _ n hn) X.dst).2
    rw [e] at this;exact this
   ·cases hn
 ·intro j n hj;unfold fE.step at hj;split at hj
  ·exact(X.node j n hj).mono (za8 T)
  ·rename_i n0 hn;split at hj;rename_i n' f t k e;unfold fE.node at hn;split at hn
   ·rename_i hi;simp only at hj;rw [List.getElem?_set] at hj;split at hj
    ·split at hj
     ·cases hj;have NI:=X.inv.node _ n0 hn;have:=(aek (c:=m.c) (me:=i) (t:=m.trace) (NI.cache.le X.inv.ok) (λi req p hp=> by
       have:=((X.inv.fab.take i req).2 p hp).ok;simp only [Pkt.ok,zaj,decide_eq_true_eq] at this;omega) (X.node _ n0 hn) X.dst).1
      rw [e] at this;exact this
     ·cases hj
    ·exact(X.node j n hj).mono (za8 T)
   ·cases hn
theorem MX.deliver {T:Nat}{m:fE}(X:MX T m)(a b k:Int):MX T (m.deliver a b k).1:=by
 obtain⟨r,S⟩:=X.sim;obtain⟨h1,h2,h3⟩:=Ny S X.inv a b k;exact⟨h2,⟨_,h1⟩,X.dst.deliver a b k,X.node⟩
theorem MX.do_ {T:Nat}{m:fE}(X:MX T m)(p:Pck):MX (T+1) (m.do_ p).1:=by
 unfold fE.do_;split
 ·exact(X.deliver _ _ _).mono (za8 T)
 ·exact X.step _
theorem aoj {g:Store}{x y:Nat}{A B:List Cell}(k:Nat)(h:g x=some A)(h':g y=some B)(hl:A[k]?≠B[k]?):x≠y:=λe=> by
 subst e;rw [h] at h';exact hl (by rw [za2 h'])
def Y6(A:Adr)(k n:Nat)(q:Nat):Prop:=(∃i s,i < k/\s < 6/\q=A.N i s)∨JG A.P n q∨q=A.trace
section
variable {b:Nat}{H:aj}{g g':Store}{A:Adr}{m:fE}{T:Nat}
theorem evs_le {m:fE}(I:MInv m):m.trace.length<=1000:=by
 have B:=pJ I.ok;have hl:=I.len;have:∀(l:List Node),(∀n∈l,Node.evs n<=49)->(l.map Node.evs).sum<=49*l.length:=by
  intro l
  induction l with
  | nil=> intro _;simp
  | cons n l ih=>
   intro h;have h1:=h n (by simp);have h2:=ih λx hx=> h x (by simp [hx]);simp only [zaB,zcl,zal];omega
 have h1:=this m.nodes λn hn=> by
  obtain⟨i,hi⟩:=List.mem_iff_getElem?.1 hn;have P:=(I.node i n hi).proc;have:=P.most;have:=P.vals;unfold Node.evs;split <;> omega
 rw [I.evs];have:=B.nodes;omega
def aok(A:Adr)(i:Nat):NY:=⟨A.N i,A.fab,A.P,A.trace⟩
theorem iL.nw(M:iL g A m){i:Nat}{n:Node}(hi:m.nodes[i]?=some n):NW g (aok A i) m.c i (n,m.fab,m.trace):=⟨M.node i n hi,M.fab,M.trace,M.RH,M.tf⟩
theorem iL.Y7(M:iL g A m){q:Nat}(h:Y6 A m.nodes.length m.fab.l.length q):A.jV≠q:=by
 have hm:=M.jV;rcases h with⟨i,s,hi,hs,rfl⟩ | ⟨i,s,hi,hs,rfl⟩ | rfl
 ·obtain⟨n,hn⟩:∃n,m.nodes[i]?=some n:=⟨_,zab hi⟩
  obtain⟨h0,h1,h2,h3,h4,h5⟩:=M.node i n hn;have l11:(uj A m.c m.nodes.length).length=11:=by simp [uj,EO,Cfg.av]
  match s,hs with
  | 0,_=> exact iI hm h0 (by rw [l11];simp only [fA];decide)
  | 1,_=> exact iI hm h1 (by rw [l11];simp only [dV];decide)
  | 2,_=> exact iI hm h2 (by rw [l11];simp only [gy];decide)
  | 3,_=> exact aoj 10 hm h3 (by simp [uj,EO,Cfg.av,AA])
  | 4,_=> exact iI hm h4 (by rw [l11];simp only [jh];decide)
  | 5,_=> exact iI hm h5 (by rw [l11];simp only [dW];decide)
 ·exact iI hm (eu (M.fab.port hi) hs) (by simp [uj,EO,Cfg.av,kV])
 ·exact iI hm M.trace (by simp [uj,EO,Cfg.av,kK])
theorem iL.len(M:iL g A m)(I:MInv m):m.nodes.length=m.fab.l.length:=by
 have:=I.len;have:=I.fab.len;omega
theorem aby(G:Good b H g)(hb:H.base<=b)(M:iL g A m)(X:MX T m)(hT:T < 999000){i:Nat}{n:Node}(hi:m.nodes[i]?=some n):
  ∃H' g',cl 36 [.ref (A.N i 0) 0 0,.ref A.fab 0 0,.ref A.trace 0 0] H=some (I (m.step i).2,H')/\Good b H' g'/\iL g' A (m.step i).1/\Off (Y6 A m.nodes.length m.fab.l.length) g g'/\Step b H H':=by
 have N:=M.nw hi;have NX:=X.node i n hi;have NI:=X.inv.node i n hi;have hil:i < m.nodes.length:=(zaf.1 hi).1;have W:=Walk.of G hb N;obtain⟨K',g',e1,W'⟩:=abt W X.inv.ok X.inv.fab NI ⟨NX.UU,by have:=NX.num1;show n.num < 1000000;omega⟩ (by have:=evs_le X.inv;show m.trace.length < 999999;omega) (by have:=NX.dat;show n.deal.data.length < 1000000000;omega) (λline=> by have:=NX.ws line;show(n.home.turns.ws line).length < 1000000;omega);have hst:m.step i=({ m with nodes:=m.nodes.set i (n.step m.c i m.fab m.trace).1.1,fab:=(n.step m.c i m.fab m.trace).1.2.1,trace:=(n.step m.c i m.fab m.trace).1.2.2 },(n.step m.c i m.fab m.trace).2):=by
  unfold fE.step fE.node;rw [if_pos (by omega),zaq,hi]
 rw [hst];have hO:Off (aeh (aok A i) m.fab.l.length) g g':=W'.off;have hsub:∀q,aeh (aok A i) m.fab.l.length q->Y6 A m.nodes.length m.fab.l.length q:=by
  rintro q (⟨s,hs,rfl⟩ | h | rfl)
  ·exact .inl ⟨i,s,hil,hs,rfl⟩
  ·exact .inr (.inl h)
  ·exact .inr (.inr rfl)
 have hN':=W'.nw;have hlen':=W'.len;refine⟨K',g',e1,W'.loc.out,⟨?_,hN'.tr,hN'.fab,λj n' hj=> ?_,?_,?_,M.tf⟩,hO.mono hsub,W'.step⟩
 ·show g' A.jV=some (uj A m.c (m.nodes.set i _).length);rw [zb3,hO A.jV λh=> M.Y7 (hsub _ h) rfl];exact M.jV
 ·simp only at hj;by_cases hij:i=j
  ·subst hij;rw [zbw hil] at hj;cases hj;exact hN'.node
  ·rw [zbT hij] at hj;have hjl:j < m.nodes.length:=(zaf.1 hj).1;have Nj:=M.nw hj;refine(M.node j n' hj).ext λs hs=> hO _ ?_;rintro(⟨t,ht,e⟩ | h | e)
   ·exact hij (M.alV _ _ _ _ hjl hil hs ht e).1.symm
   ·exact(Nj.Uz h).1 s hs rfl
   ·exact Nj.YJ s hs e
 ·show Po A.P _;have:(n.step m.c i m.fab m.trace).1.2.1.l.length=m.fab.l.length:=hlen';rw [this];exact M.RH
 ·show alU A.N (m.nodes.set i _).length;rw [zb3];exact M.alV
theorem P5(G:Good b H g)(hb:H.base<=b)(M:iL g A m)(X:MX T m){at_ bit mask:Int}(h64:In64 at_)(hbit:In64 bit)(m0:0<=mask)(m1:mask<=65535):
  ∃H' g',cl 35 [.ref A.fab 0 0,I at_,I bit,.s (.int .u16 mask)] H=some (I (m.deliver at_ bit mask).2,H')/\Good b H' g'/\iL g' A (m.deliver at_ bit mask).1/\Off (Y6 A m.nodes.length m.fab.l.length) g g'/\Step b H H':=by
 have B:=pJ X.inv.ok;have h0:m.fab.l.length≠0:=by have:=X.inv.fab.len;have:=B.nodes;omega
 obtain⟨H',g',e1,G',F',O',S'⟩:=UF G hb M.fab M.RH (fok X.inv.ok X.inv.fab) h0 (λp hp=> ⟨⟨(X.inv.fab.pkt hp).ok,(X.inv.fab.pkt hp).num⟩,X.dst.all p hp⟩) h64 hbit m0 m1;have hsub:∀q,JG A.P m.fab.l.length q->Y6 A m.nodes.length m.fab.l.length q:=λq h=> .inr (.inl h);have hlen:(m.fab.deliver at_ bit mask).1.l.length=m.fab.l.length:=by
  have h1:=(X.inv.fab.deliver at_ bit mask).len;have h2:=X.inv.fab.len;omega
 refine⟨H',g',e1,G',⟨?_,?_,F',λj n' hj=> ?_,?_,M.alV,M.tf⟩,O'.mono hsub,S'⟩
 ·rw [O' A.jV λh=> M.Y7 (hsub _ h) rfl];exact M.jV
 ·rw [O' A.trace λ⟨i,s,hi,hs,e⟩=> by
   have:=eu (M.fab.port hi) hs;exact iI M.trace this (by simp [kK,kV]) e]
  exact M.trace
 ·exact(M.node j n' hj).ext λs hs=> O' _ λh=> ((M.nw hj).Uz h).1 s hs rfl
 ·show Po A.P (m.fab.deliver at_ bit mask).1.l.length;rw [hlen];exact M.RH
theorem aol(G:Good b H g)(hb:H.base<=b)(M:iL g A m)(X:MX T m)(hT:T < 999000)(p:Pck)(h64:In64 p.at_)(hbit:In64 p.bit)(m0:0<=p.mask)(m1:p.mask<=65535):
  ∃H' g',cl 11 [.ref A.jV 0 0,.agg p.av] H=some (B (m.do_ p).2,H')/\Good b H' g'/\iL g' A (m.do_ p).1/\Off (Y6 A m.nodes.length m.fab.l.length) g g'/\Step b H H':=by
 let H1:=H.new (.blk 0 35 p.av);have G1:Good b H1 g:=G.new _;have g1:H1.get H.next=.blk 0 35 p.av:=aK rfl
 have l0:ld (.ref H.next 0 0) H1=some (B p.deliver,H1):=by rw [dG g1];rfl
 have l1:ld (.ref H.next 0 1) H1=some (I p.at_,H1):=by rw [dG g1];rfl
 have l2:ld (.ref H.next 0 2) H1=some (I p.bit,H1):=by rw [dG g1];rfl
 have l3:ld (.ref H.next 0 3) H1=some (.s (.int .u16 p.mask),H1):=by rw [dG g1];rfl
 have f0:=G1.load M.jV (i:=0) (x:=.ref A.fab 0 0) rfl;have f1:=G1.load M.jV (i:=1) (x:=.ref A.trace 0 0) rfl;have S1:Step b H H1:=Step.new _ G.1;have hb1:H1.base<=b:=by simp only [H1,bNew];exact hb
 have B:=pJ X.inv.ok;cases hd:p.deliver with
 | true=>
  rw [hd] at l0;obtain⟨H',g',e1,G',M',O',S'⟩:=P5 G1 hb1 M X h64 hbit m0 m1;have hdo:m.do_ p=((m.deliver p.at_ p.bit p.mask).1,decide ((m.deliver p.at_ p.bit p.mask).2=0)):=by
   unfold fE.do_;rw [hd];rfl
  rw [hdo];refine⟨H',g',aO rfl rfl (ae7 _ _ _ _ ?_),G',M',O',S1.trans S'⟩;simp only [H1] at l0 l1 l2 l3 f0 f1 e1;simp -implicitDefEqProofs only [Nat.reduceLT,xq_,hq_,aan,aB (wC p),l0,l1,l2,l3,f0,e1]
 | false=>
  rw [hd] at l0;have hdo:m.do_ p=((m.step p.at_).1,decide ((m.step p.at_).2≠0)):=by
   unfold fE.do_;rw [hd];rfl
  rw [hdo];have e0:=aa2 G1 M (by have:=X.inv.len;have:=B.nodes;omega) p.at_;by_cases hi:0<=p.at_/\p.at_ < m.nodes.length
  ·rw [if_pos hi] at e0;obtain⟨i,hii⟩:∃i:Nat,p.at_=i:=⟨p.at_.toNat,by omega⟩
   rw [hii] at e0 hi l1;rw [hii];rw [zaq] at e0;obtain⟨n,hn⟩:∃n,m.nodes[i]?=some n:=⟨_,zab (by omega)⟩
   obtain⟨H',g',e1,G',M',O',S'⟩:=aby G1 hb1 M X hT hn;refine⟨H',g',aO rfl rfl (ae7 _ _ _ _ ?_),G',M',O',S1.trans S'⟩;have nn:bi .neq 54 (.ref (A.N i 0) 0 0) zP=some (.s (.bool true)):=by kernel_rfl
   simp only [H1] at l0 l1 f0 f1 e0 e1;simp -implicitDefEqProofs only [Nat.reduceLT,xq_,hq_,aan,aB (wC p),l0,l1,f0,f1,e0,nn,e1];simp
  ·rw [if_neg hi] at e0;have hst:m.step p.at_=(m,0):=by
    unfold fE.step fE.node;by_cases h0:0<=p.at_
    ·rw [if_pos h0,zaG (by omega)]
    ·rw [if_neg h0]
   rw [hst];refine⟨H1,g,aO rfl rfl (ae7 _ _ _ _ ?_),G1,M,Off.refl _ _,S1⟩;have nn:bi .neq 54 zP zP=some (.s (.bool false)):=by kernel_rfl
   simp only [H1] at l0 l1 e0;simp -implicitDefEqProofs only [Nat.reduceLT,xq_,hq_,aan,aB (wC p),l0,l1,e0,nn]
   try rfl
end
theorem vk(c:Cfg)(me line:Int):∀n:Nat,iV (c.iJ me n) line=if 0<=line/\line < n/\c.gY line=me then some ⟨0,-1,c.first line⟩ else none
 | 0=> by
  have:¬(0<=line/\line < ((0:Nat):Int)/\c.gY line=me):=by omega
  rw [if_neg this];rfl
 | n+1=> by
  simp only [Cfg.iJ];by_cases h:c.gY n=me
  ·rw [if_pos h,jR,vk c me line n];by_cases e:(n:Int)=line
   ·subst e;rw [if_pos rfl,if_pos ⟨by omega,by omega,h⟩]
   ·rw [if_neg e];by_cases h2:0<=line/\line < n/\c.gY line=me
    ·rw [if_pos h2,if_pos ⟨h2.1,by omega,h2.2.2⟩]
    ·rw [if_neg h2,if_neg (λh3=> h2 ⟨h3.1,by omega,h3.2.2⟩)]
  ·rw [if_neg h,vk c me line n];by_cases h2:0<=line/\line < n/\c.gY line=me
   ·rw [if_pos h2,if_pos ⟨h2.1,by omega,h2.2.2⟩]
   ·rw [if_neg h2,if_neg (λh3=> h2 ⟨h3.1,(by
     have:line≠n:=λe=> h (by rw [<-e];exact h3.2.2);omega),h3.2.2⟩)]
theorem NM {c:Cfg}(h:c.ok=true){line:Int}(h0:0<=line):c.gY line=line % c.nodes:=by
 unfold Cfg.gY zZ;rw [if_neg (by omega)]
theorem SK {c:Cfg}(h:c.ok=true)(me:Int)(l:List Opn):ahR c me (.new c me l) (.new c l):=by
 have Bd:=pJ h;have hl:=Bd.lines;have hh:∀line,lI c me line=true↔(0<=line/\line < c.lines.toNat/\c.gY line=me):=by
  intro line;simp only [lI,zaj,decide_eq_true_eq];constructor
  ·rintro⟨⟨a,b⟩,d⟩;exact⟨a,by omega,by rw [NM h a];exact d⟩
  ·rintro⟨a,b,d⟩;exact⟨⟨a,by omega⟩,by rw [<-NM h a];exact d⟩
 refine⟨rfl,rfl,rfl,rfl,rfl,rfl,rfl,rfl,rfl,List.Pairwise.nil,List.Perm.refl _,λline PY=> ?_,λline PY=> ?_,λline=> rfl,λline=> rfl⟩
 ·have h1:=(hh line).1 PY;refine⟨⟨0,-1,c.first line⟩,?_,?_⟩
  ·show iV (c.iJ me c.lines.toNat) line=_;rw [vk,if_pos h1]
  ·show((List.range c.lines.toNat).map λ(i:Nat)=> (⟨0,-1,c.first (i:Int)⟩:Row))[line.toNat]?=_;rw [zaD,zbi (by omega)];simp only [zah];rw [show((line.toNat:Nat):Int)=line by omega]
 ·show iV (c.iJ me c.lines.toNat) line=_;rw [vk,if_neg λh1=> by rw [(hh line).2 h1] at PY;cases PY]
theorem agt {c:Cfg}(h:c.ok=true){ps:List (List Opn)}:Sim (.new c ps) (.new c ps):=by
 refine⟨rfl,by simp [fE.new,eG.new],rfl,rfl,λi n rn hn hr=> ?_⟩;simp only [fE.new,zba,zbm] at hn;simp only [eG.new,zaD,zbm] at hr;obtain⟨l,hl,rfl⟩:=hn;obtain⟨l',hl',rfl⟩:=hr;rw [hl] at hl';cases hl';exact SK h i l
theorem Y8(H:aj)(hb:H.base<=H.next)(c:Cfg){x:AV}{ps:List (List Opn)}(hx:RG H x ps)(hn:ps.length < 1000000000)(hl:∀l∈ps,l.length < 1000000000)(hp:¬(c.ok=true/\c.pF ps=true)):
  ∃H',cl 25 [.agg c.av,x] H=some (.tup [zP,I 1],H')/\Made H H' nil0:=by
 let H1:=H.new (.blk 0 40 c.av);have M1:Made H H1 nil0:=(Made.refl hb).new _;have b1:=iH (H:=H1) (r:=H.next) (c:=c) (aK rfl);have e1:=aaW H1 c;have b0:bi .neq 76 (I 0) (I 0)=some (B false):=by kernel_rfl
 have b1':bi .neq 76 (I 1) (I 0)=some (B true):=by kernel_rfl
 refine⟨H1,aO rfl rfl (aii _ _ _ _ ?_),M1⟩;by_cases hc:c.ok=true
 ·have hp':¬c.pF ps=true:=λh=> hp ⟨hc,h⟩;have e2:=ad6 H1 c hc (hx.gW (H':=H1) (by simp only [H1,nNew];omega) λr hr=> aQ hr) hn hl;rw [if_neg hp'] at e2;rw [if_pos hc] at e1;simp only [H1] at b1 e1 e2;simp -implicitDefEqProofs only [Nat.reduceLT,xq_,hq_,aaq,aB (dH c),b1,e1,b0,e2,b1'];rfl
 ·rw [if_neg hc] at e1;simp only [H1] at b1 e1;simp -implicitDefEqProofs only [Nat.reduceLT,xq_,hq_,aaq,aB (dH c),b1,e1,b1'];rfl
def abz:Cfg:=⟨0,0,0,0,0,0,0,[]⟩
theorem agu(H:aj):cl 21 [] H=some (B true,H):=by
 have hc:ad9.ok=true:=by decide
 have hp:ad9.pF [[]]=true:=by decide
 have hav:ad9.av=[I 1,I 1,I 1,I 1,I 1,I 1,I 1,zN]:=by simp [ad9,Cfg.av,dat,dP]
 have zav:abz.av=[zI,zI,zI,zI,zI,zI,zI,zN]:=by simp [abz,Cfg.av,dat,dP]
 let H2:=H.guard.new (.blk 0 98 [zN]);have hps:RG H2 (.sl H.next 0 0 1 1 1 true) [[]]:=⟨[zN],jB (n:=1) (m:=1) (l:=[zN]) rfl,λi v l a b=> by
  match i with
  | 0=> cases a;cases b;exact⟨aG.nil,λ_=> rfl⟩
  | i+1=> cases a⟩
 obtain⟨H3,A,g,e1,M,MI⟩:=Gs H2 (by simp only [H2,bNew,nNew,ahK,yG];omega) ad9 hc hps hp;have hf:=aaS hc hp;have hbn:H3.base<=H3.next:=by
  rw [M.base];exact zaz (by simp only [H2,bNew,nNew,ahK,yG];omega) M.next
 obtain⟨H4,e2,M2⟩:=Y8 H3 hbn abz (RG.zN (H:=H3)) (by simp) (λl hl=> by cases hl) (by decide);have G4:Good H2.next H4 g:=M.good.ext M2.next M2.same
 have e3:=aaR G4 MI hf;have e4:=Pq G4 MI hf;have q1:(fE.new ad9 [[]]).quiet=true:=by decide
 have q2:(fE.new ad9 [[]]).left=0:=by decide
 rw [q1] at e3;rw [q2] at e4;have ev:bd 40 [(0,I 1),(1,I 1),(2,I 1),(3,I 1),(4,I 1),(5,I 1),(6,I 1)]=some (.agg ad9.av):=by
  rw [hav];simp -implicitDefEqProofs only [xq_,aeO,gB,dI,aeN];rfl
 have ez:bd 40 []=some (.agg abz.av):=by
  rw [zav];simp -implicitDefEqProofs only [xq_,aeO,gB,dI]
 have b0:bi .eql 76 (I 0) (I 0)=some (B true):=by kernel_rfl
 have b1:bi .eql 76 (I 1) (I 1)=some (B true):=by kernel_rfl
 have en:bi .neq 26 (.ref A.jV 0 0) zP=some (B true):=by kernel_rfl
 have eq:bi .eql 26 zP zP=some (B true):=by kernel_rfl
 have es:∀H,bs 28 1 [(0,zN)] H=some (.sl H.next 0 0 1 1 1 true,H.new (.blk 0 98 [zN])):=λH=> by
  exact(ame (by decide)).trans rfl
 refine fP rfl rfl (amQ _ _ (r:=(B true,H4)) ?_) gX;simp only [H2] at e1;simp -implicitDefEqProofs only [xq_,aib,ev,es,e1,ez,e2,b0,en,e3,e4,b1,eq]
theorem iL.sub {g g':Store}{A:Adr}{m:fE}(h:iL g A m)(hg:pz g g'):iL g' A m:=by
 refine⟨hg _ _ h.jV,hg _ _ h.trace,⟨hg _ _ h.fab.1,λi p hp=> ?_,h.fab.2.2⟩,λi n hn=> ?_,h.RH,h.alV,h.tf⟩
 ·obtain⟨a,b,c,d⟩:=h.fab.2.1 i p hp;exact⟨hg _ _ a,hg _ _ b,hg _ _ c,hg _ _ d⟩
 ·obtain⟨a,b,c,d,e,f⟩:=h.node i n hn;exact⟨hg _ _ a,hg _ _ b,hg _ _ c,hg _ _ d,hg _ _ e,hg _ _ f⟩
theorem DJ.sub {g g':Store}{q f:Nat}{N:Nat->Nat->Nat}{m:eG}(h:DJ g q f N m)(hg:pz g g'):DJ g' q f N m:=by
 have hd:∀{x l},qh g x l->qh g' x l:=λh=> h.sub λq cs hq _=> hg q cs hq;obtain⟨ls,f1,f2,f3⟩:=h.fab;refine⟨hg _ _ h.jV,⟨ls,hg _ _ f1,f2,λi l cells hl hc=> (f3 i l cells hl hc).mono λp cs _ ⟨x,a,b⟩=> ⟨x,hd a,b⟩⟩,λi n hn=> ?_,h.inj⟩;obtain⟨⟨d,⟨x,d1,d2⟩,h0⟩,⟨cells,k,h1⟩,⟨rows,r,h2⟩⟩:=h.node i n hn;exact⟨⟨d,⟨x,hd d1,d2⟩,hg _ _ h0⟩,⟨cells,k.mono λe cs _ ⟨x,a,b⟩=> ⟨x,hd a,b⟩,hg _ _ h1⟩,⟨rows,r.mono λe cs _ ⟨x,a,b⟩=> ⟨x,hd a,b⟩,hg _ _ h2⟩⟩
theorem abA {b n:Nat}{H1:aj}{g g':Store}(G:Good b H1 g)(hn:H1.next=n):pz g (cup n g g'):=λq cs hq=> iQ G hq hn
theorem abB {b n:Nat}{H1:aj}{g g':Store}(G:Good b H1 g')(hn:n<=b):pz g' (cup n g g'):=λq cs hq=> jS G hq hn
def qC(c:Cho)(nodes under:Int):Pck:=
 if c.do_.tmod 23=22 then⟨decide (c.bit.tmod 2=0),c.at_,c.bit,c.mask⟩ else
 if aW c.do_ 2=0 then⟨false,aW c.at_ nodes,0,0⟩ else
 if c.do_.tmod 7=6 then⟨true,aW c.at_ under,aW c.bit 120,c.mask⟩ else⟨true,aW c.at_ under,0,0⟩
theorem agv(d:Nat):∀(p:Pck),∀x∈p.av,Frz (d+1) x:=by
 intro p x hx;simp only [Pck.av,zam,zaH,or_false] at hx;rcases hx with rfl | rfl | rfl | rfl <;> exact dZ
theorem UJ(p:Pck):Frz 9 (.agg p.av):=kC (agv 7 p)
theorem lM {n:Int}:(AV.s (.int .u16 n)).cells=[.s (.int .u16 n)]:=rfl
theorem kH {n:Int}:(AV.s (.int .u16 n)).aH=true:=rfl
theorem abC(H:aj)(c:Cho){nodes under:Int}(hn:nodes<=9223372036854775807)(hu:under<=9223372036854775807):cl 12 [.agg c.av,I nodes,I under] H=some (.agg (qC c nodes under).av,H):=by
 refine aY rfl rfl (amG _ _ _ _ _) ?_ (UJ _);have r1:=qV (P:=Tryz.prog) (t:=3) (k:=.i64) (a:=c.do_) (b:=23) (by decide);have r2:=qV (P:=Tryz.prog) (t:=3) (k:=.i64) (a:=c.do_) (b:=7) (by decide);have r3:=qV (P:=Tryz.prog) (t:=3) (k:=.i64) (a:=c.bit) (b:=2) (by decide);have r1':bi .rem 3 (I c.do_) (I 23)=some (I (c.do_.tmod 23)):=r1;have r2':bi .rem 3 (I c.do_) (I 7)=some (I (c.do_.tmod 7)):=r2;have r3':bi .rem 3 (I c.bit) (I 2)=some (I (c.bit.tmod 2)):=r3;have k1:=λH=> kW H c.do_ 2 (by omega);have k2:=λH=> kW H c.at_ nodes hn;have k3:=λH=> kW H c.at_ under hu;have k4:=λH=> kW H c.bit 120 (by omega);have eb:∀H,eF 38 (.agg [I c.do_,I c.at_,I c.bit,.s (.int .u16 c.mask)]) H=some (.ref H.next 0 0,H.new (.blk 0 38 [I c.do_,I c.at_,I c.bit,.s (.int .u16 c.mask)])):=λH=> aB (ae5 c) (by decide);simp only [Cho.av];by_cases h1:c.do_.tmod 23=22
 ·rw [show qC c nodes under=⟨decide (c.bit.tmod 2=0),c.at_,c.bit,c.mask⟩ by unfold qC;rw [if_pos h1]];simp -implicitDefEqProofs only [Nat.reduceAdd,Nat.reduceLeDiff,setAt,xq_,hq_,WE,eb,r1',h1,r3',OI,gB,dI,KP,Pck.av]
  try rfl
 by_cases h2:aW c.do_ 2=0
 ·rw [show qC c nodes under=⟨false,aW c.at_ nodes,0,0⟩ by unfold qC;rw [if_neg h1,if_pos h2]];simp -implicitDefEqProofs only [Nat.reduceAdd,Nat.reduceLeDiff,setAt,xq_,hq_,WE,eb,r1',h1,k1,h2,k2,OI,gB,dI,KP,Pck.av]
  try rfl
 by_cases h3:c.do_.tmod 7=6
 ·rw [show qC c nodes under=⟨true,aW c.at_ under,aW c.bit 120,c.mask⟩ by unfold qC;rw [if_neg h1,if_neg h2,if_pos h3]];simp -implicitDefEqProofs only [Nat.reduceAdd,Nat.reduceLeDiff,setAt,xq_,hq_,WE,eb,r1',h1,k1,h2,k3,OI,gB,dI,KP,Pck.av,r2',h3,k4,IK];rw [Uf λr hr=> by
   cases hr;rw [aQ (by simp only [nNew,yG];omega),aQ (by simp only [nNew,yG];omega),aK (by rw [yG]),aQ (by simp only [nNew,yG];omega),aQ (by simp only [nNew,yG];omega),aK (by rw [yG])]]
  rfl
 ·rw [show qC c nodes under=⟨true,aW c.at_ under,0,0⟩ by unfold qC;rw [if_neg h1,if_neg h2,if_neg h3]];simp -implicitDefEqProofs only [Nat.reduceAdd,Nat.reduceLeDiff,setAt,xq_,hq_,WE,eb,r1',h1,k1,h2,k3,OI,gB,dI,KP,Pck.av,r2',h3,IK]
  try rfl
theorem SL:In64 0:=⟨by decide,by decide⟩
theorem vw {v n:Int}(h:In64 n):In64 (aW v n):=by
 by_cases h1:n < 1
 ·have:aW v n=0:=by unfold aW;rw [if_pos h1]
  rw [this];exact SL
 ·have:=kE (v:=v) (n:=n) (by omega);have h2:=h.2;exact⟨by omega,by omega⟩
theorem abD {c:Cho}(h:c.In){nodes under:Int}(h2:In64 nodes)(h4:In64 under):In64 (qC c nodes under).at_/\In64 (qC c nodes under).bit/\0<=(qC c nodes under).mask/\(qC c nodes under).mask<=65535:=by
 have apJ:In64 120:=⟨by decide,by decide⟩
 have z0:(0:Int)<=0:=by decide
 have z1:(0:Int)<=65535:=by decide
 unfold qC;split
 ·exact⟨h.at_,h.bit,h.mask0,h.mask⟩
 ·split
  ·exact⟨vw h2,SL,z0,z1⟩
  ·split
   ·exact⟨vw h4,vw apJ,h.mask0,h.mask⟩
   ·exact⟨vw h4,SL,z0,z1⟩
theorem alE {l:List Int}(h:∀z∈l,In64 z)(i:Int):In64 (atM l i):=by
 unfold atM;split
 ·rw [zay];cases e:l[i.toNat]? with
  | none=> exact⟨by decide,by decide⟩
  | some v=> exact h v (zas e)
 ·exact⟨by decide,by decide⟩
theorem UK {c:Cfg}(hc:c.ok=true)(zk za zv:List Int)(hv:∀z∈zv,In64 z)(i:Nat):c.right (Ya c zk za zv i)=true/\I64 (Ya c zk za zv i).value:=by
 have B:=pJ hc;have hw:=B.words;have hl:=B.lines;have h1:1<=kindOf (atM zk i)/\kindOf (atM zk i)<=4:=by have:=Uc (atM zk i);omega
 have h0:1<=c.lines*c.words:=by
  have:=zbV hl.1 hw.1 (by decide) (by omega);omega
 have h2:=kE (v:=atM za i) h0;unfold Ya;refine⟨?_,?_⟩
 ·unfold Cfg.right;simp only [zaj,decide_eq_true_eq,zbh];refine⟨⟨⟨h1.1,h1.2⟩,?_⟩,?_⟩
  ·unfold Cfg.cZ Cfg.jq;rw [if_neg (by omega)];have:=Int.ediv_nonneg h2.1 (show 0<=c.words by omega);omega
  ·split
   ·rename_i h;rcases h with h | h
    ·exact .inl (.inr h)
    ·exact .inr h
   ·exact .inl (.inl rfl)
 ·simp only;split
  ·exact alE hv i
  ·exact⟨by decide,by decide⟩
theorem rQ {c:Cfg}(hc:c.ok=true)(zw zk za zv:List Int)(hv:∀z∈zv,In64 z):∀i,∀l∈kF c zw zk za zv i,∀o∈l,c.right o=true/\I64 o.value
 | 0,l,h=> by
  rw [List.eq_of_mem_replicate h];intro o ho;cases ho
 | i+1,l,h=> by
  have ih:=rQ hc zw zk za zv hv i;simp only [kF,iE] at h;split at h
  ·rcases zbM h with h | rfl
   ·exact ih l h
   ·intro o ho;rcases za1.1 ho with ho | ho
    ·rw [zay] at ho;cases e:(kF c zw zk za zv i)[(aW (atM zw i) c.nodes).toNat]? with
     | none=> rw [e] at ho;cases ho
     | some l'=> rw [e] at ho;exact ih l' (zas e) o ho
    ·rw [zaT] at ho;subst ho;exact UK hc zk za zv hv i
  ·exact ih l h
theorem abE {c:Cfg}(hc:c.ok=true)(zw zk za zv:List Int)(hv:∀z∈zv,In64 z)(mo:Nat):c.pF (mW c zw zk za zv mo)=true:=by
 have B:=pJ hc;have hn:=B.nodes;unfold Cfg.pF;simp only [zaj,decide_eq_true_eq,zaX];refine⟨λl hl=> ⟨zA _ _ _ _ _ _ l hl,λo ho=> (rQ hc zw zk za zv hv _ l hl o ho).1⟩,?_⟩;unfold mW;rw [nU];omega
theorem abG {c:Cfg}(hc:c.ok=true)(hi:∀z∈c.init,In64 z){line:Int}(h:0<=line/\line < c.lines):lZ c (c.first line):=by
 have B:=pJ hc;have hw:=B.words;unfold Cfg.first
 rw [if_neg (by omega)];refine⟨by rw [zaE,List.length_range];omega,λv hv=> ?_⟩;obtain⟨j,_,rfl⟩:=zaM.1 hv;rw [zay];cases e:c.init[(line*c.words).toNat+j]? with
 | none=> exact⟨by decide,by decide⟩
 | some x=> exact hi x (zas e)
theorem EH(c:Cfg)(me:Int):∀n:Nat,∀e∈c.iJ me n,0<=e.1/\e.1 < n/\e.2.data=c.first e.1
 | 0,e,h=> by cases h
 | n+1,e,h=> by
  simp only [Cfg.iJ] at h;have ih:=EH c me n;split at h
  ·have key:∀(l:List (Int × Row)) (k:Int) (x:Row),e∈mO l k x->e∈l∨(e.1=k/\e.2=x):=by
    intro l
    induction l with
    | nil=>
     intro k x hx;simp only [mO,zaT] at hx;right;rw [hx];exact⟨rfl,rfl⟩
    | cons a l ih=>
     obtain⟨k',v⟩:=a;intro k x hx;simp only [mO] at hx;split at hx
     ·rename_i hk;rcases zam.1 hx with rfl | hx
      ·exact .inr ⟨by first | rfl | exact hk | exact hk.symm,rfl⟩
      ·exact .inl (zbS _ hx)
     ·rcases zam.1 hx with rfl | hx
      ·exact .inl (List.mem_cons_self ..)
      ·rcases ih k x hx with hx | hx
       ·exact .inl (zbS _ hx)
       ·exact .inr hx
   rcases key _ _ _ h with h | ⟨h1,h2⟩
   ·have:=ih e h;exact⟨this.1,by omega,this.2.2⟩
   ·exact⟨by omega,by omega,by rw [h2,h1]⟩
  ·have:=ih e h;exact⟨this.1,by omega,this.2.2⟩
theorem alF {c:Cfg}(hc:c.ok=true)(me:Int)(l:List Opn):NS c me (.new c me l) (.new c l):=⟨SK hc me l,List.Pairwise.nil,λo ho=> by cases ho⟩
theorem abH {c:Cfg}(hc:c.ok=true){ps:List (List Opn)}:Zh (.new c ps) (.new c ps):=by
 have S:=agt hc (ps:=ps);refine⟨rfl,by simp [fE.new,eG.new],rfl,rfl,λi n rn hn hr=> ?_⟩;simp only [fE.new,zba,zbm] at hn;simp only [eG.new,zaD,zbm] at hr;obtain⟨l,hl,rfl⟩:=hn;obtain⟨l',hl',rfl⟩:=hr;rw [hl] at hl';cases hl';exact alF hc i l
theorem alG {c:Cfg}(hc:c.ok=true)(hi:∀z∈c.init,In64 z){ps:List (List Opn)}(hp:c.pF ps=true)(hv:∀l∈ps,∀o∈l,c.right o=true/\I64 o.value):MX 0 (.new c ps):=by
 have B:=pJ hc;have hn:=B.nodes;have hb:=B.lines;obtain⟨h1,h2⟩:=BR hp;refine⟨⟨hc,?_,?_,λi n hn=> ?_,?_⟩,⟨_,abH hc⟩,DX.new c,λi n hn=> ?_⟩
 ·simp only [fE.new,zcj];exact h1
 ·refine⟨rfl,rfl,?_,λp hp=> ?_⟩
  ·simp only [fE.new,Fab.new,zb0];omega
  ·simp only [fE.new,Fab.new,List.mem_replicate] at hp;rw [hp.2];have:=B.out;have:=B.inn;refine⟨by show((0:Nat):Int)<=c.out;omega,by show((0:Nat):Int)<=c.out;omega,by show((0:Nat):Int)<=c.inn;omega,by show((0:Nat):Int)<=1;omega,λq hq=> by simp [Port.zero] at hq⟩
 ·simp only [fE.new,zba,zbm] at hn;obtain⟨l,hl,rfl⟩:=hn;have hm:=zas hl;refine⟨⟨h2 l hm,hv l hm,zaU _,λh=> by cases h⟩,⟨rfl,rfl,List.Pairwise.nil,List.Pairwise.nil,λe he=> (by cases he),λline=> ?_,zbF 0⟩,λe he=> ?_,⟨⟨List.Pairwise.nil,λe he=> (by cases he),List.Pairwise.nil,λe he=> (by cases he)⟩,λe he=> (by cases he)⟩,λh=> absurd rfl h,zbF 0⟩
  ·have:=B.ways;show(([]:List Ent).length:Int)<=c.ways;simp;omega
  ·obtain⟨r1,r2,r3⟩:=EH c i _ e he;rw [r3];exact abG hc hi ⟨r1,by omega⟩
 ·have:∀n∈(fE.new c ps).nodes,Node.evs n=0:=by
   intro n hn;simp only [fE.new,List.mem_mapIdx] at hn;obtain⟨i,hi,rfl⟩:=hn;rfl
  have h0:∀l:List Node,(∀n∈l,Node.evs n=0)->(l.map Node.evs).sum=0:=by
   intro l
   induction l with
   | nil=> intro _;rfl
   | cons n l ih=>
    intro h;rw [zaB,zcl,h n (by simp),ih λx hx=> h x (by simp [hx])]
  rw [h0 _ this];rfl
 ·simp only [fE.new,zba,zbm] at hn;obtain⟨l,hl,rfl⟩:=hn;exact⟨zbF 0,by show(0:Int) < 4096;decide,zaU _,λline=> zac 0⟩
structure Args(s:jC)(zi zw zk za zv:List Int):Prop where
 ok:s.Ok zi zw zk za zv
 hi:aG aj.empty s.init 1 zi.length (zi.map I)
 hw:aG aj.empty s.who 1 zw.length (zw.map I)
 hk:aG aj.empty s.kinds 1 zk.length (zk.map I)
 ha:aG aj.empty s.jq 1 za.length (za.map I)
 hv:aG aj.empty s.values 1 zv.length (zv.map I)
 hc:s.init.aH=true/\s.who.aH=true/\s.kinds.aH=true/\s.jq.aH=true/\s.values.aH=true
structure alH(b:Nat)(H:aj)(g:Store)(A:Adr)(q f:Nat)(N:Nat->Nat->Nat)(m:fE)(r:eG)(mid:Nat):Prop where
 good:Good b H g
 base:H.base<=b
 jV:iL g A m
 off:∀x,Y6 A m.nodes.length m.fab.l.length x->mid<=x
 ref:∃g1,DJ g1 q f N r/\pz g1 g/\∀x,g1 x≠none->x < mid
theorem iL.here {g:Store}{A:Adr}{m:fE}(M:iL g A m){x:Nat}(h:Y6 A m.nodes.length m.fab.l.length x):∃cs,g x=some cs:=by
 rcases h with⟨i,s,hi,hs,rfl⟩ | ⟨i,s,hi,hs,rfl⟩ | rfl
 ·obtain⟨n,hn⟩:∃n,m.nodes[i]?=some n:=⟨_,zab hi⟩
  exact(M.node i n hn).some hs
 ·exact⟨_,eu (M.fab.port hi) hs⟩
 ·exact⟨_,M.trace⟩
theorem agw {s:jC}{zi zw zk za zv:List Int}(Z:Args s zi zw zk za zv)(H:aj)(hb:H.base<=H.next){mo:Nat}(hm:mo<=1000){c:Cfg}{ps:List (List Opn)}(hc:c=s.cfg zi)(hps:ps=mW c zw zk za zv mo):
  ∃H' A q f N g mid b,cl 9 [.agg s.cells,I mo] H=some (.tup [.ref A.jV 0 0,.ref q 0 0,.vs ps.length 1 (ps.map (vsl 3 Opn.av))],H')/\alH b H' g A q f N (.new c ps) (.new c ps) mid/\H.next<=b/\Step H.next H H'/\MX 0 (.new c ps)/\c.pF ps=true:=by
 have hck:c.ok=true:=by rw [hc];exact aea s zi
 have hvz:∀z∈zv,In64 z:=λz hz=> acO (Z.ok.values.wf z hz);have hiz:∀z∈c.init,In64 z:=λz hz=> by
  rw [hc] at hz;exact acO (Z.ok.init.wf z (List.mem_of_mem_take hz))
 have hop:c.pF ps=true:=by rw [hps];exact abE hck zw zk za zv hvz mo
 have X:MX 0 (.new c ps):=alG hck hiz hop (by rw [hps];exact rQ hck zw zk za zv hvz _);have e1:=λH=> MB H Z.ok Z.hi Z.hc;rw [<-hc] at e1;have e2:∀H,cl 43 [.agg s.cells,I mo] H=some (.vs ps.length 1 (ps.map (vsl 3 Opn.av)),H):=λH=> by
  obtain⟨ps',apK,e⟩:=Px H Z.ok Z.hi Z.hw Z.hk Z.ha Z.hv Z.hc (mo:=mo) hm;rw [hps,hc,<-apK];exact e
 have hall:s.cells.all AV.aH=true:=by
  have:=Z.hc;simp only [jC.cells,List.all_cons,List.all_nil,this,Bool.and_true];rfl
 let H1:=H.new (.blk 0 24 s.cells);let H2:=H1.new (.blk 0 40 c.av);have n1:H1.next=H.next+1:=nNew
 have n2:H2.next=H.next+1+1:=by simp only [H2,nNew,n1]
 have b2:H2.base=H.base:=rfl;obtain⟨H3,q,f,N,g1,e3,M1,R1⟩:=PD H2 (by omega) c hck (akX H2 ps) hop;obtain⟨H4,A,g2,e4,M2,I2⟩:=Gs H3 (by rw [M1.base];exact zaz (by omega) M1.next) c hck (akX H3 ps) hop;have G:=M1.good.merge M2;have gq:H2.get (H.next+1)=.blk 0 40 c.av:=aK n1.symm;have l2:=iH gq;have l3:=iH (H:=H3) (r:=H.next+1) (c:=c) (by rw [M1.same _ (by omega)];exact gq);have ls:s.cells.length=12:=rfl;have lt:s.cells.take 12=s.cells:=rfl;have cc:(AV.agg c.av).cells=c.av:=rfl;have lc:c.av.length=8:=rfl;have hb1:H.base<=H.next+1:=by omega
 have b0:bi .neq 76 (I 0) (I 0)=some (B false):=by kernel_rfl
 have en:bi .eql 26 (.ref A.jV 0 0) zP=some (B false):=by kernel_rfl
 have hI:=I2.sub (abB (g:=g1) M2.good (zac _));refine⟨H4,A,q,f,N,cup H3.next g1 g2,H3.next,H2.next,aO rfl rfl (apd _ _ _ _ ?_),⟨G,?_,hI,λx hx=> ?_,g1,R1,abA M1.good rfl,λx hx=> ?_⟩,by omega,?_,X,hop⟩
 ·simp only [H1,H2] at e3 l2;simp -implicitDefEqProofs only [Nat.reduceLT,Nat.reduceAdd,setAt,xq_,hq_,aoE,aB hall,ls,lt,e1,cc,lc,hb1,e2,l2,e3,l3,e4,zae,b0,en]
 ·rw [M2.base,M1.base,b2];omega
 ·obtain⟨cs,h⟩:=I2.here hx;exact M2.good.le h
 ·cases h:g1 x with
  | none=> exact absurd h hx
  | some cs=> exact M1.good.lt h
 ·refine⟨by rw [M2.base,M1.base,b2],zaz (by omega) (zaz M1.next M2.next),λr hr=> ?_⟩;rw [M2.same r (zax (by omega) M1.next),M1.same r (by omega)];simp only [H2,H1];rw [aQ (by rw [nNew];omega),aQ hr]
theorem Y9 {x:AV}{cs:List Cho}(Y:aG aj.empty x 4 cs.length (cs.flatMap Cho.av))(H:aj):aG H x 4 cs.length (cs.flatMap Cho.av):=
 Y.gW (zaU _) λr _ hr=> absurd hr (Nat.not_lt_zero r)
theorem abI {x:AV}{cs:List Cho}(Y:aG aj.empty x 4 cs.length (cs.flatMap Cho.av))(H:aj){i:Nat}{c:Cho}(hi:cs[i]?=some c):ix 4 x (I i) H=some (cO x i,H)/\lda 4 (cO x i) H=some (.agg c.av,H):=by
 have hl:=(zaf.1 hi).1;have Z:=Y9 Y H;have h1:=Z.ix (k:=.i64) (i:=(i:Int)) (by omega) (by omega);rw [zaq] at h1;exact⟨h1,jH (enc:=Cho.av) (m:=4) (λ_=> rfl) Z hi⟩
section
variable {b:Nat}{H:aj}{g:Store}{A:Adr}{m:fE}{T:Nat}
theorem MX.fine(X:MX T m):m.fine:=by
 have I:=X.inv;have B:=pJ I.ok;have h1:=I.len;have h2:=I.fab.len;have abJ:∀p∈m.fab.l,p.rq.length < 1000/\p.an.length < 1000/\p.rin.length < 1000/\p.ain.length < 1000:=λp hp=> by
  have P:=I.fab.port p hp;have:=P.rq;have:=P.an;have:=P.rin;have:=P.ain;have:=B.out;have:=B.inn;omega
 have hn:∀n∈m.nodes,NX T n/\∃i:Nat,QJ m.c i n:=λn hn=> by
  obtain⟨i,hi⟩:=List.mem_iff_getElem?.1 hn;exact⟨X.node i n hi,i,I.node i n hi⟩
 refine⟨I.ok,h1,by omega,λn hm=> ?_,λl hl=> ?_,λn hm=> ?_,λp hp=> ⟨(abJ p hp).2.2.1,(abJ p hp).2.2.2⟩⟩
 ·obtain⟨_,i,NI⟩:=hn n hm;have:=NI.proc.most;have:=NI.proc.vals;omega
 ·unfold Fab.fM at hl;obtain⟨p,hp,hl⟩:=za5.1 hl;simp only [zam,zaH,or_false] at hl;rcases hl with rfl | rfl
  ·exact(abJ p hp).1
  ·exact(abJ p hp).2.1
 ·have:=(hn n hm).1.dat;omega
theorem GV(G:Good b H g)(M:iL g A m)(hc:m.c.ok=true):cl 13 [.ref A.jV 0 0] H=some (.agg m.c.av,H):=by
 have B:=pJ hc;refine aY rfl rfl (amH _ _ _) ?_ (X9 _);have l1:=λo=> (G.guard.new o).loads M.jV (i:=2) (n:=8) (xs:=m.c.av) (by simp [uj,EO,Cfg.av]) rfl (by decide);have e1:=λH=> iW H m.c.init (by have:=B.init;have:=B.jq;omega);have hav:m.c.av=[I m.c.nodes,I m.c.lines,I m.c.words,I m.c.sets,I m.c.ways,I m.c.out,I m.c.inn,dat m.c.init]:=rfl;have cc:(AV.agg m.c.av).cells=m.c.av:=rfl;have lc:m.c.av.length=8:=rfl;have l7:m.c.av[7]?=some (dat m.c.init):=rfl;have all:=dH m.c;rw [hav] at l1 all ⊢;simp -implicitDefEqProofs only [Nat.reduceAdd,setAt,xq_,hq_,ah4,l1,e1,all]
theorem EI(G:Good b H g)(M:iL g A m)(X:MX T m):cl 14 [.ref A.fab 0 0] H=some (I m.fab.under,H):=by
 have F:=X.fine;have B:=pJ X.inv.ok;have h1:=F.nodes;have h2:=F.fab;exact RN G M.fab (by have:=B.nodes;omega) (by have:=B.nodes;omega) F.fM
theorem yF(X:MX T m):m.fab.under<=96:=by
 have I:=X.inv;have B:=pJ I.ok;have h2:=I.fab.len;have:∀l:List Port,(∀p∈l,p.rq.length+p.an.length<=16)->(l.flatMap λp=> p.rq++p.an).length<=16*l.length:=by
  intro l
  induction l with
  | nil=> intro _;simp
  | cons p l ih=>
   intro h;have h1:=h p (by simp);have h2:=ih λx hx=> h x (by simp [hx]);simp only [zaI,zan,zal];omega
 have:=this m.fab.l λp hp=> by
  have P:=I.fab.port p hp;have:=P.rq;have:=P.an;have:=B.out;omega
 unfold Fab.under Fab.all;have:=B.nodes;omega
theorem abK(H:aj)(X:MX T m)(c:Cho):cl 12 [.agg c.av,I m.c.nodes,I m.fab.under] H=some (.agg (qC c m.c.nodes m.fab.under).av,H):=by
 have B:=pJ X.inv.ok;have:=yF X;have:=B.nodes;exact abC H c (by omega) (by omega)
theorem abL(X:MX T m){c:Cho}(h:c.In):In64 (qC c m.c.nodes m.fab.under).at_/\In64 (qC c m.c.nodes m.fab.under).bit/\0<=(qC c m.c.nodes m.fab.under).mask/\(qC c m.c.nodes m.fab.under).mask<=65535:=by
 have B:=pJ X.inv.ok;have:=yF X;have:=B.nodes;exact abD h ⟨by omega,by omega⟩ ⟨by omega,by omega⟩
end
structure Cc(b:Nat)(H:aj)(g:Store)(A:Adr)(m:fE)(T:Nat):Prop where
 good:Good b H g
 base:H.base<=b
 jV:iL g A m
 keep:MX T m
section
variable {b:Nat}{H:aj}{g:Store}{A:Adr}{m:fE}{T:Nat}
theorem Cc.new(R:Cc b H g A m T)(o:dQ):Cc b (H.new o) g A m T:=⟨R.good.new o,by rw [bNew];exact R.base,R.jV,R.keep⟩
theorem Cc.do_(R:Cc b H g A m T)(hT:T < 999000)(p:Pck)(h64:In64 p.at_)(hbit:In64 p.bit)(m0:0<=p.mask)(m1:p.mask<=65535):
  ∃H' g',cl 11 [.ref A.jV 0 0,.agg p.av] H=some (B (m.do_ p).2,H')/\Cc b H' g' A (m.do_ p).1 (T+1)/\Off (Y6 A m.nodes.length m.fab.l.length) g g'/\Step b H H':=by
 obtain⟨H',g',e,G,M,O,S⟩:=aol R.good R.base R.jV R.keep hT p h64 hbit m0 m1;exact⟨H',g',e,⟨G,by rw [S.base];exact R.base,M,R.keep.do_ p⟩,O,S⟩
theorem Cc.fresh(R:Cc b H g A m T){q:Nat}(hq:H.next<=q):¬Y6 A m.nodes.length m.fab.l.length q:=λh=> by
 obtain⟨cs,e⟩:=R.jV.here h;rw [R.good.isNone hq] at e;cases e
theorem Cc.loc(R:Cc b H g A m T){ty n:Nat}{xs ys:List AV}(hx:xs.length=n)(hy:ys.length=n)(hn:0 < n)(ax:xs.all AV.aH=true)(ay:ys.all AV.aH=true)(ht:ty < eH:=by decide):
  ∃K,st n (.ref H.next 0 0) (.agg ys) (H.new (.blk 0 ty xs))=some (aN,K)/\Cc b K (upd g H.next (ys.map Cell.av)) A m T/\lda n (.ref H.next 0 0) K=some (.agg ys,K):=by
 have G1:=R.good.newObj (ty:=ty) (xs:=xs) ax ht;obtain⟨K',t1,t2,t3,t4⟩:=G1.stores (by rw [bNew];exact R.base) upd_same (i:=0) (n:=n) (vs:=ys) (by rw [zaE,hx];omega) hy ay;have e:mY (xs.map Cell.av) 0 ys=ys.map Cell.av:=by
  unfold mY;rw [zaS (by rw [zaE,hx,hy];omega)];simp
 rw [e,mJ] at t2;exact⟨K',t1,⟨t2,by rw [t3.base,bNew];exact R.base,R.jV.sub ((pz.refl g).more (R.good.isNone (zac _)) _),R.keep⟩,t2.loads upd_same (i:=0) (n:=n) (xs:=ys) (by rw [zaO,zar (by simp [hy])]) hy hn⟩
theorem Cc.fab(R:Cc b H g A m T):ld (.ref A.jV 0 0) H=some (.ref A.fab 0 0,H):=R.good.load R.jV.jV (i:=0) (x:=.ref A.fab 0 0) rfl
theorem Cc.trace(R:Cc b H g A m T):ld (.ref A.jV 0 1) H=some (.ref A.trace 0 0,H):=R.good.load R.jV.jV (i:=1) (x:=.ref A.trace 0 0) rfl
theorem Cc.guard(R:Cc b H g A m T):Good b H.guard g/\iL g A m:=⟨R.good.guard,R.jV⟩
theorem SN {i bit mask:Int}(h:i < 0∨m.nodes.length<=i):m.do_ ⟨false,i,bit,mask⟩=(m,false):=by
 have:m.step i=(m,0):=by
  unfold fE.step fE.node;by_cases h0:0<=i
  ·rw [if_pos h0,zaG (by omega)]
  ·rw [if_neg h0]
 unfold fE.do_;simp only [zai,if_false,this];rfl
theorem Aq {a bit mask e:Int}(h:m.fab.deliver a bit mask=(m.fab,e))(he:e≠0):m.do_ ⟨true,a,bit,mask⟩=(m,false):=by
 have:m.deliver a bit mask=(m,e):=by
  unfold fE.deliver;rw [h]
 unfold fE.do_;simp only [if_true,this];rw [decide_eq_false he]
theorem EJ {a bit mask:Int}(h:a < 0∨m.fab.under<=a):m.do_ ⟨true,a,bit,mask⟩=(m,false):=by
 refine Aq (e:=3) ?_ (by decide);unfold Fab.deliver;by_cases h0:a < 0
 ·rw [if_pos h0]
 ·rw [if_neg h0,zaG (by unfold Fab.under at h;omega)]
theorem spoilt {a:Nat}{p:Pkt}{bit mask:Int}(hp:m.fab.all[a]?=some p)(h0:0<=bit)(h1:bit < 96)(hm:mask.toNat.testBit 15=true):m.do_ ⟨true,a,bit,mask⟩=(m,false):=by
 refine Aq (e:=2) ?_ (by decide);unfold Fab.deliver;rw [if_neg (by omega),zaq,hp];have ht:turns p.bytes bit mask=true:=by
  unfold turns;rw [zce];refine⟨0,by simp,?_⟩;have h2:(mask.toNat >>> 15) % 2=1:=by
   have:=Nat.testBit_eq_decide_div_mod_eq (x:=mask.toNat) (i:=15);rw [hm] at this;rw [zb1]
   simpa using this.symm
  have h3:bit+((0:Nat):Int) < 8*p.bytes:=by unfold Pkt.bytes;omega
  simp only [Nat.sub_zero,h2,zaj,decide_eq_true_eq];exact⟨⟨trivial,by omega⟩,h3⟩
 simp only;rw [if_pos ht]
end
section
variable {b:Nat}{H:aj}{g:Store}{A:Adr}{m:fE}{T:Nat}
theorem agx(R:Cc b H g A m T)(bit mask:AV):∃H',LD cl [bit,mask,.ref A.jV 0 0,I m.fab.under,I m.trace.length,I m.left,I m.fab.under] H=some (B true,H'):=by
 obtain⟨G,hb,M,X⟩:=R;have e1:=EI G M X;obtain⟨y,e2,e3⟩:=Eo G M.trace (by have:=evs_le X.inv;omega);have e4:=Pq G M X.fine;have wk:=λH=> agu H;have f0:=G.load M.jV (i:=0) (x:=.ref A.fab 0 0) rfl;have f1:=G.load M.jV (i:=1) (x:=.ref A.trace 0 0) rfl;have ln:=(e3 H).lnS;refine⟨H,?_⟩;rw [acW];simp -implicitDefEqProofs only [xq_,Int.lt_irrefl,f0,f1,e1,e2,ln,e4,wk]
theorem Za(bit mask:Int)(h0:0<=mask)(h1:mask<=65535):∀(k i:Nat) {H:aj} {g:Store} {T:Nat},i+k=m.fab.under->Cc b H g A m T->T+k < 999000->
  ∃H',LD cl [I bit,.s (.int .u16 mask),.ref A.jV 0 0,I m.fab.under,I m.trace.length,I m.left,I i] H=some (B true,H'):=by
 intro k
 induction k with
 | zero=>
  intro i H g T hi R hT;obtain rfl:i=m.fab.under:=by omega
  exact agx R _ _
 | succ k ih=>
  intro i H g T hi R hT;have G:=R.good;have M:=R.jV;have X:=R.keep;have B_:=pJ X.inv.ok;have hu:=yF X;have hlt:(i:Int) < m.fab.under:=by omega
  have hF:=X.fine;have hn1:m.fab.l.length < 1000:=by have:=hF.fab;have:=hF.nodes;have:=B_.nodes;omega
  have hn0:m.fab.l.length≠0:=by have:=hF.fab;have:=hF.nodes;have:=B_.nodes;omega
  obtain⟨p,hp⟩:∃p,m.fab.all[i]?=some p:=⟨_,zab (by unfold Fab.under at hi;omega)⟩
  have hpk:m.fab.pkt i=some p:=by unfold Fab.pkt;rw [if_neg (by omega),zaq];exact hp
  have GU:∀l∈m.fab.fM,l.length < 1000/\∀p∈l,p.data.length < 1000000000:=λl hl=> ⟨hF.fM l hl,λq hq=> by
   have hq':q∈m.fab.all:=by
    rw [<-show m.fab.fM.flatten=m.fab.all from uY m.fab.l];exact List.mem_flatten.2 ⟨l,hl,hq⟩
   have:=(X.inv.fab.pkt hq').ok;simp only [Pkt.ok,zaj,decide_eq_true_eq] at this;omega⟩
  have e1:=Ep G M.fab hn1 hn0 GU i ⟨by omega,by omega⟩;rw [hpk] at e1;simp only [eU,zau,zaJ] at e1;have hpd:p.data.length < 1000000000:=by
   have:=(X.inv.fab.pkt (zas hp)).ok;simp only [Pkt.ok,zaj,decide_eq_true_eq] at this;omega
  obtain⟨K1,s1,R1,l1⟩:=R.loc (ty:=70) (xs:=zP9) (ys:=p.av) (n:=9) rfl (aT _) (by decide) rfl (aI _);have w1:=λH=> kW H bit 80 (by omega);have hwb:=kE (v:=bit) (n:=80) (by decide);obtain⟨v,rfl⟩:∃v:Nat,mask=v:=⟨mask.toNat,by omega⟩
  let mk:Int:=IntKind.u16.wrap ((BitVec.ofInt 16 v ||| BitVec.ofInt 16 32768).toNat:Int);have hor:bi .or 33 (.s (.int .u16 (v:Int))) (.s (.int .u16 32768))=some (.s (.int .u16 mk)):=Wy;have hmk:mk=(((BitVec.ofInt 16 v ||| BitVec.ofInt 16 32768).toNat:Nat):Int):=IJ (k:=.u16) rfl _;have hm0:0<=mk:=by rw [hmk];exact Int.natCast_nonneg _
  have hm1:mk<=65535:=by
   have:=(BitVec.ofInt 16 v ||| BitVec.ofInt 16 32768).isLt;rw [hmk];omega
  have hbit:mk.toNat.testBit 15=true:=by
   rw [hmk,zaq,BitVec.toNat_or,zcd];have:(BitVec.ofInt 16 32768).toNat.testBit 15=true:=by decide
   rw [this,Bool.or_true]
  have hsp:=spoilt (m:=m) (a:=i) (p:=p) (bit:=aW bit 80) (mask:=mk) hp hwb.1 (by omega) hbit;obtain⟨K2,g2,e2,R2,O2,S2⟩:=R1.do_ (by omega) ⟨true,i,aW bit 80,mk⟩ ⟨by show(-9223372036854775808:Int)<=(i:Int);omega,by show(i:Int)<=9223372036854775807;omega⟩ ⟨by show(-9223372036854775808:Int)<=aW bit 80;omega,by show aW bit 80<=9223372036854775807;omega⟩ hm0 hm1;rw [hsp] at e2 R2;have hfr:g2 H.next=some (p.av.map Cell.av):=by
   rw [O2 H.next (R.fresh (zac _)),upd_same]
  have f2:=R2.fab;have e3:=Ep R2.good R2.jV.fab hn1 hn0 GU i ⟨by omega,by omega⟩;rw [hpk] at e3;simp only [eU,zau,zaJ] at e3;obtain⟨K3,s3,R3,l3⟩:=R2.loc (ty:=70) (xs:=zP9) (ys:=p.av) (n:=9) rfl (aT _) (by decide) rfl (aI _);have l2:lda 9 (.ref H.next 0 0) K3=some (.agg p.av,K3):=R3.good.loads (i:=0) (n:=9) (xs:=p.av) (by rw [upd_ne (zbH (R2.good.lt hfr))];exact hfr) rfl (aT _) (by decide);have e4:=afO K3 p hpd (kY K3 p.data) (kY K3 p.data);have pav:p.avx (dat p.data)=p.av:=rfl;rw [pav] at e4;have hbd:bd 35 [(0,B true),(1,I i),(2,I (aW bit 80)),(3,.s (.int .u16 mk))]=some (.agg (Pck.av ⟨true,i,aW bit 80,mk⟩)):=by
   simp -implicitDefEqProofs only [xq_,OI,gB,dI,KP,lM,Pck.av];rfl
  have h6:(i:Int)+1=((i+1:Nat):Int):=by omega
  have h7:=wrap_i64 (a:=((i+1:Nat):Int)) (by omega) (by omega);obtain⟨H',ih'⟩:=ih (i+1) (by omega) R3 (by omega);refine⟨H',?_⟩;have f0:=R.fab;rw [acW];simp -implicitDefEqProofs only [xq_,hlt,f0,e1,s1,zae,w1,hor,hbd,e2,f2,e3,s3,l2,l3,e4,bf,h6,h7,ih']
theorem Zb {ps:List Pck}{r n:Nat}(G:Good b H g)(hn:ps.length=n)(h:g r=some ((ps.flatMap Pck.av).map Cell.av)){j:Nat}{p:Pck}(hj:ps[j]?=some p):
  ix 4 (.sl r 0 0 4 n n true) (I j) H=some (cO (.sl r 0 0 4 n n true) j,H)/\lda 4 (cO (.sl r 0 0 4 n n true) j) H=some (.agg p.av,H):=by
 subst hn;obtain⟨ty,hg,_⟩:=G.exact h;have hl:=(zaf.1 hj).1;have hfl:(ps.flatMap Pck.av).length=ps.length*4:=bn (enc:=Pck.av) (m:=4) (λ_=> rfl) ps;have Z:aG H (.sl r 0 0 4 ps.length ps.length true) 4 ps.length (ps.flatMap Pck.av):=⟨hfl,rfl,rfl,⟨G.lt h,zac _⟩,ty,_,hg,by omega,by rw [zaO,zar (by omega)]⟩
 have h1:=Z.ix (k:=.i64) (i:=(j:Int)) (by omega) (by omega);rw [zaq] at h1;exact⟨h1,jH (enc:=Pck.av) (m:=4) (λ_=> rfl) Z hj⟩
theorem abM(bit mask:Int)(h0:0<=mask)(h1:mask<=65535){ps:List Pck}{r n:Nat}(hn:ps.length=n)(hno:∀p∈ps,m.do_ p=(m,false))(hin:∀p∈ps,In64 p.at_/\In64 p.bit/\0<=p.mask/\p.mask<=65535)(hn9:n < 9)(hr:¬Y6 A m.nodes.length m.fab.l.length r):
  ∀(k j:Nat) {H:aj} {g:Store} {T:Nat},j+k=n->Cc b H g A m T->T+k < 9000->g r=some ((ps.flatMap Pck.av).map Cell.av)->
  ∃H',QM cl [I bit,.s (.int .u16 mask),.ref A.jV 0 0,I m.fab.under,I m.trace.length,I m.left,.sl r 0 0 4 n n true,I n,I j] H=some (B true,H'):=by
 intro k
 induction k with
 | zero=>
  intro j H g T hj R hT hg;have hlt:¬(j:Int) < n:=by omega
  have hu:=yF R.keep;obtain⟨H',e⟩:=Za bit mask h0 h1 m.fab.under 0 (by omega) R (by omega);refine⟨H',?_⟩;have z0:((0:Nat):Int)=0:=rfl;rw [z0] at e;rw [acV];simp -implicitDefEqProofs only [xq_,hlt,e]
 | succ k ih=>
  intro j H g T hj R hT hg;have hlt:(j:Int) < n:=by omega
  obtain⟨p,hp⟩:∃p,ps[j]?=some p:=⟨_,zab (by omega)⟩
  have hm:=zas hp;obtain⟨x1,x2⟩:=Zb R.good hn hg hp;obtain⟨K1,s1,R1,l1⟩:=R.loc (ty:=35) (xs:=[zB,zI,zI,.s (.int .u16 0)]) (ys:=p.av) (n:=4) rfl rfl (by decide) rfl (wC _);obtain⟨i1,i2,i3,i4⟩:=hin p hm;obtain⟨K2,g2,e2,R2,O2,S2⟩:=R1.do_ (by omega) p i1 i2 i3 i4;rw [hno p hm] at e2 R2;have h6:(j:Int)+1=((j+1:Nat):Int):=by omega
  have h7:=wrap_i64 (a:=((j+1:Nat):Int)) (by omega) (by omega);obtain⟨H',ih'⟩:=ih (j+1) (by omega) R2 (by omega) (by
   rw [O2 r hr,upd_ne (zbH (R.good.lt hg))];exact hg)
  refine⟨H',?_⟩;rw [acV];simp -implicitDefEqProofs only [xq_,hlt,x1,x2,s1,l1,e2,bf,h6,h7,ih']
theorem NP(R:Cc b H g A m T)(hT:T < 8000){at_ bit mask:Int}(ha:at_ < 0)(h64:In64 at_)(h0:0<=mask)(h1:mask<=65535):
  ∃H',QN cl (I at_) (I bit) (.s (.int .u16 mask)) (.ref A.jV 0 0) (I m.fab.under) (I m.trace.length) (I m.left) H=some (B true,H'):=by
 have X:=R.keep;have B_:=pJ X.inv.ok;have hn:=B_.nodes;have hl:=X.inv.len;have hu:=yF X;have e1:=GV R.good R.jV X.inv.ok;let ps:List Pck:=[⟨false,at_,0,0⟩,⟨false,m.c.nodes,0,0⟩,⟨true,at_,0,0⟩,⟨true,m.fab.under,0,0⟩]
 have l0:m.c.av[0]?=some (I m.c.nodes):=rfl;have b1:∀a:Int,bd 35 [(1,I a)]=some (.agg (Pck.av ⟨false,a,0,0⟩)):=λa=> by
  simp -implicitDefEqProofs only [OI,gB,dI,KP,Pck.av];rfl
 have b2:∀a:Int,bd 35 [(0,B true),(1,I a)]=some (.agg (Pck.av ⟨true,a,0,0⟩)):=λa=> by
  simp -implicitDefEqProofs only [xq_,OI,gB,dI,KP,Pck.av];rfl
 have b3:bs 68 4 [(0,.agg (Pck.av ⟨false,at_,0,0⟩)),(1,.agg (Pck.av ⟨false,m.c.nodes,0,0⟩)),(2,.agg (Pck.av ⟨true,at_,0,0⟩)),(3,.agg (Pck.av ⟨true,m.fab.under,0,0⟩))] H=some (.sl H.next 0 0 4 4 4 true,H.new (.blk 0 35 (ps.flatMap Pck.av))):=(amg (by decide)).trans rfl;have all:(ps.flatMap Pck.av).all AV.aH=true:=xu wC ps;have G1:=R.good.newObj (ty:=35) all;have R1:Cc b (H.new (.blk 0 35 (ps.flatMap Pck.av))) (upd g H.next ((ps.flatMap Pck.av).map Cell.av)) A m T:=⟨G1,by rw [bNew];exact R.base,R.jV.sub ((pz.refl g).more (R.good.isNone (zac _)) _),X⟩
 have z64:In64 0:=SL;have zm:(0:Int)<=0/\(0:Int)<=65535:=⟨by decide,by decide⟩
 obtain⟨H',e⟩:=abM bit mask h0 h1 (ps:=ps) (r:=H.next) (n:=4) rfl (λp hp=> by
   simp only [ps,zam,zaH,or_false] at hp;rcases hp with rfl | rfl | rfl | rfl
   ·exact SN (.inl ha)
   ·exact SN (.inr (by omega))
   ·exact EJ (.inl ha)
   ·exact EJ (.inr (zbF _))) (λp hp=> by
   simp only [ps,zam,zaH,or_false] at hp;rcases hp with rfl | rfl | rfl | rfl
   ·exact⟨h64,z64,zm.1,zm.2⟩
   ·exact⟨⟨by show _<=m.c.nodes;omega,by show m.c.nodes<=_;omega⟩,z64,zm.1,zm.2⟩
   ·exact⟨h64,z64,zm.1,zm.2⟩
   ·exact⟨⟨by show _<=((m.fab.under:Nat):Int);omega,by show((m.fab.under:Nat):Int)<=_;omega⟩,z64,zm.1,zm.2⟩) (by decide) (R.fresh (zac _)) 4 0 rfl R1 (by omega) upd_same
 refine⟨H',?_⟩;have ln:lnS (.sl H.next 0 0 4 4 4 true) (H.new (.blk 0 35 (ps.flatMap Pck.av)))=some (I 4,H.new (.blk 0 35 (ps.flatMap Pck.av))):=rfl;have z0:((0:Nat):Int)=0:=rfl;have z4:((4:Nat):Int)=4:=rfl;rw [z0,z4] at e;simp -implicitDefEqProofs only [xq_,QN,b1,e1,l0,b2,b3,ln,e]
theorem abN {x:AV}{cs:List Cho}(Y:aG aj.empty x 4 cs.length (cs.flatMap Cho.av))(wf:∀c∈cs,c.In){at_ bit mask:Int}(h64:In64 at_)(h0:0<=mask)(h1:mask<=65535):
  ∀(k i:Nat) {H:aj} {g:Store} {m:fE},i+k=min cs.length 30->Cc b H g A m i->
  ∃H',QL cl [x,I at_,I bit,.s (.int .u16 mask),.ref A.jV 0 0,I i] H=some (B true,H'):=by
 obtain⟨a1,a2⟩:=h64;intro k
 induction k with
 | zero=>
  intro i H g m hi R;have X:=R.keep;have f0:=R.fab;have f1:=R.trace;have ln:=(Y9 Y H).lnS;have Gg:=R.good.guard;have e1:=EI Gg R.jV X;obtain⟨y,e2,e3⟩:=Eo R.good R.jV.trace (by have:=evs_le X.inv;omega);have e4:=Pq Gg R.jV X.fine;have ly:=(e3 H).lnS;have apQ:i<=30:=by omega
  by_cases hn:0<=at_
  ·obtain⟨H',e⟩:=NP R (by omega) (at_:=-1 - at_) (bit:=bit) (mask:=mask) (by omega) ⟨by omega,by omega⟩ h0 h1;refine⟨H',?_⟩;have w1:=wrap_i64 (a:=-1 - at_) (by omega) (by omega);rw [WB];by_cases hlt:(i:Int) < cs.length
   ·have h30:¬(i:Int) < 30:=by omega
    simp -implicitDefEqProofs only [Int.reduceNeg,xq_,ln,hlt,h30,f0,f1,e1,e2,ly,e4,hn,jf,w1,e]
   ·simp -implicitDefEqProofs only [Int.reduceNeg,xq_,ln,hlt,f0,f1,e1,e2,ly,e4,hn,jf,w1,e]
  ·obtain⟨H',e⟩:=NP R (by omega) (at_:=at_) (bit:=bit) (mask:=mask) (by omega) ⟨by omega,by omega⟩ h0 h1;refine⟨H',?_⟩;rw [WB];by_cases hlt:(i:Int) < cs.length
   ·have h30:¬(i:Int) < 30:=by omega
    simp -implicitDefEqProofs only [Int.reduceNeg,xq_,ln,hlt,h30,f0,f1,e1,e2,ly,e4,hn,e]
   ·simp -implicitDefEqProofs only [Int.reduceNeg,xq_,ln,hlt,f0,f1,e1,e2,ly,e4,hn,e]
 | succ k ih=>
  intro i H g m hi R;have X:=R.keep;have f0:=R.fab;have ln:=(Y9 Y H).lnS;have hlt:(i:Int) < cs.length:=by omega
  have h30:(i:Int) < 30:=by omega
  obtain⟨c,hc⟩:∃c,cs[i]?=some c:=⟨_,zab (by omega)⟩
  obtain⟨x1,x2⟩:=abI Y H hc;have Gg:=R.good.guard;have e1:=GV Gg R.jV X.inv.ok;have e2:=EI Gg R.jV X;have e3:=abK H X c;have l0:m.c.av[0]?=some (I m.c.nodes):=rfl;obtain⟨i1,i2,i3,i4⟩:=abL X (wf c (zas hc));obtain⟨K2,g2,e4,R2,O2,S2⟩:=R.do_ (by omega) (qC c m.c.nodes m.fab.under) i1 i2 i3 i4;have h6:(i:Int)+1=((i+1:Nat):Int):=by omega
  have h7:=wrap_i64 (a:=((i+1:Nat):Int)) (by omega) (by omega);obtain⟨H',e⟩:=ih (i+1) (by omega) R2;refine⟨H',?_⟩;rw [WB];simp -implicitDefEqProofs only [Int.reduceNeg,xq_,ln,hlt,h30,x1,x2,e1,l0,f0,e2,e3,e4,bf,h6,h7,e]
end
theorem ES {s:jC}{zi zw zk za zv:List Int}(h:s.Ok zi zw zk za zv)(hi:aG aj.empty s.init 1 zi.length (zi.map I))(hw:aG aj.empty s.who 1 zw.length (zw.map I))(hk:aG aj.empty s.kinds 1 zk.length (zk.map I))(ha:aG aj.empty s.jq 1 za.length (za.map I))(hv:aG aj.empty s.values 1 zv.length (zv.map I))
  (hc:s.init.aH=true/\s.who.aH=true/\s.kinds.aH=true/\s.jq.aH=true/\s.values.aH=true) {x:AV} {cs:List Cho} (Y:aG aj.empty x 4 cs.length (cs.flatMap Cho.av)) (wf:∀c∈cs,c.In) (at_:Int) (h64:In64 at_) (bit:Int) (hbit:In64 bit) (mask:Int) (hm:0<=mask/\mask<=65535):
  ∃H',cl 4 [.agg s.cells,x,I at_,I bit,.s (.int .u16 mask)] aj.empty=some (B true,H'):=by
 have Z:Args s zi zw zk za zv:=⟨h,hi,hw,hk,ha,hv,hc⟩
 have hall:s.cells.all AV.aH=true:=by
  simp only [jC.cells,List.all_cons,List.all_nil,hc,Bool.and_true];rfl
 let H1:=aj.empty.new (.blk 0 24 s.cells);obtain⟨H2,A,q,f,N,g,mid,b,e1,B1,hb,S1,X,hop⟩:=agw Z H1 (zaU _) (mo:=12) (by decide) rfl rfl;have R:Cc b H2 g A (.new (s.cfg zi) (mW (s.cfg zi) zw zk za zv 12)) 0:=⟨B1.good,B1.base,B1.jV,X⟩
 obtain⟨H',e⟩:=abN (bit:=bit) Y wf h64 hm.1 hm.2 (min cs.length 30) 0 (by omega) R;have z0:((0:Nat):Int)=0:=rfl;have z12:((12:Nat):Int)=12:=rfl;rw [z0] at e;rw [z12] at e1;have ls:s.cells.length=12:=rfl;have lt:s.cells.take 12=s.cells:=rfl;have en:bi .eql 26 (.ref A.jV 0 0) zP=some (B false):=by kernel_rfl
 refine⟨H',aO rfl rfl (apc _ _ _ _ _ _ _ ?_)⟩;simp only [H1] at e1;simp -implicitDefEqProofs only [Nat.reduceLT,xq_,hq_,aoA,aB hall,ls,lt,e1,en,e]
end
end Go.Proofs.YthmoogcacpmjiaaGreat
