/-
  Own work: an interpreter over named blocks, its soundness, and what the functions of this seat compute (part 10 of 11).
  Conditions: those of the statement alone.
-/
import Derived.Test.YthmoogcacpmjiaaGreatXi
set_option linter.all false
set_option linter.unusedSectionVars false
set_option linter.unusedVariables false
set_option linter.unusedSimpArgs false
namespace Go.Proofs.YthmoogcacpmjiaaGreat
noncomputable section
def Node.evs(n:Node):Nat:=2*n.proc.values.length+(if n.proc.begun then 1 else 0)
theorem YS {c:Cfg}{d:bC}(h:d.data=[]∨lW c d.data)(me home:Int):(d.ask me home).ok=true->vw c (d.ask me home):=by
 intro hk;have num:∀v∈d.data,I64 v:=by
  rcases h with h | h
  ·rw [h];intro v hv;cases hv
  ·exact h.2
 refine⟨hk,?_,?_⟩
 ·unfold bC.ask
  repeat' split
  all_goals (simp [Pkt.zero])
 ·unfold bC.ask
  repeat' split
  all_goals first | exact num | (intro v hv;cases hv)
theorem GL {c:Cfg}{me:Int}{h:Home}{r:dY}(S:EI c me h r)(hr:∀e∈h.rows,lW c e.2.data){line:Int}(hl:lD c me line=true)(who id:Int):(granted h.rows me line who id).ok=true->vw c (granted h.rows me line who id):=by
 intro hk;obtain⟨row,h1,_⟩:=S.rows line hl;have hd:lW c (rowOf h.rows line).data:=by
  unfold rowOf;rw [h1];exact hr _ (oK h1)
 exact⟨hk,λ_=> hd,hd.2⟩
theorem uU {c:Cfg}{p:Pkt}(hd:p.data=[])(hk:¬(p.kind=7∨p.kind=9)):p.ok=true->vw c p:=λh=> ⟨h,λe=> absurd e hk,by rw [hd];intro v hv;cases hv⟩
theorem abr {c:Cfg}{rows:Rows}(hr:∀e∈rows,lW c e.2.data){line state head:Int}{data:List Int}(hd:∀v∈data,I64 v):∀e∈(setRow c rows line state head data).1,lW c e.2.data:=by
 unfold setRow;cases ha:iV rows line with
 | none=> exact hr
 | some r=>
  simp only;split
  ·exact hr
  ·split
   ·exact hr
   ·rename_i h1 h2;intro e he;rcases oL he with rfl | he
    ·simp only;split
     ·exact hr _ (oK ha)
     ·rename_i h0;simp only [zbj,zaj,decide_eq_true_eq,not_or,not_and,Decidable.not_not] at h2;exact⟨h2.2 h0,hd⟩
    ·exact hr e he
theorem P6 {c:Cfg}{me:Int}{h:Home}(hr:∀e∈h.rows,lW c e.2.data){p:Pkt}(hd:∀v∈p.data,I64 v):∀e∈(h.handle c me p).1.rows,lW c e.2.data:=by
 unfold Home.handle;split
 ·exact hr
 split
 ·exact hr
 split
 ·simp only;split <;> exact hr
 ·have key:∀e∈(h.unlock c p).1.rows,lW c e.2.data:=by
   unfold Home.unlock;have hd':∀v∈(if p.flag=true then p.data else []),I64 v:=by
    split
    ·exact hd
    ·intro v hv;cases hv
   generalize (if p.flag=true then p.data else [])=dat at hd' ⊢;split
   ·exact hr
   ·simp only;split
    ·exact abr hr hd'
    ·exact hr
  simp only;split <;> exact key
theorem YT {c:Cfg}(hc:c.ok=true){me:Int}{h:Home}{r:dY}(S:EI c me h r)(hr:∀e∈h.rows,lW c e.2.data)(p:Pkt):(h.handle c me p).2.1.ok=true->vw c (h.handle c me p).2.1:=by
 unfold Home.handle;have z:Pkt.zero.ok=true->vw c Pkt.zero:=uU rfl (by simp [Pkt.zero]);split
 ·exact z
 rename_i h1;have hl0:0<=p.line:=by
  simp only [zbj,zbb,not_or,Bool.not_eq_false,zaj] at h1;have:=h1.1.1.1;simp only [Pkt.ok,zaj,decide_eq_true_eq] at this;omega
 split
 ·exact z
 rename_i h2;have hh:lD c me p.line=true:=by
  cases e:lD c me p.line with
  | true=> rfl
  | false=> exact absurd ((DY hc hl0).2 e) h2
 split
 ·simp only;split
  ·exact GL S hr hh _ _
  ·exact z
 ·simp only;split
  ·exact uU rfl (by simp)
  ·exact z
theorem YU {c:Cfg}{ca:Cache}(I:D7 c ca)(p:Pkt):D7 c (dU ca p).1/\((dU ca p).2.1.ok=true->vw c (dU ca p).2.1)/\(dU ca p).1.clock=ca.clock/\∀(line:Int),c.ok=true->ca.full line=false->(dU ca p).1.full line=false:=by
 unfold dU;have z:Pkt.zero.ok=true->vw c Pkt.zero:=uU rfl (by simp [Pkt.zero]);split
 ·exact⟨I,z,rfl,λ_ _ h=> h⟩
 rename_i h1;cases hf:ca.find p.line with
 | none=> exact⟨I,z,rfl,λ_ _ h=> h⟩
 | some e=>
  obtain⟨he,hl⟩:=(fZ I.lines).1 hf;have E:=I.ent e he;simp only [zbj,zbb,not_or,Bool.not_eq_false,decide_eq_true_eq] at h1;have put:∀e':Ent,e'.line=e.line->e'.data=e.data->D7 c (ca.put e').1/\(ca.put e').1.clock=ca.clock/\∀line,ca.full line=false->(ca.put e').1.full line=false:=λe' h2 h3=> by
   have hf':ca.find e'.line=some e:=by rw [h2,hl];exact hf
   refine⟨I.put (by rw [h2];exact E.lo) (by rw [h2];exact E.hi) (by rw [h3];exact E.dat),by rw [kS I.lines (by rw [h2];exact E.lo) hf'],λline h=> ?_⟩;rw [aak I.lines (by rw [h2];exact E.lo) hf'];exact h
  simp only;split
  ·rename_i k;have u:=put { e with dirty:=false,back:=p.ptr } rfl rfl;exact⟨u.1,λh=> ⟨h,λ_=> E.dat,E.dat.2⟩,u.2.1,λl _ h=> u.2.2 l h⟩
  split
  ·rename_i k;have u:=put { e with fwd:=p.ptr } rfl rfl;exact⟨u.1,uU rfl (by simp only [k];decide),u.2.1,λl _ h=> u.2.2 l h⟩
  split
  ·rename_i k;have u:=put { e with back:=p.ptr } rfl rfl;exact⟨u.1,uU rfl (by simp only [k];decide),u.2.1,λl _ h=> u.2.2 l h⟩
  ·exact⟨I.drop _,λh=> ⟨h,λ_=> E.dat,E.dat.2⟩,zJ _ _,λl hc h=> Wy hc I h⟩
structure Both(c:Cfg)(me:Int)(n:Node)(t:List Evn)(A:NFT)(B:ahU):Prop where
 sim:NS c me A.1 B.1
 eq:B.2=A.2
 inv:QU c me A.1
 fab:su c A.2.1
 evs:A.2.2.length+n.evs=t.length+A.1.evs
theorem Eff.evs {c:Cfg}{me:Int}{n:Node}{r:dw}{t:List Evn}{A:NT}{B:RNT}(E:Eff c me n r t A B)(hb:n.proc.begun=true):A.2.length+n.evs=t.length+A.1.evs:=by
 have h1:A.1.proc=⟨n.proc.ops,n.proc.values++[A.2.getLast?.elim 0 (·.value)],false⟩:=by rw [E.JB]
 have h2:=E.len;unfold Node.evs;rw [h1,hb];simp only [zan,zal,zau,if_true,zah,if_false];omega
theorem Nw {c:Cfg}(hc:c.ok=true){me:Int}{n:Node}{r:dw}(S:NS c me n r)(I:QU c me n){f:Fab}(F:su c f)(t:List Evn){p:Pkt}(Q:vw c p):
  Both c me n t (n.answered c me f t p) (r.answered c me f t p):=by
 have hsame:Both c me n t (n,f,t) (r,f,t):=⟨S,rfl,I,F,rfl⟩
 unfold Node.answered dw.answered;rw [uy];by_cases hs:n.deal.step=0
 ·have hh:r.has=false:=by rw [S.sim.has,hs];rfl
  have hf:n.deal.fits p=false:=by
   unfold bC.fits;rw [hs];simp [N8,Iw]
  rw [yB hf,if_pos hh];simp only [nV,if_true];exact hsame
 have hh:r.has=true:=by rw [S.sim.has];simp [hs]
 have hd:r.deal=n.deal:=by rw [S.sim.deal,if_neg hs]
 obtain⟨c1,c2⟩:=aaj S.cs n.deal me p;rw [if_neg (by rw [hh];simp),hd];have D:=I.deal hs;cases hA:vM n.deal me n.cache p with
 | mk ca dk=>
  obtain⟨d,ok⟩:=dk;cases hB:Wq n.deal me r.cache p with
  | mk rc rk=>
   rw [hA,hB] at c1 c2;simp only at c1 c2;subst c2;simp only;cases ok with
   | false=>
    simp only [if_true];have e1:ca=n.cache:=by
     cases hfit:n.deal.fits p with
     | false=> rw [yB hfit] at hA;simp only [nV,zad] at hA;exact hA.1.symm
     | true=>
      have:ca=n.cache:=by
       unfold vM at hA
       repeat' split at hA
       ·unfold bU at hA
        repeat' split at hA
        all_goals (simp only [nV,zad,zbS,and_false] at hA)
        all_goals exact hA.1.symm
       ·unfold bV at hA
        repeat' split at hA
        all_goals (simp only [nV,zad,zbS,and_false] at hA)
        all_goals exact hA.1.symm
       ·unfold cZ at hA;split at hA
        ·simp only [nV,zad] at hA;exact hA.1.symm
        ·split at hA
         ·exfalso;cases hfd:n.cache.find n.deal.line with
          | none=> simp [hfd] at hA
          | some e=>
           simp only [hfd] at hA
           repeat' split at hA
           all_goals simp at hA
         ·unfold fK at hA
          repeat' split at hA
          all_goals (simp only [nV,zad,zbS,and_false] at hA)
          all_goals exact hA.1.symm
       ·simp only [nV,zad] at hA;exact hA.1.symm
      exact this
    subst e1;have S':NS c me n { r with cache:=rc,deal:=n.deal }:=NS.of c1 S.hs S.sim.ops S.sim.values S.sim.begun S.sim.has (by simp [hs]) S.sim.num;exact⟨S',rfl,I,F,rfl⟩
   | true=>
    simp only [zbS,if_false];have N:=SQ I.cache D hs Q hA;have kd:=D.kind;by_cases h0:d.step=0
    ·rw [if_pos h0,if_pos h0];rcases N.way with⟨w1,_,w3⟩ | ⟨w1,_⟩
     rotate_left
     ·exact absurd h0 w1
     subst w3;have hI:QU c me { n with deal:=d }:=⟨I.proc,I.cache,I.rows,I.home,λh=> absurd h0 h,I.clk⟩
     have S':NS c me { n with deal:=d } { r with cache:=rc,has:=false,deal:=.zero }:=NS.of c1 S.hs S.sim.ops S.sim.values S.sim.begun (by simp [h0]) (by simp [h0]) S.sim.num;have hcur:r.ops[r.values.length]?=n.proc.cur:=by rw [S.sim.ops,S.sim.values];rfl
     try simp only
     rw [hcur];by_cases k3:d.kind=3
     ·have hb:=D.roll (by rw [<-N.kind];exact k3);have hlt:=I.proc.begun hb;obtain⟨o,ho⟩:∃o,n.proc.cur=some o:=⟨_,zab hlt⟩
      have hop:n.proc.op=o:=by unfold Proc.op;rw [ho];rfl
      have hrb:r.begun=true:=by rw [S.sim.begun];exact hb
      rw [ho];simp only [hop,hrb,k3,true_and];by_cases k4:o.kind=4
      ·rw [if_pos k4,if_pos k4];have hidx:n.proc.idx=n.proc.values.length:=by unfold Proc.idx;rw [ho]
       simp only [Node.done,dw.done,Proc.UZ,hb,if_true,hidx,S.sim.values];refine⟨NS.of c1 S.hs S.sim.ops rfl rfl (by simp [h0]) (by simp [h0]) S.sim.num,rfl,⟨⟨I.proc.most,I.proc.right,by simp only [zan,zal,zau];omega,λh=> by cases h⟩,I.cache,I.rows,I.home,λh=> absurd h0 h,?_⟩,F,?_⟩
       ·have:=I.clk;simp only [zan,zal,zau];omega
       ·simp only [Node.evs,hb,if_true,zan,zal,zau,zah,if_false];omega
      ·rw [if_neg k4,if_neg k4];exact⟨NS.of c1 S.hs S.sim.ops S.sim.values hb.symm (by simp [h0]) (by simp [h0]) S.sim.num,rfl,hI,F,rfl⟩
     ·rw [if_neg (by simp [k3])];have hnb:=D.rest (by rw [<-N.kind];exact k3) w1;have hrb:r.begun=false:=by rw [S.sim.begun];exact hnb
      cases hcu:n.proc.cur with
      | none=> exact⟨S',rfl,hI,F,rfl⟩
      | some o=>
       simp only [hrb,zah,false_and,if_false];exact⟨NS.of c1 S.hs S.sim.ops S.sim.values hnb.symm (by simp [h0]) (by simp [h0]) S.sim.num,rfl,hI,F,rfl⟩
    ·rw [if_neg h0,if_neg h0];rcases N.way with⟨_,w2,_⟩ | ⟨_,w2,w3⟩
     ·exact absurd w2 h0
     have hl0:0<=d.line:=by rw [N.line];exact D.lo
     have home:c.gX d.line=d.line.tmod c.nodes:=by
      have:=(Lp hc).1;unfold Cfg.gX zY;rw [if_neg (by omega),zbK hl0]
     by_cases h6:d.step=6/\d.kind≠3
     ·-- the operation takes effect
      simp only [if_pos h6];have k3:n.deal.kind≠3:=by rw [<-N.kind];exact h6.2
      have W:=D.work k3 w2;obtain⟨o,ho,hol,hk1,hk2⟩:=W.op;have hmem:o∈n.proc.ops:=zaq ho;obtain⟨e,he,YV⟩:∃e,ca.find n.deal.line=some e/\(n.deal.kind=2->e.dirty=true):=by
       rcases w3 k3 with⟨w,_⟩ | ⟨_,w⟩
       ·exact absurd h6.1 w
       ·exact w
      have hop:r.ops.getD r.values.length .zero=o:=by
       rw [S.sim.ops,S.sim.values,zaw];have:n.proc.ops[n.proc.values.length]?=some o:=ho;rw [this];rfl
      have E:=GK hc (n:={ n with cache:=ca,deal:=d }) (r:={ r with cache:=rc,deal:=d }) (me:=me) c1 S.sim.values N.inv t ho (I.proc.right o hmem).1 (I.proc.right o hmem).2 W.begun (by rw [hol];exact he) (λhk=> by
       have hk':=D.kind;by_cases e2:n.deal.kind=2
       ·exact YV e2
       ·have:=hk1 (by omega);omega)
      rw [hop];have hn1:(({ n with cache:=ca,deal:=d }:Node).effect c me t).1.deal=d:=by rw [E.JB]
      have hn2:(({ n with cache:=ca,deal:=d }:Node).effect c me t).1.home=n.home:=by rw [E.JB]
      have hn3:(({ n with cache:=ca,deal:=d }:Node).effect c me t).1.num=n.num:=by rw [E.JB]
      have hn4:(({ n with cache:=ca,deal:=d }:Node).effect c me t).1.proc=⟨n.proc.ops,n.proc.values++[(({ n with cache:=ca,deal:=d }:Node).effect c me t).2.getLast?.elim 0 (·.value)],false⟩:=by rw [E.JB]
      have hn5:(({ n with cache:=ca,deal:=d }:Node).effect c me t).1.cache.clock=ca.clock:=by
       have hop':({ n with cache:=ca,deal:=d }:Node).proc.op=o:=by unfold Proc.op;rw [show({ n with cache:=ca,deal:=d }:Node).proc.cur=some o from ho];rfl
       unfold Node.effect Node.done;simp only [hop'];rw [show ca.find (c.cO o.addr)=some e by rw [hol];exact he];simp only [zaz];obtain⟨hem,hel⟩:=(fZ N.inv.lines).1 he;rw [kS N.inv.lines (x:=e) (by rw [(kF _ _ _).1];exact(N.inv.ent e hem).lo) (by rw [(kF _ _ _).1,hel];exact he)]
      have hr1:((({ r with cache:=rc,deal:=d }:dw).effect c o).1.done me t (({ r with cache:=rc,deal:=d }:dw).effect c o).2).1.deal=d:=by rw [E.rest]
      have hr2:((({ r with cache:=rc,deal:=d }:dw).effect c o).1.done me t (({ r with cache:=rc,deal:=d }:dw).effect c o).2).1.homes=r.homes:=by rw [E.rest]
      have hr3:((({ r with cache:=rc,deal:=d }:dw).effect c o).1.done me t (({ r with cache:=rc,deal:=d }:dw).effect c o).2).1.num=r.num:=by rw [E.rest]
      have hr4:((({ r with cache:=rc,deal:=d }:dw).effect c o).1.done me t (({ r with cache:=rc,deal:=d }:dw).effect c o).2).1.ops=r.ops:=by rw [E.rest]
      have hr5:((({ r with cache:=rc,deal:=d }:dw).effect c o).1.done me t (({ r with cache:=rc,deal:=d }:dw).effect c o).2).1.values=n.proc.values++[(({ n with cache:=ca,deal:=d }:Node).effect c me t).2.getLast?.elim 0 (·.value)]:=by rw [E.rest]
      have hr6:((({ r with cache:=rc,deal:=d }:dw).effect c o).1.done me t (({ r with cache:=rc,deal:=d }:dw).effect c o).2).1.begun=false:=by rw [E.rest]
      have hr7:((({ r with cache:=rc,deal:=d }:dw).effect c o).1.done me t (({ r with cache:=rc,deal:=d }:dw).effect c o).2).1.has=r.has:=by rw [E.rest]
      have hlt:=I.proc.begun W.begun;have al1:ca.clock<=n.proc.values.length+1:=by
       have:=I.clk;rcases N.clk with h | ⟨_,_,h⟩ <;> omega
      refine⟨NS.of E.sim (by rw [hn2,hr2];exact S.hs) (by rw [hr4,hn4];exact S.sim.ops) (by rw [hr5,hn4]) (by rw [hr6,hn4]) (by rw [hr7,hh,hn1];simp [h0]) (by rw [hr1,hn1,if_neg h0]) (by rw [hr3,hn3];exact S.sim.num),?_,?_,?_,E.evs W.begun⟩
      ·simp only [dw.O4,Node.O4,hr1,hn1,E.ev,home]
      ·refine⟨⟨by rw [hn4];exact I.proc.most,by rw [hn4];exact I.proc.right,by rw [hn4];simp only [zan,zal,zau];omega,by rw [hn4];intro h;cases h⟩,E.inv,by rw [hn2];exact I.rows,by rw [hn2];exact I.home,λ_=> ?_,by rw [hn5,hn4];simp only [zan,zal,zau];omega⟩;exact⟨by rw [hn1];exact hl0,by rw [hn1,N.line];exact D.hi,by rw [hn1,N.kind];exact D.kind,by rw [hn1];exact N.dat,by rw [hn1];exact N.aeZ,by rw [hn1];intro h;exact absurd h h6.2,by rw [hn1];intro _ h;exact absurd h6.1 h,by rw [hn4];intro _ _;rfl⟩
      ·simp only [Node.O4,hn1];exact F.send (YS N.dat _ _)
     ·simp only [if_neg h6];have S':NS c me { n with cache:=ca,deal:=d } { r with cache:=rc,deal:=d }:=NS.of c1 S.hs S.sim.ops S.sim.values S.sim.begun (by simp [h0,hh]) (by simp [h0]) S.sim.num;refine⟨S',?_,⟨I.proc,N.inv,I.rows,I.home,λ_=> ⟨hl0,by rw [N.line];exact D.hi,by rw [N.kind];exact D.kind,N.dat,N.aeZ,λh=> D.roll (by rw [<-N.kind];exact h),λk3 k6=> ?_,λk3 k6=> absurd ⟨k6,k3⟩ h6⟩,?_⟩,F.send (YS N.dat _ _),rfl⟩
      ·simp only [dw.O4,Node.O4,home]
      ·have k3':n.deal.kind≠3:=by rw [<-N.kind];exact k3
       have W:=D.work k3' w2;rcases w3 k3' with⟨_,w⟩ | ⟨w,_⟩
       ·subst w;obtain⟨o,ho,hol,hk1,hk2⟩:=W.op;exact⟨W.begun,⟨o,ho,by rw [hol];exact N.line.symm,by rw [N.kind];exact hk1,by rw [N.kind];exact hk2⟩,by simp only;rw [N.line];exact W.full⟩
       ·exact absurd w k6
      ·have:=I.clk;rcases N.clk with h | ⟨k3,k6,_⟩
       ·simp only;omega
       ·exact absurd ⟨k6,by rw [N.kind];exact k3⟩ h6
theorem YW {c:Cfg}(hc:c.ok=true){line:Int}(h:0<=line):c.gX line=line.tmod c.nodes:=by
 have:=(Lp hc).1;unfold Cfg.gX zY;rw [if_neg (by omega),zbK h]
theorem yC {c:Cfg}(hc:c.ok=true){me:Int}{n:Node}{r:dw}(S:NS c me n r)(I:QU c me n){f:Fab}(F:su c f)(t:List Evn){k l:Int}(hk:1<=k/\k<=3)(h0:0<=l)(h1:l < c.lines)(hb:n.proc.begun=true)
  (hw:k≠3->(∃o,n.proc.cur=some o/\c.cO o.addr=l/\(k=1->o.kind=1)/\(k=2->o.kind=2∨o.kind=3))/\n.cache.full l=false):
  Both c me n t ((n.begin_ c me f k l).1,(n.begin_ c me f k l).2,t) ((r.begin_ c me f k l).1,(r.begin_ c me f k l).2,t):=by
 unfold Node.begin_ dw.begin_;have hs:(bC.begin k l n.num).step≠0:=by show(1:Int)≠0;decide
 simp only [S.sim.num];refine⟨NS.of S.cs S.hs S.sim.ops S.sim.values S.sim.begun (by simp [bC.begin]) (by simp [bC.begin]) rfl,?_,⟨I.proc,I.cache,I.rows,I.home,λ_=> ?_,I.clk⟩,F.send (YS (.inl rfl) _ _),rfl⟩
 ·simp only [dw.O4,Node.O4,bC.begin];rw [YW hc h0]
 ·refine⟨h0,h1,hk,.inl rfl,λ_ h=> absurd h (by simp [bC.begin]),λ_=> hb,λk3 _=> ?_,λ_ h=> absurd h (by simp [bC.begin])⟩;obtain⟨⟨o,q1,q2,q3,q4⟩,q5⟩:=hw k3;exact⟨hb,⟨o,q1,q2,q3,q4⟩,q5⟩
theorem uV {ca:Cache}(hl:Lines ca.l){line:Int}{e:Ent}(h:ca.find line=some e):(ca.touch line).find line=some { e with used:=ca.clock+1 }:=by
 obtain⟨he,hel⟩:=(fZ hl).1 h;rw [xG hl h];unfold Cache.find;rw [fZ (xK hl λy _=> by
  split
  ·rename_i h;rw [h];exact hel
  ·rfl)]
 exact⟨zaO.2 ⟨e,he,by rw [if_pos hel]⟩,hel⟩
theorem EG {ca:Cache}(hl:Lines ca.l){line:Int}{e:Ent}(h:ca.find line=some e):(ca.touch line).clock=ca.clock+1:=by rw [xG hl h]
theorem abt {c:Cfg}(hc:c.ok=true){me:Int}{n:Node}{r:dw}(S:NS c me n r)(I:QU c me n){f:Fab}(F:su c f)(t:List Evn){o:Opn}(ho:n.proc.cur=some o)(hd:n.deal.step=0):
  Both c me n t (n.work c me f t o) (r.work c me f t o):=by
 have hmem:o∈n.proc.ops:=zaq ho;have hlt:n.proc.values.length < n.proc.ops.length:=(zaf.1 ho).1;have R:=I.proc.right o hmem;have O:=aoK hc R.1
 -- it has begun
 let n1:Node:={ n with proc:={ n.proc with begun:=true } }
 let r1:dw:={ r with begun:=true }
 have S1:NS c me n1 r1:=NS.of S.cs S.hs S.sim.ops S.sim.values rfl S.sim.has S.sim.deal S.sim.num;have I1:QU c me n1:=⟨⟨I.proc.most,I.proc.right,I.proc.vals,λ_=> hlt⟩,I.cache,I.rows,I.home,λh=> absurd hd h,I.clk⟩
 have ho1:n1.proc.cur=some o:=ho;have hb1:n1.proc.begun=true:=rfl;have hop:n1.proc.op=o:=by unfold Proc.op;rw [ho1];rfl
 have hidx:n1.proc.idx=n.proc.values.length:=by unfold Proc.idx;rw [ho1]
 obtain⟨t1,ht1⟩:∃t1,t1=if n.proc.begun then t else t++[⟨me,n.proc.values.length,false,0⟩]:=⟨_,rfl⟩
 have ht1':(if r.begun=true then t else t++[(⟨me,r.values.length,false,0⟩:Evn)])=t1:=by rw [ht1,S.sim.begun,S.sim.values]
 have hev:t1.length+n.evs=t.length+n1.evs:=by
  rw [ht1];unfold Node.evs;show _=t.length+(2*n.proc.values.length+(if true=true then 1 else 0))
  cases n.proc.begun
  ·simp only [zah,if_false,zan,zal,zau,if_true];omega
  ·simp only [if_true]
 have lift:∀{A:NFT} {B:ahU},Both c me n1 t1 A B->Both c me n t A B:=λ{A B} h=> ⟨h.sim,h.eq,h.inv,h.fab,by have:=h.evs;omega⟩
 have hfind:r.cache.find (o.addr.tdiv c.words)=n.cache.find (c.cO o.addr):=by rw [S.cs.find,O.line]
 have hfull:(n.cache.find (c.cO o.addr)=none/\0<=o.addr.tdiv c.words/\r.cache.ways<=((r.cache.lZ (o.addr.tdiv c.words)).length:Int))↔n.cache.full (c.cO o.addr)=true:=by
  unfold Cache.full;rw [S.sim.ways,S.cs.count,<-O.line];simp only [zaj,decide_eq_true_eq,Option.isNone_iff_eq_none];exact⟨λh=> ⟨h.1,h.2.2⟩,λh=> ⟨h.1,O.lo,h.2⟩⟩
 unfold Node.work dw.work
 dsimp only
 rw [<-ht1,ht1',hfind];by_cases c1:o.kind=4/\n.cache.find (c.cO o.addr)=none
 ·rw [if_pos c1,if_pos c1];refine lift ?_;simp only [Node.done,dw.done,Proc.UZ,if_true];have hidx':({ n with proc:={ n.proc with begun:=true } }:Node).proc.idx=n.proc.values.length:=hidx;simp only at hidx';rw [hidx',S.sim.values];refine⟨NS.of S.cs S.hs S.sim.ops rfl rfl S.sim.has S.sim.deal S.sim.num,rfl,⟨⟨I.proc.most,I.proc.right,by simp only [zan,zal,zau];omega,λh=> by cases h⟩,I.cache,I.rows,I.home,λh=> absurd hd h,?_⟩,F,?_⟩
  ·have:=I.clk;simp only [zan,zal,zau];omega
  ·simp only [Node.evs,n1,if_true,zan,zal,zau,zah,if_false];omega
 rw [if_neg c1,if_neg c1];by_cases c2:o.kind=4
 ·rw [if_pos c2,if_pos c2,<-O.line];exact lift (yC hc S1 I1 F t1 ⟨by decide,by decide⟩ O.lo O.hi hb1 λh=> absurd rfl h)
 rw [if_neg c2,if_neg c2];by_cases c3:(n.cache.find (c.cO o.addr)).isSome=true/\(o.kind=1∨((n.cache.find (c.cO o.addr)).getD .zero).dirty=true)
 ·rw [if_pos c3,if_pos c3];obtain⟨e,he⟩:=Option.isSome_iff_exists.1 c3.1;have YV:o.kind=2∨o.kind=3->e.dirty=true:=λh=> by
   rcases c3.2 with h' | h'
   ·omega
   ·rw [he] at h';exact h'
  have E:=GK hc (n:={ n1 with cache:=n.cache.touch (c.cO o.addr) }) (r:={ r1 with cache:=r.cache.touch (c.cO o.addr) }) (me:=me) (S.cs.touch he) S.sim.values (I.cache.touch he) t1 ho1 R.1 R.2 hb1 (uV I.cache.lines he) (λh=> YV h);have hev2:=E.evs hb1;have hn5:(({ n1 with cache:=n.cache.touch (c.cO o.addr) }:Node).effect c me t1).1.cache.clock=n.cache.clock+1:=by
   unfold Node.effect Node.done;have hop':({ n1 with cache:=n.cache.touch (c.cO o.addr) }:Node).proc.op=o:=hop;simp only [hop'];rw [uV I.cache.lines he];simp only [zaz];have T:=I.cache.touch he;have hem:=(fZ T.lines).1 (uV I.cache.lines he);rw [kS T.lines (x:={ e with used:=n.cache.clock+1 }) (by rw [(kF _ _ _).1];exact(T.ent _ hem.1).lo) ((congrArg (n.cache.touch (c.cO o.addr)).find (((kF _ _ _).1).trans hem.2)).trans (uV I.cache.lines he))];exact EG I.cache.lines he
  refine lift ?_;rw [<-O.line];have hn1:(({ n1 with cache:=n.cache.touch (c.cO o.addr) }:Node).effect c me t1).1.deal=n.deal:=by rw [E.JB]
  have hn2:(({ n1 with cache:=n.cache.touch (c.cO o.addr) }:Node).effect c me t1).1.home=n.home:=by rw [E.JB]
  have hn3:(({ n1 with cache:=n.cache.touch (c.cO o.addr) }:Node).effect c me t1).1.num=n.num:=by rw [E.JB]
  have hn4:(({ n1 with cache:=n.cache.touch (c.cO o.addr) }:Node).effect c me t1).1.proc=⟨n.proc.ops,n.proc.values++[(({ n1 with cache:=n.cache.touch (c.cO o.addr) }:Node).effect c me t1).2.getLast?.elim 0 (·.value)],false⟩:=by rw [E.JB]
  refine⟨NS.of E.sim (by rw [hn2,E.rest];exact S.hs) (by rw [hn4,E.rest];exact S.sim.ops) (by rw [hn4,E.rest]) (by rw [hn4,E.rest]) (by rw [hn1,E.rest];exact S.sim.has) (by rw [hn1,E.rest];exact S.sim.deal) (by rw [hn3,E.rest];exact S.sim.num),?_,⟨⟨by rw [hn4];exact I.proc.most,by rw [hn4];exact I.proc.right,by rw [hn4];simp only [zan,zal,zau];omega,by rw [hn4];intro h;cases h⟩,E.inv,by rw [hn2];exact I.rows,by rw [hn2];exact I.home,λh=> absurd (by rw [hn1];exact hd) h,?_⟩,F,hev2⟩
  ·show(f,_)=(f,_)
   rw [E.ev]
  ·have:=I.clk;rw [hn5,hn4];simp only [zan,zal,zau];omega
 rw [if_neg c3,if_neg c3];by_cases c4:n.cache.full (c.cO o.addr)=true
 ·rw [if_pos c4,if_pos (hfull.2 c4),S.cs.lU I.cache.Wv,<-O.line];have hset:n.cache.lZ (c.cO o.addr)≠[]:=by
   intro e;unfold Cache.full at c4;simp only [e,zau,zaj,decide_eq_true_eq] at c4;have:=(Lp hc).2.2.2.2.1;rw [I.cache.ways] at c4;omega
  obtain⟨e,he⟩:∃e,lu (n.cache.lZ (c.cO o.addr))=some e:=by
   cases h:n.cache.lZ (c.cO o.addr) with
   | nil=> exact absurd h hset
   | cons a l=> exact⟨_,rfl⟩
  have hv:n.cache.lU (c.cO o.addr)=some e.line:=by unfold Cache.lU;rw [he];rfl
  have hem:e∈n.cache.l:=by
   have:=(tC he).1;unfold Cache.lZ at this;exact(zbq.1 this).1
  have E:=I.cache.ent e hem;rw [hv];simp only [zaz];exact lift (yC hc S1 I1 F t1 ⟨by decide,by decide⟩ E.lo E.hi hb1 λh=> absurd rfl h)
 rw [if_neg c4,if_neg λh=> c4 (hfull.1 h)];have c4':n.cache.full (c.cO o.addr)=false:=by simpa using c4
 by_cases c5:o.kind=1
 ·rw [if_pos c5,if_pos c5,<-O.line];exact lift (yC hc S1 I1 F t1 ⟨by decide,by decide⟩ O.lo O.hi hb1 λ_=> ⟨⟨o,ho1,rfl,λ_=> c5,λh=> by omega⟩,c4'⟩)
 ·rw [if_neg c5,if_neg c5,<-O.line];have k1:=O.k1;have k4:=O.k4;exact lift (yC hc S1 I1 F t1 ⟨by decide,by decide⟩ O.lo O.hi hb1 λ_=> ⟨⟨o,ho1,rfl,λh=> by omega,λ_=> by omega⟩,c4'⟩)
theorem YX {c:Cfg}(hc:c.ok=true){me:Int}{n:Node}{r:dw}(S:NS c me n r)(I:QU c me n){f:Fab}(F:su c f)(t:List Evn){p:Pkt}(Q:vw c p):
  Both c me n t ((n.asked c me f p).1,(n.asked c me f p).2,t) ((r.asked c me f p).1,(r.asked c me f p).2,t):=by
 unfold Node.asked dw.asked;by_cases hk:p.kind=1∨p.kind=2
 ·rw [if_pos hk,if_pos hk];obtain⟨h1,h2,h3⟩:=S.hs.handle hc I.home p;have hr:=P6 (c:=c) (me:=me) I.rows Q.num;have hok:=YT hc S.hs I.rows p;cases hA:n.home.handle c me p with
  | mk h x=>
   cases hB:r.homes.handle c me p with
   | mk rh rx=>
    rw [hA,hB] at h1 h2;rw [hA] at h3 hr hok;simp only at h1 h2 h3 hr hok;subst h2;obtain⟨out,ok,e⟩:=rx;simp only at hok ⊢;refine⟨NS.of S.cs h1 S.sim.ops S.sim.values S.sim.begun S.sim.has S.sim.deal S.sim.num,rfl,⟨I.proc,I.cache,hr,h3,λhs=> ?_,I.clk⟩,?_,rfl⟩
    ·have D:=I.deal hs;exact⟨D.lo,D.hi,D.kind,D.dat,D.aeZ,D.roll,λa b=> by have W:=D.work a b;exact⟨W.begun,W.op,W.full⟩,D.rest⟩
    ·simp only;split
     ·exact F.send hok
     ·exact F
 ·rw [if_neg hk,if_neg hk];obtain⟨h1,h2⟩:=Wu S.cs p;obtain⟨i1,i2,i3,i4⟩:=YU I.cache p;cases hA:dU n.cache p with
  | mk ca x=>
   cases hB:DR r.cache p with
   | mk rc rx=>
    rw [hA,hB] at h1 h2;rw [hA] at i1 i2 i3 i4;simp only at h1 h2 i1 i2 i3 i4;subst h2;obtain⟨out,e⟩:=rx;simp only at i2 ⊢;refine⟨NS.of h1 S.hs S.sim.ops S.sim.values S.sim.begun S.sim.has S.sim.deal S.sim.num,rfl,⟨I.proc,i1,I.rows,I.home,λhs=> ?_,by simp only;rw [i3];exact I.clk⟩,?_,rfl⟩
    ·have D:=I.deal hs;exact⟨D.lo,D.hi,D.kind,D.dat,D.aeZ,D.roll,λa b=> by have W:=D.work a b;exact⟨W.begun,W.op,i4 _ hc W.full⟩,D.rest⟩
    ·simp only;split
     ·exact F.send i2
     ·exact F
theorem Ny(f:Fab)(i:Int)(req:Bool):(f.take i req).2=none↔f.waiting i req=0:=by
 unfold Fab.take Fab.waiting;split
 ·cases(f.port i).qZ req <;> simp
 ·simp
theorem Nz {f:Fab}{i:Int}{req:Bool}(h:(f.take i req).2=none):(f.take i req).1=f:=by
 unfold Fab.take at h ⊢;split
 ·rename_i hi;rw [if_pos hi] at h;cases hl:(f.port i).qZ req with
  | nil=> rfl
  | cons p l=> rw [hl] at h;cases h
 ·rfl
theorem abu {c:Cfg}(hc:c.ok=true){me:Int}{n:Node}{r:dw}(S:NS c me n r)(I:QU c me n){f:Fab}(F:su c f)(t:List Evn):
  Both c me n t (n.step c me f t).1 (r.step c me f t).1/\(r.step c me f t).2=(n.step c me f t).2:=by
 unfold Node.step dw.step;obtain⟨t1,t2⟩:=F.take me false;cases h1:f.take me false with
 | mk f' x=>
  rw [h1] at t1 t2;cases x with
  | some p=> exact⟨Nw hc S I t1 t (t2 p rfl),rfl⟩
  | none=>
   simp only;have hroom:=F.room me false;have alz:=S.hs.ready I.home;rw [alz];by_cases hg:n.home.ready≠[]/\f.roomOf me false≠0
   ·rw [if_pos hg,if_pos (show 0 < f.roomOf me false/\n.home.ready≠[] from⟨by omega,hg.1⟩)];obtain⟨g1,g2,g3⟩:=S.hs.grant I.home;refine⟨⟨NS.of S.cs g1 S.sim.ops S.sim.values S.sim.begun S.sim.has S.sim.deal S.sim.num,by simp only [g2],⟨I.proc,I.cache,?_,g3,λhs=> ?_,I.clk⟩,F.send ?_,rfl⟩,rfl⟩
    ·have:(n.home.grant me).1.rows=n.home.rows:=by
      unfold Home.grant;cases n.home.ready with
      | nil=> rfl
      | cons line l=>
       simp only;cases n.home.turns.next line with
       | mk tt w=> cases w <;> rfl
     simp only;rw [this];exact I.rows
    ·have D:=I.deal hs;exact⟨D.lo,D.hi,D.kind,D.dat,D.aeZ,D.roll,λa b=> by have W:=D.work a b;exact⟨W.begun,W.op,W.full⟩,D.rest⟩
    ·unfold Home.grant;cases hr:n.home.ready with
     | nil=> exact absurd hr hg.1
     | cons line l=>
      have hm:=(DZ hr).2.2;have hh:lD c me line=true:=by
       obtain⟨e,he,rfl⟩:=zaO.1 hm;exact I.home.here e he
      simp only;cases n.home.turns.next line with
      | mk tt w=>
       cases w with
       | none=> exact uU rfl (by simp [Pkt.zero])
       | some w=> exact GL S.hs I.rows hh _ _
   ·rw [if_neg hg,if_neg (show¬(0 < f.roomOf me false/\n.home.ready≠[]) by rintro⟨a,b⟩;exact hg ⟨b,by omega⟩)];have hw:=Ny f me true;obtain⟨u1,u2⟩:=F.take me true;by_cases hr:f.roomOf me false=0∨f.waiting me true=0
    ·have e1:(if f.roomOf me false=0 then(f,none) else f.take me true).2=(none:Option Pkt):=by
      split
      ·rfl
      ·rcases hr with hr | hr
       ·rename_i h;exact absurd hr h
       ·exact hw.2 hr
     rw [if_neg (show¬(0 < f.roomOf me false/\0 < f.waiting me true) by rintro⟨a,b⟩;rcases hr with hr | hr <;> omega)];cases hx:(if f.roomOf me false=0 then(f,none) else f.take me true:Fab × Option Pkt) with
     | mk f2 y=>
      rw [hx] at e1;simp only at e1;subst e1;simp only;have hcur:r.ops[r.values.length]?=n.proc.cur:=by rw [S.sim.ops,S.sim.values];rfl
      rw [hcur];cases hcu:n.proc.cur with
      | none=> exact⟨⟨S,rfl,I,F,rfl⟩,rfl⟩
      | some o=>
       simp only;by_cases hd:n.deal.step=0
       ·have hh:r.has=false:=by rw [S.sim.has];simp [hd]
        rw [if_pos hd,if_pos hh];exact⟨abt hc S I F t hcu hd,rfl⟩
       ·have hh:¬r.has=false:=by rw [S.sim.has];simp [hd]
        rw [if_neg hd,if_neg hh];exact⟨⟨S,rfl,I,F,rfl⟩,rfl⟩
    ·simp only [not_or] at hr;rw [if_neg hr.1,if_pos (show 0 < f.roomOf me false/\0 < f.waiting me true from⟨by omega,by omega⟩)];cases hx:f.take me true with
     | mk f2 y=>
      rw [hx] at hw u1 u2;simp only at hw u1 u2;cases y with
      | none=> exact absurd (hw.1 rfl) hr.2
      | some p=>
       simp only [zaz];exact⟨YX hc S I u1 t (u2 p rfl),by first | trivial | rfl⟩
structure MInv(m:dV):Prop where
 ok:m.c.ok=true
 len:(m.nodes.length:Int)=m.c.nodes
 fab:su m.c m.fab
 node:∀(i:Nat) n,m.nodes[i]?=some n->QU m.c i n
 evs:m.trace.length=(m.nodes.map Node.evs).sum
structure Zn(m:dV)(r:eG):Prop where
 c:r.c=m.c
 len:r.nodes.length=m.nodes.length
 fab:r.fab=m.fab.l
 ev:r.ev=m.trace
 node:∀(i:Nat) n rn,m.nodes[i]?=some n->r.nodes[i]?=some rn->NS m.c i n rn
theorem Zn.sim {m:dV}{r:eG}(S:Zn m r):Sim m r:=⟨S.c,S.len,S.fab,S.ev,λi n rn h1 h2=> (S.node i n rn h1 h2).sim⟩
theorem Zn.acS {m:dV}{r:eG}(S:Zn m r)(I:MInv m):r.acS=m.fab:=by
 unfold eG.acS;rw [S.c,S.fab,<-I.fab.out,<-I.fab.inn]
theorem JE {α:Type}(f:α->Nat):∀{l:List α} {i:Nat} {a a':α},l[i]?=some a->((l.set i a').map f).sum+f a=(l.map f).sum+f a'
 | [],i,a,a',h=> by simp at h
 | x::l,0,a,a',h=> by
  simp only [zaZ,zaa] at h;subst h;simp only [List.set_cons_zero,zaA,zbv];omega
 | x::l,i+1,a,a',h=> by
  simp only [zbH] at h;have:=JE f (a':=a') h;simp only [List.set_cons_succ,zaA,zbv];omega
theorem YZ {m:dV}{r:eG}(S:Zn m r)(I:MInv m)(i:Int):Zn (m.step i).1 (r.step i).1/\MInv (m.step i).1/\(r.step i).2=(m.step i).2:=by
 unfold dV.step eG.step dV.node;by_cases h0:0<=i
 ·rw [if_pos h0,if_pos h0];cases hn:m.nodes[i.toNat]? with
  | none=>
   have:r.nodes[i.toNat]?=none:=by
    rw [List.getElem?_eq_none_iff] at hn ⊢;rw [S.len];exact hn
   rw [this];exact⟨S,I,rfl⟩
  | some n=>
   have hi:=(zaf.1 hn).1;obtain⟨rn,hr⟩:∃rn,r.nodes[i.toNat]?=some rn:=⟨_,zab (by rw [S.len];exact hi)⟩
   rw [hr];have hii:((i.toNat:Nat):Int)=i:=by omega
   have N:=S.node i.toNat n rn hn hr;have NI:=I.node i.toNat n hn;rw [hii] at N NI;obtain⟨b1,b2⟩:=abu I.ok N NI I.fab m.trace;have hf:=S.acS I;simp only [S.c,hf,S.ev];cases hA:n.step m.c i m.fab m.trace with
   | mk A k=>
    cases hB:rn.step m.c i m.fab m.trace with
    | mk B rk=>
     rw [hA,hB] at b1 b2;simp only at b1 b2;subst b2;obtain⟨n',f',t'⟩:=A;obtain⟨rn',rf',rt'⟩:=B;have he:=b1.eq;simp only [zad] at he;obtain⟨rfl,rfl⟩:=he;refine⟨⟨rfl,by simp only [zb6];exact S.len,rfl,rfl,λj a b ha hb=> ?_⟩,⟨I.ok,by simp only [zb6];exact I.len,b1.fab,λj a ha=> ?_,?_⟩,rfl⟩
     ·simp only at ha hb ⊢;by_cases hj:j=i.toNat
      ·subst hj;rw [zbx hi] at ha;rw [zbx (by rw [S.len];exact hi)] at hb;cases ha;cases hb;rw [hii];exact b1.sim
      ·rw [zbU (λe=> hj e.symm)] at ha hb;exact S.node j a b ha hb
     ·simp only at ha ⊢;by_cases hj:j=i.toNat
      ·subst hj;rw [zbx hi] at ha;cases ha;rw [hii];exact b1.inv
      ·rw [zbU (λe=> hj e.symm)] at ha;exact I.node j a ha
     ·have e1:=JE Node.evs (a':=n') hn;have e2:=b1.evs;have e3:=I.evs;simp only at e2 ⊢;omega
 ·rw [if_neg h0,if_neg h0];exact⟨S,I,rfl⟩
theorem NC {m:dV}{r:eG}(S:Zn m r)(I:MInv m)(a b k:Int):Zn (m.deliver a b k).1 (r.deliver a b k).1/\MInv (m.deliver a b k).1/\(r.deliver a b k).2=(m.deliver a b k).2:=by
 unfold dV.deliver eG.deliver;rw [S.acS I];exact⟨⟨S.c,S.len,rfl,S.ev,S.node⟩,⟨I.ok,I.len,I.fab.deliver a b k,I.node,I.evs⟩,rfl⟩
section
variable {b:Nat}{H:aj}{g:Store}{q:Nat}{ca:Cache}
theorem Y0(G:Good b H g)(hb:H.base<=b)(h:g q=some (bf ca))(C:COk ca)(p:Pkt):
  ∃H',cl 165 [.ref q 0 0,.agg p.av] H=some (U3 (dU ca p),H')/\Good b H' (upd g q (bf (dU ca p).1))/\Step b H H':=by
 by_cases hx:(!p.ok || decide (p.kind < 3) || decide (6 < p.kind))=true
 ·exact Ns G hb h C p (.inl hx)
 ·cases hf:ca.find p.line with
  | none=> exact Ns G hb h C p (.inr hf)
  | some e=> exact abn G hb h C p hx hf
end
theorem fok {c:Cfg}(hc:c.ok=true){f:Fab}(F:su c f):FOk c f:=by
 have B:=pI hc;refine⟨hc,by have:=F.len;have:=B.nodes;omega,λp hp s hs=> ?_,λp hp s hs q hq=> ?_⟩
 ·have P:=F.port p hp
  match s,hs with
  | 0,_=> exact P.rq
  | 1,_=> exact P.rin
  | 2,_=> exact P.an
  | 3,_=> exact P.ain
 ·have P:=F.port p hp;have Q:vw c q:=by
   match s,hs with
   | 0,_=> exact P.pkt q (.inl hq)
   | 1,_=> exact P.pkt q (.inr (.inr (.inl hq)))
   | 2,_=> exact P.pkt q (.inr (.inl hq))
   | 3,_=> exact P.pkt q (.inr (.inr (.inr hq)))
  have:=Q.ok;simp only [Pkt.ok,zaj,decide_eq_true_eq] at this;omega
theorem ND {c:Cfg}{p:Pkt}(Q:vw c p):p.data.length < 1000000000:=by
 have:=Q.ok;simp only [Pkt.ok,zaj,decide_eq_true_eq] at this;omega
structure HSz(h:Home):Prop where
 t:TOk h.turns
 r:∀e∈h.rows,e.2.data.length < 1000000000
theorem NG {h:Home}(hr:∀e∈h.rows,e.2.data.length < 1000000000)(line:Int):(rowOf h.rows line).data.length < 1000000000:=by
 unfold rowOf;cases ha:iV h.rows line with
 | none=> exact(show(0:Nat) < 1000000000 by decide)
 | some r=> exact hr _ (oK ha)
def kU(c:Cfg)(me:Int)(n:Node)(p:Pkt):Node × Pkt × Bool:=
 if p.kind=1∨p.kind=2 then({ n with home:=(n.home.handle c me p).1 },(n.home.handle c me p).2.1,(n.home.handle c me p).2.2.1 && decide ((n.home.handle c me p).2.2.2=0))
 else({ n with cache:=(dU n.cache p).1 },(dU n.cache p).2.1,decide ((dU n.cache p).2.2=0))
theorem abv(c:Cfg)(me:Int)(n:Node)(f:Fab)(p:Pkt):n.asked c me f p=((kU c me n p).1,if(kU c me n p).2.2=true then(f.send (kU c me n p).2.1).1 else f):=by
 unfold Node.asked kU;split
 ·rcases h:n.home.handle c me p with⟨h1,o,ok,e⟩
  simp
 ·rcases h:dU n.cache p with⟨h1,o,e⟩
  simp
theorem NH {c:Cfg}{me:Int}{n:Node}(C:COk n.cache)(Z:HSz n.home)(p:Pkt):(kU c me n p).2.1.data.length < 1000000000:=by
 have z0:(0:Nat) < 1000000000:=by decide
 unfold kU;split
 ·simp only [Home.handle]
  repeat' split
  all_goals first | exact z0 | exact NG Z.r _
 ·simp only [dU];split
  ·exact z0
  ·cases hf:n.cache.find p.line with
   | none=> exact z0
   | some e=>
    have he:=C.dat e (za3 hf);simp only
    repeat' split
    all_goals first | exact z0 | exact he
section
variable {b:Nat}{H:aj}{g0:Store}{S:Oa}{c:Cfg}{me:Int}{k:Nat}{K K':aj}{g:Store}{ls:Lcl}{w w':NFT}
theorem Y1(W:Walk b H g0 S c me k K g ls w)(hc:c.ok=true)(C:COk w.1.cache)(Z:HSz w.1.home)(p:Pkt)(hpl:p.data.length < 1000000000):
  ∃K' g',cl 111 [.ref (S.a 0) 0 0,.agg p.av] K=some (.tup [.agg (kU c me w.1 p).2.1.av,B (kU c me w.1 p).2.2],K')/\Walk b H g0 S c me k K' g' ls ((kU c me w.1 p).1,w.2):=by
 have W0:=Walk.of W.loc.good W.base W.Nu;have W1:=W0.newL (ty:=70) (xs:=p.av) (r:=K.next) (aH p) rfl;have W2:=W1.newL (ty:=70) (xs:=zP9) (r:=K.next+1) rfl (by rw [nNew]);have W3:=W2.newL (ty:=70) (xs:=zP9) (r:=K.next+1+1) rfl (by rw [nNew,nNew]);have k2:fF (fF noL K.next p.av) (K.next+1) zP9 K.next=some p.av:=by rw [ay (by omega),ak]
 have k3:fF (fF (fF noL K.next p.av) (K.next+1) zP9) (K.next+1+1) zP9 K.next=some p.av:=by rw [ay (by omega)];exact k2
 have k4:fF (fF (fF noL K.next p.av) (K.next+1) zP9) (K.next+1+1) zP9 (K.next+1)=some zP9:=by rw [ay (by omega),ak]
 have k5:fF (fF (fF noL K.next p.av) (K.next+1) zP9) (K.next+1+1) zP9 (K.next+1+1)=some zP9:=ak;have lk:=W2.loc.ld k2 (i:=0) (v:=I p.kind) rfl;have lp:=W3.loc.lda k3 (i:=0) (n:=9) (ys:=p.av) rfl rfl (by decide);have lh:=W3.ldN (i:=11) (v:=.ref (S.a 3) 0 0) rfl;have lc:=W3.ldN (i:=0) (v:=.ref (S.a 1) 0 0) rfl
 -- the end
 have fin:∀{K4:aj} {g4:Store} {n':Node} {out:Pkt} {v:AV},Walk b K (lay g ls) S c me w.2.1.l.length K4 g4 (fF (fF (fF noL K.next p.av) (K.next+1) zP9) (K.next+1+1) zP9) (n',w.2)->
   (∀f args,cl f args (((K.new (.blk 0 70 p.av)).new (.blk 0 70 zP9)).new (.blk 0 70 zP9))=some (v,K4)->
   (∀{β:Type} (kk:Option β),ckR (K.next+1+1) (K.next+1+1+1) (((K.new (.blk 0 70 p.av)).new (.blk 0 70 zP9)).new (.blk 0 70 zP9)) K4 kk=kk)/\
   ∃K5 K6 g',st 9 (.ref (K.next+1+1) 0 0) (.agg out.av) K4=some (aK,K5)/\lda 9 (.ref (K.next+1+1) 0 0) K5=some (.agg out.av,K5)/\st 9 (.ref (K.next+1) 0 0) (.agg out.av) K5=some (aK,K6)/\lda 9 (.ref (K.next+1) 0 0) K6=some (.agg out.av,K6)/\Walk b H g0 S c me k K6 g' ls (n',w.2)):=by
  intro K4 g4 n' out v W4 f args hcl;refine⟨λkk=> als λr h1 h2=> ?_,?_⟩
  ·obtain rfl:r=K.next+1+1:=by omega
   exact SL W3.loc.good W4.loc.good (SH _ _ _ _ _ hcl) (mQ k5) (mQ k5)
  ·obtain⟨K5,u1,u2,W5⟩:=W4.whole k5 (n:=9) (vs:=out.av) rfl (aU _) (by decide) (aH _);obtain⟨K6,u3,u4,W6⟩:=W5.whole (r:=K.next+1) (xs:=zP9) (by rw [ay (by omega)];exact k4) (n:=9) (vs:=out.av) rfl (aU _) (by decide) (aH _);obtain⟨g',W'⟩:=W.app (K':=K6) (w':=(n',w.2)) (by
    have:=W6.res;rw [W.len] at this;exact this)
   exact⟨K5,K6,g',u1,u2,u3,u4,W'⟩
 by_cases hk:p.kind=1∨p.kind=2
 ·have hm:kU c me w.1 p=({ w.1 with home:=(w.1.home.handle c me p).1 },(w.1.home.handle c me p).2.1,(w.1.home.handle c me p).2.2.1 && decide ((w.1.home.handle c me p).2.2.2=0)):=by unfold kU;rw [if_pos hk]
  rw [hm];have HI:=W3.Nu.node.2.2.2;obtain⟨K4,a1,a2,a3⟩:=YD W3.loc.good W3.base HI hc Z.t.nd Z.t.ws Z.r p hpl;have W4:=W3.home a2 a3;obtain⟨ck,K5,K6,g',u1,u2,u3,u4,W'⟩:=fin W4 _ _ a1 (out:=(w.1.home.handle c me p).2.1);refine⟨K6,g',aN rfl rfl (ac8 _ _ _ _ ?_),W'⟩;simp only [SK] at a1;obtain⟨ok,hok⟩:∃ok,(w.1.home.handle c me p).2.2.1=ok:=⟨_,rfl⟩
  rw [hok] at a1 ⊢;have cR:∀{β:Type} (kk:Option β),ckR ((K.new (.blk 0 70 p.av)).new (.blk 0 70 zP9)).next (((K.new (.blk 0 70 p.av)).new (.blk 0 70 zP9)).new (.blk 0 70 zP9)).next (((K.new (.blk 0 70 p.av)).new (.blk 0 70 zP9)).new (.blk 0 70 zP9)) K4 kk=kk:=by
   intro β kk;simp only [nNew];exact ck kk
  rcases hk with h1 | h1
  ·rw [h1] at lk;cases ok with
   | true=> simp -implicitDefEqProofs only [Nat.reduceLT,xq_,F5,aA (aH p),lk,lh,lp,a1,ck,u1,u2,u3,u4,zaK]
   | false=> simp -implicitDefEqProofs only [Nat.reduceLT,xq_,F5,aA (aH p),lk,lh,lp,a1,ck,u1,u2,u3,u4,zaN]
  ·rw [h1] at lk;cases ok with
   | true=> simp -implicitDefEqProofs only [Nat.reduceLT,Int.reduceEq,xq_,F5,aA (aH p),lk,lh,lp,a1,ck,u1,u2,u3,u4,zaK]
   | false=> simp -implicitDefEqProofs only [Nat.reduceLT,Int.reduceEq,xq_,F5,aA (aH p),lk,lh,lp,a1,ck,u1,u2,u3,u4,zaN]
 ·have hm:kU c me w.1 p=({ w.1 with cache:=(dU w.1.cache p).1 },(dU w.1.cache p).2.1,decide ((dU w.1.cache p).2.2=0)):=by unfold kU;rw [if_neg hk]
  rw [hm];obtain⟨K4,a1,a2,a3⟩:=Y0 W3.loc.good W3.base (W3.loc.obj W3.nw.node.2.1) C p;have W4:=W3.cache a2 a3;obtain⟨ck,K5,K6,g',u1,u2,u3,u4,W'⟩:=fin W4 _ _ a1 (out:=(dU w.1.cache p).2.1);refine⟨K6,g',aN rfl rfl (ac8 _ _ _ _ ?_),W'⟩;have h1:¬p.kind=1:=λh=> hk (.inl h);have h2:¬p.kind=2:=λh=> hk (.inr h);simp only [U3] at a1;simp -implicitDefEqProofs only [Nat.reduceLT,xq_,F5,aA (aH p),lk,h1,h2,lc,lp,a1,ck,u1,u2,u3,u4]
end
section
variable {b:Nat}{H:aj}{g0:Store}{S:Oa}{c:Cfg}{me:Int}{k:Nat}{K K':aj}{g:Store}{ls:Lcl}{w w':NFT}
theorem take_len(f:Fab)(i:Int)(req:Bool):(f.take i req).1.l.length=f.l.length:=by
 unfold Fab.take;split
 ·split
  ·rfl
  ·simp [Fab.put]
 ·rfl
theorem Walk.zG(W:Walk b H g0 S c me k K g ls w)(F:FOk c w.2.1):∃K' g',cl 110 [.ref S.f 0 0,I me] K=some (fE (w.2.1.take me true).2,K')/\Walk b H g0 S c me k K' g' ls (w.1,(w.2.1.take me true).1,w.2.2):=by
 obtain⟨K',g1,h1,h2,h3,h4,h5⟩:=Proofs.YthmoogcacpmjiaaGreat.zG W.loc.good W.base W.Nu.fab W.nw.RX F me;obtain⟨g',W'⟩:=W.net h2 h3 (take_len _ _ _) h4 h5;exact⟨K',g',h1,W'⟩
theorem Walk.Jy(W:Walk b H g0 S c me k K g ls w)(F:FOk c w.2.1):∃K' g',cl 100 [.ref S.f 0 0,I me] K=some (fE (w.2.1.take me false).2,K')/\Walk b H g0 S c me k K' g' ls (w.1,(w.2.1.take me false).1,w.2.2):=by
 obtain⟨K',g1,h1,h2,h3,h4,h5⟩:=Proofs.YthmoogcacpmjiaaGreat.Jy W.loc.good W.base W.Nu.fab W.nw.RX F me;obtain⟨g',W'⟩:=W.net h2 h3 (take_len _ _ _) h4 h5;exact⟨K',g',h1,W'⟩
theorem Walk.room(W:Walk b H g0 S c me k K g ls w)(F:FOk c w.2.1)(req:Bool):∃K',cl 107 [.ref S.f 0 0,I me,B req] K=some (I (w.2.1.roomOf me req),K')/\Walk b H g0 S c me k K' g ls w:=by
 obtain⟨K',h1,h2,h3⟩:=af7 W.loc.good W.base W.Nu.fab F me req;exact⟨K',h1,W.same h2 h3⟩
theorem P7(W:Walk b H g0 S c me k K g ls w)(hc:c.ok=true)(F:su c w.2.1)(C:COk w.1.cache)(Z:HSz w.1.home):
  ∃K' g',match(if w.2.1.roomOf me false=0 then(w.2.1,none) else w.2.1.take me true) with
   | (f',some p)=> cl 69 [.ref (S.a 0) 0 0,.ref S.f 0 0] K=some (B true,K')/\Walk b H g0 S c me k K' g' ls ((w.1.asked c me f' p).1,(w.1.asked c me f' p).2,w.2.2)
   | (_,none)=> cl 69 [.ref (S.a 0) 0 0,.ref S.f 0 0] K=some (B false,K')/\Walk b H g0 S c me k K' g' ls w:=by
 have W0:=Walk.of W.loc.good W.base W.Nu;have li:=W0.ldN (i:=10) (v:=I me) rfl;obtain⟨K1,a1,W1⟩:=W0.room (fok hc F) false;by_cases hr:w.2.1.roomOf me false=0
 ·simp only [if_pos hr];rw [hr] at a1;obtain⟨g',W'⟩:=W.app (K':=K1) (w':=w) (by
   have:=W1.res;rw [W.len] at this;exact this)
  refine⟨K1,g',aN rfl rfl (aaD _ _ _ _ ?_),W'⟩;simp -implicitDefEqProofs only [xq_,Xb,li,a1]
 ·simp only [if_neg hr];have li1:=W1.ldN (i:=10) (v:=I me) rfl;obtain⟨K2,g2,b1,W2⟩:=W1.zG (fok hc F);obtain⟨F2,Q2⟩:=F.take me true;have W3:=W2.newL (ty:=70) (xs:=zP9) (r:=K2.next) rfl rfl;cases ht:w.2.1.take me true with
  | mk f' po=>
   rw [ht] at b1 W2 W3 F2 Q2;simp only at b1 W2 W3 F2 Q2;obtain⟨K4,u1,u2,W4⟩:=W3.whole ak (n:=9) (vs:=(po.getD .zero).av) rfl (aU _) (by decide) (aH _);simp only [fE] at b1;cases po with
   | none=>
    simp only [zaY,zaL] at b1 u1 u2;have hf':f'=w.2.1:=by
     have:=Nz (f:=w.2.1) (i:=me) (req:=true) (by rw [ht]);rw [ht] at this;exact this
    subst hf';obtain⟨g',W'⟩:=W.app (K':=K4) (w':=w) (by
     have:=W4.res;rw [W.len] at this;exact this)
    refine⟨K4,g',aN rfl rfl (aaD _ _ _ _ ?_),W'⟩;simp -implicitDefEqProofs only [xq_,Xb,li,a1,hr,li1,b1,u1,zak]
   | some p=>
    simp only [zaz,zaM] at b1 u1 u2;have Q:=Q2 p rfl;obtain⟨K5,g5,c1,W5⟩:=Y1 W4 hc C Z p (ND Q);have W6:=W5.newL (ty:=70) (xs:=zP9) (r:=K5.next) rfl rfl;obtain⟨K7,u3,u4,W7⟩:=W6.whole ak (n:=9) (vs:=(kU c me w.1 p).2.1.av) rfl (aU _) (by decide) (aH _);simp only [abv];cases hok:(kU c me w.1 p).2.2 with
    | false=>
     rw [hok] at c1;obtain⟨g',W'⟩:=W.app (K':=K7) (w':=((kU c me w.1 p).1,f',w.2.2)) (by
      have:=W7.res;rw [W.len] at this;exact this)
     refine⟨K7,g',aN rfl rfl (aaD _ _ _ _ ?_),by simpa using W'⟩;simp -implicitDefEqProofs only [xq_,Xb,I4,li,a1,hr,li1,b1,u1,u2,zae,c1,u3]
    | true=>
     rw [hok] at c1;obtain⟨K8,g8,d1,W8⟩:=W7.send (fok hc F2) (kU c me w.1 p).2.1 (NH C Z p);obtain⟨g',W'⟩:=W.app (K':=K8) (w':=((kU c me w.1 p).1,(f'.send (kU c me w.1 p).2.1).1,w.2.2)) (by
      have:=W8.res;rw [W.len] at this;exact this)
     refine⟨K8,g',aN rfl rfl (aaD _ _ _ _ ?_),by simpa using W'⟩;simp -implicitDefEqProofs only [xq_,Xb,I4,li,a1,hr,li1,b1,u1,u2,zae,c1,u3,u4,d1]
theorem Y2(W:Walk b H g0 S c me k K g ls w)(hc:c.ok=true)(F:su c w.2.1)(Z:HSz w.1.home):
  ∃K' g',if w.1.home.ready≠[]/\w.2.1.roomOf me false≠0 then
    cl 68 [.ref (S.a 0) 0 0,.ref S.f 0 0] K=some (B true,K')/\Walk b H g0 S c me k K' g' ls ({ w.1 with home:=(w.1.home.grant me).1 },(w.2.1.send (w.1.home.grant me).2.1).1,w.2.2)
   else cl 68 [.ref (S.a 0) 0 0,.ref S.f 0 0] K=some (B false,K')/\Walk b H g0 S c me k K' g' ls w:=by
 have W0:=Walk.of W.loc.good W.base W.Nu;have lh:=W0.ldN (i:=11) (v:=.ref (S.a 3) 0 0) rfl;have li:=W0.ldN (i:=10) (v:=I me) rfl;have e1:=UE W0.loc.good W0.Nu.node.2.2.2 Z.t;by_cases h1:w.1.home.ready=[]
 ·simp only [if_neg (show¬(w.1.home.ready≠[]/\w.2.1.roomOf me false≠0) from λh=> h.1 h1)];have hd:decide (w.1.home.ready≠[])=false:=by rw [decide_eq_false];exact λh=> h h1
  rw [hd] at e1;refine⟨K,g,aN rfl rfl (afm _ _ _ _ ?_),W⟩;simp -implicitDefEqProofs only [xq_,aaC,lh,e1,zak]
 ·have hd:decide (w.1.home.ready≠[])=true:=decide_eq_true h1;rw [hd] at e1;obtain⟨K1,a1,W1⟩:=W0.room (fok hc F) false;by_cases hr:w.2.1.roomOf me false=0
  ·simp only [if_neg (show¬(w.1.home.ready≠[]/\w.2.1.roomOf me false≠0) from λh=> h.2 hr)];rw [hr] at a1;obtain⟨g',W'⟩:=W.app (K':=K1) (w':=w) (by
    have:=W1.res;rw [W.len] at this;exact this)
   refine⟨K1,g',aN rfl rfl (afm _ _ _ _ ?_),W'⟩;simp -implicitDefEqProofs only [xq_,aaC,lh,e1,zae,li,a1]
  ·simp only [if_pos (show w.1.home.ready≠[]/\w.2.1.roomOf me false≠0 from⟨h1,hr⟩)];have lh1:=W1.ldN (i:=11) (v:=.ref (S.a 3) 0 0) rfl;obtain⟨K2,b1,b2,b3⟩:=abo W1.loc.good W1.base W1.Nu.node.2.2.2 Z.t Z.r;have W2:=W1.home b2 b3;have W3:=W2.newL (ty:=70) (xs:=zP9) (r:=K2.next) rfl rfl;obtain⟨K4,u1,u2,W4⟩:=W3.whole ak (n:=9) (vs:=(w.1.home.grant me).2.1.av) rfl (aU _) (by decide) (aH _);have hsm:(w.1.home.grant me).2.1.data.length < 1000000000:=by
    have z0:(0:Nat) < 1000000000:=by decide
    unfold Home.grant
    repeat' split
    all_goals first | exact z0 | exact NG Z.r _
   obtain⟨K5,g5,d1,W5⟩:=W4.send (fok hc F) (w.1.home.grant me).2.1 hsm;obtain⟨g',W'⟩:=W.app (K':=K5) (w':=({ w.1 with home:=(w.1.home.grant me).1 },(w.2.1.send (w.1.home.grant me).2.1).1,w.2.2)) (by
    have:=W5.res;rw [W.len] at this;exact this)
   refine⟨K5,g',aN rfl rfl (afm _ _ _ _ ?_),W'⟩;simp -implicitDefEqProofs only [xq_,aaC,lh,e1,zae,li,a1,hr,lh1,b1,u1,u2,d1]
theorem Walk.Y3(W:Walk b H g0 S c me k K g ls w)(d:bC):∃K' g',st 9 (.ref (S.a 0) 0 12) (.agg d.av) K=some (aK,K')/\Walk b H g0 S c me k K' g' ls ({ w.1 with deal:=d },w.2):=by
 obtain⟨K',h1,h2,h3,_⟩:=W.loc.good.stores W.base (W.loc.obj W.nw.node.1) (i:=12) (n:=9) (vs:=d.av) (by rw [eX];decide) rfl (aO d);have e:oJ (uf S.a c me w.1.deal w.1.num) 12 d.av=uf S.a c me d w.1.num:=rfl;rw [e] at h2;exact⟨K',_,h1,W.own h2 h3⟩
theorem Walk.alA(W:Walk b H g0 S c me k K g ls w)(z:Int):∃K' g',st 1 (.ref (S.a 0) 0 21) (I z) K=some (aK,K')/\Walk b H g0 S c me k K' g' ls ({ w.1 with num:=z },w.2):=by
 obtain⟨K',h1,h2,h3,_⟩:=W.loc.good.store W.base (W.loc.obj W.nw.node.1) (i:=21) (v:=I z) (by rw [eX];decide) bP;have e:(uf S.a c me w.1.deal w.1.num).set 21 (.av (I z))=uf S.a c me w.1.deal z:=rfl;rw [e] at h2;exact⟨K',_,h1,W.own h2 h3⟩
theorem yD(W:Walk b H g0 S c me k K g ls w)(hc:c.ok=true)(F:su c w.2.1)(hn:0<=w.1.num/\w.1.num < 1000000)(kind line:Int):
  ∃K' g',cl 115 [.ref (S.a 0) 0 0,.ref S.f 0 0,I kind,I line] K=some (.tup [],K')/\Walk b H g0 S c me k K' g' ls ((w.1.begin_ c me w.2.1 kind line).1,(w.1.begin_ c me w.2.1 kind line).2,w.2.2):=by
 have ln:=W.ldN (i:=21) (v:=I w.1.num) rfl;have e1:=abk K kind line w.1.num;obtain⟨K1,g1,a1,W1⟩:=W.Y3 (.begin kind line w.1.num);have ln1:=W1.ldN (i:=21) (v:=I w.1.num) rfl;have w1:=wrap_i64 (a:=w.1.num+1) (by omega) (by omega);have aoi:=qU (P:=Tryz.prog) (k:=.i64) (t:=3) (a:=w.1.num+1) (b:=4096) (by decide);obtain⟨K2,g2,b1,W2⟩:=W1.alA ((w.1.num+1).tmod 4096);obtain⟨K3,g3,d1,W3⟩:=P5 W2 hc (fok hc F) (show(0:Nat) < 1000000000 by decide);refine⟨K3,g3,aN rfl rfl (ajp _ _ _ _ _ _ ?_),W3⟩;simp -implicitDefEqProofs only [xq_,ada,ln,e1,a1,ln1,aW,w1,aoi,b1,d1]
end
theorem short:∀(n:Nat) (l:List Int),l.Nodup->(∀x∈l,0<=x/\x < n)->l.length<=n
 | 0,[],_,_=> zac _
 | 0,x::l,_,h=> by have:=h x (by simp);omega
 | n+1,l,hd,h=> by
  by_cases hm:(n:Int)∈l
  ·have h1:=short n (l.erase n) (hd.erase (n:Int)) λx hx=> by
    have:=(hd.mem_erase_iff).1 hx;have:=h x this.2;omega
   rw [List.length_erase_of_mem hm] at h1;omega
  ·have:=short n l hd λx hx=> by
    have:=h x hx;have:x≠n:=λe=> hm (e ▸ hx);omega
   omega
theorem cok {c:Cfg}(hc:c.ok=true){ca:Cache}(I:D7 c ca)(hk:ca.clock < 1000000000):COk ca:=by
 have B:=pI hc;refine⟨?_,by rw [I.sets];exact B.sets.1,⟨I.aeY,hk⟩,λe he=> ?_,λe he=> ?_⟩
 ·have h1:(ca.l.map (·.line)).Nodup:=List.pairwise_map.2 I.lines;have:=short c.lines.toNat _ h1 λx hx=> by
   obtain⟨e,he,rfl⟩:=zaO.1 hx;have E:=I.ent e he;have h1:=E.lo;have h2:=E.hi;omega
  rw [zaF] at this;have:=B.lines;omega
 ·have:=(I.ent e he).dat.1;have:=B.words;omega
 ·have:=I.ent e he;exact⟨this.u0,by have:=this.used;omega⟩
theorem psz {c:Cfg}{p:Proc}(I:aoA c p):PSz p:=⟨by have:=I.most;omega,I.vals⟩
theorem hsz {c:Cfg}(hc:c.ok=true){me:Int}{n:Node}(I:QU c me n)(hw:∀line,(n.home.turns.ws line).length < 1000000):HSz n.home:=by
 have B:=pI hc;have hk:∀e∈n.home.turns.wait,0<=e.1/\e.1 < c.lines:=λe he=> by
  have:=I.home.here e he;unfold lD at this;simp only [zaj,decide_eq_true_eq] at this;omega
 refine⟨⟨I.home.turns.wk,λe he=> by have:=hk e he;have:=B.lines;omega,?_,hw⟩,λe he=> by have:=(I.rows e he).1;have:=B.words;omega⟩;have:=short c.lines.toNat _ I.home.turns.wk λx hx=> by
  obtain⟨e,he,rfl⟩:=zaO.1 hx;have:=hk e he;omega
 rw [zaF] at this;have:=B.lines;omega
section
variable {b:Nat}{H:aj}{g0:Store}{S:Oa}{c:Cfg}{me:Int}{k:Nat}{K K':aj}{g:Store}{ls:Lcl}{w w':NFT}
def agk(c:Cfg)(me:Int)(n:Node)(f:Fab)(t:List Evn)(o:Opn):NFT:=
 let line:=c.cO o.addr;let e:=n.cache.find line
 if o.kind=4/\e=none then((n.done me t 0).1,f,(n.done me t 0).2)
 else if o.kind=4 then((n.begin_ c me f 3 line).1,(n.begin_ c me f 3 line).2,t)
 else if e.isSome=true/\(o.kind=1∨(e.getD .zero).dirty=true) then
  let n:={ n with cache:=n.cache.touch line }
  ((n.effect c me t).1,f,(n.effect c me t).2)
 else if n.cache.full line=true then((n.begin_ c me f 3 ((n.cache.lU line).getD 0)).1,(n.begin_ c me f 3 ((n.cache.lU line).getD 0)).2,t)
 else if o.kind=1 then((n.begin_ c me f 1 line).1,(n.begin_ c me f 1 line).2,t)
 else((n.begin_ c me f 2 line).1,(n.begin_ c me f 2 line).2,t)
theorem agl(n:Node)(f:Fab)(t:List Evn)(o:Opn):n.work c me f t o=agk c me { n with proc:={ n.proc with begun:=true } } f (if n.proc.begun then t else t++[⟨me,n.proc.values.length,false,0⟩]) o:=rfl
theorem SS(W:Walk b H g0 S c me k K g ls w)(hc:c.ok=true)(F:su c w.2.1)(hp:PSz w.1.proc)(CI:D7 c w.1.cache)(hk:w.1.cache.clock < 1000)(hn:0<=w.1.num/\w.1.num < 1000000)(hl:w.2.2.length < 1000000){r7:Nat}{o:Opn}(h7:ls r7=some o.av):
  ∃K' g',mM cl (.ref (S.a 0) 0 0) (.ref S.f 0 0) (.ref S.t 0 0) (.ref r7 0 0) K=some (B true,K')/\Walk b H g0 S c me k K' g' ls (agk c me w.1 w.2.1 w.2.2 o):=by
 have C:=cok hc CI (by omega);have W0:=Walk.of W.loc.good W.base W.Nu;have lc:=W.alv (i:=2) (n:=8) (ys:=c.av) rfl rfl (by decide);have la:=W.loc.ld h7 (i:=1) (v:=I o.addr) rfl;obtain⟨line,P8⟩:∃line,c.cO o.addr=line:=⟨_,rfl⟩
 have el:=Ef K c hc o.addr;rw [P8] at el;have l0:=W.ldN (i:=0) (v:=.ref (S.a 1) 0 0) rfl;have ef:=W.find C line;obtain⟨fo,hfo⟩:∃fo,w.1.cache.find line=fo:=⟨_,rfl⟩
 rw [hfo] at ef;simp only [lY] at ef;have hr7:r7 < K.next:=W.loc.good.lt (mQ h7)
 have W1:=W.newL (ty:=93) (xs:=zE6) (r:=K.next) rfl rfl;obtain⟨K2,u1,u2,W2⟩:=W1.whole ak (n:=6) (vs:=(fo.getD .zero).av) rfl rfl (by decide) (jJ _);have k7:fF (fF ls K.next zE6) K.next (fo.getD .zero).av r7=some o.av:=by rw [ay (by omega),ay (by omega)];exact h7
 have lk:=W2.loc.ld k7 (i:=0) (v:=I o.kind) rfl;have ldd:=W2.loc.ld (r:=K.next) (xs:=(fo.getD .zero).av) ak (i:=4) (v:=B (fo.getD .zero).dirty) rfl;have l02:=W2.ldN (i:=0) (v:=.ref (S.a 1) 0 0) rfl;have P9:=MR W2.loc.good (W2.loc.obj W2.nw.node.2.1) C.len C.sets line;have aoM:=PO W2.loc.good (W2.loc.obj W2.nw.node.2.1) C.len C.sets C.used line
 -- what is called is called of the node
 have back:∀{K3:aj} {g3:Store} {w3:NFT},Walk b H g0 S c me k K3 g3 (fF (fF ls K.next zE6) K.next (fo.getD .zero).av) w3->∃g',Walk b H g0 S c me k K3 g' ls w3:=by
  intro K3 g3 w3 W3;refine⟨g3,W3.hb,⟨W3.loc.good.sub λq cs hq=> ?_,λr hr=> ?_⟩,W3.nw,W3.off,W3.step,W3.len⟩
  ·unfold lay at hq ⊢;by_cases hqr:q=K.next
   ·subst hqr;have hnone:ls K.next=none:=by
     cases e:ls K.next with
     | none=> rfl
     | some xs=>
      have:=W.loc.good.lt (mQ (g:=g) e);omega
    rw [hnone] at hq;simp only at hq;have:=W3.loc.free K.next (by rw [ak];simp)
    rw [this] at hq;cases hq
   ·rw [ay hqr,ay hqr];exact hq
  ·refine W3.loc.free r ?_;have hne:r≠K.next:=λe=> by
    subst e;cases e2:ls K.next with
    | none=> exact hr e2
    | some xs=>
     have:=W.loc.good.lt (mQ (g:=g) e2);omega
   rw [ay hne,ay hne];exact hr
 unfold agk;simp only [P8,hfo];by_cases h4:o.kind=4
 ·rw [h4] at lk;cases fo with
  | none=>
   rw [if_pos ⟨h4,rfl⟩];obtain⟨K3,g3,a1,W3⟩:=YR W2 hp hl 0;obtain⟨g',W'⟩:=back W3;refine⟨K3,g',?_,W'⟩;simp -implicitDefEqProofs only [xq_,mM,kD,lc,la,el,l0,ef,u1,lk,zaL,zak,a1]
  | some e=>
   rw [if_neg (by simp),if_pos h4];obtain⟨K3,g3,a1,W3⟩:=yD W2 hc F hn 3 line;obtain⟨g',W'⟩:=back W3;refine⟨K3,g',?_,W'⟩;simp -implicitDefEqProofs only [Int.reduceEq,xq_,mM,kD,lc,la,el,l0,ef,u1,lk,zaM,zae,a1]
 ·rw [if_neg (λh=> h4 h.1),if_neg h4];by_cases hd:fo.isSome=true/\(o.kind=1∨(fo.getD .zero).dirty=true)
  ·rw [if_pos hd];obtain⟨e,rfl⟩:=Option.isSome_iff_exists.1 hd.1;obtain⟨K3,a1,a2,a3⟩:=Uw W2.loc.good W2.base (W2.loc.obj W2.nw.node.2.1) C.len C.clk line;have W3:=W2.cache a2 a3;have hC:COk (w.1.cache.touch line):=cok hc (CI.touch hfo) (by rw [EG CI.lines hfo];omega);obtain⟨K4,g4,b1,W4⟩:=Nv W3 hc hp hC hl;obtain⟨g',W'⟩:=back W4;refine⟨K4,g',?_,W'⟩;by_cases h1:o.kind=1
   ·rw [h1] at lk;simp -implicitDefEqProofs only [Int.reduceEq,xq_,mM,kD,lc,la,el,l0,ef,u1,lk,zaM,a1,l02,b1]
   ·have hdd:=hd.2.resolve_left h1;rw [hdd] at ldd;simp -implicitDefEqProofs only [xq_,mM,kD,lc,la,el,l0,ef,u1,lk,h4,h1,ldd,zaM,a1,l02,b1]
  ·rw [if_neg hd]
   -- the condition
   have hcond:∀(X Y:Option (AV × aj)),(fo.isSome=false)∨(fo.isSome=true/\¬o.kind=1/\(fo.getD .zero).dirty=false):=λ_ _=> by
    cases h:fo.isSome with
    | false=> exact .inl rfl
    | true=>
     refine .inr ⟨rfl,λh1=> hd ⟨h,.inl h1⟩,?_⟩;cases h2:(fo.getD .zero).dirty with
     | false=> rfl
     | true=> exact absurd ⟨h,.inr h2⟩ hd
   have hcond:=hcond none none;by_cases hfl:w.1.cache.full line=true
   ·rw [if_pos hfl];rw [hfl] at P9;obtain⟨K3,g3,a1,W3⟩:=yD W2 hc F hn 3 ((w.1.cache.lU line).getD 0);obtain⟨g',W'⟩:=back W3;refine⟨K3,g',?_,W'⟩;rcases hcond with hs | ⟨hs,h1,h2⟩
    ·rw [hs] at ef;simp -implicitDefEqProofs only [xq_,mM,kD,lc,la,el,l0,ef,u1,lk,h4,l02,P9,aoM,a1]
    ·rw [hs] at ef;rw [h2] at ldd;simp -implicitDefEqProofs only [xq_,mM,kD,lc,la,el,l0,ef,u1,lk,h4,h1,ldd,l02,P9,aoM,a1]
   ·rw [if_neg hfl];have hff:w.1.cache.full line=false:=by cases h:w.1.cache.full line <;> simp_all
    rw [hff] at P9;by_cases h1:o.kind=1
    ·rw [if_pos h1];obtain⟨K3,g3,a1,W3⟩:=yD W2 hc F hn 1 line;obtain⟨g',W'⟩:=back W3;refine⟨K3,g',?_,W'⟩;have hs:fo.isSome=false:=hcond.resolve_right λh=> h.2.1 h1;rw [hs] at ef;rw [h1] at lk;simp -implicitDefEqProofs only [Int.reduceEq,xq_,mM,kD,lc,la,el,l0,ef,u1,lk,l02,P9,a1]
    ·rw [if_neg h1];obtain⟨K3,g3,a1,W3⟩:=yD W2 hc F hn 2 line;obtain⟨g',W'⟩:=back W3;refine⟨K3,g',?_,W'⟩;rcases hcond with hs | ⟨hs,_,h2⟩
     ·rw [hs] at ef;simp -implicitDefEqProofs only [xq_,mM,kD,lc,la,el,l0,ef,u1,lk,h4,h1,l02,P9,a1]
     ·rw [hs] at ef;rw [h2] at ldd;simp -implicitDefEqProofs only [xq_,mM,kD,lc,la,el,l0,ef,u1,lk,h4,h1,ldd,l02,P9,a1]
end
section
variable {b:Nat}{H:aj}{g0:Store}{S:Oa}{c:Cfg}{me:Int}{k:Nat}{K K':aj}{g:Store}{ls:Lcl}{w w':NFT}
theorem Walk.to(W:Walk b H g0 S c me k K g ls w){K':aj}{g1:Store}{l1:Lcl}(W1:Walk b K (lay g ls) S c me w.2.1.l.length K' g1 l1 w'):∃g',Walk b H g0 S c me k K' g' ls w':=
 W.app (by have:=W1.res;rw [W.len] at this;exact this)
theorem Y4(W:Walk b H g0 S c me k K g ls w)(hc:c.ok=true)(F:su c w.2.1)(NI:QU c me w.1)(hn:0<=w.1.num/\w.1.num < 1000000)(hl:w.2.2.length < 999999):
  ∃K' g',match w.1.proc.cur with
   | some o=> if w.1.deal.step=0 then cl 70 [.ref (S.a 0) 0 0,.ref S.f 0 0,.ref S.t 0 0] K=some (B true,K')/\Walk b H g0 S c me k K' g' ls (w.1.work c me w.2.1 w.2.2 o)
     else cl 70 [.ref (S.a 0) 0 0,.ref S.f 0 0,.ref S.t 0 0] K=some (B false,K')/\Walk b H g0 S c me k K' g' ls w
   | none=> cl 70 [.ref (S.a 0) 0 0,.ref S.f 0 0,.ref S.t 0 0] K=some (B false,K')/\Walk b H g0 S c me k K' g' ls w:=by
 have P:=psz NI.proc;have al1:w.1.cache.clock < 1000:=by have:=NI.clk;have:=NI.proc.vals;have:=NI.proc.most;omega
 have W0:=Walk.of W.loc.good W.base W.Nu;have l1:=W0.ldN (i:=1) (v:=.ref (S.a 2) 0 0) rfl;obtain⟨K1,a1,W1⟩:=W0.cur P;have W2:=W1.newL (ty:=86) (xs:=[zI,zI,zI]) (r:=K1.next) rfl rfl;obtain⟨K3,b1,b2,W3⟩:=W2.whole ak (n:=3) (vs:=w.1.proc.op.av) rfl (dh _) (by decide) (lq _);have k7:fF (fF noL K1.next [zI,zI,zI]) K1.next w.1.proc.op.av K1.next=some w.1.proc.op.av:=ak
 have ls3:=W3.ldN (i:=15) (v:=I w.1.deal.step) rfl;cases hcur:w.1.proc.cur with
 | none=>
  rw [hcur] at a1;simp only [zaL] at a1;obtain⟨g',W'⟩:=W.to W3;refine⟨K3,g',aN rfl rfl (aaE _ _ _ _ _ ?_),W'⟩;simp -implicitDefEqProofs only [xq_,Xc,l1,a1,b1,zak]
 | some o=>
  rw [hcur] at a1;simp only [zaM] at a1;by_cases hs:w.1.deal.step=0;rotate_left
  ·simp only [if_neg hs];obtain⟨g',W'⟩:=W.to W3;refine⟨K3,g',aN rfl rfl (aaE _ _ _ _ _ ?_),W'⟩;simp -implicitDefEqProofs only [Nat.reduceAdd,xq_,Xc,l1,a1,b1,zae,zak,ls3,hs]
  ·simp only [if_pos hs];rw [hs] at ls3;have hop:w.1.proc.op=o:=by simp only [Proc.op,hcur,zaz]
   have hidx:w.1.proc.idx=w.1.proc.values.length:=by simp only [Proc.idx,hcur]
   have lp:=W3.ldN (i:=1) (v:=.ref (S.a 2) 0 0) rfl;have eb:=MB W3.loc.good (W3.loc.obj W3.nw.node.2.2.1);rw [agl];cases hbg:w.1.proc.begun with
   | true=>
    rw [hbg] at eb;have he:({ w.1 with proc:={ w.1.proc with begun:=true } }:Node)=w.1:=by
     rcases hw:w.1 with⟨ca,pr,ho,de,nu⟩
     rw [hw] at hbg;simp only at hbg;rcases pr with⟨x1,x2,x3⟩
     simp only at hbg;subst hbg;rfl
    rw [he];simp only [if_true];obtain⟨K4,g4,c1,W4⟩:=SS W3 hc F P NI.cache al1 hn (by omega) (o:=w.1.proc.op) k7;rw [hop] at W4;obtain⟨g',W'⟩:=W.to W4;refine⟨K4,g',aN rfl rfl (aaE _ _ _ _ _ ?_),W'⟩;simp -implicitDefEqProofs only [Nat.reduceAdd,xq_,Xc,l1,a1,b1,zae,ls3,lp,eb,c1]
   | false=>
    rw [hbg] at eb;simp only [zah,if_false];obtain⟨v,K4,d1,d2,d3⟩:=YN W3.loc.good W3.base (W3.loc.obj W3.nw.node.2.2.1) P.ops (by have:=P.ops;have:=P.vals;omega) P.vals;have hbp:w.1.proc.xF={ w.1.proc with begun:=true }:=by
     unfold Proc.xF;rw [if_neg (by rw [hbg,hcur];simp)]
    rw [hbp] at d2;have W4:=W3.proc d2 d3;have li:=W4.ldN (i:=10) (v:=I me) rfl;obtain⟨K5,g5,e1,W5⟩:=W4.alx (show w.2.2.length < 1000000 by omega) me w.1.proc.idx;obtain⟨K6,g6,c1,W6⟩:=SS W5 hc F (show PSz ({ w.1.proc with begun:=true }:Proc) from⟨P.ops,P.vals⟩) NI.cache al1 hn (by simp only [zan,zal,zau];omega) (o:=w.1.proc.op) k7;rw [hop,hidx] at W6;obtain⟨g',W'⟩:=W.to W6;refine⟨K6,g',aN rfl rfl (aaE _ _ _ _ _ ?_),W'⟩;simp -implicitDefEqProofs only [Nat.reduceAdd,xq_,Xc,l1,a1,b1,zae,zak,ls3,lp,eb,d1,li,e1,c1]
theorem UH(W:Walk b H g0 S c me k K g ls w)(hc:c.ok=true)(F:su c w.2.1)(NI:QU c me w.1)(hl:w.2.2.length < 999999)(hdd:w.1.deal.data.length < 1000000000):
  ∃K' g',match w.2.1.take me false with
   | (f',some p)=> cl 67 [.ref (S.a 0) 0 0,.ref S.f 0 0,.ref S.t 0 0] K=some (B true,K')/\Walk b H g0 S c me k K' g' ls (w.1.answered c me f' w.2.2 p)
   | (_,none)=> cl 67 [.ref (S.a 0) 0 0,.ref S.f 0 0,.ref S.t 0 0] K=some (B false,K')/\Walk b H g0 S c me k K' g' ls w:=by
 have P:=psz NI.proc;have Bd:=pI hc;have al1:w.1.cache.clock < 1000:=by have:=NI.clk;have:=NI.proc.vals;have:=NI.proc.most;omega
 have C:=cok hc NI.cache (by omega);have W0:=Walk.of W.loc.good W.base W.Nu;have li:=W0.ldN (i:=10) (v:=I me) rfl;obtain⟨K1,g1,a1,W1⟩:=W0.Jy (fok hc F);obtain⟨F1,Q1⟩:=F.take me false;have W2:=W1.newL (ty:=70) (xs:=zP9) (r:=K1.next) rfl rfl;cases ht:w.2.1.take me false with
 | mk f' po=>
  rw [ht] at a1 W1 W2 F1 Q1;simp only at a1 W1 W2 F1 Q1;obtain⟨K3,u1,u2,W3⟩:=W2.whole ak (n:=9) (vs:=(po.getD .zero).av) rfl (aU _) (by decide) (aH _);simp only [fE] at a1;cases po with
  | none=>
   simp only [zaY,zaL] at a1 u1 u2;have hf':f'=w.2.1:=by
    have:=Nz (f:=w.2.1) (i:=me) (req:=false) (by rw [ht]);rw [ht] at this;exact this
   subst hf';obtain⟨g',W'⟩:=W.to W3;refine⟨K3,g',aN rfl rfl (Ug _ _ _ _ _ ?_),W'⟩;simp -implicitDefEqProofs only [xq_,IZ,li,a1,u1,zak]
  | some p=>
   simp only [zaz,zaM] at a1 u1 u2;have Q:=Q1 p rfl;obtain⟨K4,g4,b1,W4⟩:=abq W3 C hdd p (ND Q);unfold Node.answered;obtain⟨ca,d,ok,hA⟩:∃ca d ok,w.1.after me p=(ca,d,ok):=⟨_,_,_,rfl⟩
   rw [hA] at b1 W4;simp only [qC] at b1 W4;simp only [hA];have W5:=W4.newL (ty:=57) (xs:=zD9) (r:=K4.next) rfl rfl;obtain⟨K6,u3,u4,W6⟩:=W5.whole ak (n:=9) (vs:=d.av) rfl rfl (by decide) (aO d);cases ok with
   | false=>
    simp only [if_true];obtain⟨g',W'⟩:=W.to W6;refine⟨K6,g',aN rfl rfl (Ug _ _ _ _ _ ?_),W'⟩;simp -implicitDefEqProofs only [xq_,IZ,li,a1,u1,u2,zae,b1,u3,zak]
   | true=>
    simp only [zbS,if_false];have hs:w.1.deal.step≠0:=λh0=> by
     have hf:w.1.deal.fits p=false:=by unfold bC.fits;rw [h0];simp [N8,Iw]
     rw [uy,yB hf] at hA;simp [nV] at hA
    have NX:=SQ NI.cache (NI.deal hs) hs Q (by rw [<-uy];exact hA);have hd2:d.data.length < 1000000000:=by
     rcases NX.dat with h | h
     ·rw [h];decide
     ·have:=h.1;have:=Bd.words;omega
    have hck:ca.clock < 1000000000:=by rcases NX.clk with h | h <;> omega
    have C2:COk ca:=cok hc NX.inv hck;obtain⟨K7,g7,c1,W7⟩:=W6.Y3 d;have lp:=W7.ldN (i:=1) (v:=.ref (S.a 2) 0 0) rfl;obtain⟨K8,d1,W8⟩:=W7.cur P;have W9:=W8.newL (ty:=86) (xs:=[zI,zI,zI]) (r:=K8.next) rfl rfl;obtain⟨K10,u5,u6,W10⟩:=W9.whole ak (n:=3) (vs:=w.1.proc.op.av) rfl (dh _) (by decide) (lq _);have hlt:K4.next < K8.next:=W8.loc.good.lt (q:=K4.next) (mQ (g:=g7) ak)
    have k9:fF (fF (fF (fF (fF (fF noL K1.next zP9) K1.next p.av) K4.next zD9) K4.next d.av) K8.next [zI,zI,zI]) K8.next w.1.proc.op.av K4.next=some d.av:=by
     rw [ay (by omega),ay (by omega),ak]
    have l3:=W10.loc.ld k9 (i:=3) (v:=I d.step) rfl;have l0:=W10.loc.ld k9 (i:=0) (v:=I d.kind) rfl;have lo:=W10.loc.ld (r:=K8.next) (xs:=w.1.proc.op.av) ak (i:=0) (v:=I w.1.proc.op.kind) rfl;by_cases h0:d.step=0
    ·simp only [if_pos h0];rw [h0] at l3;by_cases hf:d.kind=3/\w.1.proc.op.kind=4
     ·simp only [if_pos hf];rw [hf.1] at l0;rw [hf.2] at lo;obtain⟨K11,g11,e1,W11⟩:=YR W10 P (show w.2.2.length < 1000000 by omega) 0;obtain⟨g',W'⟩:=W.to W11;refine⟨K11,g',aN rfl rfl (Ug _ _ _ _ _ ?_),W'⟩;simp -implicitDefEqProofs only [Int.reduceEq,xq_,IZ,li,a1,u1,u2,zae,b1,u3,u4,c1,lp,d1,u5,l3,l0,lo,e1]
     ·simp only [if_neg hf];obtain⟨g',W'⟩:=W.to W10;refine⟨K10,g',aN rfl rfl (Ug _ _ _ _ _ ?_),W'⟩;by_cases hk:d.kind=3
      ·have ho:¬w.1.proc.op.kind=4:=λh=> hf ⟨hk,h⟩;rw [hk] at l0;simp -implicitDefEqProofs only [Int.reduceEq,xq_,IZ,li,a1,u1,u2,zae,b1,u3,u4,c1,lp,d1,u5,l3,l0,lo,ho]
      ·simp -implicitDefEqProofs only [Int.reduceEq,xq_,IZ,li,a1,u1,u2,zae,b1,u3,u4,c1,lp,d1,u5,l3,l0,hk]
    ·simp only [if_neg h0];by_cases h6:d.step=6/\d.kind≠3
     ·simp only [if_pos h6];rw [h6.1] at l3;have hk:=h6.2;simp only [ne_eq] at hk;obtain⟨K11,g11,e1,W11⟩:=Nv W10 hc P C2 (show w.2.2.length < 1000000 by omega);obtain⟨K12,g12,e2,W12⟩:=P5 W11 hc (fok hc F1) hd2;obtain⟨g',W'⟩:=W.to W12;refine⟨K12,g',aN rfl rfl (Ug _ _ _ _ _ ?_),W'⟩;simp -implicitDefEqProofs only [Int.reduceEq,xq_,IZ,Ec,li,a1,u1,u2,zae,b1,u3,u4,c1,lp,d1,u5,l3,l0,hk,zak,e1,e2]
     ·simp only [if_neg h6];obtain⟨K12,g12,e2,W12⟩:=P5 W10 hc (fok hc F1) hd2;obtain⟨g',W'⟩:=W.to W12;refine⟨K12,g',aN rfl rfl (Ug _ _ _ _ _ ?_),W'⟩;by_cases h66:d.step=6
      ·have hk:d.kind=3:=Classical.byContradiction λh=> h6 ⟨h66,h⟩;rw [h66] at l3;rw [hk] at l0;simp -implicitDefEqProofs only [Int.reduceEq,xq_,IZ,Ec,li,a1,u1,u2,zae,b1,u3,u4,c1,lp,d1,u5,l3,l0,zae,e2]
      ·simp -implicitDefEqProofs only [xq_,IZ,Ec,li,a1,u1,u2,zae,b1,u3,u4,c1,lp,d1,u5,l3,h0,h66,e2]
theorem abw(W:Walk b H g0 S c me k K g ls w)(hc:c.ok=true)(F:su c w.2.1)(NI:QU c me w.1)(hn:0<=w.1.num/\w.1.num < 1000000)(hl:w.2.2.length < 999999)(hdd:w.1.deal.data.length < 1000000000)(hw:∀line,(w.1.home.turns.ws line).length < 1000000):
  ∃K' g',cl 36 [.ref (S.a 0) 0 0,.ref S.f 0 0,.ref S.t 0 0] K=some (I (w.1.step c me w.2.1 w.2.2).2,K')/\Walk b H g0 S c me k K' g' ls (w.1.step c me w.2.1 w.2.2).1:=by
 have Z:=hsz hc NI hw;have C:=cok hc NI.cache (by have:=NI.clk;have:=NI.proc.vals;have:=NI.proc.most;omega);unfold Node.step;obtain⟨K1,g1,h1⟩:=UH W hc F NI hl hdd;cases ht:w.2.1.take me false with
 | mk f' po=>
  rw [ht] at h1;cases po with
  | some p=>
   obtain⟨a1,W1⟩:=h1;refine⟨K1,g1,aN rfl rfl (Ue _ _ _ _ _ ?_),W1⟩;simp -implicitDefEqProofs only [xq_,Ph,a1]
  | none=>
   obtain⟨a1,W1⟩:=h1;simp only;obtain⟨K2,g2,h2⟩:=Y2 W1 hc F Z;by_cases hg:w.1.home.ready≠[]/\w.2.1.roomOf me false≠0
   ·rw [if_pos hg] at h2 ⊢;obtain⟨a2,W2⟩:=h2;refine⟨K2,g2,aN rfl rfl (Ue _ _ _ _ _ ?_),W2⟩;simp -implicitDefEqProofs only [xq_,Ph,a1,a2]
   ·rw [if_neg hg] at h2 ⊢;obtain⟨a2,W2⟩:=h2;obtain⟨K3,g3,h3⟩:=P7 W2 hc F C Z;cases hr:(if w.2.1.roomOf me false=0 then(w.2.1,none) else w.2.1.take me true) with
    | mk f2 po2=>
     rw [hr] at h3;cases po2 with
     | some p=>
      obtain⟨a3,W3⟩:=h3;refine⟨K3,g3,aN rfl rfl (Ue _ _ _ _ _ ?_),W3⟩;simp -implicitDefEqProofs only [xq_,Ph,a1,a2,a3]
     | none=>
      obtain⟨a3,W3⟩:=h3;simp only;obtain⟨K4,g4,h4⟩:=Y4 W3 hc F NI hn hl;cases hcu:w.1.proc.cur with
      | none=>
       rw [hcu] at h4;obtain⟨a4,W4⟩:=h4;refine⟨K4,g4,aN rfl rfl (Ue _ _ _ _ _ ?_),W4⟩;simp -implicitDefEqProofs only [xq_,Ph,a1,a2,a3,a4]
      | some o=>
       rw [hcu] at h4;simp only at h4 ⊢;by_cases hs:w.1.deal.step=0
       ·rw [if_pos hs] at h4 ⊢;obtain⟨a4,W4⟩:=h4;refine⟨K4,g4,aN rfl rfl (Ue _ _ _ _ _ ?_),W4⟩;simp -implicitDefEqProofs only [xq_,Ph,a1,a2,a3,a4]
       ·rw [if_neg hs] at h4 ⊢;obtain⟨a4,W4⟩:=h4;refine⟨K4,g4,aN rfl rfl (Ue _ _ _ _ _ ?_),W4⟩;simp -implicitDefEqProofs only [xq_,Ph,a1,a2,a3,a4]
end
theorem abx {H:aj}{r:Nat}{o:dQ}(h:H.get r=o):H.put r o=H:=by
 subst h;unfold aj.put;have:(λx=> if x=r then H.get r else H.get x)=H.get:=by
  funext x
  split
  ·rename_i e;rw [e]
  ·rfl
 rw [this]
theorem agm {H:aj}{r:Nat}{o o':dQ}:(H.put r o).put r o'=H.put r o':=by
 unfold aj.put
 congr 1
 funext x
 simp only;split <;> rfl
def pG(bit mask:Int)(i:Nat)(l:List By):List By:=l.mapIdx λj c=> if j < i then c ^^^ rC bit mask j else c
theorem nT(bit mask:Int)(i:Nat)(l:List By):(pG bit mask i l).length=l.length:=by simp [pG]
theorem UJ(bit mask:Int)(l:List By):pG bit mask 0 l=l:=by
 unfold pG
 apply zbc
 intro i;rw [za5];cases l[i]? <;> simp
theorem Y5(bit mask:Int)(l:List By):pG bit mask l.length l=nM bit mask l:=by
 unfold pG nM
 apply zbc
 intro i;rw [za5,za5];cases h:l[i]? with
 | none=> rfl
 | some c=> simp [(zaf.1 h).1]
theorem NM(bit mask:Int){i:Nat}{l:List By}{c:By}(h:l[i]?=some c):(pG bit mask i l)[i]?=some c:=by
 unfold pG;rw [za5,h];simp
theorem GN(bit mask:Int){i:Nat}{l:List By}{c:By}(h:l[i]?=some c):pG bit mask (i+1) l=(pG bit mask i l).set i (c ^^^ rC bit mask i):=by
 apply zbc
 intro j;have hi:=(zaf.1 h).1;unfold pG;rw [za5,List.getElem?_set,za5,zck];by_cases e:i=j
 ·subst e;rw [if_pos rfl,if_pos hi,h];simp
 ·rw [if_neg e];cases hj:l[j]? with
  | none=> rfl
  | some d=>
   simp only [zai]
   congr 1
   by_cases h1:j < i
   ·rw [if_pos h1,if_pos (by omega)]
   ·rw [if_neg h1,if_neg (by omega)]
theorem zL(bit mask:Int){i:Nat}{l:List By}{c:By}(h:l[i]?=some c)(hm:rC bit mask i=0#8):pG bit mask (i+1) l=pG bit mask i l:=by
 rw [GN bit mask h,hm,BitVec.xor_zero]
 apply zbc
 intro j;rw [List.getElem?_set];split
 ·rename_i e;subst e;split
  ·rw [NM bit mask h]
  ·rename_i hh;rw [zaG (by omega)]
 ·rfl
theorem UK {K0:aj}{r n:Nat}{l:List By}{bit mask:Int}(hb:In64 bit)(h0:0<=mask)(h1:mask<=65535)(hs:l.length < 1000)(hr:r < K0.next)(hbase:K0.base<=r):
  ∀(k i:Nat),i+k=l.length->Jb cl0 [I bit,.s (.int .u16 mask),.sl r 0 0 1 l.length l.length false,I l.length,I i] (K0.put r (.blk 0 (5+fA) ((pG bit mask i l).map Y)))
   =some (.sl r 0 0 1 l.length l.length false,K0.put r (.blk 0 (5+fA) ((pG bit mask l.length l).map Y))):=by
 obtain⟨hb1,hb2⟩:=hb;intro k
 induction k with
 | zero=>
  intro i hi;have h1:¬((i:Int) < l.length):=by omega
  obtain rfl:i=l.length:=by omega
  rw [Xg];simp -implicitDefEqProofs only [Int.reduceNeg,xq_,h1]
 | succ k ih=>
  intro i hi;have h2:(i:Int) < l.length:=by omega
  have h6:(i:Int)+1=((i+1:Nat):Int):=by omega
  have h7:=wrap_i64 (a:=((i+1:Nat):Int)) (by omega) (by omega);obtain⟨c,hc⟩:∃c,l[i]?=some c:=⟨_,zab (by omega)⟩
  have w8:=wrap_i64 (a:=8*(i:Int)) (by omega) (by omega);have ihn:=ih (i+1) (by omega);rw [Xg];by_cases hov:8*(i:Int) - bit < 9223372036854775808
  ·have wd:=wrap_i64 (a:=8*(i:Int) - bit) (by omega) (by omega);by_cases hA:8*(i:Int) - bit<=-8
   ·have hm:rC bit mask i=0#8:=by unfold rC;rw [if_pos (.inl hA)]
    rw [zL bit mask hc hm] at ihn;simp -implicitDefEqProofs only [Int.reduceNeg,xq_,h2,gG,w8,jq,wd,hA,y9,aW,h6,h7,ihn]
   by_cases hB:16<=8*(i:Int) - bit
   ·have hm:rC bit mask i=0#8:=by unfold rC;rw [if_pos (.inr hB)]
    rw [zL bit mask hc hm] at ihn;simp -implicitDefEqProofs only [Int.reduceNeg,xq_,h2,gG,w8,jq,wd,hA,hB,y9,aW,h6,h7,ihn]
   have hd:∃d:Int,8*(i:Int) - bit=d/\-8 < d/\d < 16:=⟨_,rfl,by omega,by omega⟩
   obtain⟨d,hd,hd1,hd2⟩:=hd;have wd8:=wrap_i64 (a:=d+8) (by omega) (by omega);have wdd:=wrap_i64 (a:=d) (by omega) (by omega);have ds:¬(d<=-8):=by omega
   have db:¬(16<=d):=by omega
   obtain⟨m,rfl⟩:∃m:Nat,mask=m:=⟨mask.toNat,by omega⟩
   have apG:AV.s (.int .u16 (m:Int))=U16 (BitVec.ofNat 16 m):=by
    have hv:(((BitVec.ofNat 16 m).toNat:Nat):Int)=m:=by rw [zcj,zcf (by omega)]
    show AV.s (.int .u16 (m:Int))=AV.s (.int .u16 (((BitVec.ofNat 16 m).toNat:Nat):Int));rw [hv]
   let K:aj:=K0.put r (.blk 0 (5+fA) ((pG bit m i l).map Y));have byK:bF K (.sl r 0 0 1 l.length l.length false) (pG bit m i l):=by
    refine⟨⟨by simp,rfl,(nT ..).symm,⟨hr,zac _⟩,_,_,qx,?_,?_⟩,by rw [nT];exact hs⟩
    ·rw [zaF,nT];omega
    ·rw [nT,zbG,zaR,zas (by rw [zaF,nT];exact zac _)]
   have s1:ix 1 (.sl r 0 0 1 l.length l.length false) (I i) K=some (.ref r 0 i,K):=by
    have:=byK.ix (i:=i) (by rw [nT];omega)
    simpa [bZ] using this
   have s2:ld (.ref r 0 i) K=some (Y c,K):=by
    have:=byK.ld (NM bit m hc)
    simpa [bZ] using this
   have e1:cv 33 230 (.s (.int .u16 (m:Int))) K=some (U32 (BitVec.ofNat 32 m),K):=by
    refine(VW (k:=.u16) (n:=(m:Int)) (H:=K)).trans ?_;rw [xQ (k:=.u32) rfl];rfl
   let u1:BitVec 32:=BitVec.ofNat 32 m <<< 8;let u2:BitVec 32:=u1 <<< (d+8).toNat;have e2:bi .shl 230 (U32 (BitVec.ofNat 32 m)) (.s (.int .u64 8))=some (U32 u1):=WL (k:=.u32) rfl _ 8 (by decide) (by decide);have e3:bi .shl 230 (U32 u1) (I (d+8))=some (U32 u2):=WL (k:=.u32) rfl u1 (d+8) (by omega) (show d+8<=(32:Int) by omega);have e4:bi .shr 230 (U32 u2) (.s (.int .u64 24))=some (U32 (u2 >>> 24)):=ae3 (k:=.u32) u2 24 (by decide) (by decide);have e5:cv 230 5 (U32 (u2 >>> 24)) K=some (Y ((u2 >>> 24).setWidth 8),K):=
    (aad (k:=.u32) (n:=((u2 >>> 24).toNat:Int)) (H:=K)).trans (congrArg (λv=> some (v,K)) (ah0 (k:=.u32) (k':=.u8) rfl _))
   have hm:(u2 >>> 24).setWidth 8=rC bit m i:=by
    unfold rC;rw [if_neg (by rw [hd];omega),hd];rfl
   rw [hm] at e5;have e6:bi .xor 5 (Y c) (Y (rC bit m i))=some (Y (c ^^^ rC bit m i)):=ae2 (k:=.u8) rfl _ _;have e7:st 1 (.ref r 0 i) (Y (c ^^^ rC bit m i)) K=some (aK,K0.put r (.blk 0 (5+fA) ((pG bit m (i+1) l).map Y))):=by
    refine(QK (H:=K) (r:=r) (gg:=0) (off:=i) (ty:=5+fA) (xs:=(pG bit m i l).map Y) (v:=Y (c ^^^ rC bit m i)) bP qx hbase (by rw [zaF,nT];omega)).trans ?_;show some (aK,(K0.put r _).put r _)=_;rw [agm,GN bit m hc,List.map_set]
   simp only [K] at s1 s2 e1 e5 e7;simp -implicitDefEqProofs only [Int.reduceNeg,xq_,h2,gG,w8,jq,hd,wdd,ds,db,s1,s2,e1,e2,e3,e4,e5,e6,e7,wd8,y9,aW,h6,h7,ihn]
  ·have wd:IntKind.i64.wrap (8*(i:Int) - bit)=8*(i:Int) - bit - 18446744073709551616:=by
    simp only [IntKind.wrap,IntKind.signed,IntKind.bits];simp;omega
   have hA:8*(i:Int) - bit - 18446744073709551616<=-8:=by omega
   have hm:rC bit mask i=0#8:=by unfold rC;rw [if_pos (.inr (by omega))]
   rw [zL bit mask hc hm] at ihn;simp -implicitDefEqProofs only [Int.reduceNeg,xq_,h2,gG,w8,jq,wd,hA,y9,aW,h6,h7,ihn]
theorem alB {H:aj}(hb:H.base<=H.next){x:AV}{l:List By}(hx:bF H x l)(hl:l≠[]){bit mask:Int}(hbit:In64 bit)(h0:0<=mask)(h1:mask<=65535):
  ∃r H',cl0 96 [x,I bit,.s (.int .u16 mask)] H=some (.sl r 0 0 1 l.length l.length false,H')/\Gro H H'/\bF H' (.sl r 0 0 1 l.length l.length false) (nM bit mask l)/\H'.base<=H'.next:=by
 let H1:=H.new (.blk 0 5 []);let K0:=H1.new (.blk 0 (5+fA) (l.map Y));have e1:=X4 hx hl;have n1:H1.next=H.next+1:=nNew
 have n2:K0.next=H.next+1+1:=by simp only [K0,nNew,n1]
 have g:Gro H K0:=(Gro.new H 0 _ _).trans (Gro.new H1 0 _ _);have at_:K0.get (H.next+1)=.blk 0 (5+fA) (l.map Y):=aJ n1.symm;have ps:K0.put (H.next+1) (.blk 0 (5+fA) ((pG bit mask 0 l).map Y))=K0:=by rw [UJ];exact abx at_
 have lp:=UK (K0:=K0) (r:=H.next+1) (n:=0) (l:=l) hbit h0 h1 hx.small (by omega) (by rw [g.base];omega) l.length 0 (by omega);rw [ps] at lp;have ln:lnS (.sl (H.next+1) 0 0 1 l.length l.length false) K0=some (I l.length,K0):=rfl;refine⟨H.next+1,K0.put (H.next+1) (.blk 0 (5+fA) ((pG bit mask l.length l).map Y)),fM (anS _ _ _ _ _ ?_),g.put (by omega),?_,by show K0.base<=K0.next;rw [g.base];omega⟩
 ·simp -implicitDefEqProofs only [xq_,ai2,e1];exact lp
 ·rw [Y5];refine⟨⟨by simp,rfl,(ig ..).symm,⟨by show H.next+1 < K0.next;omega,zac _⟩,_,_,qx,?_,?_⟩,by rw [ig];exact hx.small⟩
  ·rw [zaF,ig];omega
  ·rw [ig,zbG,zaR,zas (by rw [zaF,ig];exact zac _)]
theorem aoj(c:By):yOf (Y c)=some c:=by
 have h:=c.isLt;show(if(0:Int)<=(c.toNat:Int)/\(c.toNat:Int) < 256 then some (BitVec.ofInt 8 (c.toNat:Int)) else none)=some c;rw [if_pos ⟨by omega,by omega⟩,nN]
theorem aek:∀l:List By,(l.map Y).mapM yOf=some l
 | []=> rfl
 | c::l=> by rw [zaA,zbp,aoj,aek l];rfl
theorem UL {H:aj}{r n:Nat}{l:List By}(hn:l.length=n)(h:bF H (.sl r 0 0 1 n n false) l)(h0:0 < n)(h8:n<=800):bytesOf (.sl r 0 0 1 n n false) H=some l:=by
 subst hn;obtain⟨⟨hl,_,_,⟨hr,_⟩,ty,all,h2,h3,h4⟩,hs⟩:=h;rw [zbG] at h4 h3;simp only [bytesOf,h2];rw [if_pos ⟨trivial,trivial,h3,h0,h8⟩,<-h4];exact aek l
theorem NP(p:Pkt):(pF p).length=12+8*p.data.length:=by
 rw [oN];rfl
theorem Y6 {H:aj}{r:Nat}{p:Pkt}(hp:p.fit){bit mask:Int}(h0:0<=mask)(h1:mask<=65535){n:Nat}(hn:n=(pF p).length)(h:bF H (.sl r 0 0 1 n n false) (nM bit mask (pF p))):
  cl 95 [.sl r 0 0 1 n n false] H=some (if turns p.bytes bit mask=true then .tup [.agg Pkt.zero.av,I 2] else .tup [.agg p.av,I 0],H):=by
 refine Di (p:=yZ) rfl ?_;have ok:=hp.ok;simp only [Pkt.ok,zaj,decide_eq_true_eq] at ok;have hlen:=NP p;unfold yZ;simp only [UL (by rw [ig,hn]) h (by omega) (by omega)];by_cases ht:turns p.bytes bit mask=true
 ·rw [if_pos ht];have hne:∀y,nM bit mask (pF p)≠iP y:=λy=> O9 h0 h1 (by
   have:(iP (dK p)).length=p.bytes:=oN p;rw [this];exact ht)
  rw [dif_neg (λ⟨q,_,hq⟩=> hne _ hq.symm),if_pos hne]
 ·rw [if_neg ht];have he:nM bit mask (pF p)=pF p:=Ud h0 h1 (by rw [oN];simpa using ht);have hex:∃q:Pkt,q.fit/\pF q=nM bit mask (pF p):=⟨p,hp,he.symm⟩
  rw [dif_pos hex];have hs:=Classical.choose_spec hex;have:Classical.choose hex=p:=pack_inj hs.1 hp (hs.2.trans he);rw [this]
theorem SV(p:Pkt)(n:Int):Frz 9 (.tup [.agg p.av,I n]):=qX λx hx=> by
 simp only [zam,zaI,or_false] at hx;rcases hx with rfl | rfl
 ·exact kC λx hx=> by
   simp only [Pkt.av,zam,zaI,or_false] at hx;rcases hx with rfl | rfl | rfl | rfl | rfl | rfl | rfl | rfl | rfl <;> first | exact eu | exact qY
 ·exact eu
theorem agn(H:aj){p:Pkt}(hp:p.fit){bit mask:Int}(hbit:In64 bit)(h0:0<=mask)(h1:mask<=65535):
  cl 62 [.agg p.av,I bit,.s (.int .u16 mask)] H=some (if turns p.bytes bit mask=true then .tup [.agg Pkt.zero.av,I 2] else .tup [.agg p.av,I 0],H):=by
 have ax:p.av=p.avx (dat p.data):=rfl;let o1:dQ:=.blk 0 70 p.av;let o2:dQ:=.blk 0 70 zPk;let K:=(H.guard.new o1).new o2;have hlen:=NP p;have hK:K.base<=K.next:=by simp only [K,bNew,nNew];exact(by omega:H.next<=H.next+1+1)
 obtain⟨y,K1,e1,g1,b1,hb1⟩:=ak5 hK p (mX K p.data) hp.ok;rw [<-ax] at e1;have e1':cl 94 [.agg p.av] K=some (.tup [y,I 0],K1):=Di (p:=cl0 94) rfl e1;obtain⟨r,K2,e2,g2,b2,hb2⟩:=alB hb1 b1 (bit:=bit) (mask:=mask) (λe=> by rw [e] at hlen;simp at hlen;omega) hbit h0 h1;have e2':cl 96 [y,I bit,.s (.int .u16 mask)] K1=some (_,K2):=Di (p:=cl0 96) rfl e2;have e3:=Y6 hp h0 h1 rfl b2;have hR:K2.get (H.next+1)=o2:=by
  rw [g2.same _ (zax (show H.next+1 < K.next by simp only [K,nNew];exact Nat.lt_succ_self _) g1.next),g1.same _ (by simp only [K,nNew];exact Nat.lt_succ_self _)];exact aJ rfl
 have hbase:K2.base<=H.next+1:=by
  rw [g2.base,g1.base];exact zba _
 have key:∀q:Pkt,st 9 (.ref (H.next+1) 0 0) (.agg q.av) K2=some (aK,K2.put (H.next+1) (.blk 0 70 q.av))/\lda 9 (.ref (H.next+1) 0 0) (K2.put (H.next+1) (.blk 0 70 q.av))=some (.agg q.av,K2.put (H.next+1) (.blk 0 70 q.av)):=λq=> by
  refine⟨?_,(fJ (off:=0) (n:=9) qx (zac _)).trans rfl⟩;rw [QL (aH _) (show q.av.length=9 from rfl) hR hbase (by decide)];rfl
 have l1:lda 9 (.ref H.next 0 0) K=some (.agg p.av,K):=by
  have:K.get H.next=.blk 0 70 p.av:=by
   simp only [K];rw [aP (by rw [nNew];exact Nat.lt_succ_self _)];exact aJ rfl
  exact(fJ (off:=0) (n:=9) this (zac _)).trans rfl
 by_cases ht:turns p.bytes bit mask=true
 ·rw [if_pos ht] at e3 ⊢;refine aX rfl rfl (aiG _ _ _ _ _) ?_ (SV _ _);obtain⟨k1,k2⟩:=key .zero;simp only [K,o1,o2] at e1' l1;have n1:H.guard.next=H.next:=rfl
  simp -implicitDefEqProofs only [Nat.reduceLT,xq_,hq_,afi,aA,l1,e1',e2',e3,k1,k2,zae]
 ·rw [if_neg ht] at e3 ⊢;refine aX rfl rfl (aiG _ _ _ _ _) ?_ (SV _ _);obtain⟨k1,k2⟩:=key p;simp only [K,o1,o2] at e1' l1;have n1:H.guard.next=H.next:=rfl
  simp -implicitDefEqProofs only [Nat.reduceLT,xq_,hq_,afi,aA,l1,e1',e2',e3,k1,k2,zae]
theorem SX:∀(l:List Port) (i:Nat) (k:Nat) {j:Nat} {k':Int},uo (l.flatMap λp=> [p.rq,p.an]) (2*i) (k:Int)=some (j,k')->findAt l i k=some (j / 2,decide (j % 2=0),k'.toNat)
 | [],i,k,j,k',h=> by cases h
 | p::l,i,k,j,k',h=> by
  simp only [zaH,zbP,zaX,uo] at h;simp only [findAt];by_cases h1:k < p.rq.length
  ·rw [if_pos ⟨by omega,by omega⟩] at h;cases h;rw [if_pos h1,show 2*i / 2=i by omega,show 2*i % 2=0 by omega];rfl
  ·rw [if_neg (λhh=> h1 (by omega))] at h;rw [if_neg h1];by_cases h2:k < p.rq.length+p.an.length
   ·rw [if_pos ⟨by omega,by omega⟩] at h;cases h;rw [if_pos h2,show(2*i+1) / 2=i by omega,show(2*i+1) % 2=1 by omega];simp only [zaa,zad,true_and];exact⟨by simp,by omega⟩
   ·rw [if_neg (λhh=> h2 (by omega))] at h;rw [if_neg h2];rw [show(k:Int) - p.rq.length - p.an.length=((k - (p.rq.length+p.an.length):Nat):Int) by omega,show 2*i+1+1=2*(i+1) by omega] at h;exact SX l (i+1) _ h
theorem apv {b:Nat}{K:aj}{gk:Store}{r:Nat}{ys:List AV}(Gk:Good b K gk)(hk:K.base<=b)(hz:gk r=some (ys.map Cell.av))(hy:ys.length=2){y:List AV}(h9:y.length=2)(ha:y.all AV.aG=true):
  ∃K',st 2 (.ref r 0 0) (.agg y) K=some (aK,K')/\Good b K' (upd gk r (y.map Cell.av))/\Step b K K':=by
 obtain⟨K',t1,t2,t3,t4⟩:=Gk.stores hk hz (i:=0) (n:=2) (vs:=y) (by simp [hy]) h9 ha;have e:oJ (ys.map Cell.av) 0 y=y.map Cell.av:=by
  unfold oJ;rw [zaU (by simp [h9,hy])];simp
 rw [e] at t2;exact⟨K',t1,t2,t3⟩
theorem Y7 {fab:Fab}{d:Nat}{req:Bool}{l:List Pkt}:(fab.put d ((fab.port d).mG req l)).gZ=fab.gZ:=by
 unfold Fab.gZ Fab.put;rw [zar];have key:∀(ls:List Port) (d:Nat),((ls.set d ((ls.getD d .zero).mG req l)).flatMap λp=> [p.rq,p.an])=ls.flatMap λp=> [p.rq,p.an]:=by
  intro ls
  induction ls with
  | nil=> intro d;rfl
  | cons p ls ih=>
   intro d;cases d with
   | zero=> cases req <;> simp [Port.mG]
   | succ d=> simpa using ih d
 have:=key fab.l d;unfold Fab.port;rw [zar];exact this
theorem SY:∀(ls:List Port) (j:Nat) {l:List Pkt},(ls.flatMap λp=> [p.rq,p.an])[j]?=some l->(ls.getD (j / 2) .zero).sort (decide (j % 2=0))=l
 | [],j,l,h=> by simp at h
 | p::ls,0,l,h=> by simpa [Port.sort] using h
 | p::ls,1,l,h=> by simpa [Port.sort] using h
 | p::ls,j+2,l,h=> by
  have h':(ls.flatMap λp=> [p.rq,p.an])[j]?=some l:=by simpa using h
  have:=SY ls j h';rw [show(j+2) / 2=j / 2+1 by omega,show(j+2) % 2=j % 2 by omega]
  simpa using this
section
variable {b:Nat}{H:aj}{g:Store}{f:Nat}{P:Nat->Nat->Nat}{c:Cfg}{fab:Fab}
theorem UM(G:Good b H g)(hb:H.base<=b)(F:fD g f P c fab)(J:Pz P fab.l.length)(K:FOk c fab)(h0:fab.l.length≠0)(hfit:∀p∈fab.all,p.fit/\fab.is p.dst=true){at_ bit mask:Int}(h64:In64 at_)(hbit:In64 bit)(m0:0<=mask)(m1:mask<=65535):
  ∃H' g',cl 35 [.ref f 0 0,I at_,I bit,.s (.int .u16 mask)] H=some (I (fab.deliver at_ bit mask).2,H')/\Good b H' g'/\fD g' f P c (fab.deliver at_ bit mask).1/\Off (JI P fab.l.length) g g'/\Step b H H':=by
 have hb0:H.base<=H.next:=zay hb G.1
 have Y8:∀l∈fab.gZ,l.length < 1000/\∀p∈l,p.data.length < 1000000000:=by
  intro l hl;unfold Fab.gZ at hl;obtain⟨p,hp,hl⟩:=za6.1 hl;simp only [zam,zaI,or_false] at hl;rcases hl with rfl | rfl
  ·exact⟨K.small hp (s:=0) (by decide),K.dat p hp 0 (by decide)⟩
  ·exact⟨K.small hp (s:=2) (by decide),K.dat p hp 2 (by decide)⟩
 have e1:=Yq G F K.len h0 Y8 at_ h64;have hn0:g H.next=none:=G.isNone (zac _)
 have G1:=G.newObj (ty:=70) (xs:=zP9) rfl;obtain⟨K1,s1,l1,G2,S2⟩:=af9 G1 (by rw [bNew];exact hb) upd_same rfl (y:=((fab.pkt at_).getD .zero).av) (aU _) (aH _);rw [nI] at G2;have S02:=(Step.new (.blk 0 70 zP9) G.1).trans S2;cases hp:fab.pkt at_ with
 | none=>
  have hd:fab.deliver at_ bit mask=(fab,3):=by
   unfold Fab.deliver;unfold Fab.pkt at hp;split at hp
   ·rename_i h;rw [if_pos h]
   ·rename_i h;rw [if_neg h,hp]
  rw [hd];rw [hp] at e1 s1;refine⟨K1,g,aN rfl rfl (aaw _ _ _ _ _ _ ?_),G2.sub ((qg.refl g).more hn0 _),F,Off.refl _ _,S02⟩;simp only [fE,zaY,zaL] at e1 s1;simp -implicitDefEqProofs only [xq_,WV,e1,s1,zak]
 | some p=>
  rw [hp] at e1 s1 l1 G2;simp only [fE,zaz,zaM] at e1 s1 l1 G2;have hat:¬at_ < 0:=by
   intro h;unfold Fab.pkt at hp;rw [if_pos h] at hp;cases hp
  have hall:fab.all[at_.toNat]?=some p:=by
   unfold Fab.pkt at hp
   rwa [if_neg hat] at hp
  obtain⟨pf,pd⟩:=hfit p (zaq hall);have e2:=agn K1 pf hbit m0 m1;have hd:fab.deliver at_ bit mask=if turns p.bytes bit mask=true then(fab,2) else
    if fab.room (DJ p.kind)<=((fab.port p.dst).qZ (DJ p.kind)).length then(fab,5) else
    ((fab.put p.dst ((fab.port p.dst).mG (DJ p.kind) ((fab.port p.dst).qZ (DJ p.kind)++[p]))).remove at_.toNat,0):=by
   unfold Fab.deliver;rw [if_neg hat,hall]
  have hk1:K1.base<=b:=by rw [S02.base];exact hb
  by_cases ht:turns p.bytes bit mask=true
  ·rw [if_pos ht] at e2 hd;rw [hd];obtain⟨K2,s3,l3,G3,S3⟩:=af9 G2 hk1 upd_same (aU _) (y:=Pkt.zero.av) (aU _) (aH _);rw [nI] at G3;refine⟨K2,g,aN rfl rfl (aaw _ _ _ _ _ _ ?_),G3.sub ((qg.refl g).more hn0 _),F,Off.refl _ _,S02.trans S3⟩;simp -implicitDefEqProofs only [Int.reduceEq,xq_,WV,e1,s1,zae,l1,e2,s3,zak]
  rw [if_neg ht] at e2 hd;rw [hd];obtain⟨K2,s3,l3,G3,S3⟩:=af9 G2 hk1 upd_same (aU _) (y:=p.av) (aU _) (aH _);rw [nI] at G3;have S03:=S02.trans S3;have F3:=F.sub ((qg.refl g).more hn0 (p.av.map Cell.av));obtain⟨d,hdd,hdl⟩:=yu pd;obtain⟨x,r,gg,o,h1,h2,h3⟩:=yw G3 F3 hdl;have hdst:ld (.ref H.next 0 2) K2=some (I p.dst,K2):=G3.load upd_same (i:=2) rfl;have hkind:ld (.ref H.next 0 0) K2=some (I p.kind,K2):=G3.load upd_same (i:=0) rfl;let req:=DJ p.kind;have rq:=Gv K2.guard p.kind;obtain⟨K3,t1,t2⟩:=Cc K2.guard (zac _) (P d) req;obtain⟨K3,t1,t2⟩:=drawn t1 t2;have G4:=G3.ext t2.next t2.same
  have hk3:K3.base<=b:=by rw [t2.base,S03.base];exact hb
  have S34:Step b K2 K3:=⟨t2.base,t2.next,λr hr=> t2.same r (zax hr G3.1)⟩
  have l9:lda 9 (.ref H.next 0 0) K3=some (.agg p.av,K3):=G4.loads upd_same (i:=0) (n:=9) (xs:=p.av) rfl rfl (by decide);have hbx:=eF (F3.port hdl) (oV req);have hR:=GH K.ok (iIx req);obtain⟨K4,q1,q2,q3⟩:=aaF G4 hk3 hbx hR.1 hR.2 (K.small (Fab.rH hdl) (oV req)) p (by have:=pf.ok;simp only [Pkt.ok,zaj,decide_eq_true_eq] at this;omega);rw [EC] at q1 q2;have hroom:JJ c (iIx req)=fab.room req:=by
   have apw:fab.inn=c.inn:=F.2.2.2;unfold Fab.room;cases req <;> simp [iIx,JJ,apw]
  have hle:=K.box _ (Fab.rH hdl) _ (oV req);rw [EC] at hle;have f1:(abj (P d) req)[1]?=some (.ref (P d (iIx req)) 0 0):=rfl;have S04:=(S03.trans S34).trans q3;have hk4:K4.base<=b:=by rw [S04.base];exact hb
  have hdp:p.dst=(d:Int):=hdd;have hpn:P d (iIx req)≠H.next:=λe=> F.PY G ⟨d,iIx req,hdl,oV req,e.symm⟩
  by_cases hfull:JJ c (iIx req)=(((fab.port d).qZ req).length:Int)
  ·rw [if_pos hfull] at q1 q2;rw [if_pos (show fab.room (DJ p.kind)<=((fab.port p.dst).qZ (DJ p.kind)).length by rw [hdp];show fab.room req<=_;rw [<-hroom];exact Int.le_of_eq hfull)];rw [dN (by rw [hbx,EC])] at q2;refine⟨K4,g,aN rfl rfl (aaw _ _ _ _ _ _ ?_),q2.sub ((qg.refl g).more hn0 _),F,Off.refl _ _,S04⟩;rw [hdp] at hdst;simp only [req] at rq t1 f1 q1;simp -implicitDefEqProofs only [Int.reduceEq,xq_,WV,e1,s1,zae,l1,e2,s3,h1,hdst,h2,h3,hkind,rq,t1,f1,l9,q1,zak]
  ·rw [if_neg hfull] at q1 q2;rw [if_neg (show¬fab.room (DJ p.kind)<=((fab.port p.dst).qZ (DJ p.kind)).length by rw [hdp];show¬fab.room req<=_;rw [<-hroom];exact λh=> hfull (Int.le_antisymm h hle))];have F4:=F3.fill J hdl (oV req) (p':=(fab.port d).mG req ((fab.port d).qZ req++[p])) (l:=(fab.port d).qZ req++[p]) (zF _ _ _);rw [hdp];show∃H' g',_/\_/\fD g' f P c ((fab.put d ((fab.port d).mG req ((fab.port d).qZ req++[p]))).remove at_.toNat)/\_/\_;generalize agp:fab.put d ((fab.port d).mG req ((fab.port d).qZ req++[p]))=JF at*;have alC:JF.gZ=fab.gZ:=by rw [<-agp];exact Y7
   have hlen1:JF.l.length=fab.l.length:=by rw [<-agp];simp [Fab.put]
   have e5:=Yp q2 F4 (by rw [hlen1];exact K.len) (by rw [hlen1];exact h0) (λl hl=> (Y8 l (by rw [<-alC];exact hl)).1) at_ h64;rw [alC] at e5;cases hf:uo fab.gZ 0 at_ with
   | none=>
    exfalso;have:=zy hf;rw [show fab.gZ.flatten=fab.all from zA fab.l] at this;have h2:=(zaf.1 hall).1;omega
   | some jk=>
    obtain⟨j,k⟩:=jk;rw [hf] at e5;obtain⟨_,l,z2,z3,z4,z5,z6⟩:=qw hf;rw [Nat.sub_zero] at z2;have hj:j < 2*fab.l.length:=by
     have:=(zaf.1 z2).1
     rwa [Fab.gZ,nO] at this
    have hj2:j / 2 < JF.l.length:=by rw [hlen1];omega
    obtain⟨kn,rfl⟩:∃kn:Nat,k=kn:=⟨k.toNat,by omega⟩
    have hfa:findAt JF.l 0 at_.toNat=some (j / 2,decide (j % 2=0),kn):=by
     have hh:=SX JF.l 0 at_.toNat (j:=j) (k':=kn) (by
      show uo JF.gZ 0 _=_;rw [alC,Int.toNat_of_nonneg (by omega)];exact hf)
     simpa using hh
    have ex1:uq P (some (j,(kn:Int)))=.tup [.agg (jB P j),I kn,B true]:=rfl;rw [ex1] at e5;let rq2:Bool:=decide (j % 2=0);have hP:(if j % 2=0 then 0 else 2)=oIx rq2:=by
     by_cases h:j % 2=0 <;> simp [rq2,h,oIx]
    have hp3:=Yo F4 (j:=j) (l:=l) (by rw [alC];exact z2);rw [hP] at hp3;have hq4:=eF (F4.port hj2) (qB rq2);have hl:(JF.port (j / 2:Nat)).sort rq2=l:=by
     have:=SY JF.l j (show JF.gZ[j]?=some l by rw [alC];exact z2);unfold Fab.port;rw [zar];exact this
    have hkl:kn < l.length:=by omega
    obtain⟨hl3,hd3⟩:=Y8 l (zaq z2);have n4:(upd (upd g H.next (p.av.map Cell.av)) (P d (iIx req)) (kT ((fab.port d).qZ req++[p]) (JJ c (iIx req)))) K4.next=none:=q2.isNone (zac _)
    have G5:=q2.newObj (ty:=115) (xs:=[zP,zP]) rfl;obtain⟨K5,u1,G6,S6⟩:=apv G5 (by rw [bNew];exact hk4) upd_same rfl (y:=jB P j) rfl rfl;rw [nI] at G6;have u2:ld (.ref K4.next 0 0) K5=some (.ref (P (j / 2) (oIx rq2)) 0 0,K5):=by
     refine G6.load upd_same (i:=0) ?_;rw [<-hP];rfl
    have S05:=(S04.trans (Step.new _ q2.1)).trans S6;have hk5:K5.base<=b:=by rw [S05.base];exact hb
    have hne:P (j / 2) (oIx rq2)≠K4.next:=λe=> by rw [e,n4] at hp3;cases hp3
    obtain⟨v,K6,y1,G7,S7⟩:=Uz G6 hk5 (by rw [upd_ne hne];exact hp3) hl3 hd3 kn hkl;have hJ1:Pz P JF.l.length:=by rw [hlen1];exact J
    have F7:=F4.fill hJ1 hj2 (qB rq2) (p':=(JF.port (j / 2:Nat)).drop rq2 kn) (l:=l.eraseIdx kn) (by
     intro t ht;have:=wL (JF.port (j / 2:Nat)) rq2 (l.eraseIdx kn) t ht;unfold Port.drop;rw [hl];exact this)
    have aoi:JF.remove at_.toNat=JF.put (j / 2:Nat) ((JF.port (j / 2:Nat)).drop rq2 kn):=by
     unfold Fab.remove;rw [hfa]
    rw [aoi];rw [oU] at F7;let g':=upd (upd g (P d (iIx req)) (kT ((fab.port d).qZ req++[p]) (JJ c (iIx req)))) (P (j / 2) (oIx rq2)) (kT (l.eraseIdx kn) c.out);have ne2:P (j / 2) (oIx rq2)≠H.next:=λe=> F.PY G ⟨j / 2,oIx rq2,by omega,qB rq2,e.symm⟩
    have apx:qg g' (upd (upd (upd g H.next (p.av.map Cell.av)) (P d (iIx req)) (kT ((fab.port d).qZ req++[p]) (JJ c (iIx req)))) (P (j / 2) (oIx rq2)) (kT (l.eraseIdx kn) c.out)):=(((qg.refl g).more hn0 _).both _ _).both _ _;have F8:fD g' f P c (JF.put (j / 2:Nat) ((JF.port (j / 2:Nat)).drop rq2 kn)):=by
     have hJ:Pz P fab.l.length:=J;have A:=F.fill J hdl (oV req) (p':=(fab.port d).mG req ((fab.port d).qZ req++[p])) (l:=(fab.port d).qZ req++[p]) (zF _ _ _);rw [agp] at A;have B:=A.fill hJ1 hj2 (qB rq2) (p':=(JF.port (j / 2:Nat)).drop rq2 kn) (l:=l.eraseIdx kn) (by
      intro t ht;have:=wL (JF.port (j / 2:Nat)) rq2 (l.eraseIdx kn) t ht;unfold Port.drop;rw [hl];exact this)
     rw [oU] at B;exact B
    refine⟨K6,g',aN rfl rfl (aaw _ _ _ _ _ _ ?_),G7.sub λq cs hq=> ?_,F8,(Off.upd ⟨d,iIx req,hdl,oV req,rfl⟩).trans (Off.upd ⟨j / 2,oIx rq2,by omega,qB rq2,rfl⟩),S05.trans S7⟩
    ·rw [hdp] at hdst;simp only [req] at rq t1 f1 q1;simp -implicitDefEqProofs only [xq_,WV,e1,s1,zae,l1,e2,s3,h1,hdst,h2,h3,hkind,rq,t1,f1,l9,q1,e5,u1,u2,y1]
    ·have:=apx q cs hq;by_cases e:q=P (j / 2) (oIx rq2)
     ·subst e;rw [upd_same] at this ⊢;exact this
     ·rw [upd_ne e] at this ⊢;have h4:q≠K4.next:=λe'=> by rw [e',n4] at this;cases this
      rw [upd_ne h4];exact this
end
def DX(f:Fab):Prop:=∀p∈f.l,∀q,q∈p.rq∨q∈p.an->f.is q.dst=true
theorem alD(f:Fab)(i:Int)(p:Port)(k:Int):(f.put i p).is k=f.is k:=by
 unfold Fab.is Fab.put;simp
theorem DX.put {f:Fab}(D:DX f)(i:Int){p:Port}(h:∀q,q∈p.rq∨q∈p.an->f.is q.dst=true):DX (f.put i p):=by
 intro x hx q hq;rw [alD];unfold Fab.put at hx;rcases zbN hx with hx | rfl
 ·exact D x hx q hq
 ·exact h q hq
theorem DX.at {f:Fab}(D:DX f)(i:Int):∀q,q∈(f.port i).rq∨q∈(f.port i).an->f.is q.dst=true:=by
 intro q hq;unfold Fab.port at hq;rw [zaw] at hq;cases h:f.l[i.toNat]? with
 | none=> rw [h] at hq;simp [Port.zero] at hq
 | some p=> rw [h] at hq;exact D p (zaq h) q hq
theorem DX.send {f:Fab}(D:DX f)(p:Pkt):DX (f.send p).1:=by
 unfold Fab.send;split
 ·exact D
 ·rename_i hc;split
  ·exact D
  ·refine D.put _ λq hq=> ?_;have hd:f.is p.dst=true:=by
    cases h:f.is p.dst with
    | true=> rfl
    | false=> simp [h] at hc
   cases hk:DJ p.kind with
   | true=>
    rw [hk] at hq;simp only [Port.lV,Port.sort,if_true,za1,zaS] at hq;rcases hq with(hq | rfl) | hq
    ·exact D.at _ q (.inl hq)
    ·exact hd
    ·exact D.at _ q (.inr hq)
   | false=>
    rw [hk] at hq;simp only [Port.lV,Port.sort,zah,if_false,za1,zaS] at hq;rcases hq with hq | hq | rfl
    ·exact D.at _ q (.inl hq)
    ·exact D.at _ q (.inr hq)
    ·exact hd
theorem DX.mG {f:Fab}(D:DX f)(i:Int)(req:Bool)(l:List Pkt):DX (f.put i ((f.port i).mG req l)):=by
 refine D.put _ λq hq=> D.at i q ?_;cases req <;> exact hq
theorem DX.take {f:Fab}(D:DX f)(i:Int)(req:Bool):DX (f.take i req).1:=by
 unfold Fab.take;split
 ·split
  ·exact D
  ·exact D.mG _ _ _
 ·exact D
theorem DX.remove {f:Fab}(D:DX f)(k:Nat):DX (f.remove k):=by
 unfold Fab.remove;split
 ·refine D.put _ λq hq=> ?_;rename_i i req k' _;refine D.at i q ?_;cases req with
  | true=>
   simp only [Port.drop,Port.lV,Port.sort,if_true] at hq;exact hq.imp List.mem_of_mem_eraseIdx id
  | false=>
   simp only [Port.drop,Port.lV,Port.sort,zah,if_false] at hq;exact hq.imp id List.mem_of_mem_eraseIdx
 ·exact D
theorem DX.deliver {f:Fab}(D:DX f)(a b k:Int):DX (f.deliver a b k).1:=by
 unfold Fab.deliver;split
 ·exact D
 split
 ·exact D
 split
 ·exact D
 split
 ·exact D
 ·exact(D.mG _ _ _).remove _
theorem DX.all {f:Fab}(D:DX f):∀p∈f.all,f.is p.dst=true:=by
 intro p hp;unfold Fab.all at hp;obtain⟨q,hq,hp⟩:=za6.1 hp;rcases za1.1 hp with hp | hp
 ·exact D q hq p (.inl hp)
 ·exact D q hq p (.inr hp)
theorem DX.new(c:Cfg):DX (.new c):=by
 intro p hp q hq;rw [Fab.new,List.mem_replicate] at hp;rw [hp.2] at hq;simp [Port.zero] at hq
structure NX(T:Nat)(n:Node):Prop where
 U4:0<=n.num
 num1:n.num < 4096
 dat:n.deal.data.length<=4
 ws:∀line,(n.home.turns.ws line).length<=T
theorem NX.mono {T T':Nat}{n:Node}(h:NX T n)(hT:T<=T'):NX T' n:=⟨h.U4,h.num1,h.dat,λl=> zay (h.ws l) hT⟩
section
variable {d:bC}{ca:Cache}{p:Pkt}{me:Int}
theorem findLe(hc:∀e∈ca.l,e.data.length<=4){line:Int}{e:Ent}(h:ca.find line=some e):e.data.length<=4:=by
 unfold Cache.find at h;exact hc e (za3 h)
theorem Y9(hd:d.data.length<=4)(hp:p.data.length<=4):(bU d me ca p).2.1.data.length<=4:=by
 unfold bU nV
 repeat' split
 all_goals first
  | exact hd
  | exact hp
  | exact zaT _
  | (show List.length (if _ then _ else _)<=4;split <;> first | exact hp | exact zaT _)
theorem Ap(hd:d.data.length<=4):(bg d me ca).2.data.length<=4:=by
 unfold bg;simp only
 repeat' split
 all_goals first
  | exact hd
  | exact zaT _
theorem aby(hc:∀e∈ca.l,e.data.length<=4)(hd:d.data.length<=4)(hp:p.data.length<=4):(bV d me ca p).2.1.data.length<=4:=by
 unfold bV nV;split
 ·exact zaT _
 split
 ·refine Ap ?_;cases h:ca.find d.line with
  | none=> exact hp
  | some e=> exact findLe hc h
 split
 ·refine Ap ?_;cases h:ca.find d.line with
  | none=> exact hp
  | some e=> exact hd
 split
 ·exact hd
 ·exact zaT _
theorem agq(hc:∀e∈ca.l,e.data.length<=4)(hd:d.data.length<=4):(cZ d ca p).2.1.data.length<=4:=by
 unfold cZ nV fK;split
 ·exact zaT _
 split
 ·simp only;split
  ·exact zaT _
  ·rename_i e h;split
   ·show List.length (if e.dirty=true then e.data else [])<=4;split
    ·exact findLe hc h
    ·exact zaT _
   ·split <;> exact zaT _
 repeat' split
 all_goals first
  | exact hd
  | exact zaT _
end
section
variable {T:Nat}{n:Node}{c:Cfg}{me:Int}{f:Fab}{t:List Evn}
theorem Za(h:NX T n)(v:Int):NX T (n.done me t v).1:=⟨h.U4,h.num1,h.dat,h.ws⟩
theorem NQ(h:NX T n):NX T (n.effect c me t).1:=⟨h.U4,h.num1,h.dat,h.ws⟩
theorem Ce(h:NX T n)(kind line:Int):NX T (n.begin_ c me f kind line).1:=by
 have h0:=h.U4;have h1:(n.num+1).tmod 4096=(n.num+1) % 4096:=zbK (by omega);refine⟨?_,?_,zaT _,h.ws⟩
 ·show 0<=(n.num+1).tmod 4096;omega
 ·show(n.num+1).tmod 4096 < 4096;omega
theorem Ci {n:Node}(h:DX f)(kind line:Int):DX (n.begin_ c me f kind line).2:=h.send _
theorem Zb {n:Node}(h:DX f):DX (n.O4 c me f):=h.send _
theorem abz(hc:∀e∈n.cache.l,e.data.length<=4)(h:NX T n){p:Pkt}(hp:p.data.length<=4):(n.after me p).2.1.data.length<=4:=by
 unfold Node.after nV
 repeat' split
 ·exact Y9 h.dat hp
 ·exact aby hc h.dat hp
 ·exact agq hc h.dat
 ·exact zaT _
theorem UN(hc:∀e∈n.cache.l,e.data.length<=4)(h:NX T n)(D:DX f){p:Pkt}(hp:p.data.length<=4):NX T (n.answered c me f t p).1/\DX (n.answered c me f t p).2.1:=by
 have hd:=abz (me:=me) hc h hp;unfold Node.answered;split;rename_i ca d ok e;rw [e] at hd;have h1:NX T { n with cache:=ca,deal:=d }:=⟨h.U4,h.num1,hd,h.ws⟩
 split
 ·exact⟨⟨h.U4,h.num1,h.dat,h.ws⟩,D⟩
 ·simp only;split
  ·split
   ·exact⟨Za (me:=me) (t:=t) h1 0,D⟩
   ·exact⟨h1,D⟩
  ·split
   ·exact⟨NQ (c:=c) (me:=me) (t:=t) h1,Zb D⟩
   ·exact⟨h1,Zb D⟩
theorem ael {t:Turns}(h:∀line,(t.ws line).length<=T)(line who id:Int):∀l,((t.ask line who id).1.ws l).length<=T+1:=by
 intro l;unfold Turns.ask;split
 ·exact zbB (h l)
 split
 ·unfold Turns.ws;simp only;rw [jR];split
  ·rw [zaz,zan];exact Nat.succ_le_succ (h line)
  ·exact zbB (h l)
 ·exact zbB (h l)
theorem UO {t:Turns}(h:∀line,(t.ws line).length<=T)(line who:Int):∀l,((t.release line who).1.ws l).length<=T:=by
 intro l;unfold Turns.release;split <;> exact h l
theorem ags {t:Turns}(h:∀line,(t.ws line).length<=T)(line:Int):∀l,((t.next line).1.ws l).length<=T:=by
 intro l;unfold Turns.next
 split
 ·exact h l
 split
 ·exact h l
 ·rename_i w ws e;have hh:=h line;rw [e] at hh;unfold Turns.ws;simp only;rw [jR];split
  ·rw [zaz];exact Nat.le_of_succ_le hh
  ·exact h l
theorem Zc {hm:Home}(h:∀line,(hm.turns.ws line).length<=T)(p:Pkt):∀l,((hm.handle c me p).1.turns.ws l).length<=T+1:=by
 have h':∀l,(hm.turns.ws l).length<=T+1:=λl=> zbB (h l);unfold Home.handle;split
 ·exact h'
 split
 ·exact h'
 split
 ·simp only;split
  ·exact ael h _ _ _
  ·exact ael h _ _ _
 ·have hu:∀l,((hm.unlock c p).1.turns.ws l).length<=T+1:=by
   unfold Home.unlock;split
   ·exact h'
   ·simp only;generalize setRow c hm.rows p.line p.state p.ptr (if p.flag then p.data else [])=r;split
    ·exact λl=> zbB (UO h _ _ l)
    ·exact h'
  simp only;split <;> exact hu
theorem abA {hm:Home}(h:∀line,(hm.turns.ws line).length<=T):∀l,((hm.grant me).1.turns.ws l).length<=T:=by
 unfold Home.grant;split
 ·exact h
 ·rename_i line _ _;have hn:=ags h line;split
  ·rename_i e;rw [e] at hn;exact hn
  ·exact h
theorem agt(h:NX T n)(D:DX f)(p:Pkt):NX (T+1) (n.asked c me f p).1/\DX (n.asked c me f p).2:=by
 unfold Node.asked;split
 ·have hw:=Zc (c:=c) (me:=me) h.ws p;split;rename_i hm out ok e he;rw [he] at hw;refine⟨⟨h.U4,h.num1,h.dat,hw⟩,?_⟩;simp only;split
  ·exact D.send _
  ·exact D
 ·split;refine⟨⟨h.U4,h.num1,h.dat,λl=> zbB (h.ws l)⟩,?_⟩;simp only;split
  ·exact D.send _
  ·exact D
theorem alE(h:NX T n)(D:DX f)(o:Opn):NX T (n.work c me f t o).1/\DX (n.work c me f t o).2.1:=by
 have h1:NX T { n with proc:={ n.proc with begun:=true } }:=⟨h.U4,h.num1,h.dat,h.ws⟩
 unfold Node.work;simp only;split
 ·exact⟨Za (me:=me) (t:=t) h1 0,D⟩
 split
 ·exact⟨Ce (c:=c) (me:=me) (f:=f) h1 _ _,Ci D _ _⟩
 split
 ·exact⟨NQ (c:=c) (me:=me) (t:=if n.proc.begun then t else t++[⟨me,n.proc.values.length,false,0⟩]) ⟨h.U4,h.num1,h.dat,h.ws⟩,D⟩
 split
 ·exact⟨Ce (c:=c) (me:=me) (f:=f) h1 _ _,Ci D _ _⟩
 split
 ·exact⟨Ce (c:=c) (me:=me) (f:=f) h1 _ _,Ci D _ _⟩
 ·exact⟨Ce (c:=c) (me:=me) (f:=f) h1 _ _,Ci D _ _⟩
theorem aem(hc:∀e∈n.cache.l,e.data.length<=4)(hf:∀i req p,(f.take i req).2=some p->p.data.length<=4)(h:NX T n)(D:DX f):NX (T+1) (n.step c me f t).1.1/\DX (n.step c me f t).1.2.1:=by
 have h':=h.mono (zba T);unfold Node.step;split
 ·rename_i f' p e;have D':=D.take me false;have hp:=hf me false p (by rw [e]);rw [e] at D';obtain⟨a,b⟩:=UN (c:=c) (me:=me) (t:=t) hc h' D' hp;exact⟨a,b⟩
 ·split
  ·exact⟨⟨h.U4,h.num1,h.dat,λl=> zbB (abA h.ws l)⟩,D.send _⟩
  ·split
   ·rename_i f' p e;have D':DX f':=by
     split at e
     ·cases e
     ·have:=D.take me true;rw [e] at this;exact this
    exact agt h D' p
   ·split
    ·split
     ·exact alE h' D _
     ·exact⟨h',D⟩
    ·exact⟨h',D⟩
end
structure MX(T:Nat)(m:dV):Prop where
 inv:MInv m
 sim:∃r,Zn m r
 dst:DX m.fab
 node:∀(i:Nat) n,m.nodes[i]?=some n->NX T n
theorem MX.mono {T T':Nat}{m:dV}(h:MX T m)(hT:T<=T'):MX T' m:=⟨h.inv,h.sim,h.dst,λi n hn=> (h.node i n hn).mono hT⟩
theorem D7.le {c:Cfg}(hc:c.ok=true){ca:Cache}(I:D7 c ca):∀e∈ca.l,e.data.length<=4:=by
 intro e he;have h1:=(I.ent e he).dat;have h2:=(Lp hc).2.2.1;have:=h1.1;omega
theorem MX.step {T:Nat}{m:dV}(X:MX T m)(i:Int):MX (T+1) (m.step i).1:=by
 obtain⟨r,S⟩:=X.sim;obtain⟨h1,h2,h3⟩:=YZ S X.inv i;refine⟨h2,⟨_,h1⟩,?_,?_⟩
 ·unfold dV.step;split
  ·exact X.dst
  ·rename_i n hn;split;rename_i n' f t k e;unfold dV.node at hn;split at hn
   ·rename_i hi;have NI:=X.inv.node _ n hn;have:=(aem (c:=m.c) (me:=i) (t:=m.trace) (NI.cache.le X.inv.ok) (λi req p hp=> by
     have:=((X.inv.fab.take i req).2 p hp).ok;simp only [Pkt.ok,zaj,decide_eq_true_eq] at this;omega) (X.node _ n hn) X.dst).2
    rw [e] at this;exact this
   ·cases hn
 ·intro j n hj;unfold dV.step at hj;split at hj
  ·exact(X.node j n hj).mono (zba T)
  ·rename_i n0 hn;split at hj;rename_i n' f t k e;unfold dV.node at hn;split at hn
   ·rename_i hi;simp only at hj;rw [List.getElem?_set] at hj;split at hj
    ·split at hj
     ·cases hj;have NI:=X.inv.node _ n0 hn;have:=(aem (c:=m.c) (me:=i) (t:=m.trace) (NI.cache.le X.inv.ok) (λi req p hp=> by
       have:=((X.inv.fab.take i req).2 p hp).ok;simp only [Pkt.ok,zaj,decide_eq_true_eq] at this;omega) (X.node _ n0 hn) X.dst).1
      rw [e] at this;exact this
     ·cases hj
    ·exact(X.node j n hj).mono (zba T)
   ·cases hn
theorem MX.deliver {T:Nat}{m:dV}(X:MX T m)(a b k:Int):MX T (m.deliver a b k).1:=by
 obtain⟨r,S⟩:=X.sim;obtain⟨h1,h2,h3⟩:=NC S X.inv a b k;exact⟨h2,⟨_,h1⟩,X.dst.deliver a b k,X.node⟩
theorem MX.do_ {T:Nat}{m:dV}(X:MX T m)(p:Pck):MX (T+1) (m.do_ p).1:=by
 unfold dV.do_;split
 ·exact(X.deliver _ _ _).mono (zba T)
 ·exact X.step _
theorem aok {g:Store}{x y:Nat}{A B:List Cell}(k:Nat)(h:g x=some A)(h':g y=some B)(hl:A[k]?≠B[k]?):x≠y:=λe=> by
 subst e;rw [h] at h';exact hl (by rw [za2 h'])
def abB(A:Adr)(k n:Nat)(q:Nat):Prop:=(∃i s,i < k/\s < 6/\q=A.N i s)∨JI A.P n q∨q=A.trace
section
variable {b:Nat}{H:aj}{g g':Store}{A:Adr}{m:dV}{T:Nat}
theorem evs_le {m:dV}(I:MInv m):m.trace.length<=1000:=by
 have B:=pI I.ok;have hl:=I.len;have:∀(l:List Node),(∀n∈l,Node.evs n<=49)->(l.map Node.evs).sum<=49*l.length:=by
  intro l
  induction l with
  | nil=> intro _;simp
  | cons n l ih=>
   intro h;have h1:=h n (by simp);have h2:=ih λx hx=> h x (by simp [hx]);simp only [zaA,zbv,zal];omega
 have h1:=this m.nodes λn hn=> by
  obtain⟨i,hi⟩:=List.mem_iff_getElem?.1 hn;have P:=(I.node i n hi).proc;have:=P.most;have:=P.vals;unfold Node.evs;split <;> omega
 rw [I.evs];have:=B.nodes;omega
def aol(A:Adr)(i:Nat):Oa:=⟨A.N i,A.fab,A.P,A.trace⟩
theorem iL.nw(M:iL g A m){i:Nat}{n:Node}(hi:m.nodes[i]?=some n):NW g (aol A i) m.c i (n,m.fab,m.trace):=⟨M.node i n hi,M.fab,M.trace,M.RX,M.tf⟩
theorem iL.Zd(M:iL g A m){q:Nat}(h:abB A m.nodes.length m.fab.l.length q):A.jQ≠q:=by
 have hm:=M.jQ;rcases h with⟨i,s,hi,hs,rfl⟩ | ⟨i,s,hi,hs,rfl⟩ | rfl
 ·obtain⟨n,hn⟩:∃n,m.nodes[i]?=some n:=⟨_,zab hi⟩
  obtain⟨h0,h1,h2,h3,h4,h5⟩:=M.node i n hn;have l11:(ug A m.c m.nodes.length).length=11:=by simp [ug,EM,Cfg.av]
  match s,hs with
  | 0,_=> exact iI hm h0 (by rw [l11];simp only [eX];decide)
  | 1,_=> exact iI hm h1 (by rw [l11];simp only [dW];decide)
  | 2,_=> exact iI hm h2 (by rw [l11];simp only [gu];decide)
  | 3,_=> exact aok 10 hm h3 (by simp [ug,EM,Cfg.av,Az])
  | 4,_=> exact iI hm h4 (by rw [l11];simp only [jf];decide)
  | 5,_=> exact iI hm h5 (by rw [l11];simp only [dX];decide)
 ·exact iI hm (eF (M.fab.port hi) hs) (by simp [ug,EM,Cfg.av,kT])
 ·exact iI hm M.trace (by simp [ug,EM,Cfg.av,kH])
theorem iL.len(M:iL g A m)(I:MInv m):m.nodes.length=m.fab.l.length:=by
 have:=I.len;have:=I.fab.len;omega
theorem abC(G:Good b H g)(hb:H.base<=b)(M:iL g A m)(X:MX T m)(hT:T < 999000){i:Nat}{n:Node}(hi:m.nodes[i]?=some n):
  ∃H' g',cl 36 [.ref (A.N i 0) 0 0,.ref A.fab 0 0,.ref A.trace 0 0] H=some (I (m.step i).2,H')/\Good b H' g'/\iL g' A (m.step i).1/\Off (abB A m.nodes.length m.fab.l.length) g g'/\Step b H H':=by
 have N:=M.nw hi;have NX:=X.node i n hi;have NI:=X.inv.node i n hi;have hil:i < m.nodes.length:=(zaf.1 hi).1;have W:=Walk.of G hb N;obtain⟨K',g',e1,W'⟩:=abw W X.inv.ok X.inv.fab NI ⟨NX.U4,by have:=NX.num1;show n.num < 1000000;omega⟩ (by have:=evs_le X.inv;show m.trace.length < 999999;omega) (by have:=NX.dat;show n.deal.data.length < 1000000000;omega) (λline=> by have:=NX.ws line;show(n.home.turns.ws line).length < 1000000;omega);have hst:m.step i=({ m with nodes:=m.nodes.set i (n.step m.c i m.fab m.trace).1.1,fab:=(n.step m.c i m.fab m.trace).1.2.1,trace:=(n.step m.c i m.fab m.trace).1.2.2 },(n.step m.c i m.fab m.trace).2):=by
  unfold dV.step dV.node;rw [if_pos (by omega),zar,hi]
 rw [hst];have hO:Off (aej (aol A i) m.fab.l.length) g g':=W'.off;have hsub:∀q,aej (aol A i) m.fab.l.length q->abB A m.nodes.length m.fab.l.length q:=by
  rintro q (⟨s,hs,rfl⟩ | h | rfl)
  ·exact .inl ⟨i,s,hil,hs,rfl⟩
  ·exact .inr (.inl h)
  ·exact .inr (.inr rfl)
 have hN':=W'.nw;have hlen':=W'.len;refine⟨K',g',e1,W'.loc.out,⟨?_,hN'.tr,hN'.fab,λj n' hj=> ?_,?_,?_,M.tf⟩,hO.mono hsub,W'.step⟩
 ·show g' A.jQ=some (ug A m.c (m.nodes.set i _).length);rw [zb6,hO A.jQ λh=> M.Zd (hsub _ h) rfl];exact M.jQ
 ·simp only at hj;by_cases hij:i=j
  ·subst hij;rw [zbx hil] at hj;cases hj;exact hN'.node
  ·rw [zbU hij] at hj;have hjl:j < m.nodes.length:=(zaf.1 hj).1;have Nj:=M.nw hj;refine(M.node j n' hj).ext λs hs=> hO _ ?_;rintro(⟨t,ht,e⟩ | h | e)
   ·exact hij (M.alW _ _ _ _ hjl hil hs ht e).1.symm
   ·exact(Nj.UG h).1 s hs rfl
   ·exact Nj.YQ s hs e
 ·show Pz A.P _;have:(n.step m.c i m.fab m.trace).1.2.1.l.length=m.fab.l.length:=hlen';rw [this];exact M.RX
 ·show alV A.N (m.nodes.set i _).length;rw [zb6];exact M.alW
theorem Qa(G:Good b H g)(hb:H.base<=b)(M:iL g A m)(X:MX T m){at_ bit mask:Int}(h64:In64 at_)(hbit:In64 bit)(m0:0<=mask)(m1:mask<=65535):
  ∃H' g',cl 35 [.ref A.fab 0 0,I at_,I bit,.s (.int .u16 mask)] H=some (I (m.deliver at_ bit mask).2,H')/\Good b H' g'/\iL g' A (m.deliver at_ bit mask).1/\Off (abB A m.nodes.length m.fab.l.length) g g'/\Step b H H':=by
 have B:=pI X.inv.ok;have h0:m.fab.l.length≠0:=by have:=X.inv.fab.len;have:=B.nodes;omega
 obtain⟨H',g',e1,G',F',O',S'⟩:=UM G hb M.fab M.RX (fok X.inv.ok X.inv.fab) h0 (λp hp=> ⟨⟨(X.inv.fab.pkt hp).ok,(X.inv.fab.pkt hp).num⟩,X.dst.all p hp⟩) h64 hbit m0 m1;have hsub:∀q,JI A.P m.fab.l.length q->abB A m.nodes.length m.fab.l.length q:=λq h=> .inr (.inl h);have hlen:(m.fab.deliver at_ bit mask).1.l.length=m.fab.l.length:=by
  have h1:=(X.inv.fab.deliver at_ bit mask).len;have h2:=X.inv.fab.len;omega
 refine⟨H',g',e1,G',⟨?_,?_,F',λj n' hj=> ?_,?_,M.alW,M.tf⟩,O'.mono hsub,S'⟩
 ·rw [O' A.jQ λh=> M.Zd (hsub _ h) rfl];exact M.jQ
 ·rw [O' A.trace λ⟨i,s,hi,hs,e⟩=> by
   have:=eF (M.fab.port hi) hs;exact iI M.trace this (by simp [kH,kT]) e]
  exact M.trace
 ·exact(M.node j n' hj).ext λs hs=> O' _ λh=> ((M.nw hj).UG h).1 s hs rfl
 ·show Pz A.P (m.fab.deliver at_ bit mask).1.l.length;rw [hlen];exact M.RX
theorem aom(G:Good b H g)(hb:H.base<=b)(M:iL g A m)(X:MX T m)(hT:T < 999000)(p:Pck)(h64:In64 p.at_)(hbit:In64 p.bit)(m0:0<=p.mask)(m1:p.mask<=65535):
  ∃H' g',cl 11 [.ref A.jQ 0 0,.agg p.av] H=some (B (m.do_ p).2,H')/\Good b H' g'/\iL g' A (m.do_ p).1/\Off (abB A m.nodes.length m.fab.l.length) g g'/\Step b H H':=by
 let H1:=H.new (.blk 0 35 p.av);have G1:Good b H1 g:=G.new _;have g1:H1.get H.next=.blk 0 35 p.av:=aJ rfl
 have l0:ld (.ref H.next 0 0) H1=some (B p.deliver,H1):=by rw [dJ g1];rfl
 have l1:ld (.ref H.next 0 1) H1=some (I p.at_,H1):=by rw [dJ g1];rfl
 have l2:ld (.ref H.next 0 2) H1=some (I p.bit,H1):=by rw [dJ g1];rfl
 have l3:ld (.ref H.next 0 3) H1=some (.s (.int .u16 p.mask),H1):=by rw [dJ g1];rfl
 have f0:=G1.load M.jQ (i:=0) (x:=.ref A.fab 0 0) rfl;have f1:=G1.load M.jQ (i:=1) (x:=.ref A.trace 0 0) rfl;have S1:Step b H H1:=Step.new _ G.1;have hb1:H1.base<=b:=by simp only [H1,bNew];exact hb
 have B:=pI X.inv.ok;cases hd:p.deliver with
 | true=>
  rw [hd] at l0;obtain⟨H',g',e1,G',M',O',S'⟩:=Qa G1 hb1 M X h64 hbit m0 m1;have hdo:m.do_ p=((m.deliver p.at_ p.bit p.mask).1,decide ((m.deliver p.at_ p.bit p.mask).2=0)):=by
   unfold dV.do_;rw [hd];rfl
  rw [hdo];refine⟨H',g',aN rfl rfl (ae9 _ _ _ _ ?_),G',M',O',S1.trans S'⟩;simp only [H1] at l0 l1 l2 l3 f0 f1 e1;simp -implicitDefEqProofs only [Nat.reduceLT,xq_,hq_,aas,aA (Dy p),l0,l1,l2,l3,f0,e1]
 | false=>
  rw [hd] at l0;have hdo:m.do_ p=((m.step p.at_).1,decide ((m.step p.at_).2≠0)):=by
   unfold dV.do_;rw [hd];rfl
  rw [hdo];have e0:=Jt G1 M (by have:=X.inv.len;have:=B.nodes;omega) p.at_;by_cases hi:0<=p.at_/\p.at_ < m.nodes.length
  ·rw [if_pos hi] at e0;obtain⟨i,hii⟩:∃i:Nat,p.at_=i:=⟨p.at_.toNat,by omega⟩
   rw [hii] at e0 hi l1;rw [hii];rw [zar] at e0;obtain⟨n,hn⟩:∃n,m.nodes[i]?=some n:=⟨_,zab (by omega)⟩
   obtain⟨H',g',e1,G',M',O',S'⟩:=abC G1 hb1 M X hT hn;refine⟨H',g',aN rfl rfl (ae9 _ _ _ _ ?_),G',M',O',S1.trans S'⟩;have nn:bi .neq 54 (.ref (A.N i 0) 0 0) zP=some (.s (.bool true)):=by kernel_rfl
   simp only [H1] at l0 l1 f0 f1 e0 e1;simp -implicitDefEqProofs only [Nat.reduceLT,xq_,hq_,aas,aA (Dy p),l0,l1,f0,f1,e0,nn,e1];simp
  ·rw [if_neg hi] at e0;have hst:m.step p.at_=(m,0):=by
    unfold dV.step dV.node;by_cases h0:0<=p.at_
    ·rw [if_pos h0,zaG (by omega)]
    ·rw [if_neg h0]
   rw [hst];refine⟨H1,g,aN rfl rfl (ae9 _ _ _ _ ?_),G1,M,Off.refl _ _,S1⟩;have nn:bi .neq 54 zP zP=some (.s (.bool false)):=by kernel_rfl
   simp only [H1] at l0 l1 e0;simp -implicitDefEqProofs only [Nat.reduceLT,xq_,hq_,aas,aA (Dy p),l0,l1,e0,nn]
   try rfl
end
theorem uX(c:Cfg)(me line:Int):∀n:Nat,iV (c.iJ me n) line=if 0<=line/\line < n/\c.gX line=me then some ⟨0,-1,c.first line⟩ else none
 | 0=> by
  have:¬(0<=line/\line < ((0:Nat):Int)/\c.gX line=me):=by omega
  rw [if_neg this];rfl
 | n+1=> by
  simp only [Cfg.iJ];by_cases h:c.gX n=me
  ·rw [if_pos h,jR,uX c me line n];by_cases e:(n:Int)=line
   ·subst e;rw [if_pos rfl,if_pos ⟨by omega,by omega,h⟩]
   ·rw [if_neg e];by_cases h2:0<=line/\line < n/\c.gX line=me
    ·rw [if_pos h2,if_pos ⟨h2.1,by omega,h2.2.2⟩]
    ·rw [if_neg h2,if_neg (λh3=> h2 ⟨h3.1,by omega,h3.2.2⟩)]
  ·rw [if_neg h,uX c me line n];by_cases h2:0<=line/\line < n/\c.gX line=me
   ·rw [if_pos h2,if_pos ⟨h2.1,by omega,h2.2.2⟩]
   ·rw [if_neg h2,if_neg (λh3=> h2 ⟨h3.1,(by
     have:line≠n:=λe=> h (by rw [<-e];exact h3.2.2);omega),h3.2.2⟩)]
theorem NR {c:Cfg}(h:c.ok=true){line:Int}(h0:0<=line):c.gX line=line % c.nodes:=by
 unfold Cfg.gX zY;rw [if_neg (by omega)]
theorem S9 {c:Cfg}(h:c.ok=true)(me:Int)(l:List Opn):ahV c me (.new c me l) (.new c l):=by
 have Bd:=pI h;have hl:=Bd.lines;have hh:∀line,lD c me line=true↔(0<=line/\line < c.lines.toNat/\c.gX line=me):=by
  intro line;simp only [lD,zaj,decide_eq_true_eq];constructor
  ·rintro⟨⟨a,b⟩,d⟩;exact⟨a,by omega,by rw [NR h a];exact d⟩
  ·rintro⟨a,b,d⟩;exact⟨⟨a,by omega⟩,by rw [<-NR h a];exact d⟩
 refine⟨rfl,rfl,rfl,rfl,rfl,rfl,rfl,rfl,rfl,List.Pairwise.nil,List.Perm.refl _,λline P8=> ?_,λline P8=> ?_,λline=> rfl,λline=> rfl⟩
 ·have h1:=(hh line).1 P8;refine⟨⟨0,-1,c.first line⟩,?_,?_⟩
  ·show iV (c.iJ me c.lines.toNat) line=_;rw [uX,if_pos h1]
  ·show((List.range c.lines.toNat).map λ(i:Nat)=> (⟨0,-1,c.first (i:Int)⟩:Row))[line.toNat]?=_;rw [zaE,zbk (by omega)];simp only [zai];rw [show((line.toNat:Nat):Int)=line by omega]
 ·show iV (c.iJ me c.lines.toNat) line=_;rw [uX,if_neg λh1=> by rw [(hh line).2 h1] at P8;cases P8]
theorem agu {c:Cfg}(h:c.ok=true){ps:List (List Opn)}:Sim (.new c ps) (.new c ps):=by
 refine⟨rfl,by simp [dV.new,eG.new],rfl,rfl,λi n rn hn hr=> ?_⟩;simp only [dV.new,za5,zbi] at hn;simp only [eG.new,zaE,zbi] at hr;obtain⟨l,hl,rfl⟩:=hn;obtain⟨l',hl',rfl⟩:=hr;rw [hl] at hl';cases hl';exact S9 h i l
theorem Ze(H:aj)(hb:H.base<=H.next)(c:Cfg){x:AV}{ps:List (List Opn)}(hx:RU H x ps)(hn:ps.length < 1000000000)(hl:∀l∈ps,l.length < 1000000000)(hp:¬(c.ok=true/\c.pz ps=true)):
  ∃H',cl 25 [.agg c.av,x] H=some (.tup [zP,I 1],H')/\Made H H' nil0:=by
 let H1:=H.new (.blk 0 40 c.av);have M1:Made H H1 nil0:=(Made.refl hb).new _;have b1:=iH (H:=H1) (r:=H.next) (c:=c) (aJ rfl);have e1:=aaZ H1 c;have b0:bi .neq 76 (I 0) (I 0)=some (B false):=by kernel_rfl
 have b1':bi .neq 76 (I 1) (I 0)=some (B true):=by kernel_rfl
 refine⟨H1,aN rfl rfl (aij _ _ _ _ ?_),M1⟩;by_cases hc:c.ok=true
 ·have hp':¬c.pz ps=true:=λh=> hp ⟨hc,h⟩;have e2:=ad9 H1 c hc (hx.gV (H':=H1) (by simp only [H1,nNew];omega) λr hr=> aP hr) hn hl;rw [if_neg hp'] at e2;rw [if_pos hc] at e1;simp only [H1] at b1 e1 e2;simp -implicitDefEqProofs only [Nat.reduceLT,xq_,hq_,aav,aA (dG c),b1,e1,b0,e2,b1'];rfl
 ·rw [if_neg hc] at e1;simp only [H1] at b1 e1;simp -implicitDefEqProofs only [Nat.reduceLT,xq_,hq_,aav,aA (dG c),b1,e1,b1'];rfl
def abD:Cfg:=⟨0,0,0,0,0,0,0,[]⟩
theorem agv(H:aj):cl 21 [] H=some (B true,H):=by
 have hc:aec.ok=true:=by decide
 have hp:aec.pz [[]]=true:=by decide
 have hav:aec.av=[I 1,I 1,I 1,I 1,I 1,I 1,I 1,zN]:=by simp [aec,Cfg.av,dat,dP]
 have zav:abD.av=[zI,zI,zI,zI,zI,zI,zI,zN]:=by simp [abD,Cfg.av,dat,dP]
 let H2:=H.guard.new (.blk 0 98 [zN]);have hps:RU H2 (.sl H.next 0 0 1 1 1 true) [[]]:=⟨[zN],jy (n:=1) (m:=1) (l:=[zN]) rfl,λi v l a b=> by
  match i with
  | 0=> cases a;cases b;exact⟨aF.nil,λ_=> rfl⟩
  | i+1=> cases a⟩
 obtain⟨H3,A,g,e1,M,MI⟩:=Gp H2 (by simp only [H2,bNew,nNew,ahO,yO];omega) aec hc hps hp;have hf:=aaV hc hp;have hbn:H3.base<=H3.next:=by
  rw [M.base];exact zay (by simp only [H2,bNew,nNew,ahO,yO];omega) M.next
 obtain⟨H4,e2,M2⟩:=Ze H3 hbn abD (RU.zN (H:=H3)) (by simp) (λl hl=> by cases hl) (by decide);have G4:Good H2.next H4 g:=M.good.ext M2.next M2.same
 have e3:=Jq G4 MI hf;have e4:=Ye G4 MI hf;have q1:(dV.new aec [[]]).quiet=true:=by decide
 have q2:(dV.new aec [[]]).left=0:=by decide
 rw [q1] at e3;rw [q2] at e4;have ev:bd 40 [(0,I 1),(1,I 1),(2,I 1),(3,I 1),(4,I 1),(5,I 1),(6,I 1)]=some (.agg aec.av):=by
  rw [hav];simp -implicitDefEqProofs only [xq_,aeQ,gJ,dL,aeP];rfl
 have ez:bd 40 []=some (.agg abD.av):=by
  rw [zav];simp -implicitDefEqProofs only [xq_,aeQ,gJ,dL]
 have b0:bi .eql 76 (I 0) (I 0)=some (B true):=by kernel_rfl
 have b1:bi .eql 76 (I 1) (I 1)=some (B true):=by kernel_rfl
 have en:bi .neq 26 (.ref A.jQ 0 0) zP=some (B true):=by kernel_rfl
 have eq:bi .eql 26 zP zP=some (B true):=by kernel_rfl
 have es:∀H,bs 28 1 [(0,zN)] H=some (.sl H.next 0 0 1 1 1 true,H.new (.blk 0 98 [zN])):=λH=> by
  exact(amf (by decide)).trans rfl
 refine fO rfl rfl (amR _ _ (r:=(B true,H4)) ?_) gW;simp only [H2] at e1;simp -implicitDefEqProofs only [xq_,aif,ev,es,e1,ez,e2,b0,en,e3,e4,b1,eq]
theorem iL.sub {g g':Store}{A:Adr}{m:dV}(h:iL g A m)(hg:qg g g'):iL g' A m:=by
 refine⟨hg _ _ h.jQ,hg _ _ h.trace,⟨hg _ _ h.fab.1,λi p hp=> ?_,h.fab.2.2⟩,λi n hn=> ?_,h.RX,h.alW,h.tf⟩
 ·obtain⟨a,b,c,d⟩:=h.fab.2.1 i p hp;exact⟨hg _ _ a,hg _ _ b,hg _ _ c,hg _ _ d⟩
 ·obtain⟨a,b,c,d,e,f⟩:=h.node i n hn;exact⟨hg _ _ a,hg _ _ b,hg _ _ c,hg _ _ d,hg _ _ e,hg _ _ f⟩
theorem DN.sub {g g':Store}{q f:Nat}{N:Nat->Nat->Nat}{m:eG}(h:DN g q f N m)(hg:qg g g'):DN g' q f N m:=by
 have hd:∀{x l},qh g x l->qh g' x l:=λh=> h.sub λq cs hq _=> hg q cs hq;obtain⟨ls,f1,f2,f3⟩:=h.fab;refine⟨hg _ _ h.jQ,⟨ls,hg _ _ f1,f2,λi l cells hl hc=> (f3 i l cells hl hc).mono λp cs _ ⟨x,a,b⟩=> ⟨x,hd a,b⟩⟩,λi n hn=> ?_,h.inj⟩;obtain⟨⟨d,⟨x,d1,d2⟩,h0⟩,⟨cells,k,h1⟩,⟨rows,r,h2⟩⟩:=h.node i n hn;exact⟨⟨d,⟨x,hd d1,d2⟩,hg _ _ h0⟩,⟨cells,k.mono λe cs _ ⟨x,a,b⟩=> ⟨x,hd a,b⟩,hg _ _ h1⟩,⟨rows,r.mono λe cs _ ⟨x,a,b⟩=> ⟨x,hd a,b⟩,hg _ _ h2⟩⟩
theorem abE {b n:Nat}{H1:aj}{g g':Store}(G:Good b H1 g)(hn:H1.next=n):qg g (cup n g g'):=λq cs hq=> iQ G hq hn
theorem abG {b n:Nat}{H1:aj}{g g':Store}(G:Good b H1 g')(hn:n<=b):qg g' (cup n g g'):=λq cs hq=> jS G hq hn
def oh(c:Cho)(nodes under:Int):Pck:=
 if c.do_.tmod 23=22 then⟨decide (c.bit.tmod 2=0),c.at_,c.bit,c.mask⟩ else
 if aZ c.do_ 2=0 then⟨false,aZ c.at_ nodes,0,0⟩ else
 if c.do_.tmod 7=6 then⟨true,aZ c.at_ under,aZ c.bit 120,c.mask⟩ else⟨true,aZ c.at_ under,0,0⟩
theorem agw(d:Nat):∀(p:Pck),∀x∈p.av,Frz (d+1) x:=by
 intro p x hx;simp only [Pck.av,zam,zaI,or_false] at hx;rcases hx with rfl | rfl | rfl | rfl <;> exact eu
theorem UQ(p:Pck):Frz 9 (.agg p.av):=kC (agw 7 p)
theorem uY {n:Int}:(AV.s (.int .u16 n)).cells=[.s (.int .u16 n)]:=rfl
theorem rP {n:Int}:(AV.s (.int .u16 n)).aG=true:=rfl
theorem abH(H:aj)(c:Cho){nodes under:Int}(hn:nodes<=9223372036854775807)(hu:under<=9223372036854775807):cl 12 [.agg c.av,I nodes,I under] H=some (.agg (oh c nodes under).av,H):=by
 refine aX rfl rfl (amH _ _ _ _ _) ?_ (UQ _);have r1:=qU (P:=Tryz.prog) (t:=3) (k:=.i64) (a:=c.do_) (b:=23) (by decide);have r2:=qU (P:=Tryz.prog) (t:=3) (k:=.i64) (a:=c.do_) (b:=7) (by decide);have r3:=qU (P:=Tryz.prog) (t:=3) (k:=.i64) (a:=c.bit) (b:=2) (by decide);have r1':bi .rem 3 (I c.do_) (I 23)=some (I (c.do_.tmod 23)):=r1;have r2':bi .rem 3 (I c.do_) (I 7)=some (I (c.do_.tmod 7)):=r2;have r3':bi .rem 3 (I c.bit) (I 2)=some (I (c.bit.tmod 2)):=r3;have k1:=λH=> lS H c.do_ 2 (by omega);have k2:=λH=> lS H c.at_ nodes hn;have k3:=λH=> lS H c.at_ under hu;have k4:=λH=> lS H c.bit 120 (by omega);have eb:∀H,eH 38 (.agg [I c.do_,I c.at_,I c.bit,.s (.int .u16 c.mask)]) H=some (.ref H.next 0 0,H.new (.blk 0 38 [I c.do_,I c.at_,I c.bit,.s (.int .u16 c.mask)])):=λH=> aA (ae7 c) (by decide);simp only [Cho.av];by_cases h1:c.do_.tmod 23=22
 ·rw [show oh c nodes under=⟨decide (c.bit.tmod 2=0),c.at_,c.bit,c.mask⟩ by unfold oh;rw [if_pos h1]];simp -implicitDefEqProofs only [Nat.reduceAdd,Nat.reduceLeDiff,setAt,xq_,hq_,WO,eb,r1',h1,r3',Z7,gJ,dL,VT,Pck.av]
  try rfl
 by_cases h2:aZ c.do_ 2=0
 ·rw [show oh c nodes under=⟨false,aZ c.at_ nodes,0,0⟩ by unfold oh;rw [if_neg h1,if_pos h2]];simp -implicitDefEqProofs only [Nat.reduceAdd,Nat.reduceLeDiff,setAt,xq_,hq_,WO,eb,r1',h1,k1,h2,k2,Z7,gJ,dL,VT,Pck.av]
  try rfl
 by_cases h3:c.do_.tmod 7=6
 ·rw [show oh c nodes under=⟨true,aZ c.at_ under,aZ c.bit 120,c.mask⟩ by unfold oh;rw [if_neg h1,if_neg h2,if_pos h3]];simp -implicitDefEqProofs only [Nat.reduceAdd,Nat.reduceLeDiff,setAt,xq_,hq_,WO,eb,r1',h1,k1,h2,k3,Z7,gJ,dL,VT,Pck.av,r2',h3,k4,II];rw [Ul λr hr=> by
   cases hr;rw [aP (by simp only [nNew,yO];omega),aP (by simp only [nNew,yO];omega),aJ (by rw [yO]),aP (by simp only [nNew,yO];omega),aP (by simp only [nNew,yO];omega),aJ (by rw [yO])]]
  rfl
 ·rw [show oh c nodes under=⟨true,aZ c.at_ under,0,0⟩ by unfold oh;rw [if_neg h1,if_neg h2,if_neg h3]];simp -implicitDefEqProofs only [Nat.reduceAdd,Nat.reduceLeDiff,setAt,xq_,hq_,WO,eb,r1',h1,k1,h2,k3,Z7,gJ,dL,VT,Pck.av,r2',h3,II]
  try rfl
theorem Zf:In64 0:=⟨by decide,by decide⟩
theorem uZ {v n:Int}(h:In64 n):In64 (aZ v n):=by
 by_cases h1:n < 1
 ·have:aZ v n=0:=by unfold aZ;rw [if_pos h1]
  rw [this];exact Zf
 ·have:=lG (v:=v) (n:=n) (by omega);have h2:=h.2;exact⟨by omega,by omega⟩
theorem abI {c:Cho}(h:c.In){nodes under:Int}(h2:In64 nodes)(h4:In64 under):In64 (oh c nodes under).at_/\In64 (oh c nodes under).bit/\0<=(oh c nodes under).mask/\(oh c nodes under).mask<=65535:=by
 have apy:In64 120:=⟨by decide,by decide⟩
 have z0:(0:Int)<=0:=by decide
 have z1:(0:Int)<=65535:=by decide
 unfold oh;split
 ·exact⟨h.at_,h.bit,h.mask0,h.mask⟩
 ·split
  ·exact⟨uZ h2,Zf,z0,z1⟩
  ·split
   ·exact⟨uZ h4,uZ apy,h.mask0,h.mask⟩
   ·exact⟨uZ h4,Zf,z0,z1⟩
theorem alF {l:List Int}(h:∀z∈l,In64 z)(i:Int):In64 (atM l i):=by
 unfold atM;split
 ·rw [zaw];cases e:l[i.toNat]? with
  | none=> exact⟨by decide,by decide⟩
  | some v=> exact h v (zaq e)
 ·exact⟨by decide,by decide⟩
theorem UR {c:Cfg}(hc:c.ok=true)(zk za zv:List Int)(hv:∀z∈zv,In64 z)(i:Nat):c.right (Yg c zk za zv i)=true/\I64 (Yg c zk za zv i).value:=by
 have B:=pI hc;have hw:=B.words;have hl:=B.lines;have h1:1<=kindOf (atM zk i)/\kindOf (atM zk i)<=4:=by have:=Ui (atM zk i);omega
 have h0:1<=c.lines*c.words:=by
  have:=zbW hl.1 hw.1 (by decide) (by omega);omega
 have h2:=lG (v:=atM za i) h0;unfold Yg;refine⟨?_,?_⟩
 ·unfold Cfg.right;simp only [zaj,decide_eq_true_eq,zbj];refine⟨⟨⟨h1.1,h1.2⟩,?_⟩,?_⟩
  ·unfold Cfg.cO Cfg.jm;rw [if_neg (by omega)];have:=Int.ediv_nonneg h2.1 (show 0<=c.words by omega);omega
  ·split
   ·rename_i h;rcases h with h | h
    ·exact .inl (.inr h)
    ·exact .inr h
   ·exact .inl (.inl rfl)
 ·simp only;split
  ·exact alF hv i
  ·exact⟨by decide,by decide⟩
theorem rQ {c:Cfg}(hc:c.ok=true)(zw zk za zv:List Int)(hv:∀z∈zv,In64 z):∀i,∀l∈kE c zw zk za zv i,∀o∈l,c.right o=true/\I64 o.value
 | 0,l,h=> by
  rw [List.eq_of_mem_replicate h];intro o ho;cases ho
 | i+1,l,h=> by
  have ih:=rQ hc zw zk za zv hv i;simp only [kE,iE] at h;split at h
  ·rcases zbN h with h | rfl
   ·exact ih l h
   ·intro o ho;rcases za1.1 ho with ho | ho
    ·rw [zaw] at ho;cases e:(kE c zw zk za zv i)[(aZ (atM zw i) c.nodes).toNat]? with
     | none=> rw [e] at ho;cases ho
     | some l'=> rw [e] at ho;exact ih l' (zaq e) o ho
    ·rw [zaS] at ho;subst ho;exact UR hc zk za zv hv i
  ·exact ih l h
theorem abJ {c:Cfg}(hc:c.ok=true)(zw zk za zv:List Int)(hv:∀z∈zv,In64 z)(mo:Nat):c.pz (mO c zw zk za zv mo)=true:=by
 have B:=pI hc;have hn:=B.nodes;unfold Cfg.pz;simp only [zaj,decide_eq_true_eq,zaV];refine⟨λl hl=> ⟨zq _ _ _ _ _ _ l hl,λo ho=> (rQ hc zw zk za zv hv _ l hl o ho).1⟩,?_⟩;unfold mO;rw [nP];omega
theorem abK {c:Cfg}(hc:c.ok=true)(hi:∀z∈c.init,In64 z){line:Int}(h:0<=line/\line < c.lines):lW c (c.first line):=by
 have B:=pI hc;have hw:=B.words;unfold Cfg.first
 rw [if_neg (by omega)];refine⟨by rw [zaF,List.length_range];omega,λv hv=> ?_⟩;obtain⟨j,_,rfl⟩:=zaO.1 hv;rw [zaw];cases e:c.init[(line*c.words).toNat+j]? with
 | none=> exact⟨by decide,by decide⟩
 | some x=> exact hi x (zaq e)
theorem EH(c:Cfg)(me:Int):∀n:Nat,∀e∈c.iJ me n,0<=e.1/\e.1 < n/\e.2.data=c.first e.1
 | 0,e,h=> by cases h
 | n+1,e,h=> by
  simp only [Cfg.iJ] at h;have ih:=EH c me n;split at h
  ·have key:∀(l:List (Int × Row)) (k:Int) (x:Row),e∈mF l k x->e∈l∨(e.1=k/\e.2=x):=by
    intro l
    induction l with
    | nil=>
     intro k x hx;simp only [mF,zaS] at hx;right;rw [hx];exact⟨rfl,rfl⟩
    | cons a l ih=>
     obtain⟨k',v⟩:=a;intro k x hx;simp only [mF] at hx;split at hx
     ·rename_i hk;rcases zam.1 hx with rfl | hx
      ·exact .inr ⟨by first | rfl | exact hk | exact hk.symm,rfl⟩
      ·exact .inl (zbT _ hx)
     ·rcases zam.1 hx with rfl | hx
      ·exact .inl (List.mem_cons_self ..)
      ·rcases ih k x hx with hx | hx
       ·exact .inl (zbT _ hx)
       ·exact .inr hx
   rcases key _ _ _ h with h | ⟨h1,h2⟩
   ·have:=ih e h;exact⟨this.1,by omega,this.2.2⟩
   ·exact⟨by omega,by omega,by rw [h2,h1]⟩
  ·have:=ih e h;exact⟨this.1,by omega,this.2.2⟩
theorem alG {c:Cfg}(hc:c.ok=true)(me:Int)(l:List Opn):NS c me (.new c me l) (.new c l):=⟨S9 hc me l,List.Pairwise.nil,λo ho=> by cases ho⟩
theorem abL {c:Cfg}(hc:c.ok=true){ps:List (List Opn)}:Zn (.new c ps) (.new c ps):=by
 have S:=agu hc (ps:=ps);refine⟨rfl,by simp [dV.new,eG.new],rfl,rfl,λi n rn hn hr=> ?_⟩;simp only [dV.new,za5,zbi] at hn;simp only [eG.new,zaE,zbi] at hr;obtain⟨l,hl,rfl⟩:=hn;obtain⟨l',hl',rfl⟩:=hr;rw [hl] at hl';cases hl';exact alG hc i l
theorem alH {c:Cfg}(hc:c.ok=true)(hi:∀z∈c.init,In64 z){ps:List (List Opn)}(hp:c.pz ps=true)(hv:∀l∈ps,∀o∈l,c.right o=true/\I64 o.value):MX 0 (.new c ps):=by
 have B:=pI hc;have hn:=B.nodes;have hb:=B.lines;obtain⟨h1,h2⟩:=BU hp;refine⟨⟨hc,?_,?_,λi n hn=> ?_,?_⟩,⟨_,abL hc⟩,DX.new c,λi n hn=> ?_⟩
 ·simp only [dV.new,zck];exact h1
 ·refine⟨rfl,rfl,?_,λp hp=> ?_⟩
  ·simp only [dV.new,Fab.new,zb2];omega
  ·simp only [dV.new,Fab.new,List.mem_replicate] at hp;rw [hp.2];have:=B.out;have:=B.inn;refine⟨by show((0:Nat):Int)<=c.out;omega,by show((0:Nat):Int)<=c.out;omega,by show((0:Nat):Int)<=c.inn;omega,by show((0:Nat):Int)<=1;omega,λq hq=> by simp [Port.zero] at hq⟩
 ·simp only [dV.new,za5,zbi] at hn;obtain⟨l,hl,rfl⟩:=hn;have hm:=zaq hl;refine⟨⟨h2 l hm,hv l hm,zaT _,λh=> by cases h⟩,⟨rfl,rfl,List.Pairwise.nil,List.Pairwise.nil,λe he=> (by cases he),λline=> ?_,zbL 0⟩,λe he=> ?_,⟨⟨List.Pairwise.nil,λe he=> (by cases he),List.Pairwise.nil,λe he=> (by cases he)⟩,λe he=> (by cases he)⟩,λh=> absurd rfl h,zbL 0⟩
  ·have:=B.ways;show(([]:List Ent).length:Int)<=c.ways;simp;omega
  ·obtain⟨r1,r2,r3⟩:=EH c i _ e he;rw [r3];exact abK hc hi ⟨r1,by omega⟩
 ·have:∀n∈(dV.new c ps).nodes,Node.evs n=0:=by
   intro n hn;simp only [dV.new,List.mem_mapIdx] at hn;obtain⟨i,hi,rfl⟩:=hn;rfl
  have h0:∀l:List Node,(∀n∈l,Node.evs n=0)->(l.map Node.evs).sum=0:=by
   intro l
   induction l with
   | nil=> intro _;rfl
   | cons n l ih=>
    intro h;rw [zaA,zbv,h n (by simp),ih λx hx=> h x (by simp [hx])]
  rw [h0 _ this];rfl
 ·simp only [dV.new,za5,zbi] at hn;obtain⟨l,hl,rfl⟩:=hn;exact⟨zbL 0,by show(0:Int) < 4096;decide,zaT _,λline=> zac 0⟩
structure Args(s:jA)(zi zw zk za zv:List Int):Prop where
 ok:s.Ok zi zw zk za zv
 hi:aF aj.empty s.init 1 zi.length (zi.map I)
 hw:aF aj.empty s.who 1 zw.length (zw.map I)
 hk:aF aj.empty s.kinds 1 zk.length (zk.map I)
 ha:aF aj.empty s.jm 1 za.length (za.map I)
 hv:aF aj.empty s.values 1 zv.length (zv.map I)
 hc:s.init.aG=true/\s.who.aG=true/\s.kinds.aG=true/\s.jm.aG=true/\s.values.aG=true
structure alI(b:Nat)(H:aj)(g:Store)(A:Adr)(q f:Nat)(N:Nat->Nat->Nat)(m:dV)(r:eG)(mid:Nat):Prop where
 good:Good b H g
 base:H.base<=b
 jQ:iL g A m
 off:∀x,abB A m.nodes.length m.fab.l.length x->mid<=x
 ref:∃g1,DN g1 q f N r/\qg g1 g/\∀x,g1 x≠none->x < mid
theorem iL.here {g:Store}{A:Adr}{m:dV}(M:iL g A m){x:Nat}(h:abB A m.nodes.length m.fab.l.length x):∃cs,g x=some cs:=by
 rcases h with⟨i,s,hi,hs,rfl⟩ | ⟨i,s,hi,hs,rfl⟩ | rfl
 ·obtain⟨n,hn⟩:∃n,m.nodes[i]?=some n:=⟨_,zab hi⟩
  exact(M.node i n hn).some hs
 ·exact⟨_,eF (M.fab.port hi) hs⟩
 ·exact⟨_,M.trace⟩
theorem agx {s:jA}{zi zw zk za zv:List Int}(Z:Args s zi zw zk za zv)(H:aj)(hb:H.base<=H.next){mo:Nat}(hm:mo<=1000){c:Cfg}{ps:List (List Opn)}(hc:c=s.cfg zi)(hps:ps=mO c zw zk za zv mo):
  ∃H' A q f N g mid b,cl 9 [.agg s.cells,I mo] H=some (.tup [.ref A.jQ 0 0,.ref q 0 0,.vs ps.length 1 (ps.map (vsl 3 Opn.av))],H')/\alI b H' g A q f N (.new c ps) (.new c ps) mid/\H.next<=b/\Step H.next H H'/\MX 0 (.new c ps)/\c.pz ps=true:=by
 have hck:c.ok=true:=by rw [hc];exact aed s zi
 have hvz:∀z∈zv,In64 z:=λz hz=> agE (Z.ok.values.wf z hz);have hiz:∀z∈c.init,In64 z:=λz hz=> by
  rw [hc] at hz;exact agE (Z.ok.init.wf z (List.mem_of_mem_take hz))
 have hop:c.pz ps=true:=by rw [hps];exact abJ hck zw zk za zv hvz mo
 have X:MX 0 (.new c ps):=alH hck hiz hop (by rw [hps];exact rQ hck zw zk za zv hvz _);have e1:=λH=> MF H Z.ok Z.hi Z.hc;rw [<-hc] at e1;have e2:∀H,cl 43 [.agg s.cells,I mo] H=some (.vs ps.length 1 (ps.map (vsl 3 Opn.av)),H):=λH=> by
  obtain⟨ps',apA,e⟩:=PE H Z.ok Z.hi Z.hw Z.hk Z.ha Z.hv Z.hc (mo:=mo) hm;rw [hps,hc,<-apA];exact e
 have hall:s.cells.all AV.aG=true:=by
  have:=Z.hc;simp only [jA.cells,List.all_cons,List.all_nil,this,Bool.and_true];rfl
 let H1:=H.new (.blk 0 24 s.cells);let H2:=H1.new (.blk 0 40 c.av);have n1:H1.next=H.next+1:=nNew
 have n2:H2.next=H.next+1+1:=by simp only [H2,nNew,n1]
 have b2:H2.base=H.base:=rfl;obtain⟨H3,q,f,N,g1,e3,M1,R1⟩:=PK H2 (by omega) c hck (akY H2 ps) hop;obtain⟨H4,A,g2,e4,M2,I2⟩:=Gp H3 (by rw [M1.base];exact zay (by omega) M1.next) c hck (akY H3 ps) hop;have G:=M1.good.merge M2;have gq:H2.get (H.next+1)=.blk 0 40 c.av:=aJ n1.symm;have l2:=iH gq;have l3:=iH (H:=H3) (r:=H.next+1) (c:=c) (by rw [M1.same _ (by omega)];exact gq);have ls:s.cells.length=12:=rfl;have lt:s.cells.take 12=s.cells:=rfl;have cc:(AV.agg c.av).cells=c.av:=rfl;have lc:c.av.length=8:=rfl;have hb1:H.base<=H.next+1:=by omega
 have b0:bi .neq 76 (I 0) (I 0)=some (B false):=by kernel_rfl
 have en:bi .eql 26 (.ref A.jQ 0 0) zP=some (B false):=by kernel_rfl
 have hI:=I2.sub (abG (g:=g1) M2.good (zac _));refine⟨H4,A,q,f,N,cup H3.next g1 g2,H3.next,H2.next,aN rfl rfl (ao3 _ _ _ _ ?_),⟨G,?_,hI,λx hx=> ?_,g1,R1,abE M1.good rfl,λx hx=> ?_⟩,by omega,?_,X,hop⟩
 ·simp only [H1,H2] at e3 l2;simp -implicitDefEqProofs only [Nat.reduceLT,Nat.reduceAdd,setAt,xq_,hq_,aoD,aA hall,ls,lt,e1,cc,lc,hb1,e2,l2,e3,l3,e4,zae,b0,en]
 ·rw [M2.base,M1.base,b2];omega
 ·obtain⟨cs,h⟩:=I2.here hx;exact M2.good.le h
 ·cases h:g1 x with
  | none=> exact absurd h hx
  | some cs=> exact M1.good.lt h
 ·refine⟨by rw [M2.base,M1.base,b2],zay (by omega) (zay M1.next M2.next),λr hr=> ?_⟩;rw [M2.same r (zax (by omega) M1.next),M1.same r (by omega)];simp only [H2,H1];rw [aP (by rw [nNew];omega),aP hr]
theorem Zg {x:AV}{cs:List Cho}(Y:aF aj.empty x 4 cs.length (cs.flatMap Cho.av))(H:aj):aF H x 4 cs.length (cs.flatMap Cho.av):=
 Y.gV (zaT _) λr _ hr=> absurd hr (Nat.not_lt_zero r)
theorem abM {x:AV}{cs:List Cho}(Y:aF aj.empty x 4 cs.length (cs.flatMap Cho.av))(H:aj){i:Nat}{c:Cho}(hi:cs[i]?=some c):ix 4 x (I i) H=some (bZ x i,H)/\lda 4 (bZ x i) H=some (.agg c.av,H):=by
 have hl:=(zaf.1 hi).1;have Z:=Zg Y H;have h1:=Z.ix (k:=.i64) (i:=(i:Int)) (by omega) (by omega);rw [zar] at h1;exact⟨h1,jG (enc:=Cho.av) (m:=4) (λ_=> rfl) Z hi⟩
section
variable {b:Nat}{H:aj}{g:Store}{A:Adr}{m:dV}{T:Nat}
theorem MX.fine(X:MX T m):m.fine:=by
 have I:=X.inv;have B:=pI I.ok;have h1:=I.len;have h2:=I.fab.len;have abN:∀p∈m.fab.l,p.rq.length < 1000/\p.an.length < 1000/\p.rin.length < 1000/\p.ain.length < 1000:=λp hp=> by
  have P:=I.fab.port p hp;have:=P.rq;have:=P.an;have:=P.rin;have:=P.ain;have:=B.out;have:=B.inn;omega
 have hn:∀n∈m.nodes,NX T n/\∃i:Nat,QU m.c i n:=λn hn=> by
  obtain⟨i,hi⟩:=List.mem_iff_getElem?.1 hn;exact⟨X.node i n hi,i,I.node i n hi⟩
 refine⟨I.ok,h1,by omega,λn hm=> ?_,λl hl=> ?_,λn hm=> ?_,λp hp=> ⟨(abN p hp).2.2.1,(abN p hp).2.2.2⟩⟩
 ·obtain⟨_,i,NI⟩:=hn n hm;have:=NI.proc.most;have:=NI.proc.vals;omega
 ·unfold Fab.gZ at hl;obtain⟨p,hp,hl⟩:=za6.1 hl;simp only [zam,zaI,or_false] at hl;rcases hl with rfl | rfl
  ·exact(abN p hp).1
  ·exact(abN p hp).2.1
 ·have:=(hn n hm).1.dat;omega
theorem zO(G:Good b H g)(M:iL g A m)(hc:m.c.ok=true):cl 13 [.ref A.jQ 0 0] H=some (.agg m.c.av,H):=by
 have B:=pI hc;refine aX rfl rfl (amI _ _ _) ?_ (Yf _);have l1:=λo=> (G.guard.new o).loads M.jQ (i:=2) (n:=8) (xs:=m.c.av) (by simp [ug,EM,Cfg.av]) rfl (by decide);have e1:=λH=> iW H m.c.init (by have:=B.init;have:=B.jm;omega);have hav:m.c.av=[I m.c.nodes,I m.c.lines,I m.c.words,I m.c.sets,I m.c.ways,I m.c.out,I m.c.inn,dat m.c.init]:=rfl;have cc:(AV.agg m.c.av).cells=m.c.av:=rfl;have lc:m.c.av.length=8:=rfl;have l7:m.c.av[7]?=some (dat m.c.init):=rfl;have all:=dG m.c;rw [hav] at l1 all ⊢;simp -implicitDefEqProofs only [Nat.reduceAdd,setAt,xq_,hq_,ah7,l1,e1,all]
theorem NU(G:Good b H g)(M:iL g A m)(X:MX T m):cl 14 [.ref A.fab 0 0] H=some (I m.fab.under,H):=by
 have F:=X.fine;have B:=pI X.inv.ok;have h1:=F.nodes;have h2:=F.fab;exact Sj G M.fab (by have:=B.nodes;omega) (by have:=B.nodes;omega) F.gZ
theorem Tc(X:MX T m):m.fab.under<=96:=by
 have I:=X.inv;have B:=pI I.ok;have h2:=I.fab.len;have:∀l:List Port,(∀p∈l,p.rq.length+p.an.length<=16)->(l.flatMap λp=> p.rq++p.an).length<=16*l.length:=by
  intro l
  induction l with
  | nil=> intro _;simp
  | cons p l ih=>
   intro h;have h1:=h p (by simp);have h2:=ih λx hx=> h x (by simp [hx]);simp only [zaH,zan,zal];omega
 have:=this m.fab.l λp hp=> by
  have P:=I.fab.port p hp;have:=P.rq;have:=P.an;have:=B.out;omega
 unfold Fab.under Fab.all;have:=B.nodes;omega
theorem abO(H:aj)(X:MX T m)(c:Cho):cl 12 [.agg c.av,I m.c.nodes,I m.fab.under] H=some (.agg (oh c m.c.nodes m.fab.under).av,H):=by
 have B:=pI X.inv.ok;have:=Tc X;have:=B.nodes;exact abH H c (by omega) (by omega)
theorem abP(X:MX T m){c:Cho}(h:c.In):In64 (oh c m.c.nodes m.fab.under).at_/\In64 (oh c m.c.nodes m.fab.under).bit/\0<=(oh c m.c.nodes m.fab.under).mask/\(oh c m.c.nodes m.fab.under).mask<=65535:=by
 have B:=pI X.inv.ok;have:=Tc X;have:=B.nodes;exact abI h ⟨by omega,by omega⟩ ⟨by omega,by omega⟩
end
structure JK(b:Nat)(H:aj)(g:Store)(A:Adr)(m:dV)(T:Nat):Prop where
 good:Good b H g
 base:H.base<=b
 jQ:iL g A m
 keep:MX T m
section
variable {b:Nat}{H:aj}{g:Store}{A:Adr}{m:dV}{T:Nat}
theorem JK.new(R:JK b H g A m T)(o:dQ):JK b (H.new o) g A m T:=⟨R.good.new o,by rw [bNew];exact R.base,R.jQ,R.keep⟩
theorem JK.do_(R:JK b H g A m T)(hT:T < 999000)(p:Pck)(h64:In64 p.at_)(hbit:In64 p.bit)(m0:0<=p.mask)(m1:p.mask<=65535):
  ∃H' g',cl 11 [.ref A.jQ 0 0,.agg p.av] H=some (B (m.do_ p).2,H')/\JK b H' g' A (m.do_ p).1 (T+1)/\Off (abB A m.nodes.length m.fab.l.length) g g'/\Step b H H':=by
 obtain⟨H',g',e,G,M,O,S⟩:=aom R.good R.base R.jQ R.keep hT p h64 hbit m0 m1;exact⟨H',g',e,⟨G,by rw [S.base];exact R.base,M,R.keep.do_ p⟩,O,S⟩
theorem JK.fab(R:JK b H g A m T):ld (.ref A.jQ 0 0) H=some (.ref A.fab 0 0,H):=R.good.load R.jQ.jQ (i:=0) (x:=.ref A.fab 0 0) rfl
theorem JK.trace(R:JK b H g A m T):ld (.ref A.jQ 0 1) H=some (.ref A.trace 0 0,H):=R.good.load R.jQ.jQ (i:=1) (x:=.ref A.trace 0 0) rfl
theorem JK.guard(R:JK b H g A m T):Good b H.guard g/\iL g A m:=⟨R.good.guard,R.jQ⟩
end
def dn(t:List Evn):Nat:=(t.filter (·.done)).length
def opens(t:List Evn):Int:=(t.map λe=> if e.done then(-1:Int) else 1).sum
theorem alJ(t u:List Evn):dn (t++u)=dn t+dn u:=by simp [dn]
theorem JG:∀t:List Evn,opens t=(t.length:Int) - 2*dn t
 | []=> rfl
 | e::t=> by
  have ih:=JG t;unfold opens dn at*;cases h:e.done with
  | true=> simp [h] at*;omega
  | false=> simp [h] at*;omega
def Ob(n:Node)(t:List Evn)(n':Node)(t':List Evn):Prop:=t'.length+Node.evs n=t.length+Node.evs n'->dn t'+n.proc.values.length=dn t+n'.proc.values.length
theorem Ob.same {n n':Node}{t:List Evn}(h:n'.proc=n.proc):Ob n t n' t:=λ_=> by rw [h]
theorem Zh {n n':Node}{t:List Evn}{me v:Int}(h:n'.proc=n.proc):Ob n t (n'.done me t v).1 (n'.done me t v).2:=by
 intro e;unfold Node.done Node.evs Proc.UZ at*;simp only [h,zan,zal,zau] at*;cases hb:n.proc.begun with
 | true=>
  simp [hb,dn] at*;omega
 | false=> simp [hb] at e
theorem Zi {n n':Node}{t:List Evn}{c:Cfg}{me:Int}(h:n'.proc=n.proc):Ob n t (n'.effect c me t).1 (n'.effect c me t).2:=by
 unfold Node.effect;exact Zh (by exact h)
theorem Qb {n:Node}{c:Cfg}{me:Int}{f:Fab}{t:List Evn}{p:Pkt}:Ob n t (n.answered c me f t p).1 (n.answered c me f t p).2.2:=by
 unfold Node.answered;split;split
 ·exact Ob.same rfl
 ·simp only;split
  ·split
   ·exact Zh rfl
   ·exact Ob.same rfl
  ·split
   ·exact Zi rfl
   ·exact Ob.same rfl
theorem GR {n n':Node}{t:List Evn}{me v:Int}(h:n'.proc={ n.proc with begun:=true }):Ob n t (n'.done me (if n.proc.begun then t else t++[⟨me,n.proc.values.length,false,0⟩]) v).1 (n'.done me (if n.proc.begun then t else t++[⟨me,n.proc.values.length,false,0⟩]) v).2:=by
 intro _;unfold Node.done Proc.UZ;simp only [h,if_true,zan,zal,zau,alJ];split <;> simp [dn] <;> omega
theorem vg {n n':Node}{t:List Evn}{me:Int}(h:n'.proc={ n.proc with begun:=true }):Ob n t n' (if n.proc.begun then t else t++[⟨me,n.proc.values.length,false,0⟩]):=by
 intro _;rw [h];split <;> simp [dn]
theorem agy {n:Node}{c:Cfg}{me:Int}{f:Fab}{t:List Evn}{o:Opn}:Ob n t (n.work c me f t o).1 (n.work c me f t o).2.2:=by
 unfold Node.work;simp only;split
 ·exact GR rfl
 split
 ·exact vg rfl
 split
 ·unfold Node.effect;exact GR rfl
 split
 ·exact vg rfl
 split
 ·exact vg rfl
 ·exact vg rfl
theorem step_ok {n:Node}{c:Cfg}{me:Int}{f:Fab}{t:List Evn}:Ob n t (n.step c me f t).1.1 (n.step c me f t).1.2.2:=by
 unfold Node.step;split
 ·exact Qb
 ·split
  ·exact Ob.same rfl
  ·split
   ·rename_i f' p _;have:(n.asked c me f' p).1.proc=n.proc:=by
     unfold Node.asked;split <;> split <;> rfl
    exact Ob.same this
   ·split
    ·split
     ·exact agy
     ·exact Ob.same rfl
    ·exact Ob.same rfl
def DnM(m:dV):Prop:=dn m.trace=(m.nodes.map λn=> n.proc.values.length).sum
theorem DnM.do_ {m:dV}(D:DnM m)(I:MInv m)(p:Pck)(I':MInv (m.do_ p).1):DnM (m.do_ p).1:=by
 unfold dV.do_ at*;cases hd:p.deliver with
 | true=> simp only [if_true];exact D
 | false=>
  simp only [hd,zah,if_false] at*;unfold dV.step dV.node at*;by_cases h0:0<=p.at_
  ·simp only [if_pos h0] at*;cases hn:m.nodes[p.at_.toNat]? with
   | none=> simp only [hn];exact D
   | some n=>
    simp only [hn] at I' ⊢;have ok:=step_ok (n:=n) (c:=m.c) (me:=p.at_) (f:=m.fab) (t:=m.trace);generalize n.step m.c p.at_ m.fab m.trace=r at*;obtain⟨⟨n',f',t'⟩,k⟩:=r;have e1:=I.evs;have e2:=I'.evs
    try dsimp only at ok
    try dsimp only at e2
    have s1:=JE Node.evs (a':=n') hn;have s2:=JE (λn:Node=> n.proc.values.length) (a':=n') hn
    try dsimp only at s2
    have ok':dn t'+n.proc.values.length=dn m.trace+n'.proc.values.length:=ok (by show t'.length+_=m.trace.length+n'.evs;omega);unfold DnM at D ⊢;show dn t'=((m.nodes.set p.at_.toNat n').map λn=> n.proc.values.length).sum;omega
  ·simp only [if_neg h0] at*;exact D
theorem DnM.new(c:Cfg)(ps:List (List Opn)):DnM (.new c ps):=by
 have h0:∀l:List Node,(∀n∈l,n.proc.values.length=0)->(l.map λn=> n.proc.values.length).sum=0:=by
  intro l
  induction l with
  | nil=> intro _;rfl
  | cons n l ih=>
   intro h;rw [zaA,zbv,h n (by simp),ih λx hx=> h x (by simp [hx])]
 unfold DnM;rw [h0 _ λn hn=> by
  simp only [dV.new,List.mem_mapIdx] at hn;obtain⟨i,hi,rfl⟩:=hn;rfl]
 rfl
theorem Qc {m:dV}(D:DnM m)(I:MInv m):opens m.trace=0↔∀n∈m.nodes,n.proc.begun=false:=by
 have e1:=I.evs;have e2:=JG m.trace;unfold DnM at D;have:∀l:List Node,(l.map Node.evs).sum=2*(l.map λn=> n.proc.values.length).sum+(l.map λn=> if n.proc.begun then 1 else 0).sum/\((l.map λn=> if n.proc.begun then 1 else 0).sum=0↔∀n∈l,n.proc.begun=false):=by
  intro l
  induction l with
  | nil=> simp
  | cons n l ih=>
   obtain⟨i1,i2⟩:=ih;refine⟨?_,?_⟩
   ·simp only [zaA,zbv,i1];unfold Node.evs;omega
   ·simp only [zaA,zbv,zam,forall_eq_or_imp];rw [<-i2];cases n.proc.begun <;> simp
 obtain⟨i1,i2⟩:=this m.nodes;rw [<-i2];omega
section
variable {b:Nat}{H:aj}{g:Store}{A:Adr}{m:dV}{T:Nat}
def idleB(m:dV)(i:Nat):Bool:=match m.nodes[i]? with
 | some n=> decide (m.fab.waiting i true+m.fab.waiting i false=0) && decide (n.deal.step=0)
 | none=> true
def nU(m:dV)(q:Bool):Nat->Bool
 | 0=> q
 | i+1=> nU m q i && idleB m i
theorem wM(m:dV)(q:Bool):∀n,nU m q n=(q && (List.range n).all (idleB m))
 | 0=> by simp [nU]
 | n+1=> by rw [nU,wM m q n,zb4,za7,Bool.and_assoc];simp
theorem GU(D:DnM m)(X:MX T m):nU m (decide (m.fab.under=0) && decide (opens m.trace=0)) m.nodes.length=m.quiet:=by
 rw [wM];have ho:=Qc D X.inv;unfold dV.quiet;rw [Bool.eq_iff_iff];simp only [zaj,decide_eq_true_eq,zaV,zaW];have key:∀i,i < m.nodes.length->∀n,m.nodes[i]?=some n->((!m.busy i)=true↔(idleB m i=true/\n.proc.begun=false)):=by
  intro i hi n hn;unfold dV.busy idleB;rw [hn];simp only [zbb,Bool.or_eq_false_iff,Bool.not_eq_false',zaj,decide_eq_true_eq,decide_eq_false_iff_not];constructor
  ·rintro⟨⟨h1,h2⟩,h3⟩;exact⟨⟨by omega,h1⟩,h2⟩
  ·rintro⟨⟨h1,h2⟩,h3⟩;exact⟨⟨h2,h3⟩,by omega⟩
 constructor
 ·rintro⟨⟨h1,h2⟩,h3⟩;refine⟨λi hi=> ?_,h1⟩;obtain⟨n,hn⟩:∃n,m.nodes[i]?=some n:=⟨_,zab hi⟩
  exact(key i hi n hn).2 ⟨h3 i hi,(ho.1 h2) n (zaq hn)⟩
 ·rintro⟨h1,h2⟩;refine⟨⟨h2,ho.2 λn hn=> ?_⟩,λi hi=> ?_⟩
  ·obtain⟨i,hi⟩:=List.mem_iff_getElem?.1 hn;exact((key i (zaf.1 hi).1 n hi).1 (h1 i (zaf.1 hi).1)).2
  ·obtain⟨n,hn⟩:∃n,m.nodes[i]?=some n:=⟨_,zab hi⟩
   exact((key i hi n hn).1 (h1 i hi)).1
theorem abQ {i:Nat}{n:Node}(h:m.nodes[i]?=some n):idleB m i=(decide (m.fab.waiting i true+m.fab.waiting i false=0) && decide (n.deal.step=0)):=by
 unfold idleB;rw [h]
theorem NY(X:MX T m)(j:Nat):j<=m.nodes.length->-(j*1000:Int)<=((m.nodes.take j).map λn=> n.proc.left).sum/\((m.nodes.take j).map λn=> n.proc.left).sum<=j*1000:=by
 have hm:=X.fine
 induction j with
 | zero=> intro _;simp
 | succ j ih=>
  intro hj;have i1:=ih (by omega);have hg:m.nodes[j]?=some (m.nodes[j]'(by omega)):=zab (by omega);have i2:=hm.ops _ (zaq hg);have i3:-1000<=(m.nodes[j]'(by omega)).proc.left/\(m.nodes[j]'(by omega)).proc.left<=1000:=by
   unfold Proc.left;omega
  rw [List.take_succ,hg];simp only [zb3,zbg,zaA,zbC,List.sum_append,zbv,List.sum_nil];omega
theorem Qd(x:AV)(i0:Nat)(D:DnM m){H':aj}{r:AV}(hi0:(i0:Int) < 1000):
  ∀(k j:Nat) {H:aj},j+k=m.nodes.length->JK b H g A m T->
  ∃H1,QX cl [x,.ref A.jQ 0 0,I i0,B (nU m (decide (m.fab.under=0) && decide (opens m.trace=0)) j),I ((m.nodes.take j).map λn=> n.proc.left).sum,I j] H=LH cl [x,.ref A.jQ 0 0,I (i0+1:Nat)] H1/\JK b H1 g A m T:=by
 intro k
 induction k with
 | zero=>
  intro j H hj R;have X:=R.keep;have B_:=pI X.inv.ok;have hl:=X.inv.len;obtain rfl:j=m.nodes.length:=by omega
  have e1:=zO R.good R.jQ X.inv.ok;have l0:m.c.av[0]?=some (I m.c.nodes):=rfl;have hlt:¬((m.nodes.length:Nat):Int) < m.c.nodes:=by omega
  have e2:=Jq R.good R.jQ X.fine;have e3:=Ye R.good R.jQ X.fine;have hq:=GU D X;have nb:∀q:Bool,bi .neq 4 (B q) (B q)=some (B false):=λq=> by cases q <;> kernel_rfl
  have hle:((m.nodes.take m.nodes.length).map λn=> n.proc.left).sum=m.left:=by rw [zas (zac _)];rfl
  have h6:(i0:Int)+1=((i0+1:Nat):Int):=by omega
  have h7:=wrap_i64 (a:=((i0+1:Nat):Int)) (by omega) (by omega);refine⟨H,?_,R⟩;rw [acZ,hq,hle];simp -implicitDefEqProofs only [xq_,e1,l0,hlt,e2,e3,nb,aW,h6,h7,zae]
 | succ k ih=>
  intro j H hj R;have X:=R.keep;have B_:=pI X.inv.ok;have hn:=B_.nodes;have hl:=X.inv.len;have hF:=X.fine;have e1:=zO R.good R.jQ X.inv.ok;have l0:m.c.av[0]?=some (I m.c.nodes):=rfl;have hlt:(j:Int) < m.c.nodes:=by omega
  obtain⟨n,hnn⟩:∃n,m.nodes[j]?=some n:=⟨_,zab (by omega)⟩
  have NJ:=R.jQ.node j n hnn;have f0:=R.fab;have e2:=Gs R.good R.jQ.fab (by have:=hF.fab;omega) j;have e3:=Jt R.good R.jQ (by omega) (j:Int);rw [if_pos (by omega),zar] at e3;have z1:bi .eql 54 (.ref (A.N j 0) 0 0) zP=some (B false):=by kernel_rfl
  have e4:=RZ R.good NJ.1 (hF.deal _ (zaq hnn));obtain⟨dl,hdl⟩:∃dl:bC,dl=if n.deal.step=0 then bC.zero else n.deal:=⟨_,rfl⟩
  rw [<-hdl] at e4;have hb0:H.base<=H.next:=zay R.base R.good.1
  have cd:(AV.agg dl.av).cells=dl.av:=rfl;have ad:dl.av.all AV.aG=true:=aO _;have l9:dl.av.length=9:=rfl;have R1:=R.new (.blk 0 57 dl.av);have n1:=Jt R1.good R1.jQ (by omega) (j:Int);rw [if_pos (by omega),zar] at n1;have p1:=R1.good.load NJ.1 (i:=1) (x:=.ref (A.N j 2) 0 0) rfl;have ho:=hF.ops _ (zaq hnn);have p2:=BX R1.good NJ.2.2.1 ho.1 ho.2;have w1:=Jp hF j true;have w2:=Jp hF j false;have h9:=wrap_i64 (a:=((m.fab.waiting j true+m.fab.waiting j false:Nat):Int)) (by omega) (by omega);have h8:(m.fab.waiting j true:Int)+(m.fab.waiting j false:Int)=((m.fab.waiting j true+m.fab.waiting j false:Nat):Int):=by omega
  have hz:decide (((m.fab.waiting j true+m.fab.waiting j false:Nat):Int)=0)=decide (m.fab.waiting j true+m.fab.waiting j false=0):=by
   by_cases h:m.fab.waiting j true+m.fab.waiting j false=0
   ·rw [decide_eq_true h,decide_eq_true (by omega)]
   ·rw [decide_eq_false h,decide_eq_false (by omega)]
  have h6:(j:Int)+1=((j+1:Nat):Int):=by omega
  have h7:=wrap_i64 (a:=((j+1:Nat):Int)) (by omega) (by omega);have lt1:=NY X j (by omega);have lt2:=NY X (j+1) (by omega);have hs:((m.nodes.take j).map λn=> n.proc.left).sum+n.proc.left=((m.nodes.take (j+1)).map λn=> n.proc.left).sum:=by
   rw [List.take_succ,hnn];simp only [zb3,zbg,zaA,zbC,List.sum_append,zbv,List.sum_nil];omega
  have h10:=wrap_i64 (a:=((m.nodes.take (j+1)).map λn=> n.proc.left).sum) (by omega) (by omega);obtain⟨H1,e,R2⟩:=ih (j+1) (by omega) R1;refine⟨H1,?_,R2⟩;rw [<-e,acZ];have hqs:nU m (decide (m.fab.under=0) && decide (opens m.trace=0)) (j+1)=(nU m (decide (m.fab.under=0) && decide (opens m.trace=0)) j && (decide (m.fab.waiting j true+m.fab.waiting j false=0) && decide (n.deal.step=0))):=by
   rw [nU,abQ hnn]
  rw [hqs];have bj:IntKind.wrap .i64 ((m.fab.waiting j true:Int)+(m.fab.waiting j false:Int))=((m.fab.waiting j true+m.fab.waiting j false:Nat):Int):=by rw [h8,h9]
  cases hq:nU m (decide (m.fab.under=0) && decide (opens m.trace=0)) j with
  | false=>
   simp -implicitDefEqProofs only [Nat.reduceAdd,setAt,xq_,hq_,e1,l0,hlt,f0,e2,e3,z1,e4,cd,ad,l9,hb0,n1,p1,p2,aW,hs,h10,h6,h7,zaN]
  | true=>
   by_cases hw:m.fab.waiting j true+m.fab.waiting j false=0
   ·have hwT:decide (m.fab.waiting j true+m.fab.waiting j false=0)=true:=decide_eq_true hw;rw [hwT] at hz;by_cases hd:n.deal.step=0
    ·simp -implicitDefEqProofs only [Nat.reduceAdd,setAt,xq_,hq_,e1,l0,hlt,f0,e2,e3,z1,e4,cd,ad,l9,hb0,n1,p1,p2,aW,hs,h10,h6,h7,bj,hz,hwT,hd,zae,zak]
    ·simp -implicitDefEqProofs only [Nat.reduceAdd,setAt,xq_,hq_,e1,l0,hlt,f0,e2,e3,z1,e4,cd,ad,l9,hb0,n1,p1,p2,aW,hs,h10,h6,h7,bj,hz,hwT,hd,zaK,zae,zak]
   ·have hwF:decide (m.fab.waiting j true+m.fab.waiting j false=0)=false:=decide_eq_false hw;rw [hwF] at hz;simp -implicitDefEqProofs only [Nat.reduceAdd,setAt,xq_,hq_,e1,l0,hlt,f0,e2,e3,z1,e4,cd,ad,l9,hb0,n1,p1,p2,aW,hs,h10,h6,h7,bj,hz,hwF,zaK,zaN]
theorem NZ(x y:AV)(i0:Nat){es:List Evn}(hes:es.length<=1000)(hy:∀H':aj,aF H' y 4 es.length (es.flatMap Evn.av)):
  ∀(k j:Nat) {H:aj},j+k=es.length->JK b H g A m T->
  ∃H1,FZ cl [x,.ref A.jQ 0 0,I i0,I (opens (es.take j)),y,I es.length,I j] H=FZ cl [x,.ref A.jQ 0 0,I i0,I (opens es),y,I es.length,I es.length] H1/\JK b H1 g A m T:=by
 intro k
 induction k with
 | zero=>
  intro j H hj R;obtain rfl:j=es.length:=by omega
  rw [zas (zac _)];exact⟨H,rfl,R⟩
 | succ k ih=>
  intro j H hj R;have hlt:(j:Int) < es.length:=by omega
  obtain⟨e,he⟩:∃e,es[j]?=some e:=⟨_,zab (by omega)⟩
  have x1:=(hy H).ix (k:=.i64) (i:=(j:Int)) (by omega) (by omega);rw [zar] at x1;have x2:=jG (enc:=Evn.av) (m:=4) (λ_=> rfl) (hy H) he;have hb0:H.base<=H.next:=zay R.base R.good.1
  have R1:=R.new (.blk 0 51 e.av);have h6:(j:Int)+1=((j+1:Nat):Int):=by omega
  have h7:=wrap_i64 (a:=((j+1:Nat):Int)) (by omega) (by omega);have ce:(AV.agg e.av).cells=e.av:=rfl;have le4:e.av.length=4:=rfl;have hev:e.av=[I e.node,I e.index,B e.done,I e.value]:=rfl;have all:=wz e;have ho:opens (es.take (j+1))=opens (es.take j)+(if e.done then -1 else 1):=by
   unfold opens;rw [List.take_succ,he];simp only [zb3,zbg,zaA,zbC,List.sum_append,zbv,List.sum_nil];omega
  have hbd:∀n,n<=es.length->-1000<=opens (es.take n)/\opens (es.take n)<=1000:=λn hn=> by
   rw [JG];have h1:(es.take n).length<=1000:=by rw [zat];omega
   have h2:dn (es.take n)<=(es.take n).length:=zb1 _ _;omega
  have w1:=hbd (j+1) (by omega);obtain⟨H1,eq,R2⟩:=ih (j+1) (by omega) R1;refine⟨H1,?_,R2⟩;rw [<-eq,acY,ho];cases hd:e.done with
  | true=>
   rw [ho,hd] at w1;simp only [if_true] at w1;have h8:=wrap_i64 (a:=opens (es.take j) - 1) (by omega) (by omega);have h9:opens (es.take j)+ -1=opens (es.take j) - 1:=by omega
   rw [hev,hd] at x2;simp -implicitDefEqProofs only [Int.reduceNeg,Nat.reduceAdd,setAt,xq_,hq_,hlt,x1,x2,hev,hd,hb0,jq,h8,h9,QY,aW,h6,h7]
  | false=>
   rw [ho,hd] at w1;simp only [zah,if_false] at w1;have h8:=wrap_i64 (a:=opens (es.take j)+1) (by omega) (by omega);rw [hev,hd] at x2;simp -implicitDefEqProofs only [Int.reduceNeg,Nat.reduceAdd,setAt,xq_,hq_,hlt,x1,x2,hev,hd,hb0,h8,QY,aW,h6,h7]
theorem UU {x:AV}{cs:List Cho}(Y:aF aj.empty x 4 cs.length (cs.flatMap Cho.av))(wf:∀c∈cs,c.In):
  ∀(k i:Nat) {H:aj} {g:Store} {m:dV},i+k=min cs.length 60->JK b H g A m i->DnM m->
  ∃H',LH cl [x,.ref A.jQ 0 0,I i] H=some (B true,H'):=by
 intro k
 induction k with
 | zero=>
  intro i H g m hi R D;have ln:=(Zg Y H).lnS;have wk:=λH=> agv H;refine⟨H,?_⟩;rw [acX];by_cases hlt:(i:Int) < cs.length
  ·have h60:¬(i:Int) < 60:=by omega
   simp -implicitDefEqProofs only [xq_,ln,hlt,h60,wk]
  ·simp -implicitDefEqProofs only [xq_,ln,hlt,wk]
 | succ k ih=>
  intro i H g m hi R D;have X:=R.keep;have f0:=R.fab;have ln:=(Zg Y H).lnS;have hlt:(i:Int) < cs.length:=by omega
  have h60:(i:Int) < 60:=by omega
  obtain⟨c,hc⟩:∃c,cs[i]?=some c:=⟨_,zab (by omega)⟩
  obtain⟨x1,x2⟩:=abM Y H hc;have Gg:=R.good.guard;have e1:=zO Gg R.jQ X.inv.ok;have e2:=NU Gg R.jQ X;have e3:=abO H X c;have l0:m.c.av[0]?=some (I m.c.nodes):=rfl;obtain⟨i1,i2,i3,i4⟩:=abP X (wf c (zaq hc));obtain⟨K2,g2,e4,R2,O2,S2⟩:=R.do_ (by omega) (oh c m.c.nodes m.fab.under) i1 i2 i3 i4;have D2:=D.do_ X.inv (oh c m.c.nodes m.fab.under) R2.keep.inv;generalize (m.do_ (oh c m.c.nodes m.fab.under)).1=m2 at*;have X2:=R2.keep;have f1:=R2.trace;obtain⟨y,e5,hy⟩:=PN R2.good R2.jQ.trace (by have:=evs_le X2.inv;omega);have ly:=(hy K2).lnS;obtain⟨K3,q1,R3⟩:=NZ x y i (evs_le X2.inv) hy m2.trace.length 0 (by omega) R2;have z0:((0:Nat):Int)=0:=rfl;rw [z0,show opens (m2.trace.take 0)=0 from rfl] at q1;obtain⟨K4,q2,R4⟩:=Qd x i D2 (H':=H) (r:=x) (by omega) m2.nodes.length 0 (by omega) R3;obtain⟨H',e⟩:=ih (i+1) (by omega) R4 D2;have f3:=R3.fab;have e6:=NU R3.good R3.jQ X2;refine⟨H',?_⟩;rw [acX];have hz:decide ((m2.fab.under:Int)=0)=decide (m2.fab.under=0):=by simp
  have aoN:¬((m2.trace.length:Nat):Int) < m2.trace.length:=by omega
  have q3:FZ cl [x,.ref A.jQ 0 0,I i,I (opens m2.trace),y,I m2.trace.length,I m2.trace.length] K3=some (B true,H'):=by
   rw [<-e,<-q2,acY];have t0:((m2.nodes.take 0).map λn=> n.proc.left).sum=0:=rfl;rw [t0,z0,show nU m2 (decide (m2.fab.under=0) && decide (opens m2.trace=0)) 0=(decide (m2.fab.under=0) && decide (opens m2.trace=0)) from rfl];cases hu:decide (m2.fab.under=0) with
   | true=>
    rw [hu] at hz;simp -implicitDefEqProofs only [xq_,aoN,f3,e6,hz,zaK]
   | false=>
    rw [hu] at hz;simp -implicitDefEqProofs only [xq_,aoN,f3,e6,hz,zaN]
  rw [q3] at q1;simp -implicitDefEqProofs only [xq_,ln,hlt,h60,x1,x2,e1,l0,f0,e2,e3,e4,f1,e5,ly,q1]
end
theorem AA {s:jA}{zi zw zk za zv:List Int}(h:s.Ok zi zw zk za zv)(hi:aF aj.empty s.init 1 zi.length (zi.map I))(hw:aF aj.empty s.who 1 zw.length (zw.map I))(hk:aF aj.empty s.kinds 1 zk.length (zk.map I))(ha:aF aj.empty s.jm 1 za.length (za.map I))(hv:aF aj.empty s.values 1 zv.length (zv.map I))
  (hc:s.init.aG=true/\s.who.aG=true/\s.kinds.aG=true/\s.jm.aG=true/\s.values.aG=true) {x:AV} {cs:List Cho} (Y:aF aj.empty x 4 cs.length (cs.flatMap Cho.av)) (wf:∀c∈cs,c.In):
  ∃H',cl 3 [.agg s.cells,x] aj.empty=some (B true,H'):=by
 have Z:Args s zi zw zk za zv:=⟨h,hi,hw,hk,ha,hv,hc⟩
 have hall:s.cells.all AV.aG=true:=by
  simp only [jA.cells,List.all_cons,List.all_nil,hc,Bool.and_true];rfl
 let H1:=aj.empty.new (.blk 0 24 s.cells);let c:=s.cfg zi;let ps:=mO c zw zk za zv 14;obtain⟨H2,A,q,f,N,g,mid,b,e1,B1,hb,S1,X,hop⟩:=agx Z H1 (zaT _) (mo:=14) (by decide) (c:=c) (ps:=ps) rfl rfl;have R:JK b H2 g A (.new c ps) 0:=⟨B1.good,B1.base,B1.jQ,X⟩
 have e2:=Jq R.good R.jQ X.fine;have hq:(dV.new c ps).quiet=true:=by
  rw [<-GU (DnM.new c ps) X,wM];have h1:(dV.new c ps).fab.under=0:=by
   unfold Fab.under Fab.all;rw [List.length_eq_zero_iff,List.flatMap_eq_nil_iff];intro p hp;simp only [dV.new,Fab.new,List.mem_replicate] at hp;rw [hp.2];rfl
  have h2:opens (dV.new c ps).trace=0:=rfl;rw [decide_eq_true h1,decide_eq_true h2,zaK,zaK,zaV];intro i hi;have hw:∀req,(dV.new c ps).fab.waiting i req=0:=λreq=> by
   unfold Fab.waiting;split
   ·have:(dV.new c ps).fab.port i=.zero:=by
     unfold Fab.port;simp only [dV.new,Fab.new,zaw,zbl];split <;> rfl
    rw [this];cases req <;> rfl
   ·rfl
  unfold idleB;split
  ·rename_i n hn;simp only [dV.new,za5,zbi] at hn;obtain⟨l,hl,rfl⟩:=hn;rw [hw,hw];rfl
  ·rfl
 rw [hq] at e2;obtain⟨H',e⟩:=UU Y wf (min cs.length 60) 0 (by omega) R (DnM.new c ps);have z0:((0:Nat):Int)=0:=rfl;have z14:((14:Nat):Int)=14:=rfl;rw [z0] at e;rw [z14] at e1;have ls:s.cells.length=12:=rfl;have lt:s.cells.take 12=s.cells:=rfl;have en:bi .eql 26 (.ref A.jQ 0 0) zP=some (B false):=by kernel_rfl
 refine⟨H',aN rfl rfl (ao2 _ _ _ _ ?_)⟩;simp only [H1] at e1;simp -implicitDefEqProofs only [Nat.reduceLT,xq_,hq_,aoB,aA hall,ls,lt,e1,en,e2,zae,e]
end
end Go.Proofs.YthmoogcacpmjiaaGreat
