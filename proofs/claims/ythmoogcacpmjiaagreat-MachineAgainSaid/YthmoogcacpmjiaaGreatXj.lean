/-
  Own work: an interpreter over named blocks, its soundness, and what the functions of this seat compute (part 10 of 11).
  Conditions: those of the statement alone.
-/
import Derived.Test.YthmoogcacpmjiaaGreatXi
set_option linter.all false
set_option linter.unusedSectionVars false
set_option linter.unusedVariables false
set_option linter.unusedSimpArgs false
namespace Go.Proofs.YthmoogcacpmjiaaGreat
noncomputable section
def Node.evs(n:Node):Nat:=2*n.proc.values.length+(if n.proc.begun then 1 else 0)
theorem Zg {c:Cfg}{d:bF}(h:d.data=[]∨lY c d.data)(me home:Int):(d.ask me home).ok=true->vI c (d.ask me home):=by
 intro hk;have num:∀v∈d.data,I64 v:=by
  rcases h with h | h
  ·rw [h];intro v hv;cases hv
  ·exact h.2
 refine⟨hk,?_,?_⟩
 ·unfold bF.ask
  repeat' split
  all_goals (simp [Pkt.zero])
 ·unfold bF.ask
  repeat' split
  all_goals first | exact num | (intro v hv;cases hv)
theorem GY {c:Cfg}{me:Int}{h:Home}{r:eF}(S:EP c me h r)(hr:∀e∈h.rows,lY c e.2.data){line:Int}(hl:lG c me line=true)(who id:Int):(granted h.rows me line who id).ok=true->vI c (granted h.rows me line who id):=by
 intro hk;obtain⟨row,h1,_⟩:=S.rows line hl;have hd:lY c (rowOf h.rows line).data:=by
  unfold rowOf;rw [h1];exact hr _ (oP h1)
 exact⟨hk,λ_=> hd,hd.2⟩
theorem vk {c:Cfg}{p:Pkt}(hd:p.data=[])(hk:¬(p.kind=7∨p.kind=9)):p.ok=true->vI c p:=λh=> ⟨h,λe=> absurd e hk,by rw [hd];intro v hv;cases hv⟩
theorem abT {c:Cfg}{rows:Rows}(hr:∀e∈rows,lY c e.2.data){line state head:Int}{data:List Int}(hd:∀v∈data,I64 v):∀e∈(setRow c rows line state head data).1,lY c e.2.data:=by
 unfold setRow;cases ha:je rows line with
 | none=> exact hr
 | some r=>
  simp only;split
  ·exact hr
  ·split
   ·exact hr
   ·rename_i h1 h2;intro e he;rcases oQ he with rfl | he
    ·simp only;split
     ·exact hr _ (oP ha)
     ·rename_i h0;simp only [zbl,zaj,decide_eq_true_eq,not_or,not_and,Decidable.not_not] at h2;exact⟨h2.2 h0,hd⟩
    ·exact hr e he
theorem Ql {c:Cfg}{me:Int}{h:Home}(hr:∀e∈h.rows,lY c e.2.data){p:Pkt}(hd:∀v∈p.data,I64 v):∀e∈(h.handle c me p).1.rows,lY c e.2.data:=by
 unfold Home.handle;split
 ·exact hr
 split
 ·exact hr
 split
 ·simp only;split <;> exact hr
 ·have key:∀e∈(h.unlock c p).1.rows,lY c e.2.data:=by
   unfold Home.unlock;have hd':∀v∈(if p.flag=true then p.data else []),I64 v:=by
    split
    ·exact hd
    ·intro v hv;cases hv
   generalize (if p.flag=true then p.data else [])=dat at hd' ⊢;split
   ·exact hr
   ·simp only;split
    ·exact abT hr hd'
    ·exact hr
  simp only;split <;> exact key
theorem Zh {c:Cfg}(hc:c.ok=true){me:Int}{h:Home}{r:eF}(S:EP c me h r)(hr:∀e∈h.rows,lY c e.2.data)(p:Pkt):(h.handle c me p).2.1.ok=true->vI c (h.handle c me p).2.1:=by
 unfold Home.handle;have z:Pkt.zero.ok=true->vI c Pkt.zero:=vk rfl (by simp [Pkt.zero]);split
 ·exact z
 rename_i h1;have hl0:0<=p.line:=by
  simp only [zbl,zbi,not_or,Bool.not_eq_false,zaj] at h1;have:=h1.1.1.1;simp only [Pkt.ok,zaj,decide_eq_true_eq] at this;omega
 split
 ·exact z
 rename_i h2;have hh:lG c me p.line=true:=by
  cases e:lG c me p.line with
  | true=> rfl
  | false=> exact absurd ((D9 hc hl0).2 e) h2
 split
 ·simp only;split
  ·exact GY S hr hh _ _
  ·exact z
 ·simp only;split
  ·exact vk rfl (by simp)
  ·exact z
theorem Zi {c:Cfg}{ca:Cache}(I:Bo c ca)(p:Pkt):Bo c (dV ca p).1/\((dV ca p).2.1.ok=true->vI c (dV ca p).2.1)/\(dV ca p).1.clock=ca.clock/\∀(line:Int),c.ok=true->ca.full line=false->(dV ca p).1.full line=false:=by
 unfold dV;have z:Pkt.zero.ok=true->vI c Pkt.zero:=vk rfl (by simp [Pkt.zero]);split
 ·exact⟨I,z,rfl,λ_ _ h=> h⟩
 rename_i h1;cases hf:ca.find p.line with
 | none=> exact⟨I,z,rfl,λ_ _ h=> h⟩
 | some e=>
  obtain⟨he,hl⟩:=(gG I.lines).1 hf;have E:=I.ent e he;simp only [zbl,zbi,not_or,Bool.not_eq_false,decide_eq_true_eq] at h1;have put:∀e':Ent,e'.line=e.line->e'.data=e.data->Bo c (ca.put e').1/\(ca.put e').1.clock=ca.clock/\∀line,ca.full line=false->(ca.put e').1.full line=false:=λe' h2 h3=> by
   have hf':ca.find e'.line=some e:=by rw [h2,hl];exact hf
   refine⟨I.put (by rw [h2];exact E.lo) (by rw [h2];exact E.hi) (by rw [h3];exact E.dat),by rw [kT I.lines (by rw [h2];exact E.lo) hf'],λline h=> ?_⟩;rw [aaK I.lines (by rw [h2];exact E.lo) hf'];exact h
  simp only;split
  ·rename_i k;have u:=put { e with dirty:=false,back:=p.ptr } rfl rfl;exact⟨u.1,λh=> ⟨h,λ_=> E.dat,E.dat.2⟩,u.2.1,λl _ h=> u.2.2 l h⟩
  split
  ·rename_i k;have u:=put { e with fwd:=p.ptr } rfl rfl;exact⟨u.1,vk rfl (by simp only [k];decide),u.2.1,λl _ h=> u.2.2 l h⟩
  split
  ·rename_i k;have u:=put { e with back:=p.ptr } rfl rfl;exact⟨u.1,vk rfl (by simp only [k];decide),u.2.1,λl _ h=> u.2.2 l h⟩
  ·exact⟨I.drop _,λh=> ⟨h,λ_=> E.dat,E.dat.2⟩,zT _ _,λl hc h=> WS hc I h⟩
structure Both(c:Cfg)(me:Int)(n:Node)(t:List Evn)(A:NFT)(B:aiu):Prop where
 sim:NS c me A.1 B.1
 eq:B.2=A.2
 inv:Rh c me A.1
 fab:sQ c A.2.1
 evs:A.2.2.length+n.evs=t.length+A.1.evs
theorem Eff.evs {c:Cfg}{me:Int}{n:Node}{r:dD}{t:List Evn}{A:NT}{B:RNT}(E:Eff c me n r t A B)(hb:n.proc.begun=true):A.2.length+n.evs=t.length+A.1.evs:=by
 have h1:A.1.proc=⟨n.proc.ops,n.proc.values++[A.2.getLast?.elim 0 (·.value)],false⟩:=by rw [E.JO]
 have h2:=E.len;unfold Node.evs;rw [h1,hb];simp only [zaq,zak,zat,if_true,zai,if_false];omega
theorem NR {c:Cfg}(hc:c.ok=true){me:Int}{n:Node}{r:dD}(S:NS c me n r)(I:Rh c me n){f:Fab}(F:sQ c f)(t:List Evn){p:Pkt}(Q:vI c p):
  Both c me n t (n.answered c me f t p) (r.answered c me f t p):=by
 have hsame:Both c me n t (n,f,t) (r,f,t):=⟨S,rfl,I,F,rfl⟩
 unfold Node.answered dD.answered;rw [uJ];by_cases hs:n.deal.step=0
 ·have hh:r.has=false:=by rw [S.sim.has,hs];rfl
  have hf:n.deal.fits p=false:=by
   unfold bF.fits;rw [hs];simp [Oh,IE]
  rw [yF hf,if_pos hh];simp only [oD,if_true];exact hsame
 have hh:r.has=true:=by rw [S.sim.has];simp [hs]
 have hd:r.deal=n.deal:=by rw [S.sim.deal,if_neg hs]
 obtain⟨c1,c2⟩:=aaJ S.cs n.deal me p;rw [if_neg (by rw [hh];simp),hd];have D:=I.deal hs;cases hA:vT n.deal me n.cache p with
 | mk ca dk=>
  obtain⟨d,ok⟩:=dk;cases hB:WL n.deal me r.cache p with
  | mk rc rk=>
   rw [hA,hB] at c1 c2;simp only at c1 c2;subst c2;simp only;cases ok with
   | false=>
    simp only [if_true];have e1:ca=n.cache:=by
     cases hfit:n.deal.fits p with
     | false=> rw [yF hfit] at hA;simp only [oD,zad] at hA;exact hA.1.symm
     | true=>
      have:ca=n.cache:=by
       unfold vT at hA
       repeat' split at hA
       ·unfold bV at hA
        repeat' split at hA
        all_goals (simp only [oD,zad,zbS,and_false] at hA)
        all_goals exact hA.1.symm
       ·unfold bW at hA
        repeat' split at hA
        all_goals (simp only [oD,zad,zbS,and_false] at hA)
        all_goals exact hA.1.symm
       ·unfold dn at hA;split at hA
        ·simp only [oD,zad] at hA;exact hA.1.symm
        ·split at hA
         ·exfalso;cases hfd:n.cache.find n.deal.line with
          | none=> simp [hfd] at hA
          | some e=>
           simp only [hfd] at hA
           repeat' split at hA
           all_goals simp at hA
         ·unfold fU at hA
          repeat' split at hA
          all_goals (simp only [oD,zad,zbS,and_false] at hA)
          all_goals exact hA.1.symm
       ·simp only [oD,zad] at hA;exact hA.1.symm
      exact this
    subst e1;have S':NS c me n { r with cache:=rc,deal:=n.deal }:=NS.of c1 S.hs S.sim.ops S.sim.values S.sim.begun S.sim.has (by simp [hs]) S.sim.num;exact⟨S',rfl,I,F,rfl⟩
   | true=>
    simp only [zbS,if_false];have N:=Tn I.cache D hs Q hA;have kd:=D.kind;by_cases h0:d.step=0
    ·rw [if_pos h0,if_pos h0];rcases N.way with⟨w1,_,w3⟩ | ⟨w1,_⟩
     rotate_left
     ·exact absurd h0 w1
     subst w3;have hI:Rh c me { n with deal:=d }:=⟨I.proc,I.cache,I.rows,I.home,λh=> absurd h0 h,I.clk⟩
     have S':NS c me { n with deal:=d } { r with cache:=rc,has:=false,deal:=.zero }:=NS.of c1 S.hs S.sim.ops S.sim.values S.sim.begun (by simp [h0]) (by simp [h0]) S.sim.num;have hcur:r.ops[r.values.length]?=n.proc.cur:=by rw [S.sim.ops,S.sim.values];rfl
     try simp only
     rw [hcur];by_cases k3:d.kind=3
     ·have hb:=D.roll (by rw [<-N.kind];exact k3);have hlt:=I.proc.begun hb;obtain⟨o,ho⟩:∃o,n.proc.cur=some o:=⟨_,zab hlt⟩
      have hop:n.proc.op=o:=by unfold Proc.op;rw [ho];rfl
      have hrb:r.begun=true:=by rw [S.sim.begun];exact hb
      rw [ho];simp only [hop,hrb,k3,true_and];by_cases k4:o.kind=4
      ·rw [if_pos k4,if_pos k4];have hidx:n.proc.idx=n.proc.values.length:=by unfold Proc.idx;rw [ho]
       simp only [Node.done,dD.done,Proc.ZL,hb,if_true,hidx,S.sim.values];refine⟨NS.of c1 S.hs S.sim.ops rfl rfl (by simp [h0]) (by simp [h0]) S.sim.num,rfl,⟨⟨I.proc.most,I.proc.right,by simp only [zaq,zak,zat];omega,λh=> by cases h⟩,I.cache,I.rows,I.home,λh=> absurd h0 h,?_⟩,F,?_⟩
       ·have:=I.clk;simp only [zaq,zak,zat];omega
       ·simp only [Node.evs,hb,if_true,zaq,zak,zat,zai,if_false];omega
      ·rw [if_neg k4,if_neg k4];exact⟨NS.of c1 S.hs S.sim.ops S.sim.values hb.symm (by simp [h0]) (by simp [h0]) S.sim.num,rfl,hI,F,rfl⟩
     ·rw [if_neg (by simp [k3])];have hnb:=D.rest (by rw [<-N.kind];exact k3) w1;have hrb:r.begun=false:=by rw [S.sim.begun];exact hnb
      cases hcu:n.proc.cur with
      | none=> exact⟨S',rfl,hI,F,rfl⟩
      | some o=>
       simp only [hrb,zai,false_and,if_false];exact⟨NS.of c1 S.hs S.sim.ops S.sim.values hnb.symm (by simp [h0]) (by simp [h0]) S.sim.num,rfl,hI,F,rfl⟩
    ·rw [if_neg h0,if_neg h0];rcases N.way with⟨_,w2,_⟩ | ⟨_,w2,w3⟩
     ·exact absurd w2 h0
     have hl0:0<=d.line:=by rw [N.line];exact D.lo
     have home:c.ig d.line=d.line.tmod c.nodes:=by
      have:=(Gl hc).1;unfold Cfg.ig Ae;rw [if_neg (by omega),zbJ hl0]
     by_cases h6:d.step=6/\d.kind≠3
     ·-- the operation takes effect
      simp only [if_pos h6];have k3:n.deal.kind≠3:=by rw [<-N.kind];exact h6.2
      have W:=D.work k3 w2;obtain⟨o,ho,hol,hk1,hk2⟩:=W.op;have hmem:o∈n.proc.ops:=zau ho;obtain⟨e,he,Zj⟩:∃e,ca.find n.deal.line=some e/\(n.deal.kind=2->e.dirty=true):=by
       rcases w3 k3 with⟨w,_⟩ | ⟨_,w⟩
       ·exact absurd h6.1 w
       ·exact w
      have hop:r.ops.getD r.values.length .zero=o:=by
       rw [S.sim.ops,S.sim.values,zax];have:n.proc.ops[n.proc.values.length]?=some o:=ho;rw [this];rfl
      have E:=GX hc (n:={ n with cache:=ca,deal:=d }) (r:={ r with cache:=rc,deal:=d }) (me:=me) c1 S.sim.values N.inv t ho (I.proc.right o hmem).1 (I.proc.right o hmem).2 W.begun (by rw [hol];exact he) (λhk=> by
       have hk':=D.kind;by_cases e2:n.deal.kind=2
       ·exact Zj e2
       ·have:=hk1 (by omega);omega)
      rw [hop];have hn1:(({ n with cache:=ca,deal:=d }:Node).effect c me t).1.deal=d:=by rw [E.JO]
      have hn2:(({ n with cache:=ca,deal:=d }:Node).effect c me t).1.home=n.home:=by rw [E.JO]
      have hn3:(({ n with cache:=ca,deal:=d }:Node).effect c me t).1.num=n.num:=by rw [E.JO]
      have hn4:(({ n with cache:=ca,deal:=d }:Node).effect c me t).1.proc=⟨n.proc.ops,n.proc.values++[(({ n with cache:=ca,deal:=d }:Node).effect c me t).2.getLast?.elim 0 (·.value)],false⟩:=by rw [E.JO]
      have hn5:(({ n with cache:=ca,deal:=d }:Node).effect c me t).1.cache.clock=ca.clock:=by
       have hop':({ n with cache:=ca,deal:=d }:Node).proc.op=o:=by unfold Proc.op;rw [show({ n with cache:=ca,deal:=d }:Node).proc.cur=some o from ho];rfl
       unfold Node.effect Node.done;simp only [hop'];rw [show ca.find (c.dh o.addr)=some e by rw [hol];exact he];simp only [zay];obtain⟨hem,hel⟩:=(gG N.inv.lines).1 he;rw [kT N.inv.lines (x:=e) (by rw [(kG _ _ _).1];exact(N.inv.ent e hem).lo) (by rw [(kG _ _ _).1,hel];exact he)]
      have hr1:((({ r with cache:=rc,deal:=d }:dD).effect c o).1.done me t (({ r with cache:=rc,deal:=d }:dD).effect c o).2).1.deal=d:=by rw [E.rest]
      have hr2:((({ r with cache:=rc,deal:=d }:dD).effect c o).1.done me t (({ r with cache:=rc,deal:=d }:dD).effect c o).2).1.homes=r.homes:=by rw [E.rest]
      have hr3:((({ r with cache:=rc,deal:=d }:dD).effect c o).1.done me t (({ r with cache:=rc,deal:=d }:dD).effect c o).2).1.num=r.num:=by rw [E.rest]
      have hr4:((({ r with cache:=rc,deal:=d }:dD).effect c o).1.done me t (({ r with cache:=rc,deal:=d }:dD).effect c o).2).1.ops=r.ops:=by rw [E.rest]
      have hr5:((({ r with cache:=rc,deal:=d }:dD).effect c o).1.done me t (({ r with cache:=rc,deal:=d }:dD).effect c o).2).1.values=n.proc.values++[(({ n with cache:=ca,deal:=d }:Node).effect c me t).2.getLast?.elim 0 (·.value)]:=by rw [E.rest]
      have hr6:((({ r with cache:=rc,deal:=d }:dD).effect c o).1.done me t (({ r with cache:=rc,deal:=d }:dD).effect c o).2).1.begun=false:=by rw [E.rest]
      have hr7:((({ r with cache:=rc,deal:=d }:dD).effect c o).1.done me t (({ r with cache:=rc,deal:=d }:dD).effect c o).2).1.has=r.has:=by rw [E.rest]
      have hlt:=I.proc.begun W.begun;have amR:ca.clock<=n.proc.values.length+1:=by
       have:=I.clk;rcases N.clk with h | ⟨_,_,h⟩ <;> omega
      refine⟨NS.of E.sim (by rw [hn2,hr2];exact S.hs) (by rw [hr4,hn4];exact S.sim.ops) (by rw [hr5,hn4]) (by rw [hr6,hn4]) (by rw [hr7,hh,hn1];simp [h0]) (by rw [hr1,hn1,if_neg h0]) (by rw [hr3,hn3];exact S.sim.num),?_,?_,?_,E.evs W.begun⟩
      ·simp only [dD.Pj,Node.Pj,hr1,hn1,E.ev,home]
      ·refine⟨⟨by rw [hn4];exact I.proc.most,by rw [hn4];exact I.proc.right,by rw [hn4];simp only [zaq,zak,zat];omega,by rw [hn4];intro h;cases h⟩,E.inv,by rw [hn2];exact I.rows,by rw [hn2];exact I.home,λ_=> ?_,by rw [hn5,hn4];simp only [zaq,zak,zat];omega⟩;exact⟨by rw [hn1];exact hl0,by rw [hn1,N.line];exact D.hi,by rw [hn1,N.kind];exact D.kind,by rw [hn1];exact N.dat,by rw [hn1];exact N.afq,by rw [hn1];intro h;exact absurd h h6.2,by rw [hn1];intro _ h;exact absurd h6.1 h,by rw [hn4];intro _ _;rfl⟩
      ·simp only [Node.Pj,hn1];exact F.send (Zg N.dat _ _)
     ·simp only [if_neg h6];have S':NS c me { n with cache:=ca,deal:=d } { r with cache:=rc,deal:=d }:=NS.of c1 S.hs S.sim.ops S.sim.values S.sim.begun (by simp [h0,hh]) (by simp [h0]) S.sim.num;refine⟨S',?_,⟨I.proc,N.inv,I.rows,I.home,λ_=> ⟨hl0,by rw [N.line];exact D.hi,by rw [N.kind];exact D.kind,N.dat,N.afq,λh=> D.roll (by rw [<-N.kind];exact h),λk3 k6=> ?_,λk3 k6=> absurd ⟨k6,k3⟩ h6⟩,?_⟩,F.send (Zg N.dat _ _),rfl⟩
      ·simp only [dD.Pj,Node.Pj,home]
      ·have k3':n.deal.kind≠3:=by rw [<-N.kind];exact k3
       have W:=D.work k3' w2;rcases w3 k3' with⟨_,w⟩ | ⟨w,_⟩
       ·subst w;obtain⟨o,ho,hol,hk1,hk2⟩:=W.op;exact⟨W.begun,⟨o,ho,by rw [hol];exact N.line.symm,by rw [N.kind];exact hk1,by rw [N.kind];exact hk2⟩,by simp only;rw [N.line];exact W.full⟩
       ·exact absurd w k6
      ·have:=I.clk;rcases N.clk with h | ⟨k3,k6,_⟩
       ·simp only;omega
       ·exact absurd ⟨k6,by rw [N.kind];exact k3⟩ h6
theorem Zk {c:Cfg}(hc:c.ok=true){line:Int}(h:0<=line):c.ig line=line.tmod c.nodes:=by
 have:=(Gl hc).1;unfold Cfg.ig Ae;rw [if_neg (by omega),zbJ h]
theorem yG {c:Cfg}(hc:c.ok=true){me:Int}{n:Node}{r:dD}(S:NS c me n r)(I:Rh c me n){f:Fab}(F:sQ c f)(t:List Evn){k l:Int}(hk:1<=k/\k<=3)(h0:0<=l)(h1:l < c.lines)(hb:n.proc.begun=true)
  (hw:k≠3->(∃o,n.proc.cur=some o/\c.dh o.addr=l/\(k=1->o.kind=1)/\(k=2->o.kind=2∨o.kind=3))/\n.cache.full l=false):
  Both c me n t ((n.begin_ c me f k l).1,(n.begin_ c me f k l).2,t) ((r.begin_ c me f k l).1,(r.begin_ c me f k l).2,t):=by
 unfold Node.begin_ dD.begin_;have hs:(bF.begin k l n.num).step≠0:=by show(1:Int)≠0;decide
 simp only [S.sim.num];refine⟨NS.of S.cs S.hs S.sim.ops S.sim.values S.sim.begun (by simp [bF.begin]) (by simp [bF.begin]) rfl,?_,⟨I.proc,I.cache,I.rows,I.home,λ_=> ?_,I.clk⟩,F.send (Zg (.inl rfl) _ _),rfl⟩
 ·simp only [dD.Pj,Node.Pj,bF.begin];rw [Zk hc h0]
 ·refine⟨h0,h1,hk,.inl rfl,λ_ h=> absurd h (by simp [bF.begin]),λ_=> hb,λk3 _=> ?_,λ_ h=> absurd h (by simp [bF.begin])⟩;obtain⟨⟨o,q1,q2,q3,q4⟩,q5⟩:=hw k3;exact⟨hb,⟨o,q1,q2,q3,q4⟩,q5⟩
theorem vw {ca:Cache}(hl:Lines ca.l){line:Int}{e:Ent}(h:ca.find line=some e):(ca.touch line).find line=some { e with used:=ca.clock+1 }:=by
 obtain⟨he,hel⟩:=(gG hl).1 h;rw [xK hl h];unfold Cache.find;rw [gG (xQ hl λy _=> by
  split
  ·rename_i h;rw [h];exact hel
  ·rfl)]
 exact⟨zaN.2 ⟨e,he,by rw [if_pos hel]⟩,hel⟩
theorem EM {ca:Cache}(hl:Lines ca.l){line:Int}{e:Ent}(h:ca.find line=some e):(ca.touch line).clock=ca.clock+1:=by rw [xK hl h]
theorem abU {c:Cfg}(hc:c.ok=true){me:Int}{n:Node}{r:dD}(S:NS c me n r)(I:Rh c me n){f:Fab}(F:sQ c f)(t:List Evn){o:Opn}(ho:n.proc.cur=some o)(hd:n.deal.step=0):
  Both c me n t (n.work c me f t o) (r.work c me f t o):=by
 have hmem:o∈n.proc.ops:=zau ho;have hlt:n.proc.values.length < n.proc.ops.length:=(zaf.1 ho).1;have R:=I.proc.right o hmem;have O:=apG hc R.1
 -- it has begun
 let n1:Node:={ n with proc:={ n.proc with begun:=true } }
 let r1:dD:={ r with begun:=true }
 have S1:NS c me n1 r1:=NS.of S.cs S.hs S.sim.ops S.sim.values rfl S.sim.has S.sim.deal S.sim.num;have I1:Rh c me n1:=⟨⟨I.proc.most,I.proc.right,I.proc.vals,λ_=> hlt⟩,I.cache,I.rows,I.home,λh=> absurd hd h,I.clk⟩
 have ho1:n1.proc.cur=some o:=ho;have hb1:n1.proc.begun=true:=rfl;have hop:n1.proc.op=o:=by unfold Proc.op;rw [ho1];rfl
 have hidx:n1.proc.idx=n.proc.values.length:=by unfold Proc.idx;rw [ho1]
 obtain⟨t1,ht1⟩:∃t1,t1=if n.proc.begun then t else t++[⟨me,n.proc.values.length,false,0⟩]:=⟨_,rfl⟩
 have ht1':(if r.begun=true then t else t++[(⟨me,r.values.length,false,0⟩:Evn)])=t1:=by rw [ht1,S.sim.begun,S.sim.values]
 have hev:t1.length+n.evs=t.length+n1.evs:=by
  rw [ht1];unfold Node.evs;show _=t.length+(2*n.proc.values.length+(if true=true then 1 else 0))
  cases n.proc.begun
  ·simp only [zai,if_false,zaq,zak,zat,if_true];omega
  ·simp only [if_true]
 have lift:∀{A:NFT} {B:aiu},Both c me n1 t1 A B->Both c me n t A B:=λ{A B} h=> ⟨h.sim,h.eq,h.inv,h.fab,by have:=h.evs;omega⟩
 have hfind:r.cache.find (o.addr.tdiv c.words)=n.cache.find (c.dh o.addr):=by rw [S.cs.find,O.line]
 have hfull:(n.cache.find (c.dh o.addr)=none/\0<=o.addr.tdiv c.words/\r.cache.ways<=((r.cache.mD (o.addr.tdiv c.words)).length:Int))↔n.cache.full (c.dh o.addr)=true:=by
  unfold Cache.full;rw [S.sim.ways,S.cs.count,<-O.line];simp only [zaj,decide_eq_true_eq,Option.isNone_iff_eq_none];exact⟨λh=> ⟨h.1,h.2.2⟩,λh=> ⟨h.1,O.lo,h.2⟩⟩
 unfold Node.work dD.work
 dsimp only
 rw [<-ht1,ht1',hfind];by_cases c1:o.kind=4/\n.cache.find (c.dh o.addr)=none
 ·rw [if_pos c1,if_pos c1];refine lift ?_;simp only [Node.done,dD.done,Proc.ZL,if_true];have hidx':({ n with proc:={ n.proc with begun:=true } }:Node).proc.idx=n.proc.values.length:=hidx;simp only at hidx';rw [hidx',S.sim.values];refine⟨NS.of S.cs S.hs S.sim.ops rfl rfl S.sim.has S.sim.deal S.sim.num,rfl,⟨⟨I.proc.most,I.proc.right,by simp only [zaq,zak,zat];omega,λh=> by cases h⟩,I.cache,I.rows,I.home,λh=> absurd hd h,?_⟩,F,?_⟩
  ·have:=I.clk;simp only [zaq,zak,zat];omega
  ·simp only [Node.evs,n1,if_true,zaq,zak,zat,zai,if_false];omega
 rw [if_neg c1,if_neg c1];by_cases c2:o.kind=4
 ·rw [if_pos c2,if_pos c2,<-O.line];exact lift (yG hc S1 I1 F t1 ⟨by decide,by decide⟩ O.lo O.hi hb1 λh=> absurd rfl h)
 rw [if_neg c2,if_neg c2];by_cases c3:(n.cache.find (c.dh o.addr)).isSome=true/\(o.kind=1∨((n.cache.find (c.dh o.addr)).getD .zero).dirty=true)
 ·rw [if_pos c3,if_pos c3];obtain⟨e,he⟩:=Option.isSome_iff_exists.1 c3.1;have Zj:o.kind=2∨o.kind=3->e.dirty=true:=λh=> by
   rcases c3.2 with h' | h'
   ·omega
   ·rw [he] at h';exact h'
  have E:=GX hc (n:={ n1 with cache:=n.cache.touch (c.dh o.addr) }) (r:={ r1 with cache:=r.cache.touch (c.dh o.addr) }) (me:=me) (S.cs.touch he) S.sim.values (I.cache.touch he) t1 ho1 R.1 R.2 hb1 (vw I.cache.lines he) (λh=> Zj h);have hev2:=E.evs hb1;have hn5:(({ n1 with cache:=n.cache.touch (c.dh o.addr) }:Node).effect c me t1).1.cache.clock=n.cache.clock+1:=by
   unfold Node.effect Node.done;have hop':({ n1 with cache:=n.cache.touch (c.dh o.addr) }:Node).proc.op=o:=hop;simp only [hop'];rw [vw I.cache.lines he];simp only [zay];have T:=I.cache.touch he;have hem:=(gG T.lines).1 (vw I.cache.lines he);rw [kT T.lines (x:={ e with used:=n.cache.clock+1 }) (by rw [(kG _ _ _).1];exact(T.ent _ hem.1).lo) ((congrArg (n.cache.touch (c.dh o.addr)).find (((kG _ _ _).1).trans hem.2)).trans (vw I.cache.lines he))];exact EM I.cache.lines he
  refine lift ?_;rw [<-O.line];have hn1:(({ n1 with cache:=n.cache.touch (c.dh o.addr) }:Node).effect c me t1).1.deal=n.deal:=by rw [E.JO]
  have hn2:(({ n1 with cache:=n.cache.touch (c.dh o.addr) }:Node).effect c me t1).1.home=n.home:=by rw [E.JO]
  have hn3:(({ n1 with cache:=n.cache.touch (c.dh o.addr) }:Node).effect c me t1).1.num=n.num:=by rw [E.JO]
  have hn4:(({ n1 with cache:=n.cache.touch (c.dh o.addr) }:Node).effect c me t1).1.proc=⟨n.proc.ops,n.proc.values++[(({ n1 with cache:=n.cache.touch (c.dh o.addr) }:Node).effect c me t1).2.getLast?.elim 0 (·.value)],false⟩:=by rw [E.JO]
  refine⟨NS.of E.sim (by rw [hn2,E.rest];exact S.hs) (by rw [hn4,E.rest];exact S.sim.ops) (by rw [hn4,E.rest]) (by rw [hn4,E.rest]) (by rw [hn1,E.rest];exact S.sim.has) (by rw [hn1,E.rest];exact S.sim.deal) (by rw [hn3,E.rest];exact S.sim.num),?_,⟨⟨by rw [hn4];exact I.proc.most,by rw [hn4];exact I.proc.right,by rw [hn4];simp only [zaq,zak,zat];omega,by rw [hn4];intro h;cases h⟩,E.inv,by rw [hn2];exact I.rows,by rw [hn2];exact I.home,λh=> absurd (by rw [hn1];exact hd) h,?_⟩,F,hev2⟩
  ·show(f,_)=(f,_)
   rw [E.ev]
  ·have:=I.clk;rw [hn5,hn4];simp only [zaq,zak,zat];omega
 rw [if_neg c3,if_neg c3];by_cases c4:n.cache.full (c.dh o.addr)=true
 ·rw [if_pos c4,if_pos (hfull.2 c4),S.cs.lW I.cache.WQ,<-O.line];have hset:n.cache.mD (c.dh o.addr)≠[]:=by
   intro e;unfold Cache.full at c4;simp only [e,zat,zaj,decide_eq_true_eq] at c4;have:=(Gl hc).2.2.2.2.1;rw [I.cache.ways] at c4;omega
  obtain⟨e,he⟩:∃e,lD (n.cache.mD (c.dh o.addr))=some e:=by
   cases h:n.cache.mD (c.dh o.addr) with
   | nil=> exact absurd h hset
   | cons a l=> exact⟨_,rfl⟩
  have hv:n.cache.lW (c.dh o.addr)=some e.line:=by unfold Cache.lW;rw [he];rfl
  have hem:e∈n.cache.l:=by
   have:=(tZ he).1;unfold Cache.mD at this;exact(zbq.1 this).1
  have E:=I.cache.ent e hem;rw [hv];simp only [zay];exact lift (yG hc S1 I1 F t1 ⟨by decide,by decide⟩ E.lo E.hi hb1 λh=> absurd rfl h)
 rw [if_neg c4,if_neg λh=> c4 (hfull.1 h)];have c4':n.cache.full (c.dh o.addr)=false:=by simpa using c4
 by_cases c5:o.kind=1
 ·rw [if_pos c5,if_pos c5,<-O.line];exact lift (yG hc S1 I1 F t1 ⟨by decide,by decide⟩ O.lo O.hi hb1 λ_=> ⟨⟨o,ho1,rfl,λ_=> c5,λh=> by omega⟩,c4'⟩)
 ·rw [if_neg c5,if_neg c5,<-O.line];have k1:=O.k1;have k4:=O.k4;exact lift (yG hc S1 I1 F t1 ⟨by decide,by decide⟩ O.lo O.hi hb1 λ_=> ⟨⟨o,ho1,rfl,λh=> by omega,λ_=> by omega⟩,c4'⟩)
theorem Zl {c:Cfg}(hc:c.ok=true){me:Int}{n:Node}{r:dD}(S:NS c me n r)(I:Rh c me n){f:Fab}(F:sQ c f)(t:List Evn){p:Pkt}(Q:vI c p):
  Both c me n t ((n.asked c me f p).1,(n.asked c me f p).2,t) ((r.asked c me f p).1,(r.asked c me f p).2,t):=by
 unfold Node.asked dD.asked;by_cases hk:p.kind=1∨p.kind=2
 ·rw [if_pos hk,if_pos hk];obtain⟨h1,h2,h3⟩:=S.hs.handle hc I.home p;have hr:=Ql (c:=c) (me:=me) I.rows Q.num;have hok:=Zh hc S.hs I.rows p;cases hA:n.home.handle c me p with
  | mk h x=>
   cases hB:r.homes.handle c me p with
   | mk rh rx=>
    rw [hA,hB] at h1 h2;rw [hA] at h3 hr hok;simp only at h1 h2 h3 hr hok;subst h2;obtain⟨out,ok,e⟩:=rx;simp only at hok ⊢;refine⟨NS.of S.cs h1 S.sim.ops S.sim.values S.sim.begun S.sim.has S.sim.deal S.sim.num,rfl,⟨I.proc,I.cache,hr,h3,λhs=> ?_,I.clk⟩,?_,rfl⟩
    ·have D:=I.deal hs;exact⟨D.lo,D.hi,D.kind,D.dat,D.afq,D.roll,λa b=> by have W:=D.work a b;exact⟨W.begun,W.op,W.full⟩,D.rest⟩
    ·simp only;split
     ·exact F.send hok
     ·exact F
 ·rw [if_neg hk,if_neg hk];obtain⟨h1,h2⟩:=WO S.cs p;obtain⟨i1,i2,i3,i4⟩:=Zi I.cache p;cases hA:dV n.cache p with
  | mk ca x=>
   cases hB:DW r.cache p with
   | mk rc rx=>
    rw [hA,hB] at h1 h2;rw [hA] at i1 i2 i3 i4;simp only at h1 h2 i1 i2 i3 i4;subst h2;obtain⟨out,e⟩:=rx;simp only at i2 ⊢;refine⟨NS.of h1 S.hs S.sim.ops S.sim.values S.sim.begun S.sim.has S.sim.deal S.sim.num,rfl,⟨I.proc,i1,I.rows,I.home,λhs=> ?_,by simp only;rw [i3];exact I.clk⟩,?_,rfl⟩
    ·have D:=I.deal hs;exact⟨D.lo,D.hi,D.kind,D.dat,D.afq,D.roll,λa b=> by have W:=D.work a b;exact⟨W.begun,W.op,i4 _ hc W.full⟩,D.rest⟩
    ·simp only;split
     ·exact F.send i2
     ·exact F
theorem NU(f:Fab)(i:Int)(req:Bool):(f.take i req).2=none↔f.waiting i req=0:=by
 unfold Fab.take Fab.waiting;split
 ·cases(f.port i).rH req <;> simp
 ·simp
theorem NY {f:Fab}{i:Int}{req:Bool}(h:(f.take i req).2=none):(f.take i req).1=f:=by
 unfold Fab.take at h ⊢;split
 ·rename_i hi;rw [if_pos hi] at h;cases hl:(f.port i).rH req with
  | nil=> rfl
  | cons p l=> rw [hl] at h;cases h
 ·rfl
theorem abV {c:Cfg}(hc:c.ok=true){me:Int}{n:Node}{r:dD}(S:NS c me n r)(I:Rh c me n){f:Fab}(F:sQ c f)(t:List Evn):
  Both c me n t (n.step c me f t).1 (r.step c me f t).1/\(r.step c me f t).2=(n.step c me f t).2:=by
 unfold Node.step dD.step;obtain⟨t1,t2⟩:=F.take me false;cases h1:f.take me false with
 | mk f' x=>
  rw [h1] at t1 t2;cases x with
  | some p=> exact⟨NR hc S I t1 t (t2 p rfl),rfl⟩
  | none=>
   simp only;have hroom:=F.room me false;have aml:=S.hs.ready I.home;rw [aml];by_cases hg:n.home.ready≠[]/\f.roomOf me false≠0
   ·rw [if_pos hg,if_pos (show 0 < f.roomOf me false/\n.home.ready≠[] from⟨by omega,hg.1⟩)];obtain⟨g1,g2,g3⟩:=S.hs.grant I.home;refine⟨⟨NS.of S.cs g1 S.sim.ops S.sim.values S.sim.begun S.sim.has S.sim.deal S.sim.num,by simp only [g2],⟨I.proc,I.cache,?_,g3,λhs=> ?_,I.clk⟩,F.send ?_,rfl⟩,rfl⟩
    ·have:(n.home.grant me).1.rows=n.home.rows:=by
      unfold Home.grant;cases n.home.ready with
      | nil=> rfl
      | cons line l=>
       simp only;cases n.home.turns.next line with
       | mk tt w=> cases w <;> rfl
     simp only;rw [this];exact I.rows
    ·have D:=I.deal hs;exact⟨D.lo,D.hi,D.kind,D.dat,D.afq,D.roll,λa b=> by have W:=D.work a b;exact⟨W.begun,W.op,W.full⟩,D.rest⟩
    ·unfold Home.grant;cases hr:n.home.ready with
     | nil=> exact absurd hr hg.1
     | cons line l=>
      have hm:=(Ea hr).2.2;have hh:lG c me line=true:=by
       obtain⟨e,he,rfl⟩:=zaN.1 hm;exact I.home.here e he
      simp only;cases n.home.turns.next line with
      | mk tt w=>
       cases w with
       | none=> exact vk rfl (by simp [Pkt.zero])
       | some w=> exact GY S.hs I.rows hh _ _
   ·rw [if_neg hg,if_neg (show¬(0 < f.roomOf me false/\n.home.ready≠[]) by rintro⟨a,b⟩;exact hg ⟨b,by omega⟩)];have hw:=NU f me true;obtain⟨u1,u2⟩:=F.take me true;by_cases hr:f.roomOf me false=0∨f.waiting me true=0
    ·have e1:(if f.roomOf me false=0 then(f,none) else f.take me true).2=(none:Option Pkt):=by
      split
      ·rfl
      ·rcases hr with hr | hr
       ·rename_i h;exact absurd hr h
       ·exact hw.2 hr
     rw [if_neg (show¬(0 < f.roomOf me false/\0 < f.waiting me true) by rintro⟨a,b⟩;rcases hr with hr | hr <;> omega)];cases hx:(if f.roomOf me false=0 then(f,none) else f.take me true:Fab × Option Pkt) with
     | mk f2 y=>
      rw [hx] at e1;simp only at e1;subst e1;simp only;have hcur:r.ops[r.values.length]?=n.proc.cur:=by rw [S.sim.ops,S.sim.values];rfl
      rw [hcur];cases hcu:n.proc.cur with
      | none=> exact⟨⟨S,rfl,I,F,rfl⟩,rfl⟩
      | some o=>
       simp only;by_cases hd:n.deal.step=0
       ·have hh:r.has=false:=by rw [S.sim.has];simp [hd]
        rw [if_pos hd,if_pos hh];exact⟨abU hc S I F t hcu hd,rfl⟩
       ·have hh:¬r.has=false:=by rw [S.sim.has];simp [hd]
        rw [if_neg hd,if_neg hh];exact⟨⟨S,rfl,I,F,rfl⟩,rfl⟩
    ·simp only [not_or] at hr;rw [if_neg hr.1,if_pos (show 0 < f.roomOf me false/\0 < f.waiting me true from⟨by omega,by omega⟩)];cases hx:f.take me true with
     | mk f2 y=>
      rw [hx] at hw u1 u2;simp only at hw u1 u2;cases y with
      | none=> exact absurd (hw.1 rfl) hr.2
      | some p=>
       simp only [zay];exact⟨Zl hc S I u1 t (u2 p rfl),by first | trivial | rfl⟩
structure MInv(m:fK):Prop where
 ok:m.c.ok=true
 len:(m.nodes.length:Int)=m.c.nodes
 fab:sQ m.c m.fab
 node:∀(i:Nat) n,m.nodes[i]?=some n->Rh m.c i n
 evs:m.trace.length=(m.nodes.map Node.evs).sum
structure ZO(m:fK)(r:eX):Prop where
 c:r.c=m.c
 len:r.nodes.length=m.nodes.length
 fab:r.fab=m.fab.l
 ev:r.ev=m.trace
 node:∀(i:Nat) n rn,m.nodes[i]?=some n->r.nodes[i]?=some rn->NS m.c i n rn
theorem ZO.sim {m:fK}{r:eX}(S:ZO m r):Sim m r:=⟨S.c,S.len,S.fab,S.ev,λi n rn h1 h2=> (S.node i n rn h1 h2).sim⟩
theorem ZO.adi {m:fK}{r:eX}(S:ZO m r)(I:MInv m):r.adi=m.fab:=by
 unfold eX.adi;rw [S.c,S.fab,<-I.fab.out,<-I.fab.inn]
theorem Zm {α:Type}(f:α->Nat):∀{l:List α} {i:Nat} {a a':α},l[i]?=some a->((l.set i a').map f).sum+f a=(l.map f).sum+f a'
 | [],i,a,a',h=> by simp at h
 | x::l,0,a,a',h=> by
  simp only [za1,zaa] at h;subst h;simp only [List.set_cons_zero,zaC,zck];omega
 | x::l,i+1,a,a',h=> by
  simp only [zbG] at h;have:=Zm f (a':=a') h;simp only [List.set_cons_succ,zaC,zck];omega
theorem Zn {m:fK}{r:eX}(S:ZO m r)(I:MInv m)(i:Int):ZO (m.step i).1 (r.step i).1/\MInv (m.step i).1/\(r.step i).2=(m.step i).2:=by
 unfold fK.step eX.step fK.node;by_cases h0:0<=i
 ·rw [if_pos h0,if_pos h0];cases hn:m.nodes[i.toNat]? with
  | none=>
   have:r.nodes[i.toNat]?=none:=by
    rw [List.getElem?_eq_none_iff] at hn ⊢;rw [S.len];exact hn
   rw [this];exact⟨S,I,rfl⟩
  | some n=>
   have hi:=(zaf.1 hn).1;obtain⟨rn,hr⟩:∃rn,r.nodes[i.toNat]?=some rn:=⟨_,zab (by rw [S.len];exact hi)⟩
   rw [hr];have hii:((i.toNat:Nat):Int)=i:=by omega
   have N:=S.node i.toNat n rn hn hr;have NI:=I.node i.toNat n hn;rw [hii] at N NI;obtain⟨b1,b2⟩:=abV I.ok N NI I.fab m.trace;have hf:=S.adi I;simp only [S.c,hf,S.ev];cases hA:n.step m.c i m.fab m.trace with
   | mk A k=>
    cases hB:rn.step m.c i m.fab m.trace with
    | mk B rk=>
     rw [hA,hB] at b1 b2;simp only at b1 b2;subst b2;obtain⟨n',f',t'⟩:=A;obtain⟨rn',rf',rt'⟩:=B;have he:=b1.eq;simp only [zad] at he;obtain⟨rfl,rfl⟩:=he;refine⟨⟨rfl,by simp only [zbN];exact S.len,rfl,rfl,λj a b ha hb=> ?_⟩,⟨I.ok,by simp only [zbN];exact I.len,b1.fab,λj a ha=> ?_,?_⟩,rfl⟩
     ·simp only at ha hb ⊢;by_cases hj:j=i.toNat
      ·subst hj;rw [zbj hi] at ha;rw [zbj (by rw [S.len];exact hi)] at hb;cases ha;cases hb;rw [hii];exact b1.sim
      ·rw [zbx (λe=> hj e.symm)] at ha hb;exact S.node j a b ha hb
     ·simp only at ha ⊢;by_cases hj:j=i.toNat
      ·subst hj;rw [zbj hi] at ha;cases ha;rw [hii];exact b1.inv
      ·rw [zbx (λe=> hj e.symm)] at ha;exact I.node j a ha
     ·have e1:=Zm Node.evs (a':=n') hn;have e2:=b1.evs;have e3:=I.evs;simp only at e2 ⊢;omega
 ·rw [if_neg h0,if_neg h0];exact⟨S,I,rfl⟩
theorem NZ {m:fK}{r:eX}(S:ZO m r)(I:MInv m)(a b k:Int):ZO (m.deliver a b k).1 (r.deliver a b k).1/\MInv (m.deliver a b k).1/\(r.deliver a b k).2=(m.deliver a b k).2:=by
 unfold fK.deliver eX.deliver;rw [S.adi I];exact⟨⟨S.c,S.len,rfl,S.ev,S.node⟩,⟨I.ok,I.len,I.fab.deliver a b k,I.node,I.evs⟩,rfl⟩
section
variable {b:Nat}{H:aj}{g:Store}{q:Nat}{ca:Cache}
theorem Zo(G:Good b H g)(hb:H.base<=b)(h:g q=some (bC ca))(C:COk ca)(p:Pkt):
  ∃H',cl 165 [.ref q 0 0,.agg p.av] H=some (Vk (dV ca p),H')/\Good b H' (upd g q (bC (dV ca p).1))/\Step b H H':=by
 by_cases hx:(!p.ok || decide (p.kind < 3) || decide (6 < p.kind))=true
 ·exact NM G hb h C p (.inl hx)
 ·cases hf:ca.find p.line with
  | none=> exact NM G hb h C p (.inr hf)
  | some e=> exact abP G hb h C p hx hf
end
theorem fok {c:Cfg}(hc:c.ok=true){f:Fab}(F:sQ c f):FOk c f:=by
 have B:=qx hc;refine⟨hc,by have:=F.len;have:=B.nodes;omega,λp hp s hs=> ?_,λp hp s hs q hq=> ?_⟩
 ·have P:=F.port p hp
  match s,hs with
  | 0,_=> exact P.rq
  | 1,_=> exact P.rin
  | 2,_=> exact P.an
  | 3,_=> exact P.ain
 ·have P:=F.port p hp;have Q:vI c q:=by
   match s,hs with
   | 0,_=> exact P.pkt q (.inl hq)
   | 1,_=> exact P.pkt q (.inr (.inr (.inl hq)))
   | 2,_=> exact P.pkt q (.inr (.inl hq))
   | 3,_=> exact P.pkt q (.inr (.inr (.inr hq)))
  have:=Q.ok;simp only [Pkt.ok,zaj,decide_eq_true_eq] at this;omega
theorem N7 {c:Cfg}{p:Pkt}(Q:vI c p):p.data.length < 1000000000:=by
 have:=Q.ok;simp only [Pkt.ok,zaj,decide_eq_true_eq] at this;omega
structure HSz(h:Home):Prop where
 t:TOk h.turns
 r:∀e∈h.rows,e.2.data.length < 1000000000
theorem N8 {h:Home}(hr:∀e∈h.rows,e.2.data.length < 1000000000)(line:Int):(rowOf h.rows line).data.length < 1000000000:=by
 unfold rowOf;cases ha:je h.rows line with
 | none=> exact(show(0:Nat) < 1000000000 by decide)
 | some r=> exact hr _ (oP ha)
def kV(c:Cfg)(me:Int)(n:Node)(p:Pkt):Node × Pkt × Bool:=
 if p.kind=1∨p.kind=2 then({ n with home:=(n.home.handle c me p).1 },(n.home.handle c me p).2.1,(n.home.handle c me p).2.2.1 && decide ((n.home.handle c me p).2.2.2=0))
 else({ n with cache:=(dV n.cache p).1 },(dV n.cache p).2.1,decide ((dV n.cache p).2.2=0))
theorem abW(c:Cfg)(me:Int)(n:Node)(f:Fab)(p:Pkt):n.asked c me f p=((kV c me n p).1,if(kV c me n p).2.2=true then(f.send (kV c me n p).2.1).1 else f):=by
 unfold Node.asked kV;split
 ·rcases h:n.home.handle c me p with⟨h1,o,ok,e⟩
  simp
 ·rcases h:dV n.cache p with⟨h1,o,e⟩
  simp
theorem N9 {c:Cfg}{me:Int}{n:Node}(C:COk n.cache)(Z:HSz n.home)(p:Pkt):(kV c me n p).2.1.data.length < 1000000000:=by
 have z0:(0:Nat) < 1000000000:=by decide
 unfold kV;split
 ·simp only [Home.handle]
  repeat' split
  all_goals first | exact z0 | exact N8 Z.r _
 ·simp only [dV];split
  ·exact z0
  ·cases hf:n.cache.find p.line with
   | none=> exact z0
   | some e=>
    have he:=C.dat e (za4 hf);simp only
    repeat' split
    all_goals first | exact z0 | exact he
section
variable {b:Nat}{H:aj}{g0:Store}{S:Oj}{c:Cfg}{me:Int}{k:Nat}{K K':aj}{g:Store}{ls:Lcl}{w w':NFT}
theorem Zp(W:Walk b H g0 S c me k K g ls w)(hc:c.ok=true)(C:COk w.1.cache)(Z:HSz w.1.home)(p:Pkt)(hpl:p.data.length < 1000000000):
  ∃K' g',cl 111 [.ref (S.a 0) 0 0,.agg p.av] K=some (.tup [.agg (kV c me w.1 p).2.1.av,B (kV c me w.1 p).2.2],K')/\Walk b H g0 S c me k K' g' ls ((kV c me w.1 p).1,w.2):=by
 have W0:=Walk.of W.loc.good W.base W.NP;have W1:=W0.newL (ty:=70) (xs:=p.av) (r:=K.next) (aJ p) rfl;have W2:=W1.newL (ty:=70) (xs:=zP9) (r:=K.next+1) rfl (by rw [nNew]);have W3:=W2.newL (ty:=70) (xs:=zP9) (r:=K.next+1+1) rfl (by rw [nNew,nNew]);have k2:fO (fO noL K.next p.av) (K.next+1) zP9 K.next=some p.av:=by rw [aA (by omega),ak]
 have k3:fO (fO (fO noL K.next p.av) (K.next+1) zP9) (K.next+1+1) zP9 K.next=some p.av:=by rw [aA (by omega)];exact k2
 have k4:fO (fO (fO noL K.next p.av) (K.next+1) zP9) (K.next+1+1) zP9 (K.next+1)=some zP9:=by rw [aA (by omega),ak]
 have k5:fO (fO (fO noL K.next p.av) (K.next+1) zP9) (K.next+1+1) zP9 (K.next+1+1)=some zP9:=ak;have lk:=W2.loc.ld k2 (i:=0) (v:=I p.kind) rfl;have lp:=W3.loc.lda k3 (i:=0) (n:=9) (ys:=p.av) rfl rfl (by decide);have lh:=W3.ldN (i:=11) (v:=.ref (S.a 3) 0 0) rfl;have lc:=W3.ldN (i:=0) (v:=.ref (S.a 1) 0 0) rfl
 -- the end
 have fin:∀{K4:aj} {g4:Store} {n':Node} {out:Pkt} {v:AV},Walk b K (lay g ls) S c me w.2.1.l.length K4 g4 (fO (fO (fO noL K.next p.av) (K.next+1) zP9) (K.next+1+1) zP9) (n',w.2)->
   (∀f args,cl f args (((K.new (.blk 0 70 p.av)).new (.blk 0 70 zP9)).new (.blk 0 70 zP9))=some (v,K4)->
   (∀{β:Type} (kk:Option β),ckR (K.next+1+1) (K.next+1+1+1) (((K.new (.blk 0 70 p.av)).new (.blk 0 70 zP9)).new (.blk 0 70 zP9)) K4 kk=kk)/\
   ∃K5 K6 g',st 9 (.ref (K.next+1+1) 0 0) (.agg out.av) K4=some (aO,K5)/\lda 9 (.ref (K.next+1+1) 0 0) K5=some (.agg out.av,K5)/\st 9 (.ref (K.next+1) 0 0) (.agg out.av) K5=some (aO,K6)/\lda 9 (.ref (K.next+1) 0 0) K6=some (.agg out.av,K6)/\Walk b H g0 S c me k K6 g' ls (n',w.2)):=by
  intro K4 g4 n' out v W4 f args hcl;refine⟨λkk=> amg λr h1 h2=> ?_,?_⟩
  ·obtain rfl:r=K.next+1+1:=by omega
   exact JL W3.loc.good W4.loc.good (JI _ _ _ _ _ hcl) (mY k5) (mY k5)
  ·obtain⟨K5,u1,u2,W5⟩:=W4.whole k5 (n:=9) (vs:=out.av) rfl (aY _) (by decide) (aJ _);obtain⟨K6,u3,u4,W6⟩:=W5.whole (r:=K.next+1) (xs:=zP9) (by rw [aA (by omega)];exact k4) (n:=9) (vs:=out.av) rfl (aY _) (by decide) (aJ _);obtain⟨g',W'⟩:=W.app (K':=K6) (w':=(n',w.2)) (by
    have:=W6.res;rw [W.len] at this;exact this)
   exact⟨K5,K6,g',u1,u2,u3,u4,W'⟩
 by_cases hk:p.kind=1∨p.kind=2
 ·have hm:kV c me w.1 p=({ w.1 with home:=(w.1.home.handle c me p).1 },(w.1.home.handle c me p).2.1,(w.1.home.handle c me p).2.2.1 && decide ((w.1.home.handle c me p).2.2.2=0)):=by unfold kV;rw [if_pos hk]
  rw [hm];have HI:=W3.NP.node.2.2.2;obtain⟨K4,a1,a2,a3⟩:=Y1 W3.loc.good W3.base HI hc Z.t.nd Z.t.ws Z.r p hpl;have W4:=W3.home a2 a3;obtain⟨ck,K5,K6,g',u1,u2,u3,u4,W'⟩:=fin W4 _ _ a1 (out:=(w.1.home.handle c me p).2.1);refine⟨K6,g',aN rfl rfl (ady _ _ _ _ ?_),W'⟩;simp only [Ti] at a1;obtain⟨ok,hok⟩:∃ok,(w.1.home.handle c me p).2.2.1=ok:=⟨_,rfl⟩
  rw [hok] at a1 ⊢;have cR:∀{β:Type} (kk:Option β),ckR ((K.new (.blk 0 70 p.av)).new (.blk 0 70 zP9)).next (((K.new (.blk 0 70 p.av)).new (.blk 0 70 zP9)).new (.blk 0 70 zP9)).next (((K.new (.blk 0 70 p.av)).new (.blk 0 70 zP9)).new (.blk 0 70 zP9)) K4 kk=kk:=by
   intro β kk;simp only [nNew];exact ck kk
  rcases hk with h1 | h1
  ·rw [h1] at lk;cases ok with
   | true=> simp -implicitDefEqProofs only [Nat.reduceLT,xq_,Gn,aB (aJ p),lk,lh,lp,a1,ck,u1,u2,u3,u4,zaO]
   | false=> simp -implicitDefEqProofs only [Nat.reduceLT,xq_,Gn,aB (aJ p),lk,lh,lp,a1,ck,u1,u2,u3,u4,zaQ]
  ·rw [h1] at lk;cases ok with
   | true=> simp -implicitDefEqProofs only [Nat.reduceLT,Int.reduceEq,xq_,Gn,aB (aJ p),lk,lh,lp,a1,ck,u1,u2,u3,u4,zaO]
   | false=> simp -implicitDefEqProofs only [Nat.reduceLT,Int.reduceEq,xq_,Gn,aB (aJ p),lk,lh,lp,a1,ck,u1,u2,u3,u4,zaQ]
 ·have hm:kV c me w.1 p=({ w.1 with cache:=(dV w.1.cache p).1 },(dV w.1.cache p).2.1,decide ((dV w.1.cache p).2.2=0)):=by unfold kV;rw [if_neg hk]
  rw [hm];obtain⟨K4,a1,a2,a3⟩:=Zo W3.loc.good W3.base (W3.loc.obj W3.nw.node.2.1) C p;have W4:=W3.cache a2 a3;obtain⟨ck,K5,K6,g',u1,u2,u3,u4,W'⟩:=fin W4 _ _ a1 (out:=(dV w.1.cache p).2.1);refine⟨K6,g',aN rfl rfl (ady _ _ _ _ ?_),W'⟩;have h1:¬p.kind=1:=λh=> hk (.inl h);have h2:¬p.kind=2:=λh=> hk (.inr h);simp only [Vk] at a1;simp -implicitDefEqProofs only [Nat.reduceLT,xq_,Gn,aB (aJ p),lk,h1,h2,lc,lp,a1,ck,u1,u2,u3,u4]
end
section
variable {b:Nat}{H:aj}{g0:Store}{S:Oj}{c:Cfg}{me:Int}{k:Nat}{K K':aj}{g:Store}{ls:Lcl}{w w':NFT}
theorem take_len(f:Fab)(i:Int)(req:Bool):(f.take i req).1.l.length=f.l.length:=by
 unfold Fab.take;split
 ·split
  ·rfl
  ·simp [Fab.put]
 ·rfl
theorem Walk.zQ(W:Walk b H g0 S c me k K g ls w)(F:FOk c w.2.1):∃K' g',cl 110 [.ref S.f 0 0,I me] K=some (fM (w.2.1.take me true).2,K')/\Walk b H g0 S c me k K' g' ls (w.1,(w.2.1.take me true).1,w.2.2):=by
 obtain⟨K',g1,h1,h2,h3,h4,h5⟩:=Proofs.YthmoogcacpmjiaaGreat.zQ W.loc.good W.base W.NP.fab W.nw.PX F me;obtain⟨g',W'⟩:=W.net h2 h3 (take_len _ _ _) h4 h5;exact⟨K',g',h1,W'⟩
theorem Walk.JJ(W:Walk b H g0 S c me k K g ls w)(F:FOk c w.2.1):∃K' g',cl 100 [.ref S.f 0 0,I me] K=some (fM (w.2.1.take me false).2,K')/\Walk b H g0 S c me k K' g' ls (w.1,(w.2.1.take me false).1,w.2.2):=by
 obtain⟨K',g1,h1,h2,h3,h4,h5⟩:=Proofs.YthmoogcacpmjiaaGreat.JJ W.loc.good W.base W.NP.fab W.nw.PX F me;obtain⟨g',W'⟩:=W.net h2 h3 (take_len _ _ _) h4 h5;exact⟨K',g',h1,W'⟩
theorem Walk.room(W:Walk b H g0 S c me k K g ls w)(F:FOk c w.2.1)(req:Bool):∃K',cl 107 [.ref S.f 0 0,I me,B req] K=some (I (w.2.1.roomOf me req),K')/\Walk b H g0 S c me k K' g ls w:=by
 obtain⟨K',h1,h2,h3⟩:=agK W.loc.good W.base W.NP.fab F me req;exact⟨K',h1,W.same h2 h3⟩
theorem Qm(W:Walk b H g0 S c me k K g ls w)(hc:c.ok=true)(F:sQ c w.2.1)(C:COk w.1.cache)(Z:HSz w.1.home):
  ∃K' g',match(if w.2.1.roomOf me false=0 then(w.2.1,none) else w.2.1.take me true) with
   | (f',some p)=> cl 69 [.ref (S.a 0) 0 0,.ref S.f 0 0] K=some (B true,K')/\Walk b H g0 S c me k K' g' ls ((w.1.asked c me f' p).1,(w.1.asked c me f' p).2,w.2.2)
   | (_,none)=> cl 69 [.ref (S.a 0) 0 0,.ref S.f 0 0] K=some (B false,K')/\Walk b H g0 S c me k K' g' ls w:=by
 have W0:=Walk.of W.loc.good W.base W.NP;have li:=W0.ldN (i:=10) (v:=I me) rfl;obtain⟨K1,a1,W1⟩:=W0.room (fok hc F) false;by_cases hr:w.2.1.roomOf me false=0
 ·simp only [if_pos hr];rw [hr] at a1;obtain⟨g',W'⟩:=W.app (K':=K1) (w':=w) (by
   have:=W1.res;rw [W.len] at this;exact this)
  refine⟨K1,g',aN rfl rfl (aa2 _ _ _ _ ?_),W'⟩;simp -implicitDefEqProofs only [xq_,Xr,li,a1]
 ·simp only [if_neg hr];have li1:=W1.ldN (i:=10) (v:=I me) rfl;obtain⟨K2,g2,b1,W2⟩:=W1.zQ (fok hc F);obtain⟨F2,Q2⟩:=F.take me true;have W3:=W2.newL (ty:=70) (xs:=zP9) (r:=K2.next) rfl rfl;cases ht:w.2.1.take me true with
  | mk f' po=>
   rw [ht] at b1 W2 W3 F2 Q2;simp only at b1 W2 W3 F2 Q2;obtain⟨K4,u1,u2,W4⟩:=W3.whole ak (n:=9) (vs:=(po.getD .zero).av) rfl (aY _) (by decide) (aJ _);simp only [fM] at b1;cases po with
   | none=>
    simp only [za0,zaL] at b1 u1 u2;have hf':f'=w.2.1:=by
     have:=NY (f:=w.2.1) (i:=me) (req:=true) (by rw [ht]);rw [ht] at this;exact this
    subst hf';obtain⟨g',W'⟩:=W.app (K':=K4) (w':=w) (by
     have:=W4.res;rw [W.len] at this;exact this)
    refine⟨K4,g',aN rfl rfl (aa2 _ _ _ _ ?_),W'⟩;simp -implicitDefEqProofs only [xq_,Xr,li,a1,hr,li1,b1,u1,zal]
   | some p=>
    simp only [zay,zaM] at b1 u1 u2;have Q:=Q2 p rfl;obtain⟨K5,g5,c1,W5⟩:=Zp W4 hc C Z p (N7 Q);have W6:=W5.newL (ty:=70) (xs:=zP9) (r:=K5.next) rfl rfl;obtain⟨K7,u3,u4,W7⟩:=W6.whole ak (n:=9) (vs:=(kV c me w.1 p).2.1.av) rfl (aY _) (by decide) (aJ _);simp only [abW];cases hok:(kV c me w.1 p).2.2 with
    | false=>
     rw [hok] at c1;obtain⟨g',W'⟩:=W.app (K':=K7) (w':=((kV c me w.1 p).1,f',w.2.2)) (by
      have:=W7.res;rw [W.len] at this;exact this)
     refine⟨K7,g',aN rfl rfl (aa2 _ _ _ _ ?_),by simpa using W'⟩;simp -implicitDefEqProofs only [xq_,Xr,Jb,li,a1,hr,li1,b1,u1,u2,zae,c1,u3]
    | true=>
     rw [hok] at c1;obtain⟨K8,g8,d1,W8⟩:=W7.send (fok hc F2) (kV c me w.1 p).2.1 (N9 C Z p);obtain⟨g',W'⟩:=W.app (K':=K8) (w':=((kV c me w.1 p).1,(f'.send (kV c me w.1 p).2.1).1,w.2.2)) (by
      have:=W8.res;rw [W.len] at this;exact this)
     refine⟨K8,g',aN rfl rfl (aa2 _ _ _ _ ?_),by simpa using W'⟩;simp -implicitDefEqProofs only [xq_,Xr,Jb,li,a1,hr,li1,b1,u1,u2,zae,c1,u3,u4,d1]
theorem Zq(W:Walk b H g0 S c me k K g ls w)(hc:c.ok=true)(F:sQ c w.2.1)(Z:HSz w.1.home):
  ∃K' g',if w.1.home.ready≠[]/\w.2.1.roomOf me false≠0 then
    cl 68 [.ref (S.a 0) 0 0,.ref S.f 0 0] K=some (B true,K')/\Walk b H g0 S c me k K' g' ls ({ w.1 with home:=(w.1.home.grant me).1 },(w.2.1.send (w.1.home.grant me).2.1).1,w.2.2)
   else cl 68 [.ref (S.a 0) 0 0,.ref S.f 0 0] K=some (B false,K')/\Walk b H g0 S c me k K' g' ls w:=by
 have W0:=Walk.of W.loc.good W.base W.NP;have lh:=W0.ldN (i:=11) (v:=.ref (S.a 3) 0 0) rfl;have li:=W0.ldN (i:=10) (v:=I me) rfl;have e1:=UY W0.loc.good W0.NP.node.2.2.2 Z.t;by_cases h1:w.1.home.ready=[]
 ·simp only [if_neg (show¬(w.1.home.ready≠[]/\w.2.1.roomOf me false≠0) from λh=> h.1 h1)];have hd:decide (w.1.home.ready≠[])=false:=by rw [decide_eq_false];exact λh=> h h1
  rw [hd] at e1;refine⟨K,g,aN rfl rfl (afO _ _ _ _ ?_),W⟩;simp -implicitDefEqProofs only [xq_,aa1,lh,e1,zal]
 ·have hd:decide (w.1.home.ready≠[])=true:=decide_eq_true h1;rw [hd] at e1;obtain⟨K1,a1,W1⟩:=W0.room (fok hc F) false;by_cases hr:w.2.1.roomOf me false=0
  ·simp only [if_neg (show¬(w.1.home.ready≠[]/\w.2.1.roomOf me false≠0) from λh=> h.2 hr)];rw [hr] at a1;obtain⟨g',W'⟩:=W.app (K':=K1) (w':=w) (by
    have:=W1.res;rw [W.len] at this;exact this)
   refine⟨K1,g',aN rfl rfl (afO _ _ _ _ ?_),W'⟩;simp -implicitDefEqProofs only [xq_,aa1,lh,e1,zae,li,a1]
  ·simp only [if_pos (show w.1.home.ready≠[]/\w.2.1.roomOf me false≠0 from⟨h1,hr⟩)];have lh1:=W1.ldN (i:=11) (v:=.ref (S.a 3) 0 0) rfl;obtain⟨K2,b1,b2,b3⟩:=abQ W1.loc.good W1.base W1.NP.node.2.2.2 Z.t Z.r;have W2:=W1.home b2 b3;have W3:=W2.newL (ty:=70) (xs:=zP9) (r:=K2.next) rfl rfl;obtain⟨K4,u1,u2,W4⟩:=W3.whole ak (n:=9) (vs:=(w.1.home.grant me).2.1.av) rfl (aY _) (by decide) (aJ _);have hsm:(w.1.home.grant me).2.1.data.length < 1000000000:=by
    have z0:(0:Nat) < 1000000000:=by decide
    unfold Home.grant
    repeat' split
    all_goals first | exact z0 | exact N8 Z.r _
   obtain⟨K5,g5,d1,W5⟩:=W4.send (fok hc F) (w.1.home.grant me).2.1 hsm;obtain⟨g',W'⟩:=W.app (K':=K5) (w':=({ w.1 with home:=(w.1.home.grant me).1 },(w.2.1.send (w.1.home.grant me).2.1).1,w.2.2)) (by
    have:=W5.res;rw [W.len] at this;exact this)
   refine⟨K5,g',aN rfl rfl (afO _ _ _ _ ?_),W'⟩;simp -implicitDefEqProofs only [xq_,aa1,lh,e1,zae,li,a1,hr,lh1,b1,u1,u2,d1]
theorem Walk.Zr(W:Walk b H g0 S c me k K g ls w)(d:bF):∃K' g',st 9 (.ref (S.a 0) 0 12) (.agg d.av) K=some (aO,K')/\Walk b H g0 S c me k K' g' ls ({ w.1 with deal:=d },w.2):=by
 obtain⟨K',h1,h2,h3,_⟩:=W.loc.good.stores W.base (W.loc.obj W.nw.node.1) (i:=12) (n:=9) (vs:=d.av) (by rw [fE];decide) rfl (aP d);have e:mX (uw S.a c me w.1.deal w.1.num) 12 d.av=uw S.a c me d w.1.num:=rfl;rw [e] at h2;exact⟨K',_,h1,W.own h2 h3⟩
theorem Walk.amm(W:Walk b H g0 S c me k K g ls w)(z:Int):∃K' g',st 1 (.ref (S.a 0) 0 21) (I z) K=some (aO,K')/\Walk b H g0 S c me k K' g' ls ({ w.1 with num:=z },w.2):=by
 obtain⟨K',h1,h2,h3,_⟩:=W.loc.good.store W.base (W.loc.obj W.nw.node.1) (i:=21) (v:=I z) (by rw [fE];decide) bJ;have e:(uw S.a c me w.1.deal w.1.num).set 21 (.av (I z))=uw S.a c me w.1.deal z:=rfl;rw [e] at h2;exact⟨K',_,h1,W.own h2 h3⟩
theorem yH(W:Walk b H g0 S c me k K g ls w)(hc:c.ok=true)(F:sQ c w.2.1)(hn:0<=w.1.num/\w.1.num < 1000000)(kind line:Int):
  ∃K' g',cl 115 [.ref (S.a 0) 0 0,.ref S.f 0 0,I kind,I line] K=some (.tup [],K')/\Walk b H g0 S c me k K' g' ls ((w.1.begin_ c me w.2.1 kind line).1,(w.1.begin_ c me w.2.1 kind line).2,w.2.2):=by
 have ln:=W.ldN (i:=21) (v:=I w.1.num) rfl;have e1:=abM K kind line w.1.num;obtain⟨K1,g1,a1,W1⟩:=W.Zr (.begin kind line w.1.num);have ln1:=W1.ldN (i:=21) (v:=I w.1.num) rfl;have w1:=wrap_i64 (a:=w.1.num+1) (by omega) (by omega);have ao7:=qZ (P:=Tryz.prog) (k:=.i64) (t:=3) (a:=w.1.num+1) (b:=4096) (by decide);obtain⟨K2,g2,b1,W2⟩:=W1.amm ((w.1.num+1).tmod 4096);obtain⟨K3,g3,d1,W3⟩:=Qk W2 hc (fok hc F) (show(0:Nat) < 1000000000 by decide);refine⟨K3,g3,aN rfl rfl (akb _ _ _ _ _ _ ?_),W3⟩;simp -implicitDefEqProofs only [xq_,adA,ln,e1,a1,ln1,aZ,w1,ao7,b1,d1]
end
theorem short:∀(n:Nat) (l:List Int),l.Nodup->(∀x∈l,0<=x/\x < n)->l.length<=n
 | 0,[],_,_=> zac _
 | 0,x::l,_,h=> by have:=h x (by simp);omega
 | n+1,l,hd,h=> by
  by_cases hm:(n:Int)∈l
  ·have h1:=short n (l.erase n) (hd.erase (n:Int)) λx hx=> by
    have:=(hd.mem_erase_iff).1 hx;have:=h x this.2;omega
   rw [List.length_erase_of_mem hm] at h1;omega
  ·have:=short n l hd λx hx=> by
    have:=h x hx;have:x≠n:=λe=> hm (e ▸ hx);omega
   omega
theorem cok {c:Cfg}(hc:c.ok=true){ca:Cache}(I:Bo c ca)(hk:ca.clock < 1000000000):COk ca:=by
 have B:=qx hc;refine⟨?_,by rw [I.sets];exact B.sets.1,⟨I.afp,hk⟩,λe he=> ?_,λe he=> ?_⟩
 ·have h1:(ca.l.map (·.line)).Nodup:=zb5.2 I.lines;have:=short c.lines.toNat _ h1 λx hx=> by
   obtain⟨e,he,rfl⟩:=zaN.1 hx;have E:=I.ent e he;have h1:=E.lo;have h2:=E.hi;omega
  rw [zaE] at this;have:=B.lines;omega
 ·have:=(I.ent e he).dat.1;have:=B.words;omega
 ·have:=I.ent e he;exact⟨this.u0,by have:=this.used;omega⟩
theorem psz {c:Cfg}{p:Proc}(I:apr c p):PSz p:=⟨by have:=I.most;omega,I.vals⟩
theorem hsz {c:Cfg}(hc:c.ok=true){me:Int}{n:Node}(I:Rh c me n)(hw:∀line,(n.home.turns.ws line).length < 1000000):HSz n.home:=by
 have B:=qx hc;have hk:∀e∈n.home.turns.wait,0<=e.1/\e.1 < c.lines:=λe he=> by
  have:=I.home.here e he;unfold lG at this;simp only [zaj,decide_eq_true_eq] at this;omega
 refine⟨⟨I.home.turns.wk,λe he=> by have:=hk e he;have:=B.lines;omega,?_,hw⟩,λe he=> by have:=(I.rows e he).1;have:=B.words;omega⟩;have:=short c.lines.toNat _ I.home.turns.wk λx hx=> by
  obtain⟨e,he,rfl⟩:=zaN.1 hx;have:=hk e he;omega
 rw [zaE] at this;have:=B.lines;omega
section
variable {b:Nat}{H:aj}{g0:Store}{S:Oj}{c:Cfg}{me:Int}{k:Nat}{K K':aj}{g:Store}{ls:Lcl}{w w':NFT}
def agV(c:Cfg)(me:Int)(n:Node)(f:Fab)(t:List Evn)(o:Opn):NFT:=
 let line:=c.dh o.addr;let e:=n.cache.find line
 if o.kind=4/\e=none then((n.done me t 0).1,f,(n.done me t 0).2)
 else if o.kind=4 then((n.begin_ c me f 3 line).1,(n.begin_ c me f 3 line).2,t)
 else if e.isSome=true/\(o.kind=1∨(e.getD .zero).dirty=true) then
  let n:={ n with cache:=n.cache.touch line }
  ((n.effect c me t).1,f,(n.effect c me t).2)
 else if n.cache.full line=true then((n.begin_ c me f 3 ((n.cache.lW line).getD 0)).1,(n.begin_ c me f 3 ((n.cache.lW line).getD 0)).2,t)
 else if o.kind=1 then((n.begin_ c me f 1 line).1,(n.begin_ c me f 1 line).2,t)
 else((n.begin_ c me f 2 line).1,(n.begin_ c me f 2 line).2,t)
theorem agW(n:Node)(f:Fab)(t:List Evn)(o:Opn):n.work c me f t o=agV c me { n with proc:={ n.proc with begun:=true } } f (if n.proc.begun then t else t++[⟨me,n.proc.values.length,false,0⟩]) o:=rfl
theorem Tq(W:Walk b H g0 S c me k K g ls w)(hc:c.ok=true)(F:sQ c w.2.1)(hp:PSz w.1.proc)(CI:Bo c w.1.cache)(hk:w.1.cache.clock < 1000)(hn:0<=w.1.num/\w.1.num < 1000000)(hl:w.2.2.length < 1000000){r7:Nat}{o:Opn}(h7:ls r7=some o.av):
  ∃K' g',mQ cl (.ref (S.a 0) 0 0) (.ref S.f 0 0) (.ref S.t 0 0) (.ref r7 0 0) K=some (B true,K')/\Walk b H g0 S c me k K' g' ls (agV c me w.1 w.2.1 w.2.2 o):=by
 have C:=cok hc CI (by omega);have W0:=Walk.of W.loc.good W.base W.NP;have lc:=W.ami (i:=2) (n:=8) (ys:=c.av) rfl rfl (by decide);have la:=W.loc.ld h7 (i:=1) (v:=I o.addr) rfl;obtain⟨line,Qn⟩:∃line,c.dh o.addr=line:=⟨_,rfl⟩
 have el:=En K c hc o.addr;rw [Qn] at el;have l0:=W.ldN (i:=0) (v:=.ref (S.a 1) 0 0) rfl;have ef:=W.find C line;obtain⟨fo,hfo⟩:∃fo,w.1.cache.find line=fo:=⟨_,rfl⟩
 rw [hfo] at ef;simp only [mg] at ef;have hr7:r7 < K.next:=W.loc.good.lt (mY h7)
 have W1:=W.newL (ty:=93) (xs:=zE6) (r:=K.next) rfl rfl;obtain⟨K2,u1,u2,W2⟩:=W1.whole ak (n:=6) (vs:=(fo.getD .zero).av) rfl rfl (by decide) (jK _);have k7:fO (fO ls K.next zE6) K.next (fo.getD .zero).av r7=some o.av:=by rw [aA (by omega),aA (by omega)];exact h7
 have lk:=W2.loc.ld k7 (i:=0) (v:=I o.kind) rfl;have ldd:=W2.loc.ld (r:=K.next) (xs:=(fo.getD .zero).av) ak (i:=4) (v:=B (fo.getD .zero).dirty) rfl;have l02:=W2.ldN (i:=0) (v:=.ref (S.a 1) 0 0) rfl;have Qo:=Ns W2.loc.good (W2.loc.obj W2.nw.node.2.1) C.len C.sets line;have apI:=Qb W2.loc.good (W2.loc.obj W2.nw.node.2.1) C.len C.sets C.used line
 -- what is called is called of the node
 have back:∀{K3:aj} {g3:Store} {w3:NFT},Walk b H g0 S c me k K3 g3 (fO (fO ls K.next zE6) K.next (fo.getD .zero).av) w3->∃g',Walk b H g0 S c me k K3 g' ls w3:=by
  intro K3 g3 w3 W3;refine⟨g3,W3.hb,⟨W3.loc.good.sub λq cs hq=> ?_,λr hr=> ?_⟩,W3.nw,W3.off,W3.step,W3.len⟩
  ·unfold lay at hq ⊢;by_cases hqr:q=K.next
   ·subst hqr;have hnone:ls K.next=none:=by
     cases e:ls K.next with
     | none=> rfl
     | some xs=>
      have:=W.loc.good.lt (mY (g:=g) e);omega
    rw [hnone] at hq;simp only at hq;have:=W3.loc.free K.next (by rw [ak];simp)
    rw [this] at hq;cases hq
   ·rw [aA hqr,aA hqr];exact hq
  ·refine W3.loc.free r ?_;have hne:r≠K.next:=λe=> by
    subst e;cases e2:ls K.next with
    | none=> exact hr e2
    | some xs=>
     have:=W.loc.good.lt (mY (g:=g) e2);omega
   rw [aA hne,aA hne];exact hr
 unfold agV;simp only [Qn,hfo];by_cases h4:o.kind=4
 ·rw [h4] at lk;cases fo with
  | none=>
   rw [if_pos ⟨h4,rfl⟩];obtain⟨K3,g3,a1,W3⟩:=Zf W2 hp hl 0;obtain⟨g',W'⟩:=back W3;refine⟨K3,g',?_,W'⟩;simp -implicitDefEqProofs only [xq_,mQ,kE,lc,la,el,l0,ef,u1,lk,zaL,zal,a1]
  | some e=>
   rw [if_neg (by simp),if_pos h4];obtain⟨K3,g3,a1,W3⟩:=yH W2 hc F hn 3 line;obtain⟨g',W'⟩:=back W3;refine⟨K3,g',?_,W'⟩;simp -implicitDefEqProofs only [Int.reduceEq,xq_,mQ,kE,lc,la,el,l0,ef,u1,lk,zaM,zae,a1]
 ·rw [if_neg (λh=> h4 h.1),if_neg h4];by_cases hd:fo.isSome=true/\(o.kind=1∨(fo.getD .zero).dirty=true)
  ·rw [if_pos hd];obtain⟨e,rfl⟩:=Option.isSome_iff_exists.1 hd.1;obtain⟨K3,a1,a2,a3⟩:=UM W2.loc.good W2.base (W2.loc.obj W2.nw.node.2.1) C.len C.clk line;have W3:=W2.cache a2 a3;have hC:COk (w.1.cache.touch line):=cok hc (CI.touch hfo) (by rw [EM CI.lines hfo];omega);obtain⟨K4,g4,b1,W4⟩:=NQ W3 hc hp hC hl;obtain⟨g',W'⟩:=back W4;refine⟨K4,g',?_,W'⟩;by_cases h1:o.kind=1
   ·rw [h1] at lk;simp -implicitDefEqProofs only [Int.reduceEq,xq_,mQ,kE,lc,la,el,l0,ef,u1,lk,zaM,a1,l02,b1]
   ·have hdd:=hd.2.resolve_left h1;rw [hdd] at ldd;simp -implicitDefEqProofs only [xq_,mQ,kE,lc,la,el,l0,ef,u1,lk,h4,h1,ldd,zaM,a1,l02,b1]
  ·rw [if_neg hd]
   -- the condition
   have hcond:∀(X Y:Option (AV × aj)),(fo.isSome=false)∨(fo.isSome=true/\¬o.kind=1/\(fo.getD .zero).dirty=false):=λ_ _=> by
    cases h:fo.isSome with
    | false=> exact .inl rfl
    | true=>
     refine .inr ⟨rfl,λh1=> hd ⟨h,.inl h1⟩,?_⟩;cases h2:(fo.getD .zero).dirty with
     | false=> rfl
     | true=> exact absurd ⟨h,.inr h2⟩ hd
   have hcond:=hcond none none;by_cases hfl:w.1.cache.full line=true
   ·rw [if_pos hfl];rw [hfl] at Qo;obtain⟨K3,g3,a1,W3⟩:=yH W2 hc F hn 3 ((w.1.cache.lW line).getD 0);obtain⟨g',W'⟩:=back W3;refine⟨K3,g',?_,W'⟩;rcases hcond with hs | ⟨hs,h1,h2⟩
    ·rw [hs] at ef;simp -implicitDefEqProofs only [xq_,mQ,kE,lc,la,el,l0,ef,u1,lk,h4,l02,Qo,apI,a1]
    ·rw [hs] at ef;rw [h2] at ldd;simp -implicitDefEqProofs only [xq_,mQ,kE,lc,la,el,l0,ef,u1,lk,h4,h1,ldd,l02,Qo,apI,a1]
   ·rw [if_neg hfl];have hff:w.1.cache.full line=false:=by cases h:w.1.cache.full line <;> simp_all
    rw [hff] at Qo;by_cases h1:o.kind=1
    ·rw [if_pos h1];obtain⟨K3,g3,a1,W3⟩:=yH W2 hc F hn 1 line;obtain⟨g',W'⟩:=back W3;refine⟨K3,g',?_,W'⟩;have hs:fo.isSome=false:=hcond.resolve_right λh=> h.2.1 h1;rw [hs] at ef;rw [h1] at lk;simp -implicitDefEqProofs only [Int.reduceEq,xq_,mQ,kE,lc,la,el,l0,ef,u1,lk,l02,Qo,a1]
    ·rw [if_neg h1];obtain⟨K3,g3,a1,W3⟩:=yH W2 hc F hn 2 line;obtain⟨g',W'⟩:=back W3;refine⟨K3,g',?_,W'⟩;rcases hcond with hs | ⟨hs,_,h2⟩
     ·rw [hs] at ef;simp -implicitDefEqProofs only [xq_,mQ,kE,lc,la,el,l0,ef,u1,lk,h4,h1,l02,Qo,a1]
     ·rw [hs] at ef;rw [h2] at ldd;simp -implicitDefEqProofs only [xq_,mQ,kE,lc,la,el,l0,ef,u1,lk,h4,h1,ldd,l02,Qo,a1]
end
section
variable {b:Nat}{H:aj}{g0:Store}{S:Oj}{c:Cfg}{me:Int}{k:Nat}{K K':aj}{g:Store}{ls:Lcl}{w w':NFT}
theorem Walk.to(W:Walk b H g0 S c me k K g ls w){K':aj}{g1:Store}{l1:Lcl}(W1:Walk b K (lay g ls) S c me w.2.1.l.length K' g1 l1 w'):∃g',Walk b H g0 S c me k K' g' ls w':=
 W.app (by have:=W1.res;rw [W.len] at this;exact this)
theorem Zt(W:Walk b H g0 S c me k K g ls w)(hc:c.ok=true)(F:sQ c w.2.1)(NI:Rh c me w.1)(hn:0<=w.1.num/\w.1.num < 1000000)(hl:w.2.2.length < 999999):
  ∃K' g',match w.1.proc.cur with
   | some o=> if w.1.deal.step=0 then cl 70 [.ref (S.a 0) 0 0,.ref S.f 0 0,.ref S.t 0 0] K=some (B true,K')/\Walk b H g0 S c me k K' g' ls (w.1.work c me w.2.1 w.2.2 o)
     else cl 70 [.ref (S.a 0) 0 0,.ref S.f 0 0,.ref S.t 0 0] K=some (B false,K')/\Walk b H g0 S c me k K' g' ls w
   | none=> cl 70 [.ref (S.a 0) 0 0,.ref S.f 0 0,.ref S.t 0 0] K=some (B false,K')/\Walk b H g0 S c me k K' g' ls w:=by
 have P:=psz NI.proc;have amR:w.1.cache.clock < 1000:=by have:=NI.clk;have:=NI.proc.vals;have:=NI.proc.most;omega
 have W0:=Walk.of W.loc.good W.base W.NP;have l1:=W0.ldN (i:=1) (v:=.ref (S.a 2) 0 0) rfl;obtain⟨K1,a1,W1⟩:=W0.cur P;have W2:=W1.newL (ty:=86) (xs:=[zI,zI,zI]) (r:=K1.next) rfl rfl;obtain⟨K3,b1,b2,W3⟩:=W2.whole ak (n:=3) (vs:=w.1.proc.op.av) rfl (dw _) (by decide) (lC _);have k7:fO (fO noL K1.next [zI,zI,zI]) K1.next w.1.proc.op.av K1.next=some w.1.proc.op.av:=ak
 have ls3:=W3.ldN (i:=15) (v:=I w.1.deal.step) rfl;cases hcur:w.1.proc.cur with
 | none=>
  rw [hcur] at a1;simp only [zaL] at a1;obtain⟨g',W'⟩:=W.to W3;refine⟨K3,g',aN rfl rfl (aa3 _ _ _ _ _ ?_),W'⟩;simp -implicitDefEqProofs only [xq_,Xt,l1,a1,b1,zal]
 | some o=>
  rw [hcur] at a1;simp only [zaM] at a1;by_cases hs:w.1.deal.step=0;rotate_left
  ·simp only [if_neg hs];obtain⟨g',W'⟩:=W.to W3;refine⟨K3,g',aN rfl rfl (aa3 _ _ _ _ _ ?_),W'⟩;simp -implicitDefEqProofs only [Nat.reduceAdd,xq_,Xt,l1,a1,b1,zae,zal,ls3,hs]
  ·simp only [if_pos hs];rw [hs] at ls3;have hop:w.1.proc.op=o:=by simp only [Proc.op,hcur,zay]
   have hidx:w.1.proc.idx=w.1.proc.values.length:=by simp only [Proc.idx,hcur]
   have lp:=W3.ldN (i:=1) (v:=.ref (S.a 2) 0 0) rfl;have eb:=MR W3.loc.good (W3.loc.obj W3.nw.node.2.2.1);rw [agW];cases hbg:w.1.proc.begun with
   | true=>
    rw [hbg] at eb;have he:({ w.1 with proc:={ w.1.proc with begun:=true } }:Node)=w.1:=by
     rcases hw:w.1 with⟨ca,pr,ho,de,nu⟩
     rw [hw] at hbg;simp only at hbg;rcases pr with⟨x1,x2,x3⟩
     simp only at hbg;subst hbg;rfl
    rw [he];simp only [if_true];obtain⟨K4,g4,c1,W4⟩:=Tq W3 hc F P NI.cache amR hn (by omega) (o:=w.1.proc.op) k7;rw [hop] at W4;obtain⟨g',W'⟩:=W.to W4;refine⟨K4,g',aN rfl rfl (aa3 _ _ _ _ _ ?_),W'⟩;simp -implicitDefEqProofs only [Nat.reduceAdd,xq_,Xt,l1,a1,b1,zae,ls3,lp,eb,c1]
   | false=>
    rw [hbg] at eb;simp only [zai,if_false];obtain⟨v,K4,d1,d2,d3⟩:=Zb W3.loc.good W3.base (W3.loc.obj W3.nw.node.2.2.1) P.ops (by have:=P.ops;have:=P.vals;omega) P.vals;have hbp:w.1.proc.xJ={ w.1.proc with begun:=true }:=by
     unfold Proc.xJ;rw [if_neg (by rw [hbg,hcur];simp)]
    rw [hbp] at d2;have W4:=W3.proc d2 d3;have li:=W4.ldN (i:=10) (v:=I me) rfl;obtain⟨K5,g5,e1,W5⟩:=W4.amj (show w.2.2.length < 1000000 by omega) me w.1.proc.idx;obtain⟨K6,g6,c1,W6⟩:=Tq W5 hc F (show PSz ({ w.1.proc with begun:=true }:Proc) from⟨P.ops,P.vals⟩) NI.cache amR hn (by simp only [zaq,zak,zat];omega) (o:=w.1.proc.op) k7;rw [hop,hidx] at W6;obtain⟨g',W'⟩:=W.to W6;refine⟨K6,g',aN rfl rfl (aa3 _ _ _ _ _ ?_),W'⟩;simp -implicitDefEqProofs only [Nat.reduceAdd,xq_,Xt,l1,a1,b1,zae,zal,ls3,lp,eb,d1,li,e1,c1]
theorem U1(W:Walk b H g0 S c me k K g ls w)(hc:c.ok=true)(F:sQ c w.2.1)(NI:Rh c me w.1)(hl:w.2.2.length < 999999)(hdd:w.1.deal.data.length < 1000000000):
  ∃K' g',match w.2.1.take me false with
   | (f',some p)=> cl 67 [.ref (S.a 0) 0 0,.ref S.f 0 0,.ref S.t 0 0] K=some (B true,K')/\Walk b H g0 S c me k K' g' ls (w.1.answered c me f' w.2.2 p)
   | (_,none)=> cl 67 [.ref (S.a 0) 0 0,.ref S.f 0 0,.ref S.t 0 0] K=some (B false,K')/\Walk b H g0 S c me k K' g' ls w:=by
 have P:=psz NI.proc;have Bd:=qx hc;have amR:w.1.cache.clock < 1000:=by have:=NI.clk;have:=NI.proc.vals;have:=NI.proc.most;omega
 have C:=cok hc NI.cache (by omega);have W0:=Walk.of W.loc.good W.base W.NP;have li:=W0.ldN (i:=10) (v:=I me) rfl;obtain⟨K1,g1,a1,W1⟩:=W0.JJ (fok hc F);obtain⟨F1,Q1⟩:=F.take me false;have W2:=W1.newL (ty:=70) (xs:=zP9) (r:=K1.next) rfl rfl;cases ht:w.2.1.take me false with
 | mk f' po=>
  rw [ht] at a1 W1 W2 F1 Q1;simp only at a1 W1 W2 F1 Q1;obtain⟨K3,u1,u2,W3⟩:=W2.whole ak (n:=9) (vs:=(po.getD .zero).av) rfl (aY _) (by decide) (aJ _);simp only [fM] at a1;cases po with
  | none=>
   simp only [za0,zaL] at a1 u1 u2;have hf':f'=w.2.1:=by
    have:=NY (f:=w.2.1) (i:=me) (req:=false) (by rw [ht]);rw [ht] at this;exact this
   subst hf';obtain⟨g',W'⟩:=W.to W3;refine⟨K3,g',aN rfl rfl (Uw _ _ _ _ _ ?_),W'⟩;simp -implicitDefEqProofs only [xq_,Ja,li,a1,u1,zal]
  | some p=>
   simp only [zay,zaM] at a1 u1 u2;have Q:=Q1 p rfl;obtain⟨K4,g4,b1,W4⟩:=abS W3 C hdd p (N7 Q);unfold Node.answered;obtain⟨ca,d,ok,hA⟩:∃ca d ok,w.1.after me p=(ca,d,ok):=⟨_,_,_,rfl⟩
   rw [hA] at b1 W4;simp only [qI] at b1 W4;simp only [hA];have W5:=W4.newL (ty:=57) (xs:=zD9) (r:=K4.next) rfl rfl;obtain⟨K6,u3,u4,W6⟩:=W5.whole ak (n:=9) (vs:=d.av) rfl rfl (by decide) (aP d);cases ok with
   | false=>
    simp only [if_true];obtain⟨g',W'⟩:=W.to W6;refine⟨K6,g',aN rfl rfl (Uw _ _ _ _ _ ?_),W'⟩;simp -implicitDefEqProofs only [xq_,Ja,li,a1,u1,u2,zae,b1,u3,zal]
   | true=>
    simp only [zbS,if_false];have hs:w.1.deal.step≠0:=λh0=> by
     have hf:w.1.deal.fits p=false:=by unfold bF.fits;rw [h0];simp [Oh,IE]
     rw [uJ,yF hf] at hA;simp [oD] at hA
    have NX:=Tn NI.cache (NI.deal hs) hs Q (by rw [<-uJ];exact hA);have hd2:d.data.length < 1000000000:=by
     rcases NX.dat with h | h
     ·rw [h];decide
     ·have:=h.1;have:=Bd.words;omega
    have hck:ca.clock < 1000000000:=by rcases NX.clk with h | h <;> omega
    have C2:COk ca:=cok hc NX.inv hck;obtain⟨K7,g7,c1,W7⟩:=W6.Zr d;have lp:=W7.ldN (i:=1) (v:=.ref (S.a 2) 0 0) rfl;obtain⟨K8,d1,W8⟩:=W7.cur P;have W9:=W8.newL (ty:=86) (xs:=[zI,zI,zI]) (r:=K8.next) rfl rfl;obtain⟨K10,u5,u6,W10⟩:=W9.whole ak (n:=3) (vs:=w.1.proc.op.av) rfl (dw _) (by decide) (lC _);have hlt:K4.next < K8.next:=W8.loc.good.lt (q:=K4.next) (mY (g:=g7) ak)
    have k9:fO (fO (fO (fO (fO (fO noL K1.next zP9) K1.next p.av) K4.next zD9) K4.next d.av) K8.next [zI,zI,zI]) K8.next w.1.proc.op.av K4.next=some d.av:=by
     rw [aA (by omega),aA (by omega),ak]
    have l3:=W10.loc.ld k9 (i:=3) (v:=I d.step) rfl;have l0:=W10.loc.ld k9 (i:=0) (v:=I d.kind) rfl;have lo:=W10.loc.ld (r:=K8.next) (xs:=w.1.proc.op.av) ak (i:=0) (v:=I w.1.proc.op.kind) rfl;by_cases h0:d.step=0
    ·simp only [if_pos h0];rw [h0] at l3;by_cases hf:d.kind=3/\w.1.proc.op.kind=4
     ·simp only [if_pos hf];rw [hf.1] at l0;rw [hf.2] at lo;obtain⟨K11,g11,e1,W11⟩:=Zf W10 P (show w.2.2.length < 1000000 by omega) 0;obtain⟨g',W'⟩:=W.to W11;refine⟨K11,g',aN rfl rfl (Uw _ _ _ _ _ ?_),W'⟩;simp -implicitDefEqProofs only [Int.reduceEq,xq_,Ja,li,a1,u1,u2,zae,b1,u3,u4,c1,lp,d1,u5,l3,l0,lo,e1]
     ·simp only [if_neg hf];obtain⟨g',W'⟩:=W.to W10;refine⟨K10,g',aN rfl rfl (Uw _ _ _ _ _ ?_),W'⟩;by_cases hk:d.kind=3
      ·have ho:¬w.1.proc.op.kind=4:=λh=> hf ⟨hk,h⟩;rw [hk] at l0;simp -implicitDefEqProofs only [Int.reduceEq,xq_,Ja,li,a1,u1,u2,zae,b1,u3,u4,c1,lp,d1,u5,l3,l0,lo,ho]
      ·simp -implicitDefEqProofs only [Int.reduceEq,xq_,Ja,li,a1,u1,u2,zae,b1,u3,u4,c1,lp,d1,u5,l3,l0,hk]
    ·simp only [if_neg h0];by_cases h6:d.step=6/\d.kind≠3
     ·simp only [if_pos h6];rw [h6.1] at l3;have hk:=h6.2;simp only [ne_eq] at hk;obtain⟨K11,g11,e1,W11⟩:=NQ W10 hc P C2 (show w.2.2.length < 1000000 by omega);obtain⟨K12,g12,e2,W12⟩:=Qk W11 hc (fok hc F1) hd2;obtain⟨g',W'⟩:=W.to W12;refine⟨K12,g',aN rfl rfl (Uw _ _ _ _ _ ?_),W'⟩;simp -implicitDefEqProofs only [Int.reduceEq,xq_,Ja,Ei,li,a1,u1,u2,zae,b1,u3,u4,c1,lp,d1,u5,l3,l0,hk,zal,e1,e2]
     ·simp only [if_neg h6];obtain⟨K12,g12,e2,W12⟩:=Qk W10 hc (fok hc F1) hd2;obtain⟨g',W'⟩:=W.to W12;refine⟨K12,g',aN rfl rfl (Uw _ _ _ _ _ ?_),W'⟩;by_cases h66:d.step=6
      ·have hk:d.kind=3:=Classical.byContradiction λh=> h6 ⟨h66,h⟩;rw [h66] at l3;rw [hk] at l0;simp -implicitDefEqProofs only [Int.reduceEq,xq_,Ja,Ei,li,a1,u1,u2,zae,b1,u3,u4,c1,lp,d1,u5,l3,l0,zae,e2]
      ·simp -implicitDefEqProofs only [xq_,Ja,Ei,li,a1,u1,u2,zae,b1,u3,u4,c1,lp,d1,u5,l3,h0,h66,e2]
theorem abX(W:Walk b H g0 S c me k K g ls w)(hc:c.ok=true)(F:sQ c w.2.1)(NI:Rh c me w.1)(hn:0<=w.1.num/\w.1.num < 1000000)(hl:w.2.2.length < 999999)(hdd:w.1.deal.data.length < 1000000000)(hw:∀line,(w.1.home.turns.ws line).length < 1000000):
  ∃K' g',cl 36 [.ref (S.a 0) 0 0,.ref S.f 0 0,.ref S.t 0 0] K=some (I (w.1.step c me w.2.1 w.2.2).2,K')/\Walk b H g0 S c me k K' g' ls (w.1.step c me w.2.1 w.2.2).1:=by
 have Z:=hsz hc NI hw;have C:=cok hc NI.cache (by have:=NI.clk;have:=NI.proc.vals;have:=NI.proc.most;omega);unfold Node.step;obtain⟨K1,g1,h1⟩:=U1 W hc F NI hl hdd;cases ht:w.2.1.take me false with
 | mk f' po=>
  rw [ht] at h1;cases po with
  | some p=>
   obtain⟨a1,W1⟩:=h1;refine⟨K1,g1,aN rfl rfl (Ut _ _ _ _ _ ?_),W1⟩;simp -implicitDefEqProofs only [xq_,PD,a1]
  | none=>
   obtain⟨a1,W1⟩:=h1;simp only;obtain⟨K2,g2,h2⟩:=Zq W1 hc F Z;by_cases hg:w.1.home.ready≠[]/\w.2.1.roomOf me false≠0
   ·rw [if_pos hg] at h2 ⊢;obtain⟨a2,W2⟩:=h2;refine⟨K2,g2,aN rfl rfl (Ut _ _ _ _ _ ?_),W2⟩;simp -implicitDefEqProofs only [xq_,PD,a1,a2]
   ·rw [if_neg hg] at h2 ⊢;obtain⟨a2,W2⟩:=h2;obtain⟨K3,g3,h3⟩:=Qm W2 hc F C Z;cases hr:(if w.2.1.roomOf me false=0 then(w.2.1,none) else w.2.1.take me true) with
    | mk f2 po2=>
     rw [hr] at h3;cases po2 with
     | some p=>
      obtain⟨a3,W3⟩:=h3;refine⟨K3,g3,aN rfl rfl (Ut _ _ _ _ _ ?_),W3⟩;simp -implicitDefEqProofs only [xq_,PD,a1,a2,a3]
     | none=>
      obtain⟨a3,W3⟩:=h3;simp only;obtain⟨K4,g4,h4⟩:=Zt W3 hc F NI hn hl;cases hcu:w.1.proc.cur with
      | none=>
       rw [hcu] at h4;obtain⟨a4,W4⟩:=h4;refine⟨K4,g4,aN rfl rfl (Ut _ _ _ _ _ ?_),W4⟩;simp -implicitDefEqProofs only [xq_,PD,a1,a2,a3,a4]
      | some o=>
       rw [hcu] at h4;simp only at h4 ⊢;by_cases hs:w.1.deal.step=0
       ·rw [if_pos hs] at h4 ⊢;obtain⟨a4,W4⟩:=h4;refine⟨K4,g4,aN rfl rfl (Ut _ _ _ _ _ ?_),W4⟩;simp -implicitDefEqProofs only [xq_,PD,a1,a2,a3,a4]
       ·rw [if_neg hs] at h4 ⊢;obtain⟨a4,W4⟩:=h4;refine⟨K4,g4,aN rfl rfl (Ut _ _ _ _ _ ?_),W4⟩;simp -implicitDefEqProofs only [xq_,PD,a1,a2,a3,a4]
end
theorem abY {H:aj}{r:Nat}{o:dR}(h:H.get r=o):H.put r o=H:=by
 subst h;unfold aj.put;have:(λx=> if x=r then H.get r else H.get x)=H.get:=by
  funext x
  split
  ·rename_i e;rw [e]
  ·rfl
 rw [this]
theorem agX {H:aj}{r:Nat}{o o':dR}:(H.put r o).put r o'=H.put r o':=by
 unfold aj.put
 congr 1
 funext x
 simp only;split <;> rfl
def pV(bit mask:Int)(i:Nat)(l:List By):List By:=l.mapIdx λj c=> if j < i then c ^^^ rO bit mask j else c
theorem oC(bit mask:Int)(i:Nat)(l:List By):(pV bit mask i l).length=l.length:=by simp [pV]
theorem U2(bit mask:Int)(l:List By):pV bit mask 0 l=l:=by
 unfold pV
 apply za6
 intro i;rw [zbc];cases l[i]? <;> simp
theorem Zu(bit mask:Int)(l:List By):pV bit mask l.length l=nU bit mask l:=by
 unfold pV nU
 apply za6
 intro i;rw [zbc,zbc];cases h:l[i]? with
 | none=> rfl
 | some c=> simp [(zaf.1 h).1]
theorem Oa(bit mask:Int){i:Nat}{l:List By}{c:By}(h:l[i]?=some c):(pV bit mask i l)[i]?=some c:=by
 unfold pV;rw [zbc,h];simp
theorem GZ(bit mask:Int){i:Nat}{l:List By}{c:By}(h:l[i]?=some c):pV bit mask (i+1) l=(pV bit mask i l).set i (c ^^^ rO bit mask i):=by
 apply za6
 intro j;have hi:=(zaf.1 h).1;unfold pV;rw [zbc,List.getElem?_set,zbc,zci];by_cases e:i=j
 ·subst e;rw [if_pos rfl,if_pos hi,h];simp
 ·rw [if_neg e];cases hj:l[j]? with
  | none=> rfl
  | some d=>
   simp only [zah]
   congr 1
   by_cases h1:j < i
   ·rw [if_pos h1,if_pos (by omega)]
   ·rw [if_neg h1,if_neg (by omega)]
theorem zV(bit mask:Int){i:Nat}{l:List By}{c:By}(h:l[i]?=some c)(hm:rO bit mask i=0#8):pV bit mask (i+1) l=pV bit mask i l:=by
 rw [GZ bit mask h,hm,BitVec.xor_zero]
 apply za6
 intro j;rw [List.getElem?_set];split
 ·rename_i e;subst e;split
  ·rw [Oa bit mask h]
  ·rename_i hh;rw [zaG (by omega)]
 ·rfl
theorem U3 {K0:aj}{r n:Nat}{l:List By}{bit mask:Int}(hb:In64 bit)(h0:0<=mask)(h1:mask<=65535)(hs:l.length < 1000)(hr:r < K0.next)(hbase:K0.base<=r):
  ∀(k i:Nat),i+k=l.length->Ji cl0 [I bit,.s (.int .u16 mask),.sl r 0 0 1 l.length l.length false,I l.length,I i] (K0.put r (.blk 0 (5+eH) ((pV bit mask i l).map Y)))
   =some (.sl r 0 0 1 l.length l.length false,K0.put r (.blk 0 (5+eH) ((pV bit mask l.length l).map Y))):=by
 obtain⟨hb1,hb2⟩:=hb;intro k
 induction k with
 | zero=>
  intro i hi;have h1:¬((i:Int) < l.length):=by omega
  obtain rfl:i=l.length:=by omega
  rw [XA];simp -implicitDefEqProofs only [Int.reduceNeg,xq_,h1]
 | succ k ih=>
  intro i hi;have h2:(i:Int) < l.length:=by omega
  have h6:(i:Int)+1=((i+1:Nat):Int):=by omega
  have h7:=wrap_i64 (a:=((i+1:Nat):Int)) (by omega) (by omega);obtain⟨c,hc⟩:∃c,l[i]?=some c:=⟨_,zab (by omega)⟩
  have w8:=wrap_i64 (a:=8*(i:Int)) (by omega) (by omega);have ihn:=ih (i+1) (by omega);rw [XA];by_cases hov:8*(i:Int) - bit < 9223372036854775808
  ·have wd:=wrap_i64 (a:=8*(i:Int) - bit) (by omega) (by omega);by_cases hA:8*(i:Int) - bit<=-8
   ·have hm:rO bit mask i=0#8:=by unfold rO;rw [if_pos (.inl hA)]
    rw [zV bit mask hc hm] at ihn;simp -implicitDefEqProofs only [Int.reduceNeg,xq_,h2,gQ,w8,iT,wd,hA,zx,aZ,h6,h7,ihn]
   by_cases hB:16<=8*(i:Int) - bit
   ·have hm:rO bit mask i=0#8:=by unfold rO;rw [if_pos (.inr hB)]
    rw [zV bit mask hc hm] at ihn;simp -implicitDefEqProofs only [Int.reduceNeg,xq_,h2,gQ,w8,iT,wd,hA,hB,zx,aZ,h6,h7,ihn]
   have hd:∃d:Int,8*(i:Int) - bit=d/\-8 < d/\d < 16:=⟨_,rfl,by omega,by omega⟩
   obtain⟨d,hd,hd1,hd2⟩:=hd;have wd8:=wrap_i64 (a:=d+8) (by omega) (by omega);have wdd:=wrap_i64 (a:=d) (by omega) (by omega);have ds:¬(d<=-8):=by omega
   have db:¬(16<=d):=by omega
   obtain⟨m,rfl⟩:∃m:Nat,mask=m:=⟨mask.toNat,by omega⟩
   have aqC:AV.s (.int .u16 (m:Int))=U16 (BitVec.ofNat 16 m):=by
    have hv:(((BitVec.ofNat 16 m).toNat:Nat):Int)=m:=by rw [zch,zcd (by omega)]
    show AV.s (.int .u16 (m:Int))=AV.s (.int .u16 (((BitVec.ofNat 16 m).toNat:Nat):Int));rw [hv]
   let K:aj:=K0.put r (.blk 0 (5+eH) ((pV bit m i l).map Y));have byK:bH K (.sl r 0 0 1 l.length l.length false) (pV bit m i l):=by
    refine⟨⟨by simp,rfl,(oC ..).symm,⟨hr,zac _⟩,_,_,qE,?_,?_⟩,by rw [oC];exact hs⟩
    ·rw [zaE,oC];omega
    ·rw [oC,zbt,zaP,zas (by rw [zaE,oC];exact zac _)]
   have s1:ix 1 (.sl r 0 0 1 l.length l.length false) (I i) K=some (.ref r 0 i,K):=by
    have:=byK.ix (i:=i) (by rw [oC];omega)
    simpa [cZ] using this
   have s2:ld (.ref r 0 i) K=some (Y c,K):=by
    have:=byK.ld (Oa bit m hc)
    simpa [cZ] using this
   have e1:cv 33 230 (.s (.int .u16 (m:Int))) K=some (U32 (BitVec.ofNat 32 m),K):=by
    refine(Wp (k:=.u16) (n:=(m:Int)) (H:=K)).trans ?_;rw [xX (k:=.u32) rfl];rfl
   let u1:BitVec 32:=BitVec.ofNat 32 m <<< 8;let u2:BitVec 32:=u1 <<< (d+8).toNat;have e2:bi .shl 230 (U32 (BitVec.ofNat 32 m)) (.s (.int .u64 8))=some (U32 u1):=Xb (k:=.u32) rfl _ 8 (by decide) (by decide);have e3:bi .shl 230 (U32 u1) (I (d+8))=some (U32 u2):=Xb (k:=.u32) rfl u1 (d+8) (by omega) (show d+8<=(32:Int) by omega);have e4:bi .shr 230 (U32 u2) (.s (.int .u64 24))=some (U32 (u2 >>> 24)):=afv (k:=.u32) u2 24 (by decide) (by decide);have e5:cv 230 5 (U32 (u2 >>> 24)) K=some (Y ((u2 >>> 24).setWidth 8),K):=
    (aaD (k:=.u32) (n:=((u2 >>> 24).toNat:Int)) (H:=K)).trans (congrArg (λv=> some (v,K)) (aiA (k:=.u32) (k':=.u8) rfl _))
   have hm:(u2 >>> 24).setWidth 8=rO bit m i:=by
    unfold rO;rw [if_neg (by rw [hd];omega),hd];rfl
   rw [hm] at e5;have e6:bi .xor 5 (Y c) (Y (rO bit m i))=some (Y (c ^^^ rO bit m i)):=afu (k:=.u8) rfl _ _;have e7:st 1 (.ref r 0 i) (Y (c ^^^ rO bit m i)) K=some (aO,K0.put r (.blk 0 (5+eH) ((pV bit m (i+1) l).map Y))):=by
    refine(Ll (H:=K) (r:=r) (gg:=0) (off:=i) (ty:=5+eH) (xs:=(pV bit m i l).map Y) (v:=Y (c ^^^ rO bit m i)) bJ qE hbase (by rw [zaE,oC];omega)).trans ?_;show some (aO,(K0.put r _).put r _)=_;rw [agX,GZ bit m hc,List.map_set]
   simp only [K] at s1 s2 e1 e5 e7;simp -implicitDefEqProofs only [Int.reduceNeg,xq_,h2,gQ,w8,iT,hd,wdd,ds,db,s1,s2,e1,e2,e3,e4,e5,e6,e7,wd8,zx,aZ,h6,h7,ihn]
  ·have wd:IntKind.i64.wrap (8*(i:Int) - bit)=8*(i:Int) - bit - 18446744073709551616:=by
    simp only [IntKind.wrap,IntKind.signed,IntKind.bits];simp;omega
   have hA:8*(i:Int) - bit - 18446744073709551616<=-8:=by omega
   have hm:rO bit mask i=0#8:=by unfold rO;rw [if_pos (.inr (by omega))]
   rw [zV bit mask hc hm] at ihn;simp -implicitDefEqProofs only [Int.reduceNeg,xq_,h2,gQ,w8,iT,wd,hA,zx,aZ,h6,h7,ihn]
theorem amn {H:aj}(hb:H.base<=H.next){x:AV}{l:List By}(hx:bH H x l)(hl:l≠[]){bit mask:Int}(hbit:In64 bit)(h0:0<=mask)(h1:mask<=65535):
  ∃r H',cl0 96 [x,I bit,.s (.int .u16 mask)] H=some (.sl r 0 0 1 l.length l.length false,H')/\Gro H H'/\bH H' (.sl r 0 0 1 l.length l.length false) (nU bit mask l)/\H'.base<=H'.next:=by
 let H1:=H.new (.blk 0 5 []);let K0:=H1.new (.blk 0 (5+eH) (l.map Y));have e1:=Yp hx hl;have n1:H1.next=H.next+1:=nNew
 have n2:K0.next=H.next+1+1:=by simp only [K0,nNew,n1]
 have g:Gro H K0:=(Gro.new H 0 _ _).trans (Gro.new H1 0 _ _);have at_:K0.get (H.next+1)=.blk 0 (5+eH) (l.map Y):=aK n1.symm;have ps:K0.put (H.next+1) (.blk 0 (5+eH) ((pV bit mask 0 l).map Y))=K0:=by rw [U2];exact abY at_
 have lp:=U3 (K0:=K0) (r:=H.next+1) (n:=0) (l:=l) hbit h0 h1 hx.small (by omega) (by rw [g.base];omega) l.length 0 (by omega);rw [ps] at lp;have ln:lnS (.sl (H.next+1) 0 0 1 l.length l.length false) K0=some (I l.length,K0):=rfl;refine⟨H.next+1,K0.put (H.next+1) (.blk 0 (5+eH) ((pV bit mask l.length l).map Y)),fV (aoI _ _ _ _ _ ?_),g.put (by omega),?_,by show K0.base<=K0.next;rw [g.base];omega⟩
 ·simp -implicitDefEqProofs only [xq_,ajL,e1];exact lp
 ·rw [Zu];refine⟨⟨by simp,rfl,(iy ..).symm,⟨by show H.next+1 < K0.next;omega,zac _⟩,_,_,qE,?_,?_⟩,by rw [iy];exact hx.small⟩
  ·rw [zaE,iy];omega
  ·rw [iy,zbt,zaP,zas (by rw [zaE,iy];exact zac _)]
theorem ao8(c:By):yOf (Y c)=some c:=by
 have h:=c.isLt;show(if(0:Int)<=(c.toNat:Int)/\(c.toNat:Int) < 256 then some (BitVec.ofInt 8 (c.toNat:Int)) else none)=some c;rw [if_pos ⟨by omega,by omega⟩,nV]
theorem aeO:∀l:List By,(l.map Y).mapM yOf=some l
 | []=> rfl
 | c::l=> by rw [zaC,zbp,ao8,aeO l];rfl
theorem U4 {H:aj}{r n:Nat}{l:List By}(hn:l.length=n)(h:bH H (.sl r 0 0 1 n n false) l)(h0:0 < n)(h8:n<=800):bytesOf (.sl r 0 0 1 n n false) H=some l:=by
 subst hn;obtain⟨⟨hl,_,_,⟨hr,_⟩,ty,all,h2,h3,h4⟩,hs⟩:=h;rw [zbt] at h4 h3;simp only [bytesOf,h2];rw [if_pos ⟨trivial,trivial,h3,h0,h8⟩,<-h4];exact aeO l
theorem Ob(p:Pkt):(pU p).length=12+8*p.data.length:=by
 rw [oV];rfl
theorem Zv {H:aj}{r:Nat}{p:Pkt}(hp:p.fit){bit mask:Int}(h0:0<=mask)(h1:mask<=65535){n:Nat}(hn:n=(pU p).length)(h:bH H (.sl r 0 0 1 n n false) (nU bit mask (pU p))):
  cl 95 [.sl r 0 0 1 n n false] H=some (if turns p.bytes bit mask=true then .tup [.agg Pkt.zero.av,I 2] else .tup [.agg p.av,I 0],H):=by
 refine Dn (p:=zh) rfl ?_;have ok:=hp.ok;simp only [Pkt.ok,zaj,decide_eq_true_eq] at ok;have hlen:=Ob p;unfold zh;simp only [U4 (by rw [iy,hn]) h (by omega) (by omega)];by_cases ht:turns p.bytes bit mask=true
 ·rw [if_pos ht];have hne:∀y,nU bit mask (pU p)≠iV y:=λy=> Pv h0 h1 (by
   have:(iV (dL p)).length=p.bytes:=oV p;rw [this];exact ht)
  rw [dif_neg (λ⟨q,_,hq⟩=> hne _ hq.symm),if_pos hne]
 ·rw [if_neg ht];have he:nU bit mask (pU p)=pU p:=Us h0 h1 (by rw [oV];simpa using ht);have hex:∃q:Pkt,q.fit/\pU q=nU bit mask (pU p):=⟨p,hp,he.symm⟩
  rw [dif_pos hex];have hs:=Classical.choose_spec hex;have:Classical.choose hex=p:=pack_inj hs.1 hp (hs.2.trans he);rw [this]
theorem Tt(p:Pkt)(n:Int):Frz 9 (.tup [.agg p.av,I n]):=rD λx hx=> by
 simp only [zam,zaI,or_false] at hx;rcases hx with rfl | rfl
 ·exact kD λx hx=> by
   simp only [Pkt.av,zam,zaI,or_false] at hx;rcases hx with rfl | rfl | rfl | rfl | rfl | rfl | rfl | rfl | rfl <;> first | exact dW | exact rE
 ·exact dW
theorem agY(H:aj){p:Pkt}(hp:p.fit){bit mask:Int}(hbit:In64 bit)(h0:0<=mask)(h1:mask<=65535):
  cl 62 [.agg p.av,I bit,.s (.int .u16 mask)] H=some (if turns p.bytes bit mask=true then .tup [.agg Pkt.zero.av,I 2] else .tup [.agg p.av,I 0],H):=by
 have ax:p.av=p.avx (dat p.data):=rfl;let o1:dR:=.blk 0 70 p.av;let o2:dR:=.blk 0 70 zPk;let K:=(H.guard.new o1).new o2;have hlen:=Ob p;have hK:K.base<=K.next:=by simp only [K,bNew,nNew];exact(by omega:H.next<=H.next+1+1)
 obtain⟨y,K1,e1,g1,b1,hb1⟩:=alV hK p (nC K p.data) hp.ok;rw [<-ax] at e1;have e1':cl 94 [.agg p.av] K=some (.tup [y,I 0],K1):=Dn (p:=cl0 94) rfl e1;obtain⟨r,K2,e2,g2,b2,hb2⟩:=amn hb1 b1 (bit:=bit) (mask:=mask) (λe=> by rw [e] at hlen;simp at hlen;omega) hbit h0 h1;have e2':cl 96 [y,I bit,.s (.int .u16 mask)] K1=some (_,K2):=Dn (p:=cl0 96) rfl e2;have e3:=Zv hp h0 h1 rfl b2;have hR:K2.get (H.next+1)=o2:=by
  rw [g2.same _ (zaw (show H.next+1 < K.next by simp only [K,nNew];exact Nat.lt_succ_self _) g1.next),g1.same _ (by simp only [K,nNew];exact Nat.lt_succ_self _)];exact aK rfl
 have hbase:K2.base<=H.next+1:=by
  rw [g2.base,g1.base];exact za9 _
 have key:∀q:Pkt,st 9 (.ref (H.next+1) 0 0) (.agg q.av) K2=some (aO,K2.put (H.next+1) (.blk 0 70 q.av))/\lda 9 (.ref (H.next+1) 0 0) (K2.put (H.next+1) (.blk 0 70 q.av))=some (.agg q.av,K2.put (H.next+1) (.blk 0 70 q.av)):=λq=> by
  refine⟨?_,(fQ (off:=0) (n:=9) qE (zac _)).trans rfl⟩;rw [QZ (aJ _) (show q.av.length=9 from rfl) hR hbase (by decide)];rfl
 have l1:lda 9 (.ref H.next 0 0) K=some (.agg p.av,K):=by
  have:K.get H.next=.blk 0 70 p.av:=by
   simp only [K];rw [aQ (by rw [nNew];exact Nat.lt_succ_self _)];exact aK rfl
  exact(fQ (off:=0) (n:=9) this (zac _)).trans rfl
 by_cases ht:turns p.bytes bit mask=true
 ·rw [if_pos ht] at e3 ⊢;refine aW rfl rfl (ajn _ _ _ _ _) ?_ (Tt _ _);obtain⟨k1,k2⟩:=key .zero;simp only [K,o1,o2] at e1' l1;have n1:H.guard.next=H.next:=rfl
  simp -implicitDefEqProofs only [Nat.reduceLT,xq_,hq_,afK,aB,l1,e1',e2',e3,k1,k2,zae]
 ·rw [if_neg ht] at e3 ⊢;refine aW rfl rfl (ajn _ _ _ _ _) ?_ (Tt _ _);obtain⟨k1,k2⟩:=key p;simp only [K,o1,o2] at e1' l1;have n1:H.guard.next=H.next:=rfl
  simp -implicitDefEqProofs only [Nat.reduceLT,xq_,hq_,afK,aB,l1,e1',e2',e3,k1,k2,zae]
theorem Tv:∀(l:List Port) (i:Nat) (k:Nat) {j:Nat} {k':Int},uG (l.flatMap λp=> [p.rq,p.an]) (2*i) (k:Int)=some (j,k')->findAt l i k=some (j / 2,decide (j % 2=0),k'.toNat)
 | [],i,k,j,k',h=> by cases h
 | p::l,i,k,j,k',h=> by
  simp only [zaH,zbP,zaX,uG] at h;simp only [findAt];by_cases h1:k < p.rq.length
  ·rw [if_pos ⟨by omega,by omega⟩] at h;cases h;rw [if_pos h1,show 2*i / 2=i by omega,show 2*i % 2=0 by omega];rfl
  ·rw [if_neg (λhh=> h1 (by omega))] at h;rw [if_neg h1];by_cases h2:k < p.rq.length+p.an.length
   ·rw [if_pos ⟨by omega,by omega⟩] at h;cases h;rw [if_pos h2,show(2*i+1) / 2=i by omega,show(2*i+1) % 2=1 by omega];simp only [zaa,zad,true_and];exact⟨by simp,by omega⟩
   ·rw [if_neg (λhh=> h2 (by omega))] at h;rw [if_neg h2];rw [show(k:Int) - p.rq.length - p.an.length=((k - (p.rq.length+p.an.length):Nat):Int) by omega,show 2*i+1+1=2*(i+1) by omega] at h;exact Tv l (i+1) _ h
theorem aqt {b:Nat}{K:aj}{gk:Store}{r:Nat}{ys:List AV}(Gk:Good b K gk)(hk:K.base<=b)(hz:gk r=some (ys.map Cell.av))(hy:ys.length=2){y:List AV}(h9:y.length=2)(ha:y.all AV.aH=true):
  ∃K',st 2 (.ref r 0 0) (.agg y) K=some (aO,K')/\Good b K' (upd gk r (y.map Cell.av))/\Step b K K':=by
 obtain⟨K',t1,t2,t3,t4⟩:=Gk.stores hk hz (i:=0) (n:=2) (vs:=y) (by simp [hy]) h9 ha;have e:mX (ys.map Cell.av) 0 y=y.map Cell.av:=by
  unfold mX;rw [zaU (by simp [h9,hy])];simp
 rw [e] at t2;exact⟨K',t1,t2,t3⟩
theorem Zw {fab:Fab}{d:Nat}{req:Bool}{l:List Pkt}:(fab.put d ((fab.port d).mO req l)).iw=fab.iw:=by
 unfold Fab.iw Fab.put;rw [zar];have key:∀(ls:List Port) (d:Nat),((ls.set d ((ls.getD d .zero).mO req l)).flatMap λp=> [p.rq,p.an])=ls.flatMap λp=> [p.rq,p.an]:=by
  intro ls
  induction ls with
  | nil=> intro d;rfl
  | cons p ls ih=>
   intro d;cases d with
   | zero=> cases req <;> simp [Port.mO]
   | succ d=> simpa using ih d
 have:=key fab.l d;unfold Fab.port;rw [zar];exact this
theorem Tz:∀(ls:List Port) (j:Nat) {l:List Pkt},(ls.flatMap λp=> [p.rq,p.an])[j]?=some l->(ls.getD (j / 2) .zero).sort (decide (j % 2=0))=l
 | [],j,l,h=> by simp at h
 | p::ls,0,l,h=> by simpa [Port.sort] using h
 | p::ls,1,l,h=> by simpa [Port.sort] using h
 | p::ls,j+2,l,h=> by
  have h':(ls.flatMap λp=> [p.rq,p.an])[j]?=some l:=by simpa using h
  have:=Tz ls j h';rw [show(j+2) / 2=j / 2+1 by omega,show(j+2) % 2=j % 2 by omega]
  simpa using this
section
variable {b:Nat}{H:aj}{g:Store}{f:Nat}{P:Nat->Nat->Nat}{c:Cfg}{fab:Fab}
theorem U5(G:Good b H g)(hb:H.base<=b)(F:fH g f P c fab)(J:PW P fab.l.length)(K:FOk c fab)(h0:fab.l.length≠0)(hfit:∀p∈fab.all,p.fit/\fab.is p.dst=true){at_ bit mask:Int}(h64:In64 at_)(hbit:In64 bit)(m0:0<=mask)(m1:mask<=65535):
  ∃H' g',cl 35 [.ref f 0 0,I at_,I bit,.s (.int .u16 mask)] H=some (I (fab.deliver at_ bit mask).2,H')/\Good b H' g'/\fH g' f P c (fab.deliver at_ bit mask).1/\Off (JY P fab.l.length) g g'/\Step b H H':=by
 have hb0:H.base<=H.next:=zaz hb G.1
 have Zx:∀l∈fab.iw,l.length < 1000/\∀p∈l,p.data.length < 1000000000:=by
  intro l hl;unfold Fab.iw at hl;obtain⟨p,hp,hl⟩:=za5.1 hl;simp only [zam,zaI,or_false] at hl;rcases hl with rfl | rfl
  ·exact⟨K.small hp (s:=0) (by decide),K.dat p hp 0 (by decide)⟩
  ·exact⟨K.small hp (s:=2) (by decide),K.dat p hp 2 (by decide)⟩
 have e1:=YO G F K.len h0 Zx at_ h64;have hn0:g H.next=none:=G.isNone (zac _)
 have G1:=G.newObj (ty:=70) (xs:=zP9) rfl;obtain⟨K1,s1,l1,G2,S2⟩:=agM G1 (by rw [bNew];exact hb) upd_same rfl (y:=((fab.pkt at_).getD .zero).av) (aY _) (aJ _);rw [mG] at G2;have S02:=(Step.new (.blk 0 70 zP9) G.1).trans S2;cases hp:fab.pkt at_ with
 | none=>
  have hd:fab.deliver at_ bit mask=(fab,3):=by
   unfold Fab.deliver;unfold Fab.pkt at hp;split at hp
   ·rename_i h;rw [if_pos h]
   ·rename_i h;rw [if_neg h,hp]
  rw [hd];rw [hp] at e1 s1;refine⟨K1,g,aN rfl rfl (aaW _ _ _ _ _ _ ?_),G2.sub ((pO.refl g).more hn0 _),F,Off.refl _ _,S02⟩;simp only [fM,za0,zaL] at e1 s1;simp -implicitDefEqProofs only [xq_,Xm,e1,s1,zal]
 | some p=>
  rw [hp] at e1 s1 l1 G2;simp only [fM,zay,zaM] at e1 s1 l1 G2;have hat:¬at_ < 0:=by
   intro h;unfold Fab.pkt at hp;rw [if_pos h] at hp;cases hp
  have hall:fab.all[at_.toNat]?=some p:=by
   unfold Fab.pkt at hp
   rwa [if_neg hat] at hp
  obtain⟨pf,pd⟩:=hfit p (zau hall);have e2:=agY K1 pf hbit m0 m1;have hd:fab.deliver at_ bit mask=if turns p.bytes bit mask=true then(fab,2) else
    if fab.room (DR p.kind)<=((fab.port p.dst).rH (DR p.kind)).length then(fab,5) else
    ((fab.put p.dst ((fab.port p.dst).mO (DR p.kind) ((fab.port p.dst).rH (DR p.kind)++[p]))).remove at_.toNat,0):=by
   unfold Fab.deliver;rw [if_neg hat,hall]
  have hk1:K1.base<=b:=by rw [S02.base];exact hb
  by_cases ht:turns p.bytes bit mask=true
  ·rw [if_pos ht] at e2 hd;rw [hd];obtain⟨K2,s3,l3,G3,S3⟩:=agM G2 hk1 upd_same (aY _) (y:=Pkt.zero.av) (aY _) (aJ _);rw [mG] at G3;refine⟨K2,g,aN rfl rfl (aaW _ _ _ _ _ _ ?_),G3.sub ((pO.refl g).more hn0 _),F,Off.refl _ _,S02.trans S3⟩;simp -implicitDefEqProofs only [Int.reduceEq,xq_,Xm,e1,s1,zae,l1,e2,s3,zal]
  rw [if_neg ht] at e2 hd;rw [hd];obtain⟨K2,s3,l3,G3,S3⟩:=agM G2 hk1 upd_same (aY _) (y:=p.av) (aY _) (aJ _);rw [mG] at G3;have S03:=S02.trans S3;have F3:=F.sub ((pO.refl g).more hn0 (p.av.map Cell.av));obtain⟨d,hdd,hdl⟩:=yB pd;obtain⟨x,r,gg,o,h1,h2,h3⟩:=yC G3 F3 hdl;have hdst:ld (.ref H.next 0 2) K2=some (I p.dst,K2):=G3.load upd_same (i:=2) rfl;have hkind:ld (.ref H.next 0 0) K2=some (I p.kind,K2):=G3.load upd_same (i:=0) rfl;let req:=DR p.kind;have rq:=GI K2.guard p.kind;obtain⟨K3,t1,t2⟩:=Cm K2.guard (zac _) (P d) req;obtain⟨K3,t1,t2⟩:=drawn t1 t2;have G4:=G3.ext t2.next t2.same
  have hk3:K3.base<=b:=by rw [t2.base,S03.base];exact hb
  have S34:Step b K2 K3:=⟨t2.base,t2.next,λr hr=> t2.same r (zaw hr G3.1)⟩
  have l9:lda 9 (.ref H.next 0 0) K3=some (.agg p.av,K3):=G4.loads upd_same (i:=0) (n:=9) (xs:=p.av) rfl rfl (by decide);have hbx:=eU (F3.port hdl) (pG req);have hR:=GU K.ok (iIx req);obtain⟨K4,q1,q2,q3⟩:=aa4 G4 hk3 hbx hR.1 hR.2 (K.small (Fab.rW hdl) (pG req)) p (by have:=pf.ok;simp only [Pkt.ok,zaj,decide_eq_true_eq] at this;omega);rw [EJ] at q1 q2;have hroom:JZ c (iIx req)=fab.room req:=by
   have aqu:fab.inn=c.inn:=F.2.2.2;unfold Fab.room;cases req <;> simp [iIx,JZ,aqu]
  have hle:=K.box _ (Fab.rW hdl) _ (pG req);rw [EJ] at hle;have f1:(abL (P d) req)[1]?=some (.ref (P d (iIx req)) 0 0):=rfl;have S04:=(S03.trans S34).trans q3;have hk4:K4.base<=b:=by rw [S04.base];exact hb
  have hdp:p.dst=(d:Int):=hdd;have hpn:P d (iIx req)≠H.next:=λe=> F.Qi G ⟨d,iIx req,hdl,pG req,e.symm⟩
  by_cases hfull:JZ c (iIx req)=(((fab.port d).rH req).length:Int)
  ·rw [if_pos hfull] at q1 q2;rw [if_pos (show fab.room (DR p.kind)<=((fab.port p.dst).rH (DR p.kind)).length by rw [hdp];show fab.room req<=_;rw [<-hroom];exact Int.le_of_eq hfull)];rw [dO (by rw [hbx,EJ])] at q2;refine⟨K4,g,aN rfl rfl (aaW _ _ _ _ _ _ ?_),q2.sub ((pO.refl g).more hn0 _),F,Off.refl _ _,S04⟩;rw [hdp] at hdst;simp only [req] at rq t1 f1 q1;simp -implicitDefEqProofs only [Int.reduceEq,xq_,Xm,e1,s1,zae,l1,e2,s3,h1,hdst,h2,h3,hkind,rq,t1,f1,l9,q1,zal]
  ·rw [if_neg hfull] at q1 q2;rw [if_neg (show¬fab.room (DR p.kind)<=((fab.port p.dst).rH (DR p.kind)).length by rw [hdp];show¬fab.room req<=_;rw [<-hroom];exact λh=> hfull (Int.le_antisymm h hle))];have F4:=F3.fill J hdl (pG req) (p':=(fab.port d).mO req ((fab.port d).rH req++[p])) (l:=(fab.port d).rH req++[p]) (zO _ _ _);rw [hdp];show∃H' g',_/\_/\fH g' f P c ((fab.put d ((fab.port d).mO req ((fab.port d).rH req++[p]))).remove at_.toNat)/\_/\_;generalize agZ:fab.put d ((fab.port d).mO req ((fab.port d).rH req++[p]))=JU at*;have amo:JU.iw=fab.iw:=by rw [<-agZ];exact Zw
   have hlen1:JU.l.length=fab.l.length:=by rw [<-agZ];simp [Fab.put]
   have e5:=YN q2 F4 (by rw [hlen1];exact K.len) (by rw [hlen1];exact h0) (λl hl=> (Zx l (by rw [<-amo];exact hl)).1) at_ h64;rw [amo] at e5;cases hf:uG fab.iw 0 at_ with
   | none=>
    exfalso;have:=zH hf;rw [show fab.iw.flatten=fab.all from zJ fab.l] at this;have h2:=(zaf.1 hall).1;omega
   | some jk=>
    obtain⟨j,k⟩:=jk;rw [hf] at e5;obtain⟨_,l,z2,z3,z4,z5,z6⟩:=qC hf;rw [Nat.sub_zero] at z2;have hj:j < 2*fab.l.length:=by
     have:=(zaf.1 z2).1
     rwa [Fab.iw,nZ] at this
    have hj2:j / 2 < JU.l.length:=by rw [hlen1];omega
    obtain⟨kn,rfl⟩:∃kn:Nat,k=kn:=⟨k.toNat,by omega⟩
    have hfa:findAt JU.l 0 at_.toNat=some (j / 2,decide (j % 2=0),kn):=by
     have hh:=Tv JU.l 0 at_.toNat (j:=j) (k':=kn) (by
      show uG JU.iw 0 _=_;rw [amo,Int.toNat_of_nonneg (by omega)];exact hf)
     simpa using hh
    have ex1:uH P (some (j,(kn:Int)))=.tup [.agg (jE P j),I kn,B true]:=rfl;rw [ex1] at e5;let rq2:Bool:=decide (j % 2=0);have hP:(if j % 2=0 then 0 else 2)=oIx rq2:=by
     by_cases h:j % 2=0 <;> simp [rq2,h,oIx]
    have hp3:=YM F4 (j:=j) (l:=l) (by rw [amo];exact z2);rw [hP] at hp3;have hq4:=eU (F4.port hj2) (qG rq2);have hl:(JU.port (j / 2:Nat)).sort rq2=l:=by
     have:=Tz JU.l j (show JU.iw[j]?=some l by rw [amo];exact z2);unfold Fab.port;rw [zar];exact this
    have hkl:kn < l.length:=by omega
    obtain⟨hl3,hd3⟩:=Zx l (zau z2);have n4:(upd (upd g H.next (p.av.map Cell.av)) (P d (iIx req)) (kU ((fab.port d).rH req++[p]) (JZ c (iIx req)))) K4.next=none:=q2.isNone (zac _)
    have G5:=q2.newObj (ty:=115) (xs:=[zP,zP]) rfl;obtain⟨K5,u1,G6,S6⟩:=aqt G5 (by rw [bNew];exact hk4) upd_same rfl (y:=jE P j) rfl rfl;rw [mG] at G6;have u2:ld (.ref K4.next 0 0) K5=some (.ref (P (j / 2) (oIx rq2)) 0 0,K5):=by
     refine G6.load upd_same (i:=0) ?_;rw [<-hP];rfl
    have S05:=(S04.trans (Step.new _ q2.1)).trans S6;have hk5:K5.base<=b:=by rw [S05.base];exact hb
    have hne:P (j / 2) (oIx rq2)≠K4.next:=λe=> by rw [e,n4] at hp3;cases hp3
    obtain⟨v,K6,y1,G7,S7⟩:=UQ G6 hk5 (by rw [upd_ne hne];exact hp3) hl3 hd3 kn hkl;have hJ1:PW P JU.l.length:=by rw [hlen1];exact J
    have F7:=F4.fill hJ1 hj2 (qG rq2) (p':=(JU.port (j / 2:Nat)).drop rq2 kn) (l:=l.eraseIdx kn) (by
     intro t ht;have:=wO (JU.port (j / 2:Nat)) rq2 (l.eraseIdx kn) t ht;unfold Port.drop;rw [hl];exact this)
    have ao7:JU.remove at_.toNat=JU.put (j / 2:Nat) ((JU.port (j / 2:Nat)).drop rq2 kn):=by
     unfold Fab.remove;rw [hfa]
    rw [ao7];rw [pF] at F7;let g':=upd (upd g (P d (iIx req)) (kU ((fab.port d).rH req++[p]) (JZ c (iIx req)))) (P (j / 2) (oIx rq2)) (kU (l.eraseIdx kn) c.out);have ne2:P (j / 2) (oIx rq2)≠H.next:=λe=> F.Qi G ⟨j / 2,oIx rq2,by omega,qG rq2,e.symm⟩
    have aqv:pO g' (upd (upd (upd g H.next (p.av.map Cell.av)) (P d (iIx req)) (kU ((fab.port d).rH req++[p]) (JZ c (iIx req)))) (P (j / 2) (oIx rq2)) (kU (l.eraseIdx kn) c.out)):=(((pO.refl g).more hn0 _).both _ _).both _ _;have F8:fH g' f P c (JU.put (j / 2:Nat) ((JU.port (j / 2:Nat)).drop rq2 kn)):=by
     have hJ:PW P fab.l.length:=J;have A:=F.fill J hdl (pG req) (p':=(fab.port d).mO req ((fab.port d).rH req++[p])) (l:=(fab.port d).rH req++[p]) (zO _ _ _);rw [agZ] at A;have B:=A.fill hJ1 hj2 (qG rq2) (p':=(JU.port (j / 2:Nat)).drop rq2 kn) (l:=l.eraseIdx kn) (by
      intro t ht;have:=wO (JU.port (j / 2:Nat)) rq2 (l.eraseIdx kn) t ht;unfold Port.drop;rw [hl];exact this)
     rw [pF] at B;exact B
    refine⟨K6,g',aN rfl rfl (aaW _ _ _ _ _ _ ?_),G7.sub λq cs hq=> ?_,F8,(Off.upd ⟨d,iIx req,hdl,pG req,rfl⟩).trans (Off.upd ⟨j / 2,oIx rq2,by omega,qG rq2,rfl⟩),S05.trans S7⟩
    ·rw [hdp] at hdst;simp only [req] at rq t1 f1 q1;simp -implicitDefEqProofs only [xq_,Xm,e1,s1,zae,l1,e2,s3,h1,hdst,h2,h3,hkind,rq,t1,f1,l9,q1,e5,u1,u2,y1]
    ·have:=aqv q cs hq;by_cases e:q=P (j / 2) (oIx rq2)
     ·subst e;rw [upd_same] at this ⊢;exact this
     ·rw [upd_ne e] at this ⊢;have h4:q≠K4.next:=λe'=> by rw [e',n4] at this;cases this
      rw [upd_ne h4];exact this
end
def DX(f:Fab):Prop:=∀p∈f.l,∀q,q∈p.rq∨q∈p.an->f.is q.dst=true
theorem amq(f:Fab)(i:Int)(p:Port)(k:Int):(f.put i p).is k=f.is k:=by
 unfold Fab.is Fab.put;simp
theorem DX.put {f:Fab}(D:DX f)(i:Int){p:Port}(h:∀q,q∈p.rq∨q∈p.an->f.is q.dst=true):DX (f.put i p):=by
 intro x hx q hq;rw [amq];unfold Fab.put at hx;rcases zbM hx with hx | rfl
 ·exact D x hx q hq
 ·exact h q hq
theorem DX.at {f:Fab}(D:DX f)(i:Int):∀q,q∈(f.port i).rq∨q∈(f.port i).an->f.is q.dst=true:=by
 intro q hq;unfold Fab.port at hq;rw [zax] at hq;cases h:f.l[i.toNat]? with
 | none=> rw [h] at hq;simp [Port.zero] at hq
 | some p=> rw [h] at hq;exact D p (zau h) q hq
theorem DX.send {f:Fab}(D:DX f)(p:Pkt):DX (f.send p).1:=by
 unfold Fab.send;split
 ·exact D
 ·rename_i hc;split
  ·exact D
  ·refine D.put _ λq hq=> ?_;have hd:f.is p.dst=true:=by
    cases h:f.is p.dst with
    | true=> rfl
    | false=> simp [h] at hc
   cases hk:DR p.kind with
   | true=>
    rw [hk] at hq;simp only [Port.lX,Port.sort,if_true,za2,zaS] at hq;rcases hq with(hq | rfl) | hq
    ·exact D.at _ q (.inl hq)
    ·exact hd
    ·exact D.at _ q (.inr hq)
   | false=>
    rw [hk] at hq;simp only [Port.lX,Port.sort,zai,if_false,za2,zaS] at hq;rcases hq with hq | hq | rfl
    ·exact D.at _ q (.inl hq)
    ·exact D.at _ q (.inr hq)
    ·exact hd
theorem DX.mO {f:Fab}(D:DX f)(i:Int)(req:Bool)(l:List Pkt):DX (f.put i ((f.port i).mO req l)):=by
 refine D.put _ λq hq=> D.at i q ?_;cases req <;> exact hq
theorem DX.take {f:Fab}(D:DX f)(i:Int)(req:Bool):DX (f.take i req).1:=by
 unfold Fab.take;split
 ·split
  ·exact D
  ·exact D.mO _ _ _
 ·exact D
theorem DX.remove {f:Fab}(D:DX f)(k:Nat):DX (f.remove k):=by
 unfold Fab.remove;split
 ·refine D.put _ λq hq=> ?_;rename_i i req k' _;refine D.at i q ?_;cases req with
  | true=>
   simp only [Port.drop,Port.lX,Port.sort,if_true] at hq;exact hq.imp List.mem_of_mem_eraseIdx id
  | false=>
   simp only [Port.drop,Port.lX,Port.sort,zai,if_false] at hq;exact hq.imp id List.mem_of_mem_eraseIdx
 ·exact D
theorem DX.deliver {f:Fab}(D:DX f)(a b k:Int):DX (f.deliver a b k).1:=by
 unfold Fab.deliver;split
 ·exact D
 split
 ·exact D
 split
 ·exact D
 split
 ·exact D
 ·exact(D.mO _ _ _).remove _
theorem DX.all {f:Fab}(D:DX f):∀p∈f.all,f.is p.dst=true:=by
 intro p hp;unfold Fab.all at hp;obtain⟨q,hq,hp⟩:=za5.1 hp;rcases za2.1 hp with hp | hp
 ·exact D q hq p (.inl hp)
 ·exact D q hq p (.inr hp)
theorem DX.new(c:Cfg):DX (.new c):=by
 intro p hp q hq;rw [Fab.new,List.mem_replicate] at hp;rw [hp.2] at hq;simp [Port.zero] at hq
structure NX(T:Nat)(n:Node):Prop where
 Vl:0<=n.num
 num1:n.num < 4096
 dat:n.deal.data.length<=4
 ws:∀line,(n.home.turns.ws line).length<=T
theorem NX.mono {T T':Nat}{n:Node}(h:NX T n)(hT:T<=T'):NX T' n:=⟨h.Vl,h.num1,h.dat,λl=> zaz (h.ws l) hT⟩
section
variable {d:bF}{ca:Cache}{p:Pkt}{me:Int}
theorem findLe(hc:∀e∈ca.l,e.data.length<=4){line:Int}{e:Ent}(h:ca.find line=some e):e.data.length<=4:=by
 unfold Cache.find at h;exact hc e (za4 h)
theorem Zy(hd:d.data.length<=4)(hp:p.data.length<=4):(bV d me ca p).2.1.data.length<=4:=by
 unfold bV oD
 repeat' split
 all_goals first
  | exact hd
  | exact hp
  | exact zaT _
  | (show List.length (if _ then _ else _)<=4;split <;> first | exact hp | exact zaT _)
theorem Aw(hd:d.data.length<=4):(bD d me ca).2.data.length<=4:=by
 unfold bD;simp only
 repeat' split
 all_goals first
  | exact hd
  | exact zaT _
theorem abZ(hc:∀e∈ca.l,e.data.length<=4)(hd:d.data.length<=4)(hp:p.data.length<=4):(bW d me ca p).2.1.data.length<=4:=by
 unfold bW oD;split
 ·exact zaT _
 split
 ·refine Aw ?_;cases h:ca.find d.line with
  | none=> exact hp
  | some e=> exact findLe hc h
 split
 ·refine Aw ?_;cases h:ca.find d.line with
  | none=> exact hp
  | some e=> exact hd
 split
 ·exact hd
 ·exact zaT _
theorem ag0(hc:∀e∈ca.l,e.data.length<=4)(hd:d.data.length<=4):(dn d ca p).2.1.data.length<=4:=by
 unfold dn oD fU;split
 ·exact zaT _
 split
 ·simp only;split
  ·exact zaT _
  ·rename_i e h;split
   ·show List.length (if e.dirty=true then e.data else [])<=4;split
    ·exact findLe hc h
    ·exact zaT _
   ·split <;> exact zaT _
 repeat' split
 all_goals first
  | exact hd
  | exact zaT _
end
section
variable {T:Nat}{n:Node}{c:Cfg}{me:Int}{f:Fab}{t:List Evn}
theorem Zz(h:NX T n)(v:Int):NX T (n.done me t v).1:=⟨h.Vl,h.num1,h.dat,h.ws⟩
theorem Oc(h:NX T n):NX T (n.effect c me t).1:=⟨h.Vl,h.num1,h.dat,h.ws⟩
theorem CB(h:NX T n)(kind line:Int):NX T (n.begin_ c me f kind line).1:=by
 have h0:=h.Vl;have h1:(n.num+1).tmod 4096=(n.num+1) % 4096:=zbJ (by omega);refine⟨?_,?_,zaT _,h.ws⟩
 ·show 0<=(n.num+1).tmod 4096;omega
 ·show(n.num+1).tmod 4096 < 4096;omega
theorem CG {n:Node}(h:DX f)(kind line:Int):DX (n.begin_ c me f kind line).2:=h.send _
theorem ZA {n:Node}(h:DX f):DX (n.Pj c me f):=h.send _
theorem ab1(hc:∀e∈n.cache.l,e.data.length<=4)(h:NX T n){p:Pkt}(hp:p.data.length<=4):(n.after me p).2.1.data.length<=4:=by
 unfold Node.after oD
 repeat' split
 ·exact Zy h.dat hp
 ·exact abZ hc h.dat hp
 ·exact ag0 hc h.dat
 ·exact zaT _
theorem U6(hc:∀e∈n.cache.l,e.data.length<=4)(h:NX T n)(D:DX f){p:Pkt}(hp:p.data.length<=4):NX T (n.answered c me f t p).1/\DX (n.answered c me f t p).2.1:=by
 have hd:=ab1 (me:=me) hc h hp;unfold Node.answered;split;rename_i ca d ok e;rw [e] at hd;have h1:NX T { n with cache:=ca,deal:=d }:=⟨h.Vl,h.num1,hd,h.ws⟩
 split
 ·exact⟨⟨h.Vl,h.num1,h.dat,h.ws⟩,D⟩
 ·simp only;split
  ·split
   ·exact⟨Zz (me:=me) (t:=t) h1 0,D⟩
   ·exact⟨h1,D⟩
  ·split
   ·exact⟨Oc (c:=c) (me:=me) (t:=t) h1,ZA D⟩
   ·exact⟨h1,ZA D⟩
theorem aeP {t:Turns}(h:∀line,(t.ws line).length<=T)(line who id:Int):∀l,((t.ask line who id).1.ws l).length<=T+1:=by
 intro l;unfold Turns.ask;split
 ·exact zbC (h l)
 split
 ·unfold Turns.ws;simp only;rw [jS];split
  ·rw [zay,zaq];exact Nat.succ_le_succ (h line)
  ·exact zbC (h l)
 ·exact zbC (h l)
theorem U7 {t:Turns}(h:∀line,(t.ws line).length<=T)(line who:Int):∀l,((t.release line who).1.ws l).length<=T:=by
 intro l;unfold Turns.release;split <;> exact h l
theorem ag1 {t:Turns}(h:∀line,(t.ws line).length<=T)(line:Int):∀l,((t.next line).1.ws l).length<=T:=by
 intro l;unfold Turns.next
 split
 ·exact h l
 split
 ·exact h l
 ·rename_i w ws e;have hh:=h line;rw [e] at hh;unfold Turns.ws;simp only;rw [jS];split
  ·rw [zay];exact Nat.le_of_succ_le hh
  ·exact h l
theorem ZB {hm:Home}(h:∀line,(hm.turns.ws line).length<=T)(p:Pkt):∀l,((hm.handle c me p).1.turns.ws l).length<=T+1:=by
 have h':∀l,(hm.turns.ws l).length<=T+1:=λl=> zbC (h l);unfold Home.handle;split
 ·exact h'
 split
 ·exact h'
 split
 ·simp only;split
  ·exact aeP h _ _ _
  ·exact aeP h _ _ _
 ·have hu:∀l,((hm.unlock c p).1.turns.ws l).length<=T+1:=by
   unfold Home.unlock;split
   ·exact h'
   ·simp only;generalize setRow c hm.rows p.line p.state p.ptr (if p.flag then p.data else [])=r;split
    ·exact λl=> zbC (U7 h _ _ l)
    ·exact h'
  simp only;split <;> exact hu
theorem ab2 {hm:Home}(h:∀line,(hm.turns.ws line).length<=T):∀l,((hm.grant me).1.turns.ws l).length<=T:=by
 unfold Home.grant;split
 ·exact h
 ·rename_i line _ _;have hn:=ag1 h line;split
  ·rename_i e;rw [e] at hn;exact hn
  ·exact h
theorem ag2(h:NX T n)(D:DX f)(p:Pkt):NX (T+1) (n.asked c me f p).1/\DX (n.asked c me f p).2:=by
 unfold Node.asked;split
 ·have hw:=ZB (c:=c) (me:=me) h.ws p;split;rename_i hm out ok e he;rw [he] at hw;refine⟨⟨h.Vl,h.num1,h.dat,hw⟩,?_⟩;simp only;split
  ·exact D.send _
  ·exact D
 ·split;refine⟨⟨h.Vl,h.num1,h.dat,λl=> zbC (h.ws l)⟩,?_⟩;simp only;split
  ·exact D.send _
  ·exact D
theorem amr(h:NX T n)(D:DX f)(o:Opn):NX T (n.work c me f t o).1/\DX (n.work c me f t o).2.1:=by
 have h1:NX T { n with proc:={ n.proc with begun:=true } }:=⟨h.Vl,h.num1,h.dat,h.ws⟩
 unfold Node.work;simp only;split
 ·exact⟨Zz (me:=me) (t:=t) h1 0,D⟩
 split
 ·exact⟨CB (c:=c) (me:=me) (f:=f) h1 _ _,CG D _ _⟩
 split
 ·exact⟨Oc (c:=c) (me:=me) (t:=if n.proc.begun then t else t++[⟨me,n.proc.values.length,false,0⟩]) ⟨h.Vl,h.num1,h.dat,h.ws⟩,D⟩
 split
 ·exact⟨CB (c:=c) (me:=me) (f:=f) h1 _ _,CG D _ _⟩
 split
 ·exact⟨CB (c:=c) (me:=me) (f:=f) h1 _ _,CG D _ _⟩
 ·exact⟨CB (c:=c) (me:=me) (f:=f) h1 _ _,CG D _ _⟩
theorem aeQ(hc:∀e∈n.cache.l,e.data.length<=4)(hf:∀i req p,(f.take i req).2=some p->p.data.length<=4)(h:NX T n)(D:DX f):NX (T+1) (n.step c me f t).1.1/\DX (n.step c me f t).1.2.1:=by
 have h':=h.mono (za9 T);unfold Node.step;split
 ·rename_i f' p e;have D':=D.take me false;have hp:=hf me false p (by rw [e]);rw [e] at D';obtain⟨a,b⟩:=U6 (c:=c) (me:=me) (t:=t) hc h' D' hp;exact⟨a,b⟩
 ·split
  ·exact⟨⟨h.Vl,h.num1,h.dat,λl=> zbC (ab2 h.ws l)⟩,D.send _⟩
  ·split
   ·rename_i f' p e;have D':DX f':=by
     split at e
     ·cases e
     ·have:=D.take me true;rw [e] at this;exact this
    exact ag2 h D' p
   ·split
    ·split
     ·exact amr h' D _
     ·exact⟨h',D⟩
    ·exact⟨h',D⟩
end
structure MX(T:Nat)(m:fK):Prop where
 inv:MInv m
 sim:∃r,ZO m r
 dst:DX m.fab
 node:∀(i:Nat) n,m.nodes[i]?=some n->NX T n
theorem MX.mono {T T':Nat}{m:fK}(h:MX T m)(hT:T<=T'):MX T' m:=⟨h.inv,h.sim,h.dst,λi n hn=> (h.node i n hn).mono hT⟩
theorem Bo.le {c:Cfg}(hc:c.ok=true){ca:Cache}(I:Bo c ca):∀e∈ca.l,e.data.length<=4:=by
 intro e he;have h1:=(I.ent e he).dat;have h2:=(Gl hc).2.2.1;have:=h1.1;omega
theorem MX.step {T:Nat}{m:fK}(X:MX T m)(i:Int):MX (T+1) (m.step i).1:=by
 obtain⟨r,S⟩:=X.sim;obtain⟨h1,h2,h3⟩:=Zn S X.inv i;refine⟨h2,⟨_,h1⟩,?_,?_⟩
 ·unfold fK.step;split
  ·exact X.dst
  ·rename_i n hn;split;rename_i n' f t k e;unfold fK.node at hn;split at hn
   ·rename_i hi;have NI:=X.inv.node _ n hn;have:=(aeQ (c:=m.c) (me:=i) (t:=m.trace) (NI.cache.le X.inv.ok) (λi req p hp=> by
     have:=((X.inv.fab.take i req).2 p hp).ok;simp only [Pkt.ok,zaj,decide_eq_true_eq] at this;omega) (X.node _ n hn) X.dst).2
    rw [e] at this;exact this
   ·cases hn
 ·intro j n hj;unfold fK.step at hj;split at hj
  ·exact(X.node j n hj).mono (za9 T)
  ·rename_i n0 hn;split at hj;rename_i n' f t k e;unfold fK.node at hn;split at hn
   ·rename_i hi;simp only at hj;rw [List.getElem?_set] at hj;split at hj
    ·split at hj
     ·cases hj;have NI:=X.inv.node _ n0 hn;have:=(aeQ (c:=m.c) (me:=i) (t:=m.trace) (NI.cache.le X.inv.ok) (λi req p hp=> by
       have:=((X.inv.fab.take i req).2 p hp).ok;simp only [Pkt.ok,zaj,decide_eq_true_eq] at this;omega) (X.node _ n0 hn) X.dst).1
      rw [e] at this;exact this
     ·cases hj
    ·exact(X.node j n hj).mono (za9 T)
   ·cases hn
theorem MX.deliver {T:Nat}{m:fK}(X:MX T m)(a b k:Int):MX T (m.deliver a b k).1:=by
 obtain⟨r,S⟩:=X.sim;obtain⟨h1,h2,h3⟩:=NZ S X.inv a b k;exact⟨h2,⟨_,h1⟩,X.dst.deliver a b k,X.node⟩
theorem MX.do_ {T:Nat}{m:fK}(X:MX T m)(p:Pck):MX (T+1) (m.do_ p).1:=by
 unfold fK.do_;split
 ·exact(X.deliver _ _ _).mono (za9 T)
 ·exact X.step _
theorem ao9 {g:Store}{x y:Nat}{A B:List Cell}(k:Nat)(h:g x=some A)(h':g y=some B)(hl:A[k]?≠B[k]?):x≠y:=λe=> by
 subst e;rw [h] at h';exact hl (by rw [za3 h'])
def U8(A:Adr)(k n:Nat)(q:Nat):Prop:=(∃i s,i < k/\s < 6/\q=A.N i s)∨JY A.P n q∨q=A.trace
section
variable {b:Nat}{H:aj}{g g':Store}{A:Adr}{m:fK}{T:Nat}
theorem evs_le {m:fK}(I:MInv m):m.trace.length<=1000:=by
 have B:=qx I.ok;have hl:=I.len;have:∀(l:List Node),(∀n∈l,Node.evs n<=49)->(l.map Node.evs).sum<=49*l.length:=by
  intro l
  induction l with
  | nil=> intro _;simp
  | cons n l ih=>
   intro h;have h1:=h n (by simp);have h2:=ih λx hx=> h x (by simp [hx]);simp only [zaC,zck,zak];omega
 have h1:=this m.nodes λn hn=> by
  obtain⟨i,hi⟩:=List.mem_iff_getElem?.1 hn;have P:=(I.node i n hi).proc;have:=P.most;have:=P.vals;unfold Node.evs;split <;> omega
 rw [I.evs];have:=B.nodes;omega
def apa(A:Adr)(i:Nat):Oj:=⟨A.N i,A.fab,A.P,A.trace⟩
theorem fC.nw(M:fC g A m){i:Nat}{n:Node}(hi:m.nodes[i]?=some n):NW g (apa A i) m.c i (n,m.fab,m.trace):=⟨M.node i n hi,M.fab,M.trace,M.PX,M.tf⟩
theorem fC.ZC(M:fC g A m){q:Nat}(h:U8 A m.nodes.length m.fab.l.length q):A.jO≠q:=by
 have hm:=M.jO;rcases h with⟨i,s,hi,hs,rfl⟩ | ⟨i,s,hi,hs,rfl⟩ | rfl
 ·obtain⟨n,hn⟩:∃n,m.nodes[i]?=some n:=⟨_,zab hi⟩
  obtain⟨h0,h1,h2,h3,h4,h5⟩:=M.node i n hn;have l11:(uy A m.c m.nodes.length).length=11:=by simp [uy,EU,Cfg.av]
  match s,hs with
  | 0,_=> exact iL hm h0 (by rw [l11];simp only [fE];decide)
  | 1,_=> exact iL hm h1 (by rw [l11];simp only [dX];decide)
  | 2,_=> exact iL hm h2 (by rw [l11];simp only [gI];decide)
  | 3,_=> exact ao9 10 hm h3 (by simp [uy,EU,Cfg.av,AO])
  | 4,_=> exact iL hm h4 (by rw [l11];simp only [jq];decide)
  | 5,_=> exact iL hm h5 (by rw [l11];simp only [dY];decide)
 ·exact iL hm (eU (M.fab.port hi) hs) (by simp [uy,EU,Cfg.av,kU])
 ·exact iL hm M.trace (by simp [uy,EU,Cfg.av,kJ])
theorem fC.len(M:fC g A m)(I:MInv m):m.nodes.length=m.fab.l.length:=by
 have:=I.len;have:=I.fab.len;omega
theorem ab3(G:Good b H g)(hb:H.base<=b)(M:fC g A m)(X:MX T m)(hT:T < 999000){i:Nat}{n:Node}(hi:m.nodes[i]?=some n):
  ∃H' g',cl 36 [.ref (A.N i 0) 0 0,.ref A.fab 0 0,.ref A.trace 0 0] H=some (I (m.step i).2,H')/\Good b H' g'/\fC g' A (m.step i).1/\Off (U8 A m.nodes.length m.fab.l.length) g g'/\Step b H H':=by
 have N:=M.nw hi;have NX:=X.node i n hi;have NI:=X.inv.node i n hi;have hil:i < m.nodes.length:=(zaf.1 hi).1;have W:=Walk.of G hb N;obtain⟨K',g',e1,W'⟩:=abX W X.inv.ok X.inv.fab NI ⟨NX.Vl,by have:=NX.num1;show n.num < 1000000;omega⟩ (by have:=evs_le X.inv;show m.trace.length < 999999;omega) (by have:=NX.dat;show n.deal.data.length < 1000000000;omega) (λline=> by have:=NX.ws line;show(n.home.turns.ws line).length < 1000000;omega);have hst:m.step i=({ m with nodes:=m.nodes.set i (n.step m.c i m.fab m.trace).1.1,fab:=(n.step m.c i m.fab m.trace).1.2.1,trace:=(n.step m.c i m.fab m.trace).1.2.2 },(n.step m.c i m.fab m.trace).2):=by
  unfold fK.step fK.node;rw [if_pos (by omega),zar,hi]
 rw [hst];have hO:Off (aeN (apa A i) m.fab.l.length) g g':=W'.off;have hsub:∀q,aeN (apa A i) m.fab.l.length q->U8 A m.nodes.length m.fab.l.length q:=by
  rintro q (⟨s,hs,rfl⟩ | h | rfl)
  ·exact .inl ⟨i,s,hil,hs,rfl⟩
  ·exact .inr (.inl h)
  ·exact .inr (.inr rfl)
 have hN':=W'.nw;have hlen':=W'.len;refine⟨K',g',e1,W'.loc.out,⟨?_,hN'.tr,hN'.fab,λj n' hj=> ?_,?_,?_,M.tf⟩,hO.mono hsub,W'.step⟩
 ·show g' A.jO=some (uy A m.c (m.nodes.set i _).length);rw [zbN,hO A.jO λh=> M.ZC (hsub _ h) rfl];exact M.jO
 ·simp only at hj;by_cases hij:i=j
  ·subst hij;rw [zbj hil] at hj;cases hj;exact hN'.node
  ·rw [zbx hij] at hj;have hjl:j < m.nodes.length:=(zaf.1 hj).1;have Nj:=M.nw hj;refine(M.node j n' hj).ext λs hs=> hO _ ?_;rintro(⟨t,ht,e⟩ | h | e)
   ·exact hij (M.alM _ _ _ _ hjl hil hs ht e).1.symm
   ·exact(Nj.U0 h).1 s hs rfl
   ·exact Nj.Ze s hs e
 ·show PW A.P _;have:(n.step m.c i m.fab m.trace).1.2.1.l.length=m.fab.l.length:=hlen';rw [this];exact M.PX
 ·show amM A.N (m.nodes.set i _).length;rw [zbN];exact M.alM
theorem Qp(G:Good b H g)(hb:H.base<=b)(M:fC g A m)(X:MX T m){at_ bit mask:Int}(h64:In64 at_)(hbit:In64 bit)(m0:0<=mask)(m1:mask<=65535):
  ∃H' g',cl 35 [.ref A.fab 0 0,I at_,I bit,.s (.int .u16 mask)] H=some (I (m.deliver at_ bit mask).2,H')/\Good b H' g'/\fC g' A (m.deliver at_ bit mask).1/\Off (U8 A m.nodes.length m.fab.l.length) g g'/\Step b H H':=by
 have B:=qx X.inv.ok;have h0:m.fab.l.length≠0:=by have:=X.inv.fab.len;have:=B.nodes;omega
 obtain⟨H',g',e1,G',F',O',S'⟩:=U5 G hb M.fab M.PX (fok X.inv.ok X.inv.fab) h0 (λp hp=> ⟨⟨(X.inv.fab.pkt hp).ok,(X.inv.fab.pkt hp).num⟩,X.dst.all p hp⟩) h64 hbit m0 m1;have hsub:∀q,JY A.P m.fab.l.length q->U8 A m.nodes.length m.fab.l.length q:=λq h=> .inr (.inl h);have hlen:(m.fab.deliver at_ bit mask).1.l.length=m.fab.l.length:=by
  have h1:=(X.inv.fab.deliver at_ bit mask).len;have h2:=X.inv.fab.len;omega
 refine⟨H',g',e1,G',⟨?_,?_,F',λj n' hj=> ?_,?_,M.alM,M.tf⟩,O'.mono hsub,S'⟩
 ·rw [O' A.jO λh=> M.ZC (hsub _ h) rfl];exact M.jO
 ·rw [O' A.trace λ⟨i,s,hi,hs,e⟩=> by
   have:=eU (M.fab.port hi) hs;exact iL M.trace this (by simp [kJ,kU]) e]
  exact M.trace
 ·exact(M.node j n' hj).ext λs hs=> O' _ λh=> ((M.nw hj).U0 h).1 s hs rfl
 ·show PW A.P (m.fab.deliver at_ bit mask).1.l.length;rw [hlen];exact M.PX
theorem apb(G:Good b H g)(hb:H.base<=b)(M:fC g A m)(X:MX T m)(hT:T < 999000)(p:Pck)(h64:In64 p.at_)(hbit:In64 p.bit)(m0:0<=p.mask)(m1:p.mask<=65535):
  ∃H' g',cl 11 [.ref A.jO 0 0,.agg p.av] H=some (B (m.do_ p).2,H')/\Good b H' g'/\fC g' A (m.do_ p).1/\Off (U8 A m.nodes.length m.fab.l.length) g g'/\Step b H H':=by
 let H1:=H.new (.blk 0 35 p.av);have G1:Good b H1 g:=G.new _;have g1:H1.get H.next=.blk 0 35 p.av:=aK rfl
 have l0:ld (.ref H.next 0 0) H1=some (B p.deliver,H1):=by rw [dK g1];rfl
 have l1:ld (.ref H.next 0 1) H1=some (I p.at_,H1):=by rw [dK g1];rfl
 have l2:ld (.ref H.next 0 2) H1=some (I p.bit,H1):=by rw [dK g1];rfl
 have l3:ld (.ref H.next 0 3) H1=some (.s (.int .u16 p.mask),H1):=by rw [dK g1];rfl
 have f0:=G1.load M.jO (i:=0) (x:=.ref A.fab 0 0) rfl;have f1:=G1.load M.jO (i:=1) (x:=.ref A.trace 0 0) rfl;have S1:Step b H H1:=Step.new _ G.1;have hb1:H1.base<=b:=by simp only [H1,bNew];exact hb
 have B:=qx X.inv.ok;cases hd:p.deliver with
 | true=>
  rw [hd] at l0;obtain⟨H',g',e1,G',M',O',S'⟩:=Qp G1 hb1 M X h64 hbit m0 m1;have hdo:m.do_ p=((m.deliver p.at_ p.bit p.mask).1,decide ((m.deliver p.at_ p.bit p.mask).2=0)):=by
   unfold fK.do_;rw [hd];rfl
  rw [hdo];refine⟨H',g',aN rfl rfl (afB _ _ _ _ ?_),G',M',O',S1.trans S'⟩;simp only [H1] at l0 l1 l2 l3 f0 f1 e1;simp -implicitDefEqProofs only [Nat.reduceLT,xq_,hq_,aaS,aB (yT p),l0,l1,l2,l3,f0,e1]
 | false=>
  rw [hd] at l0;have hdo:m.do_ p=((m.step p.at_).1,decide ((m.step p.at_).2≠0)):=by
   unfold fK.do_;rw [hd];rfl
  rw [hdo];have e0:=JD G1 M (by have:=X.inv.len;have:=B.nodes;omega) p.at_;by_cases hi:0<=p.at_/\p.at_ < m.nodes.length
  ·rw [if_pos hi] at e0;obtain⟨i,hii⟩:∃i:Nat,p.at_=i:=⟨p.at_.toNat,by omega⟩
   rw [hii] at e0 hi l1;rw [hii];rw [zar] at e0;obtain⟨n,hn⟩:∃n,m.nodes[i]?=some n:=⟨_,zab (by omega)⟩
   obtain⟨H',g',e1,G',M',O',S'⟩:=ab3 G1 hb1 M X hT hn;refine⟨H',g',aN rfl rfl (afB _ _ _ _ ?_),G',M',O',S1.trans S'⟩;have nn:bi .neq 54 (.ref (A.N i 0) 0 0) zP=some (.s (.bool true)):=by kernel_rfl
   simp only [H1] at l0 l1 f0 f1 e0 e1;simp -implicitDefEqProofs only [Nat.reduceLT,xq_,hq_,aaS,aB (yT p),l0,l1,f0,f1,e0,nn,e1];simp
  ·rw [if_neg hi] at e0;have hst:m.step p.at_=(m,0):=by
    unfold fK.step fK.node;by_cases h0:0<=p.at_
    ·rw [if_pos h0,zaG (by omega)]
    ·rw [if_neg h0]
   rw [hst];refine⟨H1,g,aN rfl rfl (afB _ _ _ _ ?_),G1,M,Off.refl _ _,S1⟩;have nn:bi .neq 54 zP zP=some (.s (.bool false)):=by kernel_rfl
   simp only [H1] at l0 l1 e0;simp -implicitDefEqProofs only [Nat.reduceLT,xq_,hq_,aaS,aB (yT p),l0,l1,e0,nn]
   try rfl
end
theorem vC(c:Cfg)(me line:Int):∀n:Nat,je (c.iM me n) line=if 0<=line/\line < n/\c.ig line=me then some ⟨0,-1,c.first line⟩ else none
 | 0=> by
  have:¬(0<=line/\line < ((0:Nat):Int)/\c.ig line=me):=by omega
  rw [if_neg this];rfl
 | n+1=> by
  simp only [Cfg.iM];by_cases h:c.ig n=me
  ·rw [if_pos h,jS,vC c me line n];by_cases e:(n:Int)=line
   ·subst e;rw [if_pos rfl,if_pos ⟨by omega,by omega,h⟩]
   ·rw [if_neg e];by_cases h2:0<=line/\line < n/\c.ig line=me
    ·rw [if_pos h2,if_pos ⟨h2.1,by omega,h2.2.2⟩]
    ·rw [if_neg h2,if_neg (λh3=> h2 ⟨h3.1,by omega,h3.2.2⟩)]
  ·rw [if_neg h,vC c me line n];by_cases h2:0<=line/\line < n/\c.ig line=me
   ·rw [if_pos h2,if_pos ⟨h2.1,by omega,h2.2.2⟩]
   ·rw [if_neg h2,if_neg (λh3=> h2 ⟨h3.1,(by
     have:line≠n:=λe=> h (by rw [<-e];exact h3.2.2);omega),h3.2.2⟩)]
theorem Oe {c:Cfg}(h:c.ok=true){line:Int}(h0:0<=line):c.ig line=line % c.nodes:=by
 unfold Cfg.ig Ae;rw [if_neg (by omega)]
theorem TA {c:Cfg}(h:c.ok=true)(me:Int)(l:List Opn):aiv c me (.new c me l) (.new c l):=by
 have Bd:=qx h;have hl:=Bd.lines;have hh:∀line,lG c me line=true↔(0<=line/\line < c.lines.toNat/\c.ig line=me):=by
  intro line;simp only [lG,zaj,decide_eq_true_eq];constructor
  ·rintro⟨⟨a,b⟩,d⟩;exact⟨a,by omega,by rw [Oe h a];exact d⟩
  ·rintro⟨a,b,d⟩;exact⟨⟨a,by omega⟩,by rw [<-Oe h a];exact d⟩
 refine⟨rfl,rfl,rfl,rfl,rfl,rfl,rfl,rfl,rfl,List.Pairwise.nil,List.Perm.refl _,λline Qn=> ?_,λline Qn=> ?_,λline=> rfl,λline=> rfl⟩
 ·have h1:=(hh line).1 Qn;refine⟨⟨0,-1,c.first line⟩,?_,?_⟩
  ·show je (c.iM me c.lines.toNat) line=_;rw [vC,if_pos h1]
  ·show((List.range c.lines.toNat).map λ(i:Nat)=> (⟨0,-1,c.first (i:Int)⟩:Row))[line.toNat]?=_;rw [zaB,zbm (by omega)];simp only [zah];rw [show((line.toNat:Nat):Int)=line by omega]
 ·show je (c.iM me c.lines.toNat) line=_;rw [vC,if_neg λh1=> by rw [(hh line).2 h1] at Qn;cases Qn]
theorem ag3 {c:Cfg}(h:c.ok=true){ps:List (List Opn)}:Sim (.new c ps) (.new c ps):=by
 refine⟨rfl,by simp [fK.new,eX.new],rfl,rfl,λi n rn hn hr=> ?_⟩;simp only [fK.new,zbc,zbo] at hn;simp only [eX.new,zaB,zbo] at hr;obtain⟨l,hl,rfl⟩:=hn;obtain⟨l',hl',rfl⟩:=hr;rw [hl] at hl';cases hl';exact TA h i l
theorem ZE(H:aj)(hb:H.base<=H.next)(c:Cfg){x:AV}{ps:List (List Opn)}(hx:SE H x ps)(hn:ps.length < 1000000000)(hl:∀l∈ps,l.length < 1000000000)(hp:¬(c.ok=true/\c.pR ps=true)):
  ∃H',cl 25 [.agg c.av,x] H=some (.tup [zP,I 1],H')/\Made H H' nil0:=by
 let H1:=H.new (.blk 0 40 c.av);have M1:Made H H1 nil0:=(Made.refl hb).new _;have b1:=iK (H:=H1) (r:=H.next) (c:=c) (aK rfl);have e1:=abt H1 c;have b0:bi .neq 76 (I 0) (I 0)=some (B false):=by kernel_rfl
 have b1':bi .neq 76 (I 1) (I 0)=some (B true):=by kernel_rfl
 refine⟨H1,aN rfl rfl (aiU _ _ _ _ ?_),M1⟩;by_cases hc:c.ok=true
 ·have hp':¬c.pR ps=true:=λh=> hp ⟨hc,h⟩;have e2:=aeB H1 c hc (hx.gK (H':=H1) (by simp only [H1,nNew];omega) λr hr=> aQ hr) hn hl;rw [if_neg hp'] at e2;rw [if_pos hc] at e1;simp only [H1] at b1 e1 e2;simp -implicitDefEqProofs only [Nat.reduceLT,xq_,hq_,aaV,aB (dH c),b1,e1,b0,e2,b1'];rfl
 ·rw [if_neg hc] at e1;simp only [H1] at b1 e1;simp -implicitDefEqProofs only [Nat.reduceLT,xq_,hq_,aaV,aB (dH c),b1,e1,b1'];rfl
def ab4:Cfg:=⟨0,0,0,0,0,0,0,[]⟩
theorem ag4(H:aj):cl 21 [] H=some (B true,H):=by
 have hc:aeE.ok=true:=by decide
 have hp:aeE.pR [[]]=true:=by decide
 have hav:aeE.av=[I 1,I 1,I 1,I 1,I 1,I 1,I 1,zN]:=by simp [aeE,Cfg.av,dat,dQ]
 have zav:ab4.av=[zI,zI,zI,zI,zI,zI,zI,zN]:=by simp [ab4,Cfg.av,dat,dQ]
 let H2:=H.guard.new (.blk 0 98 [zN]);have hps:SE H2 (.sl H.next 0 0 1 1 1 true) [[]]:=⟨[zN],jv (n:=1) (m:=1) (l:=[zN]) rfl,λi v l a b=> by
  match i with
  | 0=> cases a;cases b;exact⟨aG.nil,λ_=> rfl⟩
  | i+1=> cases a⟩
 obtain⟨H3,A,g,e1,M,MI⟩:=zD H2 (by simp only [H2,bNew,nNew,aio,yU];omega) aeE hc hps hp;have hf:=abo hc hp;have hbn:H3.base<=H3.next:=by
  rw [M.base];exact zaz (by simp only [H2,bNew,nNew,aio,yU];omega) M.next
 obtain⟨H4,e2,M2⟩:=ZE H3 hbn ab4 (SE.zN (H:=H3)) (by simp) (λl hl=> by cases hl) (by decide);have G4:Good H2.next H4 g:=M.good.ext M2.next M2.same
 have e3:=JA G4 MI hf;have e4:=PY G4 MI hf;have q1:(fK.new aeE [[]]).quiet=true:=by decide
 have q2:(fK.new aeE [[]]).left=0:=by decide
 rw [q1] at e3;rw [q2] at e4;have ev:bd 40 [(0,I 1),(1,I 1),(2,I 1),(3,I 1),(4,I 1),(5,I 1),(6,I 1)]=some (.agg aeE.av):=by
  rw [hav];simp -implicitDefEqProofs only [xq_,afh,gV,dM,afg];rfl
 have ez:bd 40 []=some (.agg ab4.av):=by
  rw [zav];simp -implicitDefEqProofs only [xq_,afh,gV,dM]
 have b0:bi .eql 76 (I 0) (I 0)=some (B true):=by kernel_rfl
 have b1:bi .eql 76 (I 1) (I 1)=some (B true):=by kernel_rfl
 have en:bi .neq 26 (.ref A.jO 0 0) zP=some (B true):=by kernel_rfl
 have eq:bi .eql 26 zP zP=some (B true):=by kernel_rfl
 have es:∀H,bs 28 1 [(0,zN)] H=some (.sl H.next 0 0 1 1 1 true,H.new (.blk 0 98 [zN])):=λH=> by
  exact(am6 (by decide)).trans rfl
 refine eu rfl rfl (anF _ _ (r:=(B true,H4)) ?_) fJ;simp only [H2] at e1;simp -implicitDefEqProofs only [xq_,aiS,ev,es,e1,ez,e2,b0,en,e3,e4,b1,eq]
theorem fC.sub {g g':Store}{A:Adr}{m:fK}(h:fC g A m)(hg:pO g g'):fC g' A m:=by
 refine⟨hg _ _ h.jO,hg _ _ h.trace,⟨hg _ _ h.fab.1,λi p hp=> ?_,h.fab.2.2⟩,λi n hn=> ?_,h.PX,h.alM,h.tf⟩
 ·obtain⟨a,b,c,d⟩:=h.fab.2.1 i p hp;exact⟨hg _ _ a,hg _ _ b,hg _ _ c,hg _ _ d⟩
 ·obtain⟨a,b,c,d,e,f⟩:=h.node i n hn;exact⟨hg _ _ a,hg _ _ b,hg _ _ c,hg _ _ d,hg _ _ e,hg _ _ f⟩
theorem DV.sub {g g':Store}{q f:Nat}{N:Nat->Nat->Nat}{m:eX}(h:DV g q f N m)(hg:pO g g'):DV g' q f N m:=by
 have hd:∀{x l},ql g x l->ql g' x l:=λh=> h.sub λq cs hq _=> hg q cs hq;obtain⟨ls,f1,f2,f3⟩:=h.fab;refine⟨hg _ _ h.jO,⟨ls,hg _ _ f1,f2,λi l cells hl hc=> (f3 i l cells hl hc).mono λp cs _ ⟨x,a,b⟩=> ⟨x,hd a,b⟩⟩,λi n hn=> ?_,h.inj⟩;obtain⟨⟨d,⟨x,d1,d2⟩,h0⟩,⟨cells,k,h1⟩,⟨rows,r,h2⟩⟩:=h.node i n hn;exact⟨⟨d,⟨x,hd d1,d2⟩,hg _ _ h0⟩,⟨cells,k.mono λe cs _ ⟨x,a,b⟩=> ⟨x,hd a,b⟩,hg _ _ h1⟩,⟨rows,r.mono λe cs _ ⟨x,a,b⟩=> ⟨x,hd a,b⟩,hg _ _ h2⟩⟩
theorem TB {b n:Nat}{H1:aj}{g g':Store}(G:Good b H1 g)(hn:H1.next=n):pO g (cup n g g'):=λq cs hq=> iY G hq hn
theorem TD {b n:Nat}{H1:aj}{g g':Store}(G:Good b H1 g')(hn:n<=b):pO g' (cup n g g'):=λq cs hq=> jT G hq hn
def nD(c:Cho)(nodes under:Int):Pck:=
 if c.do_.tmod 23=22 then⟨decide (c.bit.tmod 2=0),c.at_,c.bit,c.mask⟩ else
 if bn c.do_ 2=0 then⟨false,bn c.at_ nodes,0,0⟩ else
 if c.do_.tmod 7=6 then⟨true,bn c.at_ under,bn c.bit 120,c.mask⟩ else⟨true,bn c.at_ under,0,0⟩
theorem ag5(d:Nat):∀(p:Pck),∀x∈p.av,Frz (d+1) x:=by
 intro p x hx;simp only [Pck.av,zam,zaI,or_false] at hx;rcases hx with rfl | rfl | rfl | rfl <;> exact dW
theorem U9(p:Pck):Frz 9 (.agg p.av):=kD (ag5 7 p)
theorem vF {n:Int}:(AV.s (.int .u16 n)).cells=[.s (.int .u16 n)]:=rfl
theorem su {n:Int}:(AV.s (.int .u16 n)).aH=true:=rfl
theorem ab5(H:aj)(c:Cho){nodes under:Int}(hn:nodes<=9223372036854775807)(hu:under<=9223372036854775807):cl 12 [.agg c.av,I nodes,I under] H=some (.agg (nD c nodes under).av,H):=by
 refine aW rfl rfl (anu _ _ _ _ _) ?_ (U9 _);have r1:=qZ (P:=Tryz.prog) (t:=3) (k:=.i64) (a:=c.do_) (b:=23) (by decide);have r2:=qZ (P:=Tryz.prog) (t:=3) (k:=.i64) (a:=c.do_) (b:=7) (by decide);have r3:=qZ (P:=Tryz.prog) (t:=3) (k:=.i64) (a:=c.bit) (b:=2) (by decide);have r1':bi .rem 3 (I c.do_) (I 23)=some (I (c.do_.tmod 23)):=r1;have r2':bi .rem 3 (I c.do_) (I 7)=some (I (c.do_.tmod 7)):=r2;have r3':bi .rem 3 (I c.bit) (I 2)=some (I (c.bit.tmod 2)):=r3;have k1:=λH=> lU H c.do_ 2 (by omega);have k2:=λH=> lU H c.at_ nodes hn;have k3:=λH=> lU H c.at_ under hu;have k4:=λH=> lU H c.bit 120 (by omega);have eb:∀H,fA 38 (.agg [I c.do_,I c.at_,I c.bit,.s (.int .u16 c.mask)]) H=some (.ref H.next 0 0,H.new (.blk 0 38 [I c.do_,I c.at_,I c.bit,.s (.int .u16 c.mask)])):=λH=> aB (afz c) (by decide);simp only [Cho.av];by_cases h1:c.do_.tmod 23=22
 ·rw [show nD c nodes under=⟨decide (c.bit.tmod 2=0),c.at_,c.bit,c.mask⟩ by unfold nD;rw [if_pos h1]];simp -implicitDefEqProofs only [Nat.reduceAdd,Nat.reduceLeDiff,setAt,xq_,hq_,Xd,eb,r1',h1,r3',aay,gV,dM,Wj,Pck.av]
  try rfl
 by_cases h2:bn c.do_ 2=0
 ·rw [show nD c nodes under=⟨false,bn c.at_ nodes,0,0⟩ by unfold nD;rw [if_neg h1,if_pos h2]];simp -implicitDefEqProofs only [Nat.reduceAdd,Nat.reduceLeDiff,setAt,xq_,hq_,Xd,eb,r1',h1,k1,h2,k2,aay,gV,dM,Wj,Pck.av]
  try rfl
 by_cases h3:c.do_.tmod 7=6
 ·rw [show nD c nodes under=⟨true,bn c.at_ under,bn c.bit 120,c.mask⟩ by unfold nD;rw [if_neg h1,if_neg h2,if_pos h3]];simp -implicitDefEqProofs only [Nat.reduceAdd,Nat.reduceLeDiff,setAt,xq_,hq_,Xd,eb,r1',h1,k1,h2,k3,aay,gV,dM,Wj,Pck.av,r2',h3,k4,IU];rw [UD λr hr=> by
   cases hr;rw [aQ (by simp only [nNew,yU];omega),aQ (by simp only [nNew,yU];omega),aK (by rw [yU]),aQ (by simp only [nNew,yU];omega),aQ (by simp only [nNew,yU];omega),aK (by rw [yU])]]
  rfl
 ·rw [show nD c nodes under=⟨true,bn c.at_ under,0,0⟩ by unfold nD;rw [if_neg h1,if_neg h2,if_neg h3]];simp -implicitDefEqProofs only [Nat.reduceAdd,Nat.reduceLeDiff,setAt,xq_,hq_,Xd,eb,r1',h1,k1,h2,k3,aay,gV,dM,Wj,Pck.av,r2',h3,IU]
  try rfl
theorem ZF:In64 0:=⟨by decide,by decide⟩
theorem vG {v n:Int}(h:In64 n):In64 (bn v n):=by
 by_cases h1:n < 1
 ·have:bn v n=0:=by unfold bn;rw [if_pos h1]
  rw [this];exact ZF
 ·have:=lI (v:=v) (n:=n) (by omega);have h2:=h.2;exact⟨by omega,by omega⟩
theorem ab6 {c:Cho}(h:c.In){nodes under:Int}(h2:In64 nodes)(h4:In64 under):In64 (nD c nodes under).at_/\In64 (nD c nodes under).bit/\0<=(nD c nodes under).mask/\(nD c nodes under).mask<=65535:=by
 have aqw:In64 120:=⟨by decide,by decide⟩
 have z0:(0:Int)<=0:=by decide
 have z1:(0:Int)<=65535:=by decide
 unfold nD;split
 ·exact⟨h.at_,h.bit,h.mask0,h.mask⟩
 ·split
  ·exact⟨vG h2,ZF,z0,z1⟩
  ·split
   ·exact⟨vG h4,vG aqw,h.mask0,h.mask⟩
   ·exact⟨vG h4,ZF,z0,z1⟩
theorem ams {l:List Int}(h:∀z∈l,In64 z)(i:Int):In64 (atM l i):=by
 unfold atM;split
 ·rw [zax];cases e:l[i.toNat]? with
  | none=> exact⟨by decide,by decide⟩
  | some v=> exact h v (zau e)
 ·exact⟨by decide,by decide⟩
theorem Va {c:Cfg}(hc:c.ok=true)(zk za zv:List Int)(hv:∀z∈zv,In64 z)(i:Nat):c.right (YC c zk za zv i)=true/\I64 (YC c zk za zv i).value:=by
 have B:=qx hc;have hw:=B.words;have hl:=B.lines;have h1:1<=kindOf (atM zk i)/\kindOf (atM zk i)<=4:=by have:=Uz (atM zk i);omega
 have h0:1<=c.lines*c.words:=by
  have:=zbV hl.1 hw.1 (by decide) (by omega);omega
 have h2:=lI (v:=atM za i) h0;unfold YC;refine⟨?_,?_⟩
 ·unfold Cfg.right;simp only [zaj,decide_eq_true_eq,zbl];refine⟨⟨⟨h1.1,h1.2⟩,?_⟩,?_⟩
  ·unfold Cfg.dh Cfg.jA;rw [if_neg (by omega)];have:=Int.ediv_nonneg h2.1 (show 0<=c.words by omega);omega
  ·split
   ·rename_i h;rcases h with h | h
    ·exact .inl (.inr h)
    ·exact .inr h
   ·exact .inl (.inl rfl)
 ·simp only;split
  ·exact ams hv i
  ·exact⟨by decide,by decide⟩
theorem sD {c:Cfg}(hc:c.ok=true)(zw zk za zv:List Int)(hv:∀z∈zv,In64 z):∀i,∀l∈kF c zw zk za zv i,∀o∈l,c.right o=true/\I64 o.value
 | 0,l,h=> by
  rw [List.eq_of_mem_replicate h];intro o ho;cases ho
 | i+1,l,h=> by
  have ih:=sD hc zw zk za zv hv i;simp only [kF,iH] at h;split at h
  ·rcases zbM h with h | rfl
   ·exact ih l h
   ·intro o ho;rcases za2.1 ho with ho | ho
    ·rw [zax] at ho;cases e:(kF c zw zk za zv i)[(bn (atM zw i) c.nodes).toNat]? with
     | none=> rw [e] at ho;cases ho
     | some l'=> rw [e] at ho;exact ih l' (zau e) o ho
    ·rw [zaS] at ho;subst ho;exact Va hc zk za zv hv i
  ·exact ih l h
theorem ab7 {c:Cfg}(hc:c.ok=true)(zw zk za zv:List Int)(hv:∀z∈zv,In64 z)(mo:Nat):c.pR (mV c zw zk za zv mo)=true:=by
 have B:=qx hc;have hn:=B.nodes;unfold Cfg.pR;simp only [zaj,decide_eq_true_eq,zaZ];refine⟨λl hl=> ⟨zF _ _ _ _ _ _ l hl,λo ho=> (sD hc zw zk za zv hv _ l hl o ho).1⟩,?_⟩;unfold mV;rw [oh];omega
theorem ab8 {c:Cfg}(hc:c.ok=true)(hi:∀z∈c.init,In64 z){line:Int}(h:0<=line/\line < c.lines):lY c (c.first line):=by
 have B:=qx hc;have hw:=B.words;unfold Cfg.first
 rw [if_neg (by omega)];refine⟨by rw [zaE,List.length_range];omega,λv hv=> ?_⟩;obtain⟨j,_,rfl⟩:=zaN.1 hv;rw [zax];cases e:c.init[(line*c.words).toNat+j]? with
 | none=> exact⟨by decide,by decide⟩
 | some x=> exact hi x (zau e)
theorem EN(c:Cfg)(me:Int):∀n:Nat,∀e∈c.iM me n,0<=e.1/\e.1 < n/\e.2.data=c.first e.1
 | 0,e,h=> by cases h
 | n+1,e,h=> by
  simp only [Cfg.iM] at h;have ih:=EN c me n;split at h
  ·have key:∀(l:List (Int × Row)) (k:Int) (x:Row),e∈mM l k x->e∈l∨(e.1=k/\e.2=x):=by
    intro l
    induction l with
    | nil=>
     intro k x hx;simp only [mM,zaS] at hx;right;rw [hx];exact⟨rfl,rfl⟩
    | cons a l ih=>
     obtain⟨k',v⟩:=a;intro k x hx;simp only [mM] at hx;split at hx
     ·rename_i hk;rcases zam.1 hx with rfl | hx
      ·exact .inr ⟨by first | rfl | exact hk | exact hk.symm,rfl⟩
      ·exact .inl (zbT _ hx)
     ·rcases zam.1 hx with rfl | hx
      ·exact .inl (List.mem_cons_self ..)
      ·rcases ih k x hx with hx | hx
       ·exact .inl (zbT _ hx)
       ·exact .inr hx
   rcases key _ _ _ h with h | ⟨h1,h2⟩
   ·have:=ih e h;exact⟨this.1,by omega,this.2.2⟩
   ·exact⟨by omega,by omega,by rw [h2,h1]⟩
  ·have:=ih e h;exact⟨this.1,by omega,this.2.2⟩
theorem amu {c:Cfg}(hc:c.ok=true)(me:Int)(l:List Opn):NS c me (.new c me l) (.new c l):=⟨TA hc me l,List.Pairwise.nil,λo ho=> by cases ho⟩
theorem ab9 {c:Cfg}(hc:c.ok=true){ps:List (List Opn)}:ZO (.new c ps) (.new c ps):=by
 have S:=ag3 hc (ps:=ps);refine⟨rfl,by simp [fK.new,eX.new],rfl,rfl,λi n rn hn hr=> ?_⟩;simp only [fK.new,zbc,zbo] at hn;simp only [eX.new,zaB,zbo] at hr;obtain⟨l,hl,rfl⟩:=hn;obtain⟨l',hl',rfl⟩:=hr;rw [hl] at hl';cases hl';exact amu hc i l
theorem amv {c:Cfg}(hc:c.ok=true)(hi:∀z∈c.init,In64 z){ps:List (List Opn)}(hp:c.pR ps=true)(hv:∀l∈ps,∀o∈l,c.right o=true/\I64 o.value):MX 0 (.new c ps):=by
 have B:=qx hc;have hn:=B.nodes;have hb:=B.lines;obtain⟨h1,h2⟩:=Ce hp;refine⟨⟨hc,?_,?_,λi n hn=> ?_,?_⟩,⟨_,ab9 hc⟩,DX.new c,λi n hn=> ?_⟩
 ·simp only [fK.new,zci];exact h1
 ·refine⟨rfl,rfl,?_,λp hp=> ?_⟩
  ·simp only [fK.new,Fab.new,zb1];omega
  ·simp only [fK.new,Fab.new,List.mem_replicate] at hp;rw [hp.2];have:=B.out;have:=B.inn;refine⟨by show((0:Nat):Int)<=c.out;omega,by show((0:Nat):Int)<=c.out;omega,by show((0:Nat):Int)<=c.inn;omega,by show((0:Nat):Int)<=1;omega,λq hq=> by simp [Port.zero] at hq⟩
 ·simp only [fK.new,zbc,zbo] at hn;obtain⟨l,hl,rfl⟩:=hn;have hm:=zau hl;refine⟨⟨h2 l hm,hv l hm,zaT _,λh=> by cases h⟩,⟨rfl,rfl,List.Pairwise.nil,List.Pairwise.nil,λe he=> (by cases he),λline=> ?_,zbK 0⟩,λe he=> ?_,⟨⟨List.Pairwise.nil,λe he=> (by cases he),List.Pairwise.nil,λe he=> (by cases he)⟩,λe he=> (by cases he)⟩,λh=> absurd rfl h,zbK 0⟩
  ·have:=B.ways;show(([]:List Ent).length:Int)<=c.ways;simp;omega
  ·obtain⟨r1,r2,r3⟩:=EN c i _ e he;rw [r3];exact ab8 hc hi ⟨r1,by omega⟩
 ·have:∀n∈(fK.new c ps).nodes,Node.evs n=0:=by
   intro n hn;simp only [fK.new,List.mem_mapIdx] at hn;obtain⟨i,hi,rfl⟩:=hn;rfl
  have h0:∀l:List Node,(∀n∈l,Node.evs n=0)->(l.map Node.evs).sum=0:=by
   intro l
   induction l with
   | nil=> intro _;rfl
   | cons n l ih=>
    intro h;rw [zaC,zck,h n (by simp),ih λx hx=> h x (by simp [hx])]
  rw [h0 _ this];rfl
 ·simp only [fK.new,zbc,zbo] at hn;obtain⟨l,hl,rfl⟩:=hn;exact⟨zbK 0,by show(0:Int) < 4096;decide,zaT _,λline=> zac 0⟩
structure Args(s:jD)(zi zw zk za zv:List Int):Prop where
 ok:s.Ok zi zw zk za zv
 hi:aG aj.empty s.init 1 zi.length (zi.map I)
 hw:aG aj.empty s.who 1 zw.length (zw.map I)
 hk:aG aj.empty s.kinds 1 zk.length (zk.map I)
 ha:aG aj.empty s.jA 1 za.length (za.map I)
 hv:aG aj.empty s.values 1 zv.length (zv.map I)
 hc:s.init.aH=true/\s.who.aH=true/\s.kinds.aH=true/\s.jA.aH=true/\s.values.aH=true
structure amw(b:Nat)(H:aj)(g:Store)(A:Adr)(q f:Nat)(N:Nat->Nat->Nat)(m:fK)(r:eX)(mid:Nat):Prop where
 good:Good b H g
 base:H.base<=b
 jO:fC g A m
 off:∀x,U8 A m.nodes.length m.fab.l.length x->mid<=x
 ref:∃g1,DV g1 q f N r/\pO g1 g/\∀x,g1 x≠none->x < mid
theorem fC.here {g:Store}{A:Adr}{m:fK}(M:fC g A m){x:Nat}(h:U8 A m.nodes.length m.fab.l.length x):∃cs,g x=some cs:=by
 rcases h with⟨i,s,hi,hs,rfl⟩ | ⟨i,s,hi,hs,rfl⟩ | rfl
 ·obtain⟨n,hn⟩:∃n,m.nodes[i]?=some n:=⟨_,zab hi⟩
  exact(M.node i n hn).some hs
 ·exact⟨_,eU (M.fab.port hi) hs⟩
 ·exact⟨_,M.trace⟩
theorem ag6 {s:jD}{zi zw zk za zv:List Int}(Z:Args s zi zw zk za zv)(H:aj)(hb:H.base<=H.next){mo:Nat}(hm:mo<=1000){c:Cfg}{ps:List (List Opn)}(hc:c=s.cfg zi)(hps:ps=mV c zw zk za zv mo):
  ∃H' A q f N g mid b,cl 9 [.agg s.cells,I mo] H=some (.tup [.ref A.jO 0 0,.ref q 0 0,.vs ps.length 1 (ps.map (vsl 3 Opn.av))],H')/\amw b H' g A q f N (.new c ps) (.new c ps) mid/\H.next<=b/\Step H.next H H'/\MX 0 (.new c ps)/\c.pR ps=true:=by
 have hck:c.ok=true:=by rw [hc];exact aeF s zi
 have hvz:∀z∈zv,In64 z:=λz hz=> ahb (Z.ok.values.wf z hz);have hiz:∀z∈c.init,In64 z:=λz hz=> by
  rw [hc] at hz;exact ahb (Z.ok.init.wf z (List.mem_of_mem_take hz))
 have hop:c.pR ps=true:=by rw [hps];exact ab7 hck zw zk za zv hvz mo
 have X:MX 0 (.new c ps):=amv hck hiz hop (by rw [hps];exact sD hck zw zk za zv hvz _);have e1:=λH=> MV H Z.ok Z.hi Z.hc;rw [<-hc] at e1;have e2:∀H,cl 43 [.agg s.cells,I mo] H=some (.vs ps.length 1 (ps.map (vsl 3 Opn.av)),H):=λH=> by
  obtain⟨ps',aqx,e⟩:=P5 H Z.ok Z.hi Z.hw Z.hk Z.ha Z.hv Z.hc (mo:=mo) hm;rw [hps,hc,<-aqx];exact e
 have hall:s.cells.all AV.aH=true:=by
  have:=Z.hc;simp only [jD.cells,List.all_cons,List.all_nil,this,Bool.and_true];rfl
 let H1:=H.new (.blk 0 24 s.cells);let H2:=H1.new (.blk 0 40 c.av);have n1:H1.next=H.next+1:=nNew
 have n2:H2.next=H.next+1+1:=by simp only [H2,nNew,n1]
 have b2:H2.base=H.base:=rfl;obtain⟨H3,q,f,N,g1,e3,M1,R1⟩:=P8 H2 (by omega) c hck (agj H2 ps) hop;obtain⟨H4,A,g2,e4,M2,I2⟩:=zD H3 (by rw [M1.base];exact zaz (by omega) M1.next) c hck (agj H3 ps) hop;have G:=M1.good.merge M2;have gq:H2.get (H.next+1)=.blk 0 40 c.av:=aK n1.symm;have l2:=iK gq;have l3:=iK (H:=H3) (r:=H.next+1) (c:=c) (by rw [M1.same _ (by omega)];exact gq);have ls:s.cells.length=12:=rfl;have lt:s.cells.take 12=s.cells:=rfl;have cc:(AV.agg c.av).cells=c.av:=rfl;have lc:c.av.length=8:=rfl;have hb1:H.base<=H.next+1:=by omega
 have b0:bi .neq 76 (I 0) (I 0)=some (B false):=by kernel_rfl
 have en:bi .eql 26 (.ref A.jO 0 0) zP=some (B false):=by kernel_rfl
 have hI:=I2.sub (TD (g:=g1) M2.good (zac _));refine⟨H4,A,q,f,N,cup H3.next g1 g2,H3.next,H2.next,aN rfl rfl (ap0 _ _ _ _ ?_),⟨G,?_,hI,λx hx=> ?_,g1,R1,TB M1.good rfl,λx hx=> ?_⟩,by omega,?_,X,hop⟩
 ·simp only [H1,H2] at e3 l2;simp -implicitDefEqProofs only [Nat.reduceLT,Nat.reduceAdd,setAt,xq_,hq_,apx,aB hall,ls,lt,e1,cc,lc,hb1,e2,l2,e3,l3,e4,zae,b0,en]
 ·rw [M2.base,M1.base,b2];omega
 ·obtain⟨cs,h⟩:=I2.here hx;exact M2.good.le h
 ·cases h:g1 x with
  | none=> exact absurd h hx
  | some cs=> exact M1.good.lt h
 ·refine⟨by rw [M2.base,M1.base,b2],zaz (by omega) (zaz M1.next M2.next),λr hr=> ?_⟩;rw [M2.same r (zaw (by omega) M1.next),M1.same r (by omega)];simp only [H2,H1];rw [aQ (by rw [nNew];omega),aQ hr]
theorem ZG {x:AV}{cs:List Cho}(Y:aG aj.empty x 4 cs.length (cs.flatMap Cho.av))(H:aj):aG H x 4 cs.length (cs.flatMap Cho.av):=
 Y.gK (zaT _) λr _ hr=> absurd hr (Nat.not_lt_zero r)
theorem acd {x:AV}{cs:List Cho}(Y:aG aj.empty x 4 cs.length (cs.flatMap Cho.av))(H:aj){i:Nat}{c:Cho}(hi:cs[i]?=some c):ix 4 x (I i) H=some (cZ x i,H)/\lda 4 (cZ x i) H=some (.agg c.av,H):=by
 have hl:=(zaf.1 hi).1;have Z:=ZG Y H;have h1:=Z.ix (k:=.i64) (i:=(i:Int)) (by omega) (by omega);rw [zar] at h1;exact⟨h1,iW (enc:=Cho.av) (m:=4) (λ_=> rfl) Z hi⟩
section
variable {b:Nat}{H:aj}{g:Store}{A:Adr}{m:fK}{T:Nat}
theorem MX.fine(X:MX T m):m.fine:=by
 have I:=X.inv;have B:=qx I.ok;have h1:=I.len;have h2:=I.fab.len;have ace:∀p∈m.fab.l,p.rq.length < 1000/\p.an.length < 1000/\p.rin.length < 1000/\p.ain.length < 1000:=λp hp=> by
  have P:=I.fab.port p hp;have:=P.rq;have:=P.an;have:=P.rin;have:=P.ain;have:=B.out;have:=B.inn;omega
 have hn:∀n∈m.nodes,NX T n/\∃i:Nat,Rh m.c i n:=λn hn=> by
  obtain⟨i,hi⟩:=List.mem_iff_getElem?.1 hn;exact⟨X.node i n hi,i,I.node i n hi⟩
 refine⟨I.ok,h1,by omega,λn hm=> ?_,λl hl=> ?_,λn hm=> ?_,λp hp=> ⟨(ace p hp).2.2.1,(ace p hp).2.2.2⟩⟩
 ·obtain⟨_,i,NI⟩:=hn n hm;have:=NI.proc.most;have:=NI.proc.vals;omega
 ·unfold Fab.iw at hl;obtain⟨p,hp,hl⟩:=za5.1 hl;simp only [zam,zaI,or_false] at hl;rcases hl with rfl | rfl
  ·exact(ace p hp).1
  ·exact(ace p hp).2.1
 ·have:=(hn n hm).1.dat;omega
theorem zW(G:Good b H g)(M:fC g A m)(hc:m.c.ok=true):cl 13 [.ref A.jO 0 0] H=some (.agg m.c.av,H):=by
 have B:=qx hc;refine aW rfl rfl (anv _ _ _) ?_ (YB _);have l1:=λo=> (G.guard.new o).loads M.jO (i:=2) (n:=8) (xs:=m.c.av) (by simp [uy,EU,Cfg.av]) rfl (by decide);have e1:=λH=> jf H m.c.init (by have:=B.init;have:=B.jA;omega);have hav:m.c.av=[I m.c.nodes,I m.c.lines,I m.c.words,I m.c.sets,I m.c.ways,I m.c.out,I m.c.inn,dat m.c.init]:=rfl;have cc:(AV.agg m.c.av).cells=m.c.av:=rfl;have lc:m.c.av.length=8:=rfl;have l7:m.c.av[7]?=some (dat m.c.init):=rfl;have all:=dH m.c;rw [hav] at l1 all ⊢;simp -implicitDefEqProofs only [Nat.reduceAdd,setAt,xq_,hq_,aiL,l1,e1,all]
theorem EO(G:Good b H g)(M:fC g A m)(X:MX T m):cl 14 [.ref A.fab 0 0] H=some (I m.fab.under,H):=by
 have F:=X.fine;have B:=qx X.inv.ok;have h1:=F.nodes;have h2:=F.fab;exact SI G M.fab (by have:=B.nodes;omega) (by have:=B.nodes;omega) F.iw
theorem TF(X:MX T m):m.fab.under<=96:=by
 have I:=X.inv;have B:=qx I.ok;have h2:=I.fab.len;have:∀l:List Port,(∀p∈l,p.rq.length+p.an.length<=16)->(l.flatMap λp=> p.rq++p.an).length<=16*l.length:=by
  intro l
  induction l with
  | nil=> intro _;simp
  | cons p l ih=>
   intro h;have h1:=h p (by simp);have h2:=ih λx hx=> h x (by simp [hx]);simp only [zaH,zaq,zak];omega
 have:=this m.fab.l λp hp=> by
  have P:=I.fab.port p hp;have:=P.rq;have:=P.an;have:=B.out;omega
 unfold Fab.under Fab.all;have:=B.nodes;omega
theorem acf(H:aj)(X:MX T m)(c:Cho):cl 12 [.agg c.av,I m.c.nodes,I m.fab.under] H=some (.agg (nD c m.c.nodes m.fab.under).av,H):=by
 have B:=qx X.inv.ok;have:=TF X;have:=B.nodes;exact ab5 H c (by omega) (by omega)
theorem acg(X:MX T m){c:Cho}(h:c.In):In64 (nD c m.c.nodes m.fab.under).at_/\In64 (nD c m.c.nodes m.fab.under).bit/\0<=(nD c m.c.nodes m.fab.under).mask/\(nD c m.c.nodes m.fab.under).mask<=65535:=by
 have B:=qx X.inv.ok;have:=TF X;have:=B.nodes;exact ab6 h ⟨by omega,by omega⟩ ⟨by omega,by omega⟩
theorem amx(m:fK)(i:Int):(m.step i).1.c=m.c:=by
 unfold fK.step;split
 ·rfl
 ·split;rfl
theorem aqy(m:fK)(p:Pck):(m.do_ p).1.c=m.c:=by
 unfold fK.do_;split
 ·rfl
 ·exact amx m _
theorem amy(X:MX T m)(p:Pck):(m.do_ p).1.nodes.length=m.nodes.length/\(m.do_ p).1.fab.l.length=m.fab.l.length:=by
 have I:=X.inv;have I':=(X.do_ p).inv;have h1:=I.len;have h2:=I.fab.len;have h3:=I'.len;have h4:=I'.fab.len;have:=aqy m p;rw [this] at h3 h4;omega
end
structure G8(b:Nat)(H:aj)(g:Store)(A:Adr)(m:fK)(T:Nat):Prop where
 good:Good b H g
 base:H.base<=b
 jO:fC g A m
 keep:MX T m
section
variable {b:Nat}{H:aj}{g:Store}{A:Adr}{m:fK}{T:Nat}
theorem G8.new(R:G8 b H g A m T)(o:dR):G8 b (H.new o) g A m T:=⟨R.good.new o,by rw [bNew];exact R.base,R.jO,R.keep⟩
theorem G8.do_(R:G8 b H g A m T)(hT:T < 999000)(p:Pck)(h64:In64 p.at_)(hbit:In64 p.bit)(m0:0<=p.mask)(m1:p.mask<=65535):
  ∃H' g',cl 11 [.ref A.jO 0 0,.agg p.av] H=some (B (m.do_ p).2,H')/\G8 b H' g' A (m.do_ p).1 (T+1)/\Off (U8 A m.nodes.length m.fab.l.length) g g'/\Step b H H':=by
 obtain⟨H',g',e,G,M,O,S⟩:=apb R.good R.base R.jO R.keep hT p h64 hbit m0 m1;exact⟨H',g',e,⟨G,by rw [S.base];exact R.base,M,R.keep.do_ p⟩,O,S⟩
theorem G8.fresh(R:G8 b H g A m T){q:Nat}(hq:H.next<=q):¬U8 A m.nodes.length m.fab.l.length q:=λh=> by
 obtain⟨cs,e⟩:=R.jO.here h;rw [R.good.isNone hq] at e;cases e
theorem G8.loc(R:G8 b H g A m T){ty n:Nat}{xs ys:List AV}(hx:xs.length=n)(hy:ys.length=n)(hn:0 < n)(ax:xs.all AV.aH=true)(ay:ys.all AV.aH=true)(ht:ty < eH:=by decide):
  ∃K,st n (.ref H.next 0 0) (.agg ys) (H.new (.blk 0 ty xs))=some (aO,K)/\G8 b K (upd g H.next (ys.map Cell.av)) A m T/\lda n (.ref H.next 0 0) K=some (.agg ys,K):=by
 have G1:=R.good.newObj (ty:=ty) (xs:=xs) ax ht;obtain⟨K',t1,t2,t3,t4⟩:=G1.stores (by rw [bNew];exact R.base) upd_same (i:=0) (n:=n) (vs:=ys) (by rw [zaE,hx];omega) hy ay;have e:mX (xs.map Cell.av) 0 ys=ys.map Cell.av:=by
  unfold mX;rw [zaU (by rw [zaE,hx,hy];omega)];simp
 rw [e,mG] at t2;exact⟨K',t1,⟨t2,by rw [t3.base,bNew];exact R.base,R.jO.sub ((pO.refl g).more (R.good.isNone (zac _)) _),R.keep⟩,t2.loads upd_same (i:=0) (n:=n) (xs:=ys) (by rw [zaP,zas (by simp [hy])]) hy hn⟩
theorem G8.fab(R:G8 b H g A m T):ld (.ref A.jO 0 0) H=some (.ref A.fab 0 0,H):=R.good.load R.jO.jO (i:=0) (x:=.ref A.fab 0 0) rfl
theorem G8.trace(R:G8 b H g A m T):ld (.ref A.jO 0 1) H=some (.ref A.trace 0 0,H):=R.good.load R.jO.jO (i:=1) (x:=.ref A.trace 0 0) rfl
theorem G8.guard(R:G8 b H g A m T):Good b H.guard g/\fC g A m:=⟨R.good.guard,R.jO⟩
end
theorem JV:∀(n:Nat) (l:List Nat),l.Nodup->(∀x∈l,x < n)->l.length<=n
 | 0,[],_,_=> zac _
 | 0,x::l,_,h=> absurd (h x (by simp)) (Nat.not_lt_zero x)
 | n+1,l,hn,h=> by
  by_cases hm:n∈l
  ·have h1:=JV n (l.erase n) (hn.erase n) λx hx=> by
    have h2:=(hn.mem_erase_iff).1 hx;have:=h x h2.2;have:=h2.1;omega
   rw [List.length_erase_of_mem hm] at h1;omega
  ·have:=JV n l hn λx hx=> by
    have:=h x hx;have:x≠n:=λe=> hm (by rw [<-e];exact hx);omega
   omega
theorem JW {c:Cfg}(hc:c.ok=true){ca:Cache}(I:Bo c ca):ca.l.length<=12:=by
 have h8:=(Gl hc).2.1;have h:=JV 8 (ca.l.map λe=> e.line.toNat) (by
  unfold List.Nodup;rw [zb5];refine I.lines.imp_of_mem λ{a b} ha hb hab e=> hab ?_;have:=(I.ent a ha).lo;have:=(I.ent b hb).lo;omega) λx hx=> by
   obtain⟨e,he,rfl⟩:=zaN.1 hx;have:=(I.ent e he).lo;have:=(I.ent e he).hi;omega
 rw [zaE] at h;omega
def amS(A:Adr)(k n:Nat)(q:Nat):Prop:=U8 A k n q∨q=A.jO∨q=A.fab
section
variable {b:Nat}{H:aj}{g g':Store}{A A':Adr}{m:fK}{T mid:Nat}
theorem fC.agree(M:fC g A m)(h:∀x,amS A m.nodes.length m.fab.l.length x->g' x=g x):fC g' A m:=by
 refine⟨by rw [h _ (.inr (.inl rfl))];exact M.jO,by rw [h _ (.inl (.inr (.inr rfl)))];exact M.trace,M.fab.same (h _ (.inr (.inr rfl))) λq hq=> h _ (.inl (.inr (.inl hq))),λi n hn=> (M.node i n hn).ext λs hs=> h _ (.inl (.inl ⟨i,s,(zaf.1 hn).1,hs,rfl⟩)),M.PX,M.alM,M.tf⟩
theorem fC.there(M:fC g A m){x:Nat}(h:amS A m.nodes.length m.fab.l.length x):∃cs,g x=some cs:=by
 rcases h with h | rfl | rfl
 ·exact M.here h
 ·exact⟨_,M.jO⟩
 ·exact⟨_,M.fab.1⟩
structure Two(b:Nat)(H:aj)(g:Store)(A A':Adr)(m:fK)(T mid:Nat):Prop where
 good:Good b H g
 base:H.base<=b
 one:fC g A m
 two:fC g A' m
 keep:MX T m
 lo:∀x,amS A m.nodes.length m.fab.l.length x->x < mid
 hi:∀x,amS A' m.nodes.length m.fab.l.length x->mid<=x
theorem Two.run(R:Two b H g A A' m T mid):G8 b H g A m T:=⟨R.good,R.base,R.one,R.keep⟩
theorem Two.run'(R:Two b H g A A' m T mid):G8 b H g A' m T:=⟨R.good,R.base,R.two,R.keep⟩
theorem Two.do_(R:Two b H g A A' m T mid)(hT:T < 999000)(p:Pck)(h64:In64 p.at_)(hbit:In64 p.bit)(m0:0<=p.mask)(m1:p.mask<=65535):
  ∃H1 g1 H2 g2,cl 11 [.ref A.jO 0 0,.agg p.av] H=some (B (m.do_ p).2,H1)/\cl 11 [.ref A'.jO 0 0,.agg p.av] H1=some (B (m.do_ p).2,H2)/\Good b H1 g1/\Two b H2 g2 A A' (m.do_ p).1 (T+1) mid/\
   (∀x,¬U8 A m.nodes.length m.fab.l.length x->¬U8 A' m.nodes.length m.fab.l.length x->g1 x=g x/\g2 x=g x):=by
 obtain⟨H1,g1,e1,R1,O1,S1⟩:=R.run.do_ hT p h64 hbit m0 m1;have M1:fC g1 A' m:=R.two.agree λx hx=> O1 x λh=> by
  have:=R.lo x (.inl h);have:=R.hi x hx;omega
 obtain⟨H2,g2,e2,R2,O2,S2⟩:=(⟨R1.good,R1.base,M1,R.keep⟩:G8 b H1 g1 A' m T).do_ hT p h64 hbit m0 m1;obtain⟨l1,l2⟩:=amy R.keep p;refine⟨H1,g1,H2,g2,e1,e2,R1.good,⟨R2.good,R2.base,R1.jO.agree λx hx=> O2 x λh=> ?_,R2.jO,R2.keep,?_,?_⟩,λx h1 h2=> ⟨O1 x h1,(O2 x h2).trans (O1 x h1)⟩⟩
 ·rw [l1,l2] at hx;have:=R.lo x hx;have:=R.hi x (.inl h);omega
 ·rw [l1,l2];exact R.lo
 ·rw [l1,l2];exact R.hi
theorem Qq(R:Two b H g A A' m T mid):∀(k i:Nat),i+k=m.nodes.length->Rk cl [.ref A.jO 0 0,.ref A'.jO 0 0,I i] H=some (B true,H):=by
 have X:=R.keep;have I_:=X.inv;have B_:=qx I_.ok;have hn:=B_.nodes;have hl:=I_.len;have e1:=zW R.good R.one I_.ok;have l0:m.c.av[0]?=some (I m.c.nodes):=rfl;have wk:=λH=> ag4 H;intro k
 induction k with
 | zero=>
  intro i hi;have hlt:¬(i:Int) < m.c.nodes:=by omega
  rw [adq];simp -implicitDefEqProofs only [xq_,e1,l0,hlt,wk]
 | succ k ih=>
  intro i hi;have hlt:(i:Int) < m.c.nodes:=by omega
  obtain⟨n,hnn⟩:∃n,m.nodes[i]?=some n:=⟨_,zab (by omega)⟩
  have NI:=I_.node i n hnn;have n1:=JD R.good R.one (by omega) (i:Int);have n2:=JD R.good R.two (by omega) (i:Int);rw [if_pos (by omega),zar] at n1 n2;have g1:=R.one.node i n hnn;have g2:=R.two.node i n hnn;have a1:=R.good.load g1.1 (i:=0) (x:=.ref (A.N i 1) 0 0) rfl;have a2:=R.good.load g2.1 (i:=0) (x:=.ref (A'.N i 1) 0 0) rfl;have b1:=R.good.load g1.1 (i:=1) (x:=.ref (A.N i 2) 0 0) rfl;have b2:=R.good.load g2.1 (i:=1) (x:=.ref (A'.N i 2) 0 0) rfl;obtain⟨x1,c1,s1⟩:=SS R.good.guard g1.2.1 (JW I_.ok NI.cache);obtain⟨x2,c2,s2⟩:=SS R.good g2.2.1 (JW I_.ok NI.cache);have hcl:(srt [] (n.cache.l.map (·.line))).length=n.cache.l.length:=by
   have:=(oO (n.cache.l.map (·.line)) [] List.Pairwise.nil).1.length_eq
   simpa using this
  have q1:=s1 H;have q2:=s2 H;rw [<-hcl] at q1 q2;have t1:=YL H (by have:=JW I_.ok NI.cache;omega) q1 q2;obtain⟨y1,d1,u1⟩:=Gy R.good.guard g1.2.2.1 (by have:=NI.proc.vals;have:=NI.proc.most;omega);obtain⟨y2,d2,u2⟩:=Gy R.good g2.2.2.1 (by have:=NI.proc.vals;have:=NI.proc.most;omega);have t2:=YL H (by have:=NI.proc.vals;have:=NI.proc.most;omega) (u1 H) (u2 H);have z1:bi .eql 54 (.ref (A.N i 0) 0 0) zP=some (B false):=by kernel_rfl
  have z2:bi .eql 54 (.ref (A'.N i 0) 0 0) zP=some (B false):=by kernel_rfl
  have h6:(i:Int)+1=((i+1:Nat):Int):=by omega
  have h7:=wrap_i64 (a:=((i+1:Nat):Int)) (by omega) (by omega);have ihn:=ih (i+1) (by omega);rw [adq];simp -implicitDefEqProofs only [xq_,e1,l0,hlt,n1,n2,z1,z2,a1,a2,b1,b2,c1,c2,t1,d1,d2,t2,zae,aZ,h6,h7,ihn]
theorem ZH(R:Two b H g A A' m T mid){x:AV}{cs:List Cho}(Y:aG aj.empty x 4 cs.length (cs.flatMap Cho.av)){i:Nat}(hi:i=min cs.length 80):LX cl [x,.ref A.jO 0 0,.ref A'.jO 0 0,I i] H=some (B true,H):=by
 have X:=R.keep;have ln:=(ZG Y H).lnS;have f0:=R.run.fab;have f1:=R.run.trace;have g0:=R.run'.fab;have g1:=R.run'.trace;have G:=R.good.guard;obtain⟨y1,a1,u1⟩:=Ez G R.one.trace (by have:=evs_le X.inv;omega);obtain⟨y2,a2,u2⟩:=Ez R.good R.two.trace (by have:=evs_le X.inv;omega);have t1:=agq H (by have:=evs_le X.inv;omega) (u1 H) (u2 H);have b1:=EO G R.one X;have b2:=EO R.good R.two X;have c1:=PY R.good R.one X.fine;have c2:=PY R.good R.two X.fine;have d1:=JA R.good R.one X.fine;have d2:=JA R.good R.two X.fine;have e:=Qq R m.nodes.length 0 (by omega);have z0:((0:Nat):Int)=0:=rfl;have nb:∀q:Bool,bi .neq 4 (B q) (B q)=some (B false):=λq=> by cases q <;> kernel_rfl
 rw [z0] at e;rw [adp];by_cases hlt:(i:Int) < cs.length
 ·have h80:¬(i:Int) < 80:=by omega
  simp -implicitDefEqProofs only [xq_,ln,hlt,h80,f0,f1,g0,g1,a1,a2,t1,b1,b2,c1,c2,d1,d2,nb,zae,e]
 ·simp -implicitDefEqProofs only [xq_,ln,hlt,f0,f1,g0,g1,a1,a2,t1,b1,b2,c1,c2,d1,d2,nb,zae,e]
theorem Two.loc(R:Two b H g A A' m T mid){ty n:Nat}{xs ys:List AV}(hx:xs.length=n)(hy:ys.length=n)(hn:0 < n)(ax:xs.all AV.aH=true)(ay:ys.all AV.aH=true)(ht:ty < eH:=by decide):
  ∃K,st n (.ref H.next 0 0) (.agg ys) (H.new (.blk 0 ty xs))=some (aO,K)/\Two b K (upd g H.next (ys.map Cell.av)) A A' m T mid/\lda n (.ref H.next 0 0) K=some (.agg ys,K):=by
 obtain⟨K,e,R1,l⟩:=R.run.loc hx hy hn ax ay ht;exact⟨K,e,⟨R1.good,R1.base,R1.jO,R.two.sub ((pO.refl g).more (R.good.isNone (zac _)) _),R.keep,R.lo,R.hi⟩,l⟩
theorem Vb {x:AV}{cs:List Cho}(Y:aG aj.empty x 4 cs.length (cs.flatMap Cho.av))(wf:∀c∈cs,c.In):
  ∀(k i:Nat) {H:aj} {g:Store} {m:fK},i+k=min cs.length 80->Two b H g A A' m i mid->
  ∃H',LX cl [x,.ref A.jO 0 0,.ref A'.jO 0 0,I i] H=some (B true,H'):=by
 intro k
 induction k with
 | zero=>
  intro i H g m hi R;exact⟨H,ZH R Y (by omega)⟩
 | succ k ih=>
  intro i H g m hi R;have X:=R.keep;have ln:=(ZG Y H).lnS;have hlt:(i:Int) < cs.length:=by omega
  have h80:(i:Int) < 80:=by omega
  obtain⟨c,hc⟩:∃c,cs[i]?=some c:=⟨_,zab (by omega)⟩
  let H1:=H.new (.blk 0 35 [zB,zI,zI,.s (.int .u16 0)]);obtain⟨x1,x2⟩:=acd Y H1 hc;have G1:Good b H1 g:=R.good.new _;have e1:=zW G1.guard R.one X.inv.ok;have f0:=G1.load R.one.jO (i:=0) (x:=.ref A.fab 0 0) rfl;have e2:=EO G1.guard R.one X;have e3:=acf H1.guard X c;have l0:m.c.av[0]?=some (I m.c.nodes):=rfl;obtain⟨K1,s1,R1,l1⟩:=R.loc (ty:=35) (xs:=[zB,zI,zI,.s (.int .u16 0)]) (ys:=(nD c m.c.nodes m.fab.under).av) (n:=4) rfl rfl (by decide) rfl (yT _);obtain⟨i1,i2,i3,i4⟩:=acg X (wf c (zau hc));obtain⟨H2,g2,H3,g3,d1,d2,G2,R3,fr⟩:=R1.do_ (by omega) (nD c m.c.nodes m.fab.under) i1 i2 i3 i4;have hg2:g2 H.next=some ((nD c m.c.nodes m.fab.under).av.map Cell.av):=by
   rw [(fr H.next (R.run.fresh (zac _)) (R.run'.fresh (zac _))).1,upd_same]
  have l2:lda 4 (.ref H.next 0 0) H2=some (.agg (nD c m.c.nodes m.fab.under).av,H2):=G2.loads hg2 (i:=0) (n:=4) (xs:=(nD c m.c.nodes m.fab.under).av) rfl rfl (by decide);have hck:∀{β:Type} (k:Option β),ck (aT (.ref H.next 0 0)) K1 H2 k=k:=λk=> qH (JL R1.good G2 (JI _ _ _ _ _ d1) upd_same hg2);have nb:∀q:Bool,bi .neq 4 (B q) (B q)=some (B false):=λq=> by cases q <;> kernel_rfl
  have h6:(i:Int)+1=((i+1:Nat):Int):=by omega
  have h7:=wrap_i64 (a:=((i+1:Nat):Int)) (by omega) (by omega);obtain⟨H',e⟩:=ih (i+1) (by omega) R3;refine⟨H',?_⟩;rw [adp];simp only [H1] at x1 x2 e1 f0 e2 e3;simp -implicitDefEqProofs only [xq_,ln,hlt,h80,x1,x2,e1,l0,f0,e2,e3,s1,l1,d1,l2,d2,nb,hck,aZ,h6,h7,e]
end
theorem AP {s:jD}{zi zw zk za zv:List Int}(h:s.Ok zi zw zk za zv)(hi:aG aj.empty s.init 1 zi.length (zi.map I))(hw:aG aj.empty s.who 1 zw.length (zw.map I))(hk:aG aj.empty s.kinds 1 zk.length (zk.map I))(ha:aG aj.empty s.jA 1 za.length (za.map I))(hv:aG aj.empty s.values 1 zv.length (zv.map I))
  (hc:s.init.aH=true/\s.who.aH=true/\s.kinds.aH=true/\s.jA.aH=true/\s.values.aH=true) {x:AV} {cs:List Cho} (Y:aG aj.empty x 4 cs.length (cs.flatMap Cho.av)) (wf:∀c∈cs,c.In):
  ∃H',cl 5 [.agg s.cells,x] aj.empty=some (B true,H'):=by
 have Z:Args s zi zw zk za zv:=⟨h,hi,hw,hk,ha,hv,hc⟩
 have hall:s.cells.all AV.aH=true:=by
  simp only [jD.cells,List.all_cons,List.all_nil,hc,Bool.and_true];rfl
 let H1:=aj.empty.new (.blk 0 24 s.cells);let c:=s.cfg zi;let ps:=mV c zw zk za zv 16;obtain⟨H2,A,q,f,N,g,mid,b,e1,B1,hb,S1,X,hop⟩:=ag6 Z H1 (zaT _) (mo:=16) (by decide) (c:=c) (ps:=ps) rfl rfl;have hck:c.ok=true:=X.inv.ok;have e2:=zW B1.good B1.jO hck;have hb2:H2.base<=H2.next:=zaz B1.base B1.good.1
 obtain⟨H3,A',g2,e3,M2,I2⟩:=zD H2 hb2 c hck (agj H2 ps) hop;have G:=B1.good.merge M2;have R:Two b H3 (cup H2.next g g2) A A' (.new c ps) 0 H2.next:=by
  refine⟨G,by rw [M2.base];exact B1.base,B1.jO.sub (TB B1.good rfl),I2.sub (TD M2.good (zac _)),X,λx hx=> ?_,λx hx=> ?_⟩
  ·obtain⟨cs,e⟩:=B1.jO.there hx;exact B1.good.lt e
  ·obtain⟨cs,e⟩:=I2.there hx;exact M2.good.le e
 obtain⟨H',e⟩:=Vb Y wf (min cs.length 80) 0 (by omega) R;have z0:((0:Nat):Int)=0:=rfl;have z16:((16:Nat):Int)=16:=rfl;rw [z0] at e;rw [z16] at e1;have ls:s.cells.length=12:=rfl;have lt:s.cells.take 12=s.cells:=rfl;have en:∀A:Adr,bi .eql 26 (.ref A.jO 0 0) zP=some (B false):=λA=> by kernel_rfl
 have b0:bi .neq 76 (I 0) (I 0)=some (B false):=by kernel_rfl
 refine⟨H',aN rfl rfl (apZ _ _ _ _ ?_)⟩;simp only [H1] at e1;have e2':cl 13 [.ref A.jO 0 0] H2=some (.agg c.av,H2):=e2;simp -implicitDefEqProofs only [Nat.reduceLT,xq_,hq_,aps,aB hall,ls,lt,e1,en,e2',e3,b0,e]
end
end Go.Proofs.YthmoogcacpmjiaaGreat
