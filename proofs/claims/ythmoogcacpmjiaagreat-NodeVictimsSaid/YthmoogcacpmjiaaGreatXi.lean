/-
  Own work: an interpreter over named blocks, its soundness, and what the functions of this seat compute (part 9 of 10).
  Conditions: those of the statement alone.
-/
import Derived.Test.YthmoogcacpmjiaaGreatXh
set_option linter.all false
set_option linter.unusedSectionVars false
set_option linter.unusedVariables false
set_option linter.unusedSimpArgs false
namespace Go.Proofs.YthmoogcacpmjiaaGreat
noncomputable section
def Node.evs(n:Node):Nat:=2*n.proc.values.length+(if n.proc.begun then 1 else 0)
theorem V9 {c:Cfg}{d:bf}(h:d.data=[]∨lg c d.data)(me home:Int):(d.ask me home).ok=true->tK c (d.ask me home):=by
 intro hk;have num:∀v∈d.data,I64 v:=by
  rcases h with h | h
  ·rw [h];intro v hv;cases hv
  ·exact h.2
 refine⟨hk,?_,?_⟩
 ·unfold bf.ask
  repeat' split
  all_goals (simp [Pkt.zero])
 ·unfold bf.ask
  repeat' split
  all_goals first | exact num | (intro v hv;cases hv)
theorem EH {c:Cfg}{me:Int}{h:Home}{r:dY}(S:CU c me h r)(hr:∀e∈h.rows,lg c e.2.data){line:Int}(hl:kJ c me line=true)(who id:Int):(granted h.rows me line who id).ok=true->tK c (granted h.rows me line who id):=by
 intro hk;obtain⟨row,h1,_⟩:=S.rows line hl;have hd:lg c (rowOf h.rows line).data:=by
  unfold rowOf;rw [h1];exact hr _ (nD h1)
 exact⟨hk,λ_=> hd,hd.2⟩
theorem tq {c:Cfg}{p:Pkt}(hd:p.data=[])(hk:¬(p.kind=7∨p.kind=9)):p.ok=true->tK c p:=λh=> ⟨h,λe=> absurd e hk,by rw [hd];intro v hv;cases hv⟩
theorem YO {c:Cfg}{rows:Rows}(hr:∀e∈rows,lg c e.2.data){line state head:Int}{data:List Int}(hd:∀v∈data,I64 v):∀e∈(setRow c rows line state head data).1,lg c e.2.data:=by
 unfold setRow;cases ha:gU rows line with
 | none=> exact hr
 | some r=>
  simp only;split
  ·exact hr
  ·split
   ·exact hr
   ·rename_i h1 h2;intro e he;rcases nG he with rfl | he
    ·simp only;split
     ·exact hr _ (nD ha)
     ·rename_i h0;simp only [zbd,zaj,decide_eq_true_eq,not_or,not_and,Decidable.not_not] at h2;exact⟨h2.2 h0,hd⟩
    ·exact hr e he
theorem MW {c:Cfg}{me:Int}{h:Home}(hr:∀e∈h.rows,lg c e.2.data){p:Pkt}(hd:∀v∈p.data,I64 v):∀e∈(h.handle c me p).1.rows,lg c e.2.data:=by
 unfold Home.handle;split
 ·exact hr
 split
 ·exact hr
 split
 ·simp only;split <;> exact hr
 ·have key:∀e∈(h.unlock c p).1.rows,lg c e.2.data:=by
   unfold Home.unlock;have hd':∀v∈(if p.flag=true then p.data else []),I64 v:=by
    split
    ·exact hd
    ·intro v hv;cases hv
   generalize (if p.flag=true then p.data else [])=dat at hd' ⊢;split
   ·exact hr
   ·simp only;split
    ·exact YO hr hd'
    ·exact hr
  simp only;split <;> exact key
theorem Wh {c:Cfg}(hc:c.ok=true){me:Int}{h:Home}{r:dY}(S:CU c me h r)(hr:∀e∈h.rows,lg c e.2.data)(p:Pkt):(h.handle c me p).2.1.ok=true->tK c (h.handle c me p).2.1:=by
 unfold Home.handle;have z:Pkt.zero.ok=true->tK c Pkt.zero:=tq rfl (by simp [Pkt.zero]);split
 ·exact z
 rename_i h1;have hl0:0<=p.line:=by
  simp only [zbd,za4,not_or,Bool.not_eq_false,zaj] at h1;have:=h1.1.1.1;simp only [Pkt.ok,zaj,decide_eq_true_eq] at this;omega
 split
 ·exact z
 rename_i h2;have hh:kJ c me p.line=true:=by
  cases e:kJ c me p.line with
  | true=> rfl
  | false=> exact absurd ((BG hc hl0).2 e) h2
 split
 ·simp only;split
  ·exact EH S hr hh _ _
  ·exact z
 ·simp only;split
  ·exact tq rfl (by simp)
  ·exact z
theorem Wi {c:Cfg}{ca:Cache}(I:BI c ca)(p:Pkt):BI c (dK ca p).1/\((dK ca p).2.1.ok=true->tK c (dK ca p).2.1)/\(dK ca p).1.clock=ca.clock/\∀(line:Int),c.ok=true->ca.full line=false->(dK ca p).1.full line=false:=by
 unfold dK;have z:Pkt.zero.ok=true->tK c Pkt.zero:=tq rfl (by simp [Pkt.zero]);split
 ·exact⟨I,z,rfl,λ_ _ h=> h⟩
 rename_i h1;cases hf:ca.find p.line with
 | none=> exact⟨I,z,rfl,λ_ _ h=> h⟩
 | some e=>
  obtain⟨he,hl⟩:=(eX I.lines).1 hf;have E:=I.ent e he;simp only [zbd,za4,not_or,Bool.not_eq_false,decide_eq_true_eq] at h1;have put:∀e':Ent,e'.line=e.line->e'.data=e.data->BI c (ca.put e').1/\(ca.put e').1.clock=ca.clock/\∀line,ca.full line=false->(ca.put e').1.full line=false:=λe' h2 h3=> by
   have hf':ca.find e'.line=some e:=by rw [h2,hl];exact hf
   refine⟨I.put (by rw [h2];exact E.lo) (by rw [h2];exact E.hi) (by rw [h3];exact E.dat),by rw [jR I.lines (by rw [h2];exact E.lo) hf'],λline h=> ?_⟩;rw [XV I.lines (by rw [h2];exact E.lo) hf'];exact h
  simp only;split
  ·rename_i k;have u:=put { e with dirty:=false,back:=p.ptr } rfl rfl;exact⟨u.1,λh=> ⟨h,λ_=> E.dat,E.dat.2⟩,u.2.1,λl _ h=> u.2.2 l h⟩
  split
  ·rename_i k;have u:=put { e with fwd:=p.ptr } rfl rfl;exact⟨u.1,tq rfl (by simp only [k];decide),u.2.1,λl _ h=> u.2.2 l h⟩
  split
  ·rename_i k;have u:=put { e with back:=p.ptr } rfl rfl;exact⟨u.1,tq rfl (by simp only [k];decide),u.2.1,λl _ h=> u.2.2 l h⟩
  ·exact⟨I.drop _,λh=> ⟨h,λ_=> E.dat,E.dat.2⟩,yt _ _,λl hc h=> TQ hc I h⟩
structure Both(c:Cfg)(me:Int)(n:Node)(t:List Evn)(A:NFT)(B:aeA):Prop where
 sim:NS c me A.1 B.1
 eq:B.2=A.2
 inv:Qw c me A.1
 fab:qM c A.2.1
 evs:A.2.2.length+n.evs=t.length+A.1.evs
theorem Eff.evs {c:Cfg}{me:Int}{n:Node}{r:dh}{t:List Evn}{A:NT}{B:RNT}(E:Eff c me n r t A B)(hb:n.proc.begun=true):A.2.length+n.evs=t.length+A.1.evs:=by
 have h1:A.1.proc=⟨n.proc.ops,n.proc.values++[A.2.getLast?.elim 0 (·.value)],false⟩:=by rw [E.GN]
 have h2:=E.len;unfold Node.evs;rw [h1,hb];simp only [zan,zai,zaq,if_true,zaf,if_false];omega
theorem JW {c:Cfg}(hc:c.ok=true){me:Int}{n:Node}{r:dh}(S:NS c me n r)(I:Qw c me n){f:Fab}(F:qM c f)(t:List Evn){p:Pkt}(Q:tK c p):
  Both c me n t (n.answered c me f t p) (r.answered c me f t p):=by
 have hsame:Both c me n t (n,f,t) (r,f,t):=⟨S,rfl,I,F,rfl⟩
 unfold Node.answered dh.answered;rw [sD];by_cases hs:n.deal.step=0
 ·have hh:r.has=false:=by rw [S.sim.has,hs];rfl
  have hf:n.deal.fits p=false:=by
   unfold bf.fits;rw [hs];simp [Kq,FC]
  rw [wS hf,if_pos hh];simp only [mQ,if_true];exact hsame
 have hh:r.has=true:=by rw [S.sim.has];simp [hs]
 have hd:r.deal=n.deal:=by rw [S.sim.deal,if_neg hs]
 obtain⟨c1,c2⟩:=XU S.cs n.deal me p;rw [if_neg (by rw [hh];simp),hd];have D:=I.deal hs;cases hA:uo n.deal me n.cache p with
 | mk ca dk=>
  obtain⟨d,ok⟩:=dk;cases hB:TK n.deal me r.cache p with
  | mk rc rk=>
   rw [hA,hB] at c1 c2;simp only at c1 c2;subst c2;simp only;cases ok with
   | false=>
    simp only [if_true];have e1:ca=n.cache:=by
     cases hfit:n.deal.fits p with
     | false=> rw [wS hfit] at hA;simp only [mQ,zac] at hA;exact hA.1.symm
     | true=>
      have:ca=n.cache:=by
       unfold uo at hA
       repeat' split at hA
       ·unfold bJ at hA
        repeat' split at hA
        all_goals (simp only [mQ,zac,Bool.true_eq_false,and_false] at hA)
        all_goals exact hA.1.symm
       ·unfold bM at hA
        repeat' split at hA
        all_goals (simp only [mQ,zac,Bool.true_eq_false,and_false] at hA)
        all_goals exact hA.1.symm
       ·unfold bW at hA;split at hA
        ·simp only [mQ,zac] at hA;exact hA.1.symm
        ·split at hA
         ·exfalso;cases hfd:n.cache.find n.deal.line with
          | none=> simp [hfd] at hA
          | some e=>
           simp only [hfd] at hA
           repeat' split at hA
           all_goals simp at hA
         ·unfold eF at hA
          repeat' split at hA
          all_goals (simp only [mQ,zac,Bool.true_eq_false,and_false] at hA)
          all_goals exact hA.1.symm
       ·simp only [mQ,zac] at hA;exact hA.1.symm
      exact this
    subst e1;have S':NS c me n { r with cache:=rc,deal:=n.deal }:=NS.of c1 S.hs S.sim.ops S.sim.values S.sim.begun S.sim.has (by simp [hs]) S.sim.num;exact⟨S',rfl,I,F,rfl⟩
   | true=>
    simp only [Bool.true_eq_false,if_false];have N:=PN I.cache D hs Q hA;have kd:=D.kind;by_cases h0:d.step=0
    ·rw [if_pos h0,if_pos h0];rcases N.way with⟨w1,_,w3⟩ | ⟨w1,_⟩
     rotate_left
     ·exact absurd h0 w1
     subst w3;have hI:Qw c me { n with deal:=d }:=⟨I.proc,I.cache,I.rows,I.home,λh=> absurd h0 h,I.clk⟩
     have S':NS c me { n with deal:=d } { r with cache:=rc,has:=false,deal:=.zero }:=NS.of c1 S.hs S.sim.ops S.sim.values S.sim.begun (by simp [h0]) (by simp [h0]) S.sim.num;have hcur:r.ops[r.values.length]?=n.proc.cur:=by rw [S.sim.ops,S.sim.values];rfl
     try simp only
     rw [hcur];by_cases k3:d.kind=3
     ·have hb:=D.roll (by rw [<-N.kind];exact k3);have hlt:=I.proc.begun hb;obtain⟨o,ho⟩:∃o,n.proc.cur=some o:=⟨_,zad hlt⟩
      have hop:n.proc.op=o:=by unfold Proc.op;rw [ho];rfl
      have hrb:r.begun=true:=by rw [S.sim.begun];exact hb
      rw [ho];simp only [hop,hrb,k3,true_and];by_cases k4:o.kind=4
      ·rw [if_pos k4,if_pos k4];have hidx:n.proc.idx=n.proc.values.length:=by unfold Proc.idx;rw [ho]
       simp only [Node.done,dh.done,Proc.WU,hb,if_true,hidx,S.sim.values];refine⟨NS.of c1 S.hs S.sim.ops rfl rfl (by simp [h0]) (by simp [h0]) S.sim.num,rfl,⟨⟨I.proc.most,I.proc.right,by simp only [zan,zai,zaq];omega,λh=> by cases h⟩,I.cache,I.rows,I.home,λh=> absurd h0 h,?_⟩,F,?_⟩
       ·have:=I.clk;simp only [zan,zai,zaq];omega
       ·simp only [Node.evs,hb,if_true,zan,zai,zaq,zaf,if_false];omega
      ·rw [if_neg k4,if_neg k4];exact⟨NS.of c1 S.hs S.sim.ops S.sim.values hb.symm (by simp [h0]) (by simp [h0]) S.sim.num,rfl,hI,F,rfl⟩
     ·rw [if_neg (by simp [k3])];have hnb:=D.rest (by rw [<-N.kind];exact k3) w1;have hrb:r.begun=false:=by rw [S.sim.begun];exact hnb
      cases hcu:n.proc.cur with
      | none=> exact⟨S',rfl,hI,F,rfl⟩
      | some o=>
       simp only [hrb,zaf,false_and,if_false];exact⟨NS.of c1 S.hs S.sim.ops S.sim.values hnb.symm (by simp [h0]) (by simp [h0]) S.sim.num,rfl,hI,F,rfl⟩
    ·rw [if_neg h0,if_neg h0];rcases N.way with⟨_,w2,_⟩ | ⟨_,w2,w3⟩
     ·exact absurd w2 h0
     have hl0:0<=d.line:=by rw [N.line];exact D.lo
     have home:c.fK d.line=d.line.tmod c.nodes:=by
      have:=(Jb hc).1;unfold Cfg.fK yE;rw [if_neg (by omega),zbv hl0]
     by_cases h6:d.step=6/\d.kind≠3
     ·-- the operation takes effect
      simp only [if_pos h6];have k3:n.deal.kind≠3:=by rw [<-N.kind];exact h6.2
      have W:=D.work k3 w2;obtain⟨o,ho,hol,hk1,hk2⟩:=W.op;have hmem:o∈n.proc.ops:=zaK ho;obtain⟨e,he,Wj⟩:∃e,ca.find n.deal.line=some e/\(n.deal.kind=2->e.dirty=true):=by
       rcases w3 k3 with⟨w,_⟩ | ⟨_,w⟩
       ·exact absurd h6.1 w
       ·exact w
      have hop:r.ops.getD r.values.length .zero=o:=by
       rw [S.sim.ops,S.sim.values,zaG];have:n.proc.ops[n.proc.values.length]?=some o:=ho;rw [this];rfl
      have E:=EG hc (n:={ n with cache:=ca,deal:=d }) (r:={ r with cache:=rc,deal:=d }) (me:=me) c1 S.sim.values N.inv t ho (I.proc.right o hmem).1 (I.proc.right o hmem).2 W.begun (by rw [hol];exact he) (λhk=> by
       have hk':=D.kind;by_cases e2:n.deal.kind=2
       ·exact Wj e2
       ·have:=hk1 (by omega);omega)
      rw [hop];have hn1:(({ n with cache:=ca,deal:=d }:Node).effect c me t).1.deal=d:=by rw [E.GN]
      have hn2:(({ n with cache:=ca,deal:=d }:Node).effect c me t).1.home=n.home:=by rw [E.GN]
      have hn3:(({ n with cache:=ca,deal:=d }:Node).effect c me t).1.num=n.num:=by rw [E.GN]
      have hn4:(({ n with cache:=ca,deal:=d }:Node).effect c me t).1.proc=⟨n.proc.ops,n.proc.values++[(({ n with cache:=ca,deal:=d }:Node).effect c me t).2.getLast?.elim 0 (·.value)],false⟩:=by rw [E.GN]
      have hn5:(({ n with cache:=ca,deal:=d }:Node).effect c me t).1.cache.clock=ca.clock:=by
       have hop':({ n with cache:=ca,deal:=d }:Node).proc.op=o:=by unfold Proc.op;rw [show({ n with cache:=ca,deal:=d }:Node).proc.cur=some o from ho];rfl
       unfold Node.effect Node.done;simp only [hop'];rw [show ca.find (c.dn o.addr)=some e by rw [hol];exact he];simp only [zas];obtain⟨hem,hel⟩:=(eX N.inv.lines).1 he;rw [jR N.inv.lines (x:=e) (by rw [(jG _ _ _).1];exact(N.inv.ent e hem).lo) (by rw [(jG _ _ _).1,hel];exact he)]
      have hr1:((({ r with cache:=rc,deal:=d }:dh).effect c o).1.done me t (({ r with cache:=rc,deal:=d }:dh).effect c o).2).1.deal=d:=by rw [E.rest]
      have hr2:((({ r with cache:=rc,deal:=d }:dh).effect c o).1.done me t (({ r with cache:=rc,deal:=d }:dh).effect c o).2).1.homes=r.homes:=by rw [E.rest]
      have hr3:((({ r with cache:=rc,deal:=d }:dh).effect c o).1.done me t (({ r with cache:=rc,deal:=d }:dh).effect c o).2).1.num=r.num:=by rw [E.rest]
      have hr4:((({ r with cache:=rc,deal:=d }:dh).effect c o).1.done me t (({ r with cache:=rc,deal:=d }:dh).effect c o).2).1.ops=r.ops:=by rw [E.rest]
      have hr5:((({ r with cache:=rc,deal:=d }:dh).effect c o).1.done me t (({ r with cache:=rc,deal:=d }:dh).effect c o).2).1.values=n.proc.values++[(({ n with cache:=ca,deal:=d }:Node).effect c me t).2.getLast?.elim 0 (·.value)]:=by rw [E.rest]
      have hr6:((({ r with cache:=rc,deal:=d }:dh).effect c o).1.done me t (({ r with cache:=rc,deal:=d }:dh).effect c o).2).1.begun=false:=by rw [E.rest]
      have hr7:((({ r with cache:=rc,deal:=d }:dh).effect c o).1.done me t (({ r with cache:=rc,deal:=d }:dh).effect c o).2).1.has=r.has:=by rw [E.rest]
      have hlt:=I.proc.begun W.begun;have aii:ca.clock<=n.proc.values.length+1:=by
       have:=I.clk;rcases N.clk with h | ⟨_,_,h⟩ <;> omega
      refine⟨NS.of E.sim (by rw [hn2,hr2];exact S.hs) (by rw [hr4,hn4];exact S.sim.ops) (by rw [hr5,hn4]) (by rw [hr6,hn4]) (by rw [hr7,hh,hn1];simp [h0]) (by rw [hr1,hn1,if_neg h0]) (by rw [hr3,hn3];exact S.sim.num),?_,?_,?_,E.evs W.begun⟩
      ·simp only [dh.LP,Node.LP,hr1,hn1,E.ev,home]
      ·refine⟨⟨by rw [hn4];exact I.proc.most,by rw [hn4];exact I.proc.right,by rw [hn4];simp only [zan,zai,zaq];omega,by rw [hn4];intro h;cases h⟩,E.inv,by rw [hn2];exact I.rows,by rw [hn2];exact I.home,λ_=> ?_,by rw [hn5,hn4];simp only [zan,zai,zaq];omega⟩;exact⟨by rw [hn1];exact hl0,by rw [hn1,N.line];exact D.hi,by rw [hn1,N.kind];exact D.kind,by rw [hn1];exact N.dat,by rw [hn1];exact N.abV,by rw [hn1];intro h;exact absurd h h6.2,by rw [hn1];intro _ h;exact absurd h6.1 h,by rw [hn4];intro _ _;rfl⟩
      ·simp only [Node.LP,hn1];exact F.send (V9 N.dat _ _)
     ·simp only [if_neg h6];have S':NS c me { n with cache:=ca,deal:=d } { r with cache:=rc,deal:=d }:=NS.of c1 S.hs S.sim.ops S.sim.values S.sim.begun (by simp [h0,hh]) (by simp [h0]) S.sim.num;refine⟨S',?_,⟨I.proc,N.inv,I.rows,I.home,λ_=> ⟨hl0,by rw [N.line];exact D.hi,by rw [N.kind];exact D.kind,N.dat,N.abV,λh=> D.roll (by rw [<-N.kind];exact h),λk3 k6=> ?_,λk3 k6=> absurd ⟨k6,k3⟩ h6⟩,?_⟩,F.send (V9 N.dat _ _),rfl⟩
      ·simp only [dh.LP,Node.LP,home]
      ·have k3':n.deal.kind≠3:=by rw [<-N.kind];exact k3
       have W:=D.work k3' w2;rcases w3 k3' with⟨_,w⟩ | ⟨w,_⟩
       ·subst w;obtain⟨o,ho,hol,hk1,hk2⟩:=W.op;exact⟨W.begun,⟨o,ho,by rw [hol];exact N.line.symm,by rw [N.kind];exact hk1,by rw [N.kind];exact hk2⟩,by simp only;rw [N.line];exact W.full⟩
       ·exact absurd w k6
      ·have:=I.clk;rcases N.clk with h | ⟨k3,k6,_⟩
       ·simp only;omega
       ·exact absurd ⟨k6,by rw [N.kind];exact k3⟩ h6
theorem Wn {c:Cfg}(hc:c.ok=true){line:Int}(h:0<=line):c.fK line=line.tmod c.nodes:=by
 have:=(Jb hc).1;unfold Cfg.fK yE;rw [if_neg (by omega),zbv h]
theorem wU {c:Cfg}(hc:c.ok=true){me:Int}{n:Node}{r:dh}(S:NS c me n r)(I:Qw c me n){f:Fab}(F:qM c f)(t:List Evn){k l:Int}(hk:1<=k/\k<=3)(h0:0<=l)(h1:l < c.lines)(hb:n.proc.begun=true)
  (hw:k≠3->(∃o,n.proc.cur=some o/\c.dn o.addr=l/\(k=1->o.kind=1)/\(k=2->o.kind=2∨o.kind=3))/\n.cache.full l=false):
  Both c me n t ((n.begin_ c me f k l).1,(n.begin_ c me f k l).2,t) ((r.begin_ c me f k l).1,(r.begin_ c me f k l).2,t):=by
 unfold Node.begin_ dh.begin_;have hs:(bf.begin k l n.num).step≠0:=by show(1:Int)≠0;decide
 simp only [S.sim.num];refine⟨NS.of S.cs S.hs S.sim.ops S.sim.values S.sim.begun (by simp [bf.begin]) (by simp [bf.begin]) rfl,?_,⟨I.proc,I.cache,I.rows,I.home,λ_=> ?_,I.clk⟩,F.send (V9 (.inl rfl) _ _),rfl⟩
 ·simp only [dh.LP,Node.LP,bf.begin];rw [Wn hc h0]
 ·refine⟨h0,h1,hk,.inl rfl,λ_ h=> absurd h (by simp [bf.begin]),λ_=> hb,λk3 _=> ?_,λ_ h=> absurd h (by simp [bf.begin])⟩;obtain⟨⟨o,q1,q2,q3,q4⟩,q5⟩:=hw k3;exact⟨hb,⟨o,q1,q2,q3,q4⟩,q5⟩
theorem tu {ca:Cache}(hl:Lines ca.l){line:Int}{e:Ent}(h:ca.find line=some e):(ca.touch line).find line=some { e with used:=ca.clock+1 }:=by
 obtain⟨he,hel⟩:=(eX hl).1 h;rw [vU hl h];unfold Cache.find;rw [eX (vY hl λy _=> by
  split
  ·rename_i h;rw [h];exact hel
  ·rfl)]
 exact⟨zaL.2 ⟨e,he,by rw [if_pos hel]⟩,hel⟩
theorem CO {ca:Cache}(hl:Lines ca.l){line:Int}{e:Ent}(h:ca.find line=some e):(ca.touch line).clock=ca.clock+1:=by rw [vU hl h]
theorem YP {c:Cfg}(hc:c.ok=true){me:Int}{n:Node}{r:dh}(S:NS c me n r)(I:Qw c me n){f:Fab}(F:qM c f)(t:List Evn){o:Opn}(ho:n.proc.cur=some o)(hd:n.deal.step=0):
  Both c me n t (n.work c me f t o) (r.work c me f t o):=by
 have hmem:o∈n.proc.ops:=zaK ho;have hlt:n.proc.values.length < n.proc.ops.length:=(zam.1 ho).1;have R:=I.proc.right o hmem;have O:=akl hc R.1
 -- it has begun
 let n1:Node:={ n with proc:={ n.proc with begun:=true } }
 let r1:dh:={ r with begun:=true }
 have S1:NS c me n1 r1:=NS.of S.cs S.hs S.sim.ops S.sim.values rfl S.sim.has S.sim.deal S.sim.num;have I1:Qw c me n1:=⟨⟨I.proc.most,I.proc.right,I.proc.vals,λ_=> hlt⟩,I.cache,I.rows,I.home,λh=> absurd hd h,I.clk⟩
 have ho1:n1.proc.cur=some o:=ho;have hb1:n1.proc.begun=true:=rfl;have hop:n1.proc.op=o:=by unfold Proc.op;rw [ho1];rfl
 have hidx:n1.proc.idx=n.proc.values.length:=by unfold Proc.idx;rw [ho1]
 obtain⟨t1,ht1⟩:∃t1,t1=if n.proc.begun then t else t++[⟨me,n.proc.values.length,false,0⟩]:=⟨_,rfl⟩
 have ht1':(if r.begun=true then t else t++[(⟨me,r.values.length,false,0⟩:Evn)])=t1:=by rw [ht1,S.sim.begun,S.sim.values]
 have hev:t1.length+n.evs=t.length+n1.evs:=by
  rw [ht1];unfold Node.evs;show _=t.length+(2*n.proc.values.length+(if true=true then 1 else 0))
  cases n.proc.begun
  ·simp only [zaf,if_false,zan,zai,zaq,if_true];omega
  ·simp only [if_true]
 have lift:∀{A:NFT} {B:aeA},Both c me n1 t1 A B->Both c me n t A B:=λ{A B} h=> ⟨h.sim,h.eq,h.inv,h.fab,by have:=h.evs;omega⟩
 have hfind:r.cache.find (o.addr.tdiv c.words)=n.cache.find (c.dn o.addr):=by rw [S.cs.find,O.line]
 have hfull:(n.cache.find (c.dn o.addr)=none/\0<=o.addr.tdiv c.words/\r.cache.ways<=((r.cache.lC (o.addr.tdiv c.words)).length:Int))↔n.cache.full (c.dn o.addr)=true:=by
  unfold Cache.full;rw [S.sim.ways,S.cs.count,<-O.line];simp only [zaj,decide_eq_true_eq,Option.isNone_iff_eq_none];exact⟨λh=> ⟨h.1,h.2.2⟩,λh=> ⟨h.1,O.lo,h.2⟩⟩
 unfold Node.work dh.work
 dsimp only
 rw [<-ht1,ht1',hfind];by_cases c1:o.kind=4/\n.cache.find (c.dn o.addr)=none
 ·rw [if_pos c1,if_pos c1];refine lift ?_;simp only [Node.done,dh.done,Proc.WU,if_true];have hidx':({ n with proc:={ n.proc with begun:=true } }:Node).proc.idx=n.proc.values.length:=hidx;simp only at hidx';rw [hidx',S.sim.values];refine⟨NS.of S.cs S.hs S.sim.ops rfl rfl S.sim.has S.sim.deal S.sim.num,rfl,⟨⟨I.proc.most,I.proc.right,by simp only [zan,zai,zaq];omega,λh=> by cases h⟩,I.cache,I.rows,I.home,λh=> absurd hd h,?_⟩,F,?_⟩
  ·have:=I.clk;simp only [zan,zai,zaq];omega
  ·simp only [Node.evs,n1,if_true,zan,zai,zaq,zaf,if_false];omega
 rw [if_neg c1,if_neg c1];by_cases c2:o.kind=4
 ·rw [if_pos c2,if_pos c2,<-O.line];exact lift (wU hc S1 I1 F t1 ⟨by decide,by decide⟩ O.lo O.hi hb1 λh=> absurd rfl h)
 rw [if_neg c2,if_neg c2];by_cases c3:(n.cache.find (c.dn o.addr)).isSome=true/\(o.kind=1∨((n.cache.find (c.dn o.addr)).getD .zero).dirty=true)
 ·rw [if_pos c3,if_pos c3];obtain⟨e,he⟩:=Option.isSome_iff_exists.1 c3.1;have Wj:o.kind=2∨o.kind=3->e.dirty=true:=λh=> by
   rcases c3.2 with h' | h'
   ·omega
   ·rw [he] at h';exact h'
  have E:=EG hc (n:={ n1 with cache:=n.cache.touch (c.dn o.addr) }) (r:={ r1 with cache:=r.cache.touch (c.dn o.addr) }) (me:=me) (S.cs.touch he) S.sim.values (I.cache.touch he) t1 ho1 R.1 R.2 hb1 (tu I.cache.lines he) (λh=> Wj h);have hev2:=E.evs hb1;have hn5:(({ n1 with cache:=n.cache.touch (c.dn o.addr) }:Node).effect c me t1).1.cache.clock=n.cache.clock+1:=by
   unfold Node.effect Node.done;have hop':({ n1 with cache:=n.cache.touch (c.dn o.addr) }:Node).proc.op=o:=hop;simp only [hop'];rw [tu I.cache.lines he];simp only [zas];have T:=I.cache.touch he;have hem:=(eX T.lines).1 (tu I.cache.lines he);rw [jR T.lines (x:={ e with used:=n.cache.clock+1 }) (by rw [(jG _ _ _).1];exact(T.ent _ hem.1).lo) ((congrArg (n.cache.touch (c.dn o.addr)).find (((jG _ _ _).1).trans hem.2)).trans (tu I.cache.lines he))];exact CO I.cache.lines he
  refine lift ?_;rw [<-O.line];have hn1:(({ n1 with cache:=n.cache.touch (c.dn o.addr) }:Node).effect c me t1).1.deal=n.deal:=by rw [E.GN]
  have hn2:(({ n1 with cache:=n.cache.touch (c.dn o.addr) }:Node).effect c me t1).1.home=n.home:=by rw [E.GN]
  have hn3:(({ n1 with cache:=n.cache.touch (c.dn o.addr) }:Node).effect c me t1).1.num=n.num:=by rw [E.GN]
  have hn4:(({ n1 with cache:=n.cache.touch (c.dn o.addr) }:Node).effect c me t1).1.proc=⟨n.proc.ops,n.proc.values++[(({ n1 with cache:=n.cache.touch (c.dn o.addr) }:Node).effect c me t1).2.getLast?.elim 0 (·.value)],false⟩:=by rw [E.GN]
  refine⟨NS.of E.sim (by rw [hn2,E.rest];exact S.hs) (by rw [hn4,E.rest];exact S.sim.ops) (by rw [hn4,E.rest]) (by rw [hn4,E.rest]) (by rw [hn1,E.rest];exact S.sim.has) (by rw [hn1,E.rest];exact S.sim.deal) (by rw [hn3,E.rest];exact S.sim.num),?_,⟨⟨by rw [hn4];exact I.proc.most,by rw [hn4];exact I.proc.right,by rw [hn4];simp only [zan,zai,zaq];omega,by rw [hn4];intro h;cases h⟩,E.inv,by rw [hn2];exact I.rows,by rw [hn2];exact I.home,λh=> absurd (by rw [hn1];exact hd) h,?_⟩,F,hev2⟩
  ·show(f,_)=(f,_)
   rw [E.ev]
  ·have:=I.clk;rw [hn5,hn4];simp only [zan,zai,zaq];omega
 rw [if_neg c3,if_neg c3];by_cases c4:n.cache.full (c.dn o.addr)=true
 ·rw [if_pos c4,if_pos (hfull.2 c4),S.cs.kY I.cache.TN,<-O.line];have hset:n.cache.lC (c.dn o.addr)≠[]:=by
   intro e;unfold Cache.full at c4;simp only [e,zaq,zaj,decide_eq_true_eq] at c4;have:=(Jb hc).2.2.2.2.1;rw [I.cache.ways] at c4;omega
  obtain⟨e,he⟩:∃e,kH (n.cache.lC (c.dn o.addr))=some e:=by
   cases h:n.cache.lC (c.dn o.addr) with
   | nil=> exact absurd h hset
   | cons a l=> exact⟨_,rfl⟩
  have hv:n.cache.kY (c.dn o.addr)=some e.line:=by unfold Cache.kY;rw [he];rfl
  have hem:e∈n.cache.l:=by
   have:=(rM he).1;unfold Cache.lC at this;exact(zbe.1 this).1
  have E:=I.cache.ent e hem;rw [hv];simp only [zas];exact lift (wU hc S1 I1 F t1 ⟨by decide,by decide⟩ E.lo E.hi hb1 λh=> absurd rfl h)
 rw [if_neg c4,if_neg λh=> c4 (hfull.1 h)];have c4':n.cache.full (c.dn o.addr)=false:=by simpa using c4
 by_cases c5:o.kind=1
 ·rw [if_pos c5,if_pos c5,<-O.line];exact lift (wU hc S1 I1 F t1 ⟨by decide,by decide⟩ O.lo O.hi hb1 λ_=> ⟨⟨o,ho1,rfl,λ_=> c5,λh=> by omega⟩,c4'⟩)
 ·rw [if_neg c5,if_neg c5,<-O.line];have k1:=O.k1;have k4:=O.k4;exact lift (wU hc S1 I1 F t1 ⟨by decide,by decide⟩ O.lo O.hi hb1 λ_=> ⟨⟨o,ho1,rfl,λh=> by omega,λ_=> by omega⟩,c4'⟩)
theorem Wp {c:Cfg}(hc:c.ok=true){me:Int}{n:Node}{r:dh}(S:NS c me n r)(I:Qw c me n){f:Fab}(F:qM c f)(t:List Evn){p:Pkt}(Q:tK c p):
  Both c me n t ((n.asked c me f p).1,(n.asked c me f p).2,t) ((r.asked c me f p).1,(r.asked c me f p).2,t):=by
 unfold Node.asked dh.asked;by_cases hk:p.kind=1∨p.kind=2
 ·rw [if_pos hk,if_pos hk];obtain⟨h1,h2,h3⟩:=S.hs.handle hc I.home p;have hr:=MW (c:=c) (me:=me) I.rows Q.num;have hok:=Wh hc S.hs I.rows p;cases hA:n.home.handle c me p with
  | mk h x=>
   cases hB:r.homes.handle c me p with
   | mk rh rx=>
    rw [hA,hB] at h1 h2;rw [hA] at h3 hr hok;simp only at h1 h2 h3 hr hok;subst h2;obtain⟨out,ok,e⟩:=rx;simp only at hok ⊢;refine⟨NS.of S.cs h1 S.sim.ops S.sim.values S.sim.begun S.sim.has S.sim.deal S.sim.num,rfl,⟨I.proc,I.cache,hr,h3,λhs=> ?_,I.clk⟩,?_,rfl⟩
    ·have D:=I.deal hs;exact⟨D.lo,D.hi,D.kind,D.dat,D.abV,D.roll,λa b=> by have W:=D.work a b;exact⟨W.begun,W.op,W.full⟩,D.rest⟩
    ·simp only;split
     ·exact F.send hok
     ·exact F
 ·rw [if_neg hk,if_neg hk];obtain⟨h1,h2⟩:=TM S.cs p;obtain⟨i1,i2,i3,i4⟩:=Wi I.cache p;cases hA:dK n.cache p with
  | mk ca x=>
   cases hB:Bv r.cache p with
   | mk rc rx=>
    rw [hA,hB] at h1 h2;rw [hA] at i1 i2 i3 i4;simp only at h1 h2 i1 i2 i3 i4;subst h2;obtain⟨out,e⟩:=rx;simp only at i2 ⊢;refine⟨NS.of h1 S.hs S.sim.ops S.sim.values S.sim.begun S.sim.has S.sim.deal S.sim.num,rfl,⟨I.proc,i1,I.rows,I.home,λhs=> ?_,by simp only;rw [i3];exact I.clk⟩,?_,rfl⟩
    ·have D:=I.deal hs;exact⟨D.lo,D.hi,D.kind,D.dat,D.abV,D.roll,λa b=> by have W:=D.work a b;exact⟨W.begun,W.op,i4 _ hc W.full⟩,D.rest⟩
    ·simp only;split
     ·exact F.send i2
     ·exact F
theorem JX(f:Fab)(i:Int)(req:Bool):(f.take i req).2=none↔f.waiting i req=0:=by
 unfold Fab.take Fab.waiting;split
 ·cases(f.port i).qO req <;> simp
 ·simp
theorem JY {f:Fab}{i:Int}{req:Bool}(h:(f.take i req).2=none):(f.take i req).1=f:=by
 unfold Fab.take at h ⊢;split
 ·rename_i hi;rw [if_pos hi] at h;cases hl:(f.port i).qO req with
  | nil=> rfl
  | cons p l=> rw [hl] at h;cases h
 ·rfl
theorem YQ {c:Cfg}(hc:c.ok=true){me:Int}{n:Node}{r:dh}(S:NS c me n r)(I:Qw c me n){f:Fab}(F:qM c f)(t:List Evn):
  Both c me n t (n.step c me f t).1 (r.step c me f t).1/\(r.step c me f t).2=(n.step c me f t).2:=by
 unfold Node.step dh.step;obtain⟨t1,t2⟩:=F.take me false;cases h1:f.take me false with
 | mk f' x=>
  rw [h1] at t1 t2;cases x with
  | some p=> exact⟨JW hc S I t1 t (t2 p rfl),rfl⟩
  | none=>
   simp only;have hroom:=F.room me false;have ahS:=S.hs.ready I.home;rw [ahS];by_cases hg:n.home.ready≠[]/\f.roomOf me false≠0
   ·rw [if_pos hg,if_pos (show 0 < f.roomOf me false/\n.home.ready≠[] from⟨by omega,hg.1⟩)];obtain⟨g1,g2,g3⟩:=S.hs.grant I.home;refine⟨⟨NS.of S.cs g1 S.sim.ops S.sim.values S.sim.begun S.sim.has S.sim.deal S.sim.num,by simp only [g2],⟨I.proc,I.cache,?_,g3,λhs=> ?_,I.clk⟩,F.send ?_,rfl⟩,rfl⟩
    ·have:(n.home.grant me).1.rows=n.home.rows:=by
      unfold Home.grant;cases n.home.ready with
      | nil=> rfl
      | cons line l=>
       simp only;cases n.home.turns.next line with
       | mk tt w=> cases w <;> rfl
     simp only;rw [this];exact I.rows
    ·have D:=I.deal hs;exact⟨D.lo,D.hi,D.kind,D.dat,D.abV,D.roll,λa b=> by have W:=D.work a b;exact⟨W.begun,W.op,W.full⟩,D.rest⟩
    ·unfold Home.grant;cases hr:n.home.ready with
     | nil=> exact absurd hr hg.1
     | cons line l=>
      have hm:=(BH hr).2.2;have hh:kJ c me line=true:=by
       obtain⟨e,he,rfl⟩:=zaL.1 hm;exact I.home.here e he
      simp only;cases n.home.turns.next line with
      | mk tt w=>
       cases w with
       | none=> exact tq rfl (by simp [Pkt.zero])
       | some w=> exact EH S.hs I.rows hh _ _
   ·rw [if_neg hg,if_neg (show¬(0 < f.roomOf me false/\n.home.ready≠[]) by rintro⟨a,b⟩;exact hg ⟨b,by omega⟩)];have hw:=JX f me true;obtain⟨u1,u2⟩:=F.take me true;by_cases hr:f.roomOf me false=0∨f.waiting me true=0
    ·have e1:(if f.roomOf me false=0 then(f,none) else f.take me true).2=(none:Option Pkt):=by
      split
      ·rfl
      ·rcases hr with hr | hr
       ·rename_i h;exact absurd hr h
       ·exact hw.2 hr
     rw [if_neg (show¬(0 < f.roomOf me false/\0 < f.waiting me true) by rintro⟨a,b⟩;rcases hr with hr | hr <;> omega)];cases hx:(if f.roomOf me false=0 then(f,none) else f.take me true:Fab × Option Pkt) with
     | mk f2 y=>
      rw [hx] at e1;simp only at e1;subst e1;simp only;have hcur:r.ops[r.values.length]?=n.proc.cur:=by rw [S.sim.ops,S.sim.values];rfl
      rw [hcur];cases hcu:n.proc.cur with
      | none=> exact⟨⟨S,rfl,I,F,rfl⟩,rfl⟩
      | some o=>
       simp only;by_cases hd:n.deal.step=0
       ·have hh:r.has=false:=by rw [S.sim.has];simp [hd]
        rw [if_pos hd,if_pos hh];exact⟨YP hc S I F t hcu hd,rfl⟩
       ·have hh:¬r.has=false:=by rw [S.sim.has];simp [hd]
        rw [if_neg hd,if_neg hh];exact⟨⟨S,rfl,I,F,rfl⟩,rfl⟩
    ·simp only [not_or] at hr;rw [if_neg hr.1,if_pos (show 0 < f.roomOf me false/\0 < f.waiting me true from⟨by omega,by omega⟩)];cases hx:f.take me true with
     | mk f2 y=>
      rw [hx] at hw u1 u2;simp only at hw u1 u2;cases y with
      | none=> exact absurd (hw.1 rfl) hr.2
      | some p=>
       simp only [zas];exact⟨Wp hc S I u1 t (u2 p rfl),by first | trivial | rfl⟩
structure MInv(m:gQ):Prop where
 ok:m.c.ok=true
 len:(m.nodes.length:Int)=m.c.nodes
 fab:qM m.c m.fab
 node:∀(i:Nat) n,m.nodes[i]?=some n->Qw m.c i n
 evs:m.trace.length=(m.nodes.map Node.evs).sum
structure WY(m:gQ)(r:iK):Prop where
 c:r.c=m.c
 len:r.nodes.length=m.nodes.length
 fab:r.fab=m.fab.l
 ev:r.ev=m.trace
 node:∀(i:Nat) n rn,m.nodes[i]?=some n->r.nodes[i]?=some rn->NS m.c i n rn
theorem WY.sim {m:gQ}{r:iK}(S:WY m r):Sim m r:=⟨S.c,S.len,S.fab,S.ev,λi n rn h1 h2=> (S.node i n rn h1 h2).sim⟩
theorem WY.ZT {m:gQ}{r:iK}(S:WY m r)(I:MInv m):r.ZT=m.fab:=by
 unfold iK.ZT;rw [S.c,S.fab,<-I.fab.out,<-I.fab.inn]
theorem Wq {α:Type}(f:α->Nat):∀{l:List α} {i:Nat} {a a':α},l[i]?=some a->((l.set i a').map f).sum+f a=(l.map f).sum+f a'
 | [],i,a,a',h=> by simp at h
 | x::l,0,a,a',h=> by
  simp only [zaU,zaa] at h;subst h;simp only [zb1,zaz,List.sum_cons];omega
 | x::l,i+1,a,a',h=> by
  simp only [zbt] at h;have:=Wq f (a':=a') h;simp only [List.set_cons_succ,zaz,List.sum_cons];omega
theorem Ws {m:gQ}{r:iK}(S:WY m r)(I:MInv m)(i:Int):WY (m.step i).1 (r.step i).1/\MInv (m.step i).1/\(r.step i).2=(m.step i).2:=by
 unfold gQ.step iK.step gQ.node;by_cases h0:0<=i
 ·rw [if_pos h0,if_pos h0];cases hn:m.nodes[i.toNat]? with
  | none=>
   have:r.nodes[i.toNat]?=none:=by
    rw [List.getElem?_eq_none_iff] at hn ⊢;rw [S.len];exact hn
   rw [this];exact⟨S,I,rfl⟩
  | some n=>
   have hi:=(zam.1 hn).1;obtain⟨rn,hr⟩:∃rn,r.nodes[i.toNat]?=some rn:=⟨_,zad (by rw [S.len];exact hi)⟩
   rw [hr];have hii:((i.toNat:Nat):Int)=i:=by omega
   have N:=S.node i.toNat n rn hn hr;have NI:=I.node i.toNat n hn;rw [hii] at N NI;obtain⟨b1,b2⟩:=YQ I.ok N NI I.fab m.trace;have hf:=S.ZT I;simp only [S.c,hf,S.ev];cases hA:n.step m.c i m.fab m.trace with
   | mk A k=>
    cases hB:rn.step m.c i m.fab m.trace with
    | mk B rk=>
     rw [hA,hB] at b1 b2;simp only at b1 b2;subst b2;obtain⟨n',f',t'⟩:=A;obtain⟨rn',rf',rt'⟩:=B;have he:=b1.eq;simp only [zac] at he;obtain⟨rfl,rfl⟩:=he;refine⟨⟨rfl,by simp only [zb3];exact S.len,rfl,rfl,λj a b ha hb=> ?_⟩,⟨I.ok,by simp only [zb3];exact I.len,b1.fab,λj a ha=> ?_,?_⟩,rfl⟩
     ·simp only at ha hb ⊢;by_cases hj:j=i.toNat
      ·subst hj;rw [zbm hi] at ha;rw [zbm (by rw [S.len];exact hi)] at hb;cases ha;cases hb;rw [hii];exact b1.sim
      ·rw [zbH (λe=> hj e.symm)] at ha hb;exact S.node j a b ha hb
     ·simp only at ha ⊢;by_cases hj:j=i.toNat
      ·subst hj;rw [zbm hi] at ha;cases ha;rw [hii];exact b1.inv
      ·rw [zbH (λe=> hj e.symm)] at ha;exact I.node j a ha
     ·have e1:=Wq Node.evs (a':=n') hn;have e2:=b1.evs;have e3:=I.evs;simp only at e2 ⊢;omega
 ·rw [if_neg h0,if_neg h0];exact⟨S,I,rfl⟩
theorem JZ {m:gQ}{r:iK}(S:WY m r)(I:MInv m)(a b k:Int):WY (m.deliver a b k).1 (r.deliver a b k).1/\MInv (m.deliver a b k).1/\(r.deliver a b k).2=(m.deliver a b k).2:=by
 unfold gQ.deliver iK.deliver;rw [S.ZT I];exact⟨⟨S.c,S.len,rfl,S.ev,S.node⟩,⟨I.ok,I.len,I.fab.deliver a b k,I.node,I.evs⟩,rfl⟩
section
variable {b:Nat}{H:aj}{g:Store}{q:Nat}{ca:Cache}
theorem Wu(G:Good b H g)(hb:H.base<=b)(h:g q=some (aV ca))(C:COk ca)(p:Pkt):
  ∃H',cl 165 [.ref q 0 0,.agg p.av] H=some (Rl (dK ca p),H')/\Good b H' (upd g q (aV (dK ca p).1))/\Step b H H':=by
 by_cases hx:(!p.ok || decide (p.kind < 3) || decide (6 < p.kind))=true
 ·exact JR G hb h C p (.inl hx)
 ·cases hf:ca.find p.line with
  | none=> exact JR G hb h C p (.inr hf)
  | some e=> exact YK G hb h C p hx hf
end
theorem fok {c:Cfg}(hc:c.ok=true){f:Fab}(F:qM c f):FOk c f:=by
 have B:=Gt hc;refine⟨hc,by have:=F.len;have:=B.nodes;omega,λp hp s hs=> ?_,λp hp s hs q hq=> ?_⟩
 ·have P:=F.port p hp
  match s,hs with
  | 0,_=> exact P.rq
  | 1,_=> exact P.rin
  | 2,_=> exact P.an
  | 3,_=> exact P.ain
 ·have P:=F.port p hp;have Q:tK c q:=by
   match s,hs with
   | 0,_=> exact P.pkt q (.inl hq)
   | 1,_=> exact P.pkt q (.inr (.inr (.inl hq)))
   | 2,_=> exact P.pkt q (.inr (.inl hq))
   | 3,_=> exact P.pkt q (.inr (.inr (.inr hq)))
  have:=Q.ok;simp only [Pkt.ok,zaj,decide_eq_true_eq] at this;omega
theorem J3 {c:Cfg}{p:Pkt}(Q:tK c p):p.data.length < 1000000000:=by
 have:=Q.ok;simp only [Pkt.ok,zaj,decide_eq_true_eq] at this;omega
structure HSz(h:Home):Prop where
 t:TOk h.turns
 r:∀e∈h.rows,e.2.data.length < 1000000000
theorem J4 {h:Home}(hr:∀e∈h.rows,e.2.data.length < 1000000000)(line:Int):(rowOf h.rows line).data.length < 1000000000:=by
 unfold rowOf;cases ha:gU h.rows line with
 | none=> exact(show(0:Nat) < 1000000000 by decide)
 | some r=> exact hr _ (nD ha)
def jT(c:Cfg)(me:Int)(n:Node)(p:Pkt):Node × Pkt × Bool:=
 if p.kind=1∨p.kind=2 then({ n with home:=(n.home.handle c me p).1 },(n.home.handle c me p).2.1,(n.home.handle c me p).2.2.1 && decide ((n.home.handle c me p).2.2.2=0))
 else({ n with cache:=(dK n.cache p).1 },(dK n.cache p).2.1,decide ((dK n.cache p).2.2=0))
theorem YR(c:Cfg)(me:Int)(n:Node)(f:Fab)(p:Pkt):n.asked c me f p=((jT c me n p).1,if(jT c me n p).2.2=true then(f.send (jT c me n p).2.1).1 else f):=by
 unfold Node.asked jT;split
 ·rcases h:n.home.handle c me p with⟨h1,o,ok,e⟩
  simp
 ·rcases h:dK n.cache p with⟨h1,o,e⟩
  simp
theorem J5 {c:Cfg}{me:Int}{n:Node}(C:COk n.cache)(Z:HSz n.home)(p:Pkt):(jT c me n p).2.1.data.length < 1000000000:=by
 have z0:(0:Nat) < 1000000000:=by decide
 unfold jT;split
 ·simp only [Home.handle]
  repeat' split
  all_goals first | exact z0 | exact J4 Z.r _
 ·simp only [dK];split
  ·exact z0
  ·cases hf:n.cache.find p.line with
   | none=> exact z0
   | some e=>
    have he:=C.dat e (zaX hf);simp only
    repeat' split
    all_goals first | exact z0 | exact he
section
variable {b:Nat}{H:aj}{g0:Store}{S:zZ}{c:Cfg}{me:Int}{k:Nat}{K K':aj}{g:Store}{ls:Lcl}{w w':NFT}
theorem Wv(W:Walk b H g0 S c me k K g ls w)(hc:c.ok=true)(C:COk w.1.cache)(Z:HSz w.1.home)(p:Pkt)(hpl:p.data.length < 1000000000):
  ∃K' g',cl 111 [.ref (S.a 0) 0 0,.agg p.av] K=some (.tup [.agg (jT c me w.1 p).2.1.av,B (jT c me w.1 p).2.2],K')/\Walk b H g0 S c me k K' g' ls ((jT c me w.1 p).1,w.2):=by
 have W0:=Walk.of W.loc.good W.base W.JU;have W1:=W0.newL (ty:=70) (xs:=p.av) (r:=K.next) (aG p) rfl;have W2:=W1.newL (ty:=70) (xs:=zP9) (r:=K.next+1) rfl (by rw [nNew]);have W3:=W2.newL (ty:=70) (xs:=zP9) (r:=K.next+1+1) rfl (by rw [nNew,nNew]);have k2:eu (eu noL K.next p.av) (K.next+1) zP9 K.next=some p.av:=by rw [au (by omega),ak]
 have k3:eu (eu (eu noL K.next p.av) (K.next+1) zP9) (K.next+1+1) zP9 K.next=some p.av:=by rw [au (by omega)];exact k2
 have k4:eu (eu (eu noL K.next p.av) (K.next+1) zP9) (K.next+1+1) zP9 (K.next+1)=some zP9:=by rw [au (by omega),ak]
 have k5:eu (eu (eu noL K.next p.av) (K.next+1) zP9) (K.next+1+1) zP9 (K.next+1+1)=some zP9:=ak;have lk:=W2.loc.ld k2 (i:=0) (v:=I p.kind) rfl;have lp:=W3.loc.lda k3 (i:=0) (n:=9) (ys:=p.av) rfl rfl (by decide);have lh:=W3.ldN (i:=11) (v:=.ref (S.a 3) 0 0) rfl;have lc:=W3.ldN (i:=0) (v:=.ref (S.a 1) 0 0) rfl
 -- the end
 have fin:∀{K4:aj} {g4:Store} {n':Node} {out:Pkt} {v:AV},Walk b K (lay g ls) S c me w.2.1.l.length K4 g4 (eu (eu (eu noL K.next p.av) (K.next+1) zP9) (K.next+1+1) zP9) (n',w.2)->
   (∀f args,cl f args (((K.new (.blk 0 70 p.av)).new (.blk 0 70 zP9)).new (.blk 0 70 zP9))=some (v,K4)->
   (∀{β:Type} (kk:Option β),ckR (K.next+1+1) (K.next+1+1+1) (((K.new (.blk 0 70 p.av)).new (.blk 0 70 zP9)).new (.blk 0 70 zP9)) K4 kk=kk)/\
   ∃K5 K6 g',st 9 (.ref (K.next+1+1) 0 0) (.agg out.av) K4=some (aK,K5)/\lda 9 (.ref (K.next+1+1) 0 0) K5=some (.agg out.av,K5)/\st 9 (.ref (K.next+1) 0 0) (.agg out.av) K5=some (aK,K6)/\lda 9 (.ref (K.next+1) 0 0) K6=some (.agg out.av,K6)/\Walk b H g0 S c me k K6 g' ls (n',w.2)):=by
  intro K4 g4 n' out v W4 f args hcl;refine⟨λkk=> ahN λr h1 h2=> ?_,?_⟩
  ·obtain rfl:r=K.next+1+1:=by omega
   exact PK W3.loc.good W4.loc.good (PE _ _ _ _ _ hcl) (lN k5) (lN k5)
  ·obtain⟨K5,u1,u2,W5⟩:=W4.whole k5 (n:=9) (vs:=out.av) rfl (aT _) (by decide) (aG _);obtain⟨K6,u3,u4,W6⟩:=W5.whole (r:=K.next+1) (xs:=zP9) (by rw [au (by omega)];exact k4) (n:=9) (vs:=out.av) rfl (aT _) (by decide) (aG _);obtain⟨g',W'⟩:=W.app (K':=K6) (w':=(n',w.2)) (by
    have:=W6.res;rw [W.len] at this;exact this)
   exact⟨K5,K6,g',u1,u2,u3,u4,W'⟩
 by_cases hk:p.kind=1∨p.kind=2
 ·have hm:jT c me w.1 p=({ w.1 with home:=(w.1.home.handle c me p).1 },(w.1.home.handle c me p).2.1,(w.1.home.handle c me p).2.2.1 && decide ((w.1.home.handle c me p).2.2.2=0)):=by unfold jT;rw [if_pos hk]
  rw [hm];have HI:=W3.JU.node.2.2.2;obtain⟨K4,a1,a2,a3⟩:=VO W3.loc.good W3.base HI hc Z.t.nd Z.t.ws Z.r p hpl;have W4:=W3.home a2 a3;obtain⟨ck,K5,K6,g',u1,u2,u3,u4,W'⟩:=fin W4 _ _ a1 (out:=(w.1.home.handle c me p).2.1);refine⟨K6,g',aN rfl rfl (aac _ _ _ _ ?_),W'⟩;simp only [PI] at a1;obtain⟨ok,hok⟩:∃ok,(w.1.home.handle c me p).2.2.1=ok:=⟨_,rfl⟩
  rw [hok] at a1 ⊢;have cR:∀{β:Type} (kk:Option β),ckR ((K.new (.blk 0 70 p.av)).new (.blk 0 70 zP9)).next (((K.new (.blk 0 70 p.av)).new (.blk 0 70 zP9)).new (.blk 0 70 zP9)).next (((K.new (.blk 0 70 p.av)).new (.blk 0 70 zP9)).new (.blk 0 70 zP9)) K4 kk=kk:=by
   intro β kk;simp only [nNew];exact ck kk
  rcases hk with h1 | h1
  ·rw [h1] at lk;cases ok with
   | true=> simp -implicitDefEqProofs only [Nat.reduceLT,xq_,Ee,aB (aG p),lk,lh,lp,a1,ck,u1,u2,u3,u4,zba]
   | false=> simp -implicitDefEqProofs only [Nat.reduceLT,xq_,Ee,aB (aG p),lk,lh,lp,a1,ck,u1,u2,u3,u4,zbr]
  ·rw [h1] at lk;cases ok with
   | true=> simp -implicitDefEqProofs only [Nat.reduceLT,Int.reduceEq,xq_,Ee,aB (aG p),lk,lh,lp,a1,ck,u1,u2,u3,u4,zba]
   | false=> simp -implicitDefEqProofs only [Nat.reduceLT,Int.reduceEq,xq_,Ee,aB (aG p),lk,lh,lp,a1,ck,u1,u2,u3,u4,zbr]
 ·have hm:jT c me w.1 p=({ w.1 with cache:=(dK w.1.cache p).1 },(dK w.1.cache p).2.1,decide ((dK w.1.cache p).2.2=0)):=by unfold jT;rw [if_neg hk]
  rw [hm];obtain⟨K4,a1,a2,a3⟩:=Wu W3.loc.good W3.base (W3.loc.obj W3.nw.node.2.1) C p;have W4:=W3.cache a2 a3;obtain⟨ck,K5,K6,g',u1,u2,u3,u4,W'⟩:=fin W4 _ _ a1 (out:=(dK w.1.cache p).2.1);refine⟨K6,g',aN rfl rfl (aac _ _ _ _ ?_),W'⟩;have h1:¬p.kind=1:=λh=> hk (.inl h);have h2:¬p.kind=2:=λh=> hk (.inr h);simp only [Rl] at a1;simp -implicitDefEqProofs only [Nat.reduceLT,xq_,Ee,aB (aG p),lk,h1,h2,lc,lp,a1,ck,u1,u2,u3,u4]
end
section
variable {b:Nat}{H:aj}{g0:Store}{S:zZ}{c:Cfg}{me:Int}{k:Nat}{K K':aj}{g:Store}{ls:Lcl}{w w':NFT}
theorem take_len(f:Fab)(i:Int)(req:Bool):(f.take i req).1.l.length=f.l.length:=by
 unfold Fab.take;split
 ·split
  ·rfl
  ·simp [Fab.put]
 ·rfl
theorem Walk.yh(W:Walk b H g0 S c me k K g ls w)(F:FOk c w.2.1):∃K' g',cl 110 [.ref S.f 0 0,I me] K=some (dZ (w.2.1.take me true).2,K')/\Walk b H g0 S c me k K' g' ls (w.1,(w.2.1.take me true).1,w.2.2):=by
 obtain⟨K',g1,h1,h2,h3,h4,h5⟩:=Proofs.YthmoogcacpmjiaaGreat.yh W.loc.good W.base W.JU.fab W.nw.Pj F me;obtain⟨g',W'⟩:=W.net h2 h3 (take_len _ _ _) h4 h5;exact⟨K',g',h1,W'⟩
theorem Walk.GI(W:Walk b H g0 S c me k K g ls w)(F:FOk c w.2.1):∃K' g',cl 100 [.ref S.f 0 0,I me] K=some (dZ (w.2.1.take me false).2,K')/\Walk b H g0 S c me k K' g' ls (w.1,(w.2.1.take me false).1,w.2.2):=by
 obtain⟨K',g1,h1,h2,h3,h4,h5⟩:=Proofs.YthmoogcacpmjiaaGreat.GI W.loc.good W.base W.JU.fab W.nw.Pj F me;obtain⟨g',W'⟩:=W.net h2 h3 (take_len _ _ _) h4 h5;exact⟨K',g',h1,W'⟩
theorem Walk.room(W:Walk b H g0 S c me k K g ls w)(F:FOk c w.2.1)(req:Bool):∃K',cl 107 [.ref S.f 0 0,I me,B req] K=some (I (w.2.1.roomOf me req),K')/\Walk b H g0 S c me k K' g ls w:=by
 obtain⟨K',h1,h2,h3⟩:=acU W.loc.good W.base W.JU.fab F me req;exact⟨K',h1,W.same h2 h3⟩
theorem MZ(W:Walk b H g0 S c me k K g ls w)(hc:c.ok=true)(F:qM c w.2.1)(C:COk w.1.cache)(Z:HSz w.1.home):
  ∃K' g',match(if w.2.1.roomOf me false=0 then(w.2.1,none) else w.2.1.take me true) with
   | (f',some p)=> cl 69 [.ref (S.a 0) 0 0,.ref S.f 0 0] K=some (B true,K')/\Walk b H g0 S c me k K' g' ls ((w.1.asked c me f' p).1,(w.1.asked c me f' p).2,w.2.2)
   | (_,none)=> cl 69 [.ref (S.a 0) 0 0,.ref S.f 0 0] K=some (B false,K')/\Walk b H g0 S c me k K' g' ls w:=by
 have W0:=Walk.of W.loc.good W.base W.JU;have li:=W0.ldN (i:=10) (v:=I me) rfl;obtain⟨K1,a1,W1⟩:=W0.room (fok hc F) false;by_cases hr:w.2.1.roomOf me false=0
 ·simp only [if_pos hr];rw [hr] at a1;obtain⟨g',W'⟩:=W.app (K':=K1) (w':=w) (by
   have:=W1.res;rw [W.len] at this;exact this)
  refine⟨K1,g',aN rfl rfl (X8 _ _ _ _ ?_),W'⟩;simp -implicitDefEqProofs only [xq_,Uj,li,a1]
 ·simp only [if_neg hr];have li1:=W1.ldN (i:=10) (v:=I me) rfl;obtain⟨K2,g2,b1,W2⟩:=W1.yh (fok hc F);obtain⟨F2,Q2⟩:=F.take me true;have W3:=W2.newL (ty:=70) (xs:=zP9) (r:=K2.next) rfl rfl;cases ht:w.2.1.take me true with
  | mk f' po=>
   rw [ht] at b1 W2 W3 F2 Q2;simp only at b1 W2 W3 F2 Q2;obtain⟨K4,u1,u2,W4⟩:=W3.whole ak (n:=9) (vs:=(po.getD .zero).av) rfl (aT _) (by decide) (aG _);simp only [dZ] at b1;cases po with
   | none=>
    simp only [zaR,zaC] at b1 u1 u2;have hf':f'=w.2.1:=by
     have:=JY (f:=w.2.1) (i:=me) (req:=true) (by rw [ht]);rw [ht] at this;exact this
    subst hf';obtain⟨g',W'⟩:=W.app (K':=K4) (w':=w) (by
     have:=W4.res;rw [W.len] at this;exact this)
    refine⟨K4,g',aN rfl rfl (X8 _ _ _ _ ?_),W'⟩;simp -implicitDefEqProofs only [xq_,Uj,li,a1,hr,li1,b1,u1,zak]
   | some p=>
    simp only [zas,zaE] at b1 u1 u2;have Q:=Q2 p rfl;obtain⟨K5,g5,c1,W5⟩:=Wv W4 hc C Z p (J3 Q);have W6:=W5.newL (ty:=70) (xs:=zP9) (r:=K5.next) rfl rfl;obtain⟨K7,u3,u4,W7⟩:=W6.whole ak (n:=9) (vs:=(jT c me w.1 p).2.1.av) rfl (aT _) (by decide) (aG _);simp only [YR];cases hok:(jT c me w.1 p).2.2 with
    | false=>
     rw [hok] at c1;obtain⟨g',W'⟩:=W.app (K':=K7) (w':=((jT c me w.1 p).1,f',w.2.2)) (by
      have:=W7.res;rw [W.len] at this;exact this)
     refine⟨K7,g',aN rfl rfl (X8 _ _ _ _ ?_),by simpa using W'⟩;simp -implicitDefEqProofs only [xq_,Uj,FX,li,a1,hr,li1,b1,u1,u2,zae,c1,u3]
    | true=>
     rw [hok] at c1;obtain⟨K8,g8,d1,W8⟩:=W7.send (fok hc F2) (jT c me w.1 p).2.1 (J5 C Z p);obtain⟨g',W'⟩:=W.app (K':=K8) (w':=((jT c me w.1 p).1,(f'.send (jT c me w.1 p).2.1).1,w.2.2)) (by
      have:=W8.res;rw [W.len] at this;exact this)
     refine⟨K8,g',aN rfl rfl (X8 _ _ _ _ ?_),by simpa using W'⟩;simp -implicitDefEqProofs only [xq_,Uj,FX,li,a1,hr,li1,b1,u1,u2,zae,c1,u3,u4,d1]
theorem Wx(W:Walk b H g0 S c me k K g ls w)(hc:c.ok=true)(F:qM c w.2.1)(Z:HSz w.1.home):
  ∃K' g',if w.1.home.ready≠[]/\w.2.1.roomOf me false≠0 then
    cl 68 [.ref (S.a 0) 0 0,.ref S.f 0 0] K=some (B true,K')/\Walk b H g0 S c me k K' g' ls ({ w.1 with home:=(w.1.home.grant me).1 },(w.2.1.send (w.1.home.grant me).2.1).1,w.2.2)
   else cl 68 [.ref (S.a 0) 0 0,.ref S.f 0 0] K=some (B false,K')/\Walk b H g0 S c me k K' g' ls w:=by
 have W0:=Walk.of W.loc.good W.base W.JU;have lh:=W0.ldN (i:=11) (v:=.ref (S.a 3) 0 0) rfl;have li:=W0.ldN (i:=10) (v:=I me) rfl;have e1:=QT W0.loc.good W0.JU.node.2.2.2 Z.t;by_cases h1:w.1.home.ready=[]
 ·simp only [if_neg (show¬(w.1.home.ready≠[]/\w.2.1.roomOf me false≠0) from λh=> h.1 h1)];have hd:decide (w.1.home.ready≠[])=false:=by rw [decide_eq_false];exact λh=> h h1
  rw [hd] at e1;refine⟨K,g,aN rfl rfl (acf _ _ _ _ ?_),W⟩;simp -implicitDefEqProofs only [xq_,X7,lh,e1,zak]
 ·have hd:decide (w.1.home.ready≠[])=true:=decide_eq_true h1;rw [hd] at e1;obtain⟨K1,a1,W1⟩:=W0.room (fok hc F) false;by_cases hr:w.2.1.roomOf me false=0
  ·simp only [if_neg (show¬(w.1.home.ready≠[]/\w.2.1.roomOf me false≠0) from λh=> h.2 hr)];rw [hr] at a1;obtain⟨g',W'⟩:=W.app (K':=K1) (w':=w) (by
    have:=W1.res;rw [W.len] at this;exact this)
   refine⟨K1,g',aN rfl rfl (acf _ _ _ _ ?_),W'⟩;simp -implicitDefEqProofs only [xq_,X7,lh,e1,zae,li,a1]
  ·simp only [if_pos (show w.1.home.ready≠[]/\w.2.1.roomOf me false≠0 from⟨h1,hr⟩)];have lh1:=W1.ldN (i:=11) (v:=.ref (S.a 3) 0 0) rfl;obtain⟨K2,b1,b2,b3⟩:=YL W1.loc.good W1.base W1.JU.node.2.2.2 Z.t Z.r;have W2:=W1.home b2 b3;have W3:=W2.newL (ty:=70) (xs:=zP9) (r:=K2.next) rfl rfl;obtain⟨K4,u1,u2,W4⟩:=W3.whole ak (n:=9) (vs:=(w.1.home.grant me).2.1.av) rfl (aT _) (by decide) (aG _);have hsm:(w.1.home.grant me).2.1.data.length < 1000000000:=by
    have z0:(0:Nat) < 1000000000:=by decide
    unfold Home.grant
    repeat' split
    all_goals first | exact z0 | exact J4 Z.r _
   obtain⟨K5,g5,d1,W5⟩:=W4.send (fok hc F) (w.1.home.grant me).2.1 hsm;obtain⟨g',W'⟩:=W.app (K':=K5) (w':=({ w.1 with home:=(w.1.home.grant me).1 },(w.2.1.send (w.1.home.grant me).2.1).1,w.2.2)) (by
    have:=W5.res;rw [W.len] at this;exact this)
   refine⟨K5,g',aN rfl rfl (acf _ _ _ _ ?_),W'⟩;simp -implicitDefEqProofs only [xq_,X7,lh,e1,zae,li,a1,hr,lh1,b1,u1,u2,d1]
theorem Walk.Wy(W:Walk b H g0 S c me k K g ls w)(d:bf):∃K' g',st 9 (.ref (S.a 0) 0 12) (.agg d.av) K=some (aK,K')/\Walk b H g0 S c me k K' g' ls ({ w.1 with deal:=d },w.2):=by
 obtain⟨K',h1,h2,h3,_⟩:=W.loc.good.stores W.base (W.loc.obj W.nw.node.1) (i:=12) (n:=9) (vs:=d.av) (by rw [dX];decide) rfl (aO d);have e:jQ (uS S.a c me w.1.deal w.1.num) 12 d.av=uS S.a c me d w.1.num:=rfl;rw [e] at h2;exact⟨K',_,h1,W.own h2 h3⟩
theorem Walk.ahT(W:Walk b H g0 S c me k K g ls w)(z:Int):∃K' g',st 1 (.ref (S.a 0) 0 21) (I z) K=some (aK,K')/\Walk b H g0 S c me k K' g' ls ({ w.1 with num:=z },w.2):=by
 obtain⟨K',h1,h2,h3,_⟩:=W.loc.good.store W.base (W.loc.obj W.nw.node.1) (i:=21) (v:=I z) (by rw [dX];decide) aY;have e:(uS S.a c me w.1.deal w.1.num).set 21 (.av (I z))=uS S.a c me w.1.deal z:=rfl;rw [e] at h2;exact⟨K',_,h1,W.own h2 h3⟩
theorem wV(W:Walk b H g0 S c me k K g ls w)(hc:c.ok=true)(F:qM c w.2.1)(hn:0<=w.1.num/\w.1.num < 1000000)(kind line:Int):
  ∃K' g',cl 115 [.ref (S.a 0) 0 0,.ref S.f 0 0,I kind,I line] K=some (.tup [],K')/\Walk b H g0 S c me k K' g' ls ((w.1.begin_ c me w.2.1 kind line).1,(w.1.begin_ c me w.2.1 kind line).2,w.2.2):=by
 have ln:=W.ldN (i:=21) (v:=I w.1.num) rfl;have e1:=YH K kind line w.1.num;obtain⟨K1,g1,a1,W1⟩:=W.Wy (.begin kind line w.1.num);have ln1:=W1.ldN (i:=21) (v:=I w.1.num) rfl;have w1:=wrap_i64 (a:=w.1.num+1) (by omega) (by omega);have ajV:=AQ (P:=Tryz.prog) (k:=.i64) (t:=3) (a:=w.1.num+1) (b:=4096) (by decide);obtain⟨K2,g2,b1,W2⟩:=W1.ahT ((w.1.num+1).tmod 4096);obtain⟨K3,g3,d1,W3⟩:=MV W2 hc (fok hc F) (show(0:Nat) < 1000000000 by decide);refine⟨K3,g3,aN rfl rfl (afQ _ _ _ _ _ _ ?_),W3⟩;simp -implicitDefEqProofs only [xq_,aae,ln,e1,a1,ln1,bV,w1,ajV,b1,d1]
end
theorem short:∀(n:Nat) (l:List Int),l.Nodup->(∀x∈l,0<=x/\x < n)->l.length<=n
 | 0,[],_,_=> zab _
 | 0,x::l,_,h=> by have:=h x (by simp);omega
 | n+1,l,hd,h=> by
  by_cases hm:(n:Int)∈l
  ·have h1:=short n (l.erase n) (hd.erase (n:Int)) λx hx=> by
    have:=(hd.mem_erase_iff).1 hx;have:=h x this.2;omega
   rw [List.length_erase_of_mem hm] at h1;omega
  ·have:=short n l hd λx hx=> by
    have:=h x hx;have:x≠n:=λe=> hm (e ▸ hx);omega
   omega
theorem cok {c:Cfg}(hc:c.ok=true){ca:Cache}(I:BI c ca)(hk:ca.clock < 1000000000):COk ca:=by
 have B:=Gt hc;refine⟨?_,by rw [I.sets];exact B.sets.1,⟨I.abU,hk⟩,λe he=> ?_,λe he=> ?_⟩
 ·have h1:(ca.l.map (·.line)).Nodup:=List.pairwise_map.2 I.lines;have:=short c.lines.toNat _ h1 λx hx=> by
   obtain⟨e,he,rfl⟩:=zaL.1 hx;have E:=I.ent e he;have h1:=E.lo;have h2:=E.hi;omega
  rw [zaA] at this;have:=B.lines;omega
 ·have:=(I.ent e he).dat.1;have:=B.words;omega
 ·have:=I.ent e he;exact⟨this.u0,by have:=this.used;omega⟩
theorem psz {c:Cfg}{p:Proc}(I:akc c p):PSz p:=⟨by have:=I.most;omega,I.vals⟩
theorem hsz {c:Cfg}(hc:c.ok=true){me:Int}{n:Node}(I:Qw c me n)(hw:∀line,(n.home.turns.ws line).length < 1000000):HSz n.home:=by
 have B:=Gt hc;have hk:∀e∈n.home.turns.wait,0<=e.1/\e.1 < c.lines:=λe he=> by
  have:=I.home.here e he;unfold kJ at this;simp only [zaj,decide_eq_true_eq] at this;omega
 refine⟨⟨I.home.turns.wk,λe he=> by have:=hk e he;have:=B.lines;omega,?_,hw⟩,λe he=> by have:=(I.rows e he).1;have:=B.words;omega⟩;have:=short c.lines.toNat _ I.home.turns.wk λx hx=> by
  obtain⟨e,he,rfl⟩:=zaL.1 hx;have:=hk e he;omega
 rw [zaA] at this;have:=B.lines;omega
section
variable {b:Nat}{H:aj}{g0:Store}{S:zZ}{c:Cfg}{me:Int}{k:Nat}{K K':aj}{g:Store}{ls:Lcl}{w w':NFT}
def ac7(c:Cfg)(me:Int)(n:Node)(f:Fab)(t:List Evn)(o:Opn):NFT:=
 let line:=c.dn o.addr;let e:=n.cache.find line
 if o.kind=4/\e=none then((n.done me t 0).1,f,(n.done me t 0).2)
 else if o.kind=4 then((n.begin_ c me f 3 line).1,(n.begin_ c me f 3 line).2,t)
 else if e.isSome=true/\(o.kind=1∨(e.getD .zero).dirty=true) then
  let n:={ n with cache:=n.cache.touch line }
  ((n.effect c me t).1,f,(n.effect c me t).2)
 else if n.cache.full line=true then((n.begin_ c me f 3 ((n.cache.kY line).getD 0)).1,(n.begin_ c me f 3 ((n.cache.kY line).getD 0)).2,t)
 else if o.kind=1 then((n.begin_ c me f 1 line).1,(n.begin_ c me f 1 line).2,t)
 else((n.begin_ c me f 2 line).1,(n.begin_ c me f 2 line).2,t)
theorem ac8(n:Node)(f:Fab)(t:List Evn)(o:Opn):n.work c me f t o=ac7 c me { n with proc:={ n.proc with begun:=true } } f (if n.proc.begun then t else t++[⟨me,n.proc.values.length,false,0⟩]) o:=rfl
theorem PO(W:Walk b H g0 S c me k K g ls w)(hc:c.ok=true)(F:qM c w.2.1)(hp:PSz w.1.proc)(CI:BI c w.1.cache)(hk:w.1.cache.clock < 1000)(hn:0<=w.1.num/\w.1.num < 1000000)(hl:w.2.2.length < 1000000){r7:Nat}{o:Opn}(h7:ls r7=some o.av):
  ∃K' g',lJ cl (.ref (S.a 0) 0 0) (.ref S.f 0 0) (.ref S.t 0 0) (.ref r7 0 0) K=some (B true,K')/\Walk b H g0 S c me k K' g' ls (ac7 c me w.1 w.2.1 w.2.2 o):=by
 have C:=cok hc CI (by omega);have W0:=Walk.of W.loc.good W.base W.JU;have lc:=W.ahP (i:=2) (n:=8) (ys:=c.av) rfl rfl (by decide);have la:=W.loc.ld h7 (i:=1) (v:=I o.addr) rfl;obtain⟨line,Nh⟩:∃line,c.dn o.addr=line:=⟨_,rfl⟩
 have el:=Jt K c hc o.addr;rw [Nh] at el;have l0:=W.ldN (i:=0) (v:=.ref (S.a 1) 0 0) rfl;have ef:=W.find C line;obtain⟨fo,hfo⟩:∃fo,w.1.cache.find line=fo:=⟨_,rfl⟩
 rw [hfo] at ef;simp only [ku] at ef;have hr7:r7 < K.next:=W.loc.good.lt (lN h7)
 have W1:=W.newL (ty:=93) (xs:=zE6) (r:=K.next) rfl rfl;obtain⟨K2,u1,u2,W2⟩:=W1.whole ak (n:=6) (vs:=(fo.getD .zero).av) rfl rfl (by decide) (iP _);have k7:eu (eu ls K.next zE6) K.next (fo.getD .zero).av r7=some o.av:=by rw [au (by omega),au (by omega)];exact h7
 have lk:=W2.loc.ld k7 (i:=0) (v:=I o.kind) rfl;have ldd:=W2.loc.ld (r:=K.next) (xs:=(fo.getD .zero).av) ak (i:=4) (v:=B (fo.getD .zero).dirty) rfl;have l02:=W2.ldN (i:=0) (v:=.ref (S.a 1) 0 0) rfl;have Nj:=JD W2.loc.good (W2.loc.obj W2.nw.node.2.1) C.len C.sets line;have akn:=MJ W2.loc.good (W2.loc.obj W2.nw.node.2.1) C.len C.sets C.used line
 -- what is called is called of the node
 have back:∀{K3:aj} {g3:Store} {w3:NFT},Walk b H g0 S c me k K3 g3 (eu (eu ls K.next zE6) K.next (fo.getD .zero).av) w3->∃g',Walk b H g0 S c me k K3 g' ls w3:=by
  intro K3 g3 w3 W3;refine⟨g3,W3.hb,⟨W3.loc.good.sub λq cs hq=> ?_,λr hr=> ?_⟩,W3.nw,W3.off,W3.step,W3.len⟩
  ·unfold lay at hq ⊢;by_cases hqr:q=K.next
   ·subst hqr;have hnone:ls K.next=none:=by
     cases e:ls K.next with
     | none=> rfl
     | some xs=>
      have:=W.loc.good.lt (lN (g:=g) e);omega
    rw [hnone] at hq;simp only at hq;have:=W3.loc.free K.next (by rw [ak];simp)
    rw [this] at hq;cases hq
   ·rw [au hqr,au hqr];exact hq
  ·refine W3.loc.free r ?_;have hne:r≠K.next:=λe=> by
    subst e;cases e2:ls K.next with
    | none=> exact hr e2
    | some xs=>
     have:=W.loc.good.lt (lN (g:=g) e2);omega
   rw [au hne,au hne];exact hr
 unfold ac7;simp only [Nh,hfo];by_cases h4:o.kind=4
 ·rw [h4] at lk;cases fo with
  | none=>
   rw [if_pos ⟨h4,rfl⟩];obtain⟨K3,g3,a1,W3⟩:=V8 W2 hp hl 0;obtain⟨g',W'⟩:=back W3;refine⟨K3,g',?_,W'⟩;simp -implicitDefEqProofs only [xq_,lJ,jF,lc,la,el,l0,ef,u1,lk,zaC,zak,a1]
  | some e=>
   rw [if_neg (by simp),if_pos h4];obtain⟨K3,g3,a1,W3⟩:=wV W2 hc F hn 3 line;obtain⟨g',W'⟩:=back W3;refine⟨K3,g',?_,W'⟩;simp -implicitDefEqProofs only [Int.reduceEq,xq_,lJ,jF,lc,la,el,l0,ef,u1,lk,zaE,zae,a1]
 ·rw [if_neg (λh=> h4 h.1),if_neg h4];by_cases hd:fo.isSome=true/\(o.kind=1∨(fo.getD .zero).dirty=true)
  ·rw [if_pos hd];obtain⟨e,rfl⟩:=Option.isSome_iff_exists.1 hd.1;obtain⟨K3,a1,a2,a3⟩:=QJ W2.loc.good W2.base (W2.loc.obj W2.nw.node.2.1) C.len C.clk line;have W3:=W2.cache a2 a3;have hC:COk (w.1.cache.touch line):=cok hc (CI.touch hfo) (by rw [CO CI.lines hfo];omega);obtain⟨K4,g4,b1,W4⟩:=JV W3 hc hp hC hl;obtain⟨g',W'⟩:=back W4;refine⟨K4,g',?_,W'⟩;by_cases h1:o.kind=1
   ·rw [h1] at lk;simp -implicitDefEqProofs only [Int.reduceEq,xq_,lJ,jF,lc,la,el,l0,ef,u1,lk,zaE,a1,l02,b1]
   ·have hdd:=hd.2.resolve_left h1;rw [hdd] at ldd;simp -implicitDefEqProofs only [xq_,lJ,jF,lc,la,el,l0,ef,u1,lk,h4,h1,ldd,zaE,a1,l02,b1]
  ·rw [if_neg hd]
   -- the condition
   have hcond:∀(X Y:Option (AV × aj)),(fo.isSome=false)∨(fo.isSome=true/\¬o.kind=1/\(fo.getD .zero).dirty=false):=λ_ _=> by
    cases h:fo.isSome with
    | false=> exact .inl rfl
    | true=>
     refine .inr ⟨rfl,λh1=> hd ⟨h,.inl h1⟩,?_⟩;cases h2:(fo.getD .zero).dirty with
     | false=> rfl
     | true=> exact absurd ⟨h,.inr h2⟩ hd
   have hcond:=hcond none none;by_cases hfl:w.1.cache.full line=true
   ·rw [if_pos hfl];rw [hfl] at Nj;obtain⟨K3,g3,a1,W3⟩:=wV W2 hc F hn 3 ((w.1.cache.kY line).getD 0);obtain⟨g',W'⟩:=back W3;refine⟨K3,g',?_,W'⟩;rcases hcond with hs | ⟨hs,h1,h2⟩
    ·rw [hs] at ef;simp -implicitDefEqProofs only [xq_,lJ,jF,lc,la,el,l0,ef,u1,lk,h4,l02,Nj,akn,a1]
    ·rw [hs] at ef;rw [h2] at ldd;simp -implicitDefEqProofs only [xq_,lJ,jF,lc,la,el,l0,ef,u1,lk,h4,h1,ldd,l02,Nj,akn,a1]
   ·rw [if_neg hfl];have hff:w.1.cache.full line=false:=by cases h:w.1.cache.full line <;> simp_all
    rw [hff] at Nj;by_cases h1:o.kind=1
    ·rw [if_pos h1];obtain⟨K3,g3,a1,W3⟩:=wV W2 hc F hn 1 line;obtain⟨g',W'⟩:=back W3;refine⟨K3,g',?_,W'⟩;have hs:fo.isSome=false:=hcond.resolve_right λh=> h.2.1 h1;rw [hs] at ef;rw [h1] at lk;simp -implicitDefEqProofs only [Int.reduceEq,xq_,lJ,jF,lc,la,el,l0,ef,u1,lk,l02,Nj,a1]
    ·rw [if_neg h1];obtain⟨K3,g3,a1,W3⟩:=wV W2 hc F hn 2 line;obtain⟨g',W'⟩:=back W3;refine⟨K3,g',?_,W'⟩;rcases hcond with hs | ⟨hs,_,h2⟩
     ·rw [hs] at ef;simp -implicitDefEqProofs only [xq_,lJ,jF,lc,la,el,l0,ef,u1,lk,h4,h1,l02,Nj,a1]
     ·rw [hs] at ef;rw [h2] at ldd;simp -implicitDefEqProofs only [xq_,lJ,jF,lc,la,el,l0,ef,u1,lk,h4,h1,ldd,l02,Nj,a1]
end
section
variable {b:Nat}{H:aj}{g0:Store}{S:zZ}{c:Cfg}{me:Int}{k:Nat}{K K':aj}{g:Store}{ls:Lcl}{w w':NFT}
theorem Walk.to(W:Walk b H g0 S c me k K g ls w){K':aj}{g1:Store}{l1:Lcl}(W1:Walk b K (lay g ls) S c me w.2.1.l.length K' g1 l1 w'):∃g',Walk b H g0 S c me k K' g' ls w':=
 W.app (by have:=W1.res;rw [W.len] at this;exact this)
theorem WA(W:Walk b H g0 S c me k K g ls w)(hc:c.ok=true)(F:qM c w.2.1)(NI:Qw c me w.1)(hn:0<=w.1.num/\w.1.num < 1000000)(hl:w.2.2.length < 999999):
  ∃K' g',match w.1.proc.cur with
   | some o=> if w.1.deal.step=0 then cl 70 [.ref (S.a 0) 0 0,.ref S.f 0 0,.ref S.t 0 0] K=some (B true,K')/\Walk b H g0 S c me k K' g' ls (w.1.work c me w.2.1 w.2.2 o)
     else cl 70 [.ref (S.a 0) 0 0,.ref S.f 0 0,.ref S.t 0 0] K=some (B false,K')/\Walk b H g0 S c me k K' g' ls w
   | none=> cl 70 [.ref (S.a 0) 0 0,.ref S.f 0 0,.ref S.t 0 0] K=some (B false,K')/\Walk b H g0 S c me k K' g' ls w:=by
 have P:=psz NI.proc;have aii:w.1.cache.clock < 1000:=by have:=NI.clk;have:=NI.proc.vals;have:=NI.proc.most;omega
 have W0:=Walk.of W.loc.good W.base W.JU;have l1:=W0.ldN (i:=1) (v:=.ref (S.a 2) 0 0) rfl;obtain⟨K1,a1,W1⟩:=W0.cur P;have W2:=W1.newL (ty:=86) (xs:=[zI,zI,zI]) (r:=K1.next) rfl rfl;obtain⟨K3,b1,b2,W3⟩:=W2.whole ak (n:=3) (vs:=w.1.proc.op.av) rfl (fF _) (by decide) (rD _);have k7:eu (eu noL K1.next [zI,zI,zI]) K1.next w.1.proc.op.av K1.next=some w.1.proc.op.av:=ak
 have ls3:=W3.ldN (i:=15) (v:=I w.1.deal.step) rfl;cases hcur:w.1.proc.cur with
 | none=>
  rw [hcur] at a1;simp only [zaC] at a1;obtain⟨g',W'⟩:=W.to W3;refine⟨K3,g',aN rfl rfl (X9 _ _ _ _ _ ?_),W'⟩;simp -implicitDefEqProofs only [xq_,Uk,l1,a1,b1,zak]
 | some o=>
  rw [hcur] at a1;simp only [zaE] at a1;by_cases hs:w.1.deal.step=0;rotate_left
  ·simp only [if_neg hs];obtain⟨g',W'⟩:=W.to W3;refine⟨K3,g',aN rfl rfl (X9 _ _ _ _ _ ?_),W'⟩;simp -implicitDefEqProofs only [Nat.reduceAdd,xq_,Uk,l1,a1,b1,zae,zak,ls3,hs]
  ·simp only [if_pos hs];rw [hs] at ls3;have hop:w.1.proc.op=o:=by simp only [Proc.op,hcur,zas]
   have hidx:w.1.proc.idx=w.1.proc.values.length:=by simp only [Proc.idx,hcur]
   have lp:=W3.ldN (i:=1) (v:=.ref (S.a 2) 0 0) rfl;have eb:=Vs W3.loc.good (W3.loc.obj W3.nw.node.2.2.1);rw [ac8];cases hbg:w.1.proc.begun with
   | true=>
    rw [hbg] at eb;have he:({ w.1 with proc:={ w.1.proc with begun:=true } }:Node)=w.1:=by
     rcases hw:w.1 with⟨ca,pr,ho,de,nu⟩
     rw [hw] at hbg;simp only at hbg;rcases pr with⟨x1,x2,x3⟩
     simp only at hbg;subst hbg;rfl
    rw [he];simp only [if_true];obtain⟨K4,g4,c1,W4⟩:=PO W3 hc F P NI.cache aii hn (by omega) (o:=w.1.proc.op) k7;rw [hop] at W4;obtain⟨g',W'⟩:=W.to W4;refine⟨K4,g',aN rfl rfl (X9 _ _ _ _ _ ?_),W'⟩;simp -implicitDefEqProofs only [Nat.reduceAdd,xq_,Uk,l1,a1,b1,zae,ls3,lp,eb,c1]
   | false=>
    rw [hbg] at eb;simp only [zaf,if_false];obtain⟨v,K4,d1,d2,d3⟩:=V3 W3.loc.good W3.base (W3.loc.obj W3.nw.node.2.2.1) P.ops (by have:=P.ops;have:=P.vals;omega) P.vals;have hbp:w.1.proc.vT={ w.1.proc with begun:=true }:=by
     unfold Proc.vT;rw [if_neg (by rw [hbg,hcur];simp)]
    rw [hbp] at d2;have W4:=W3.proc d2 d3;have li:=W4.ldN (i:=10) (v:=I me) rfl;obtain⟨K5,g5,e1,W5⟩:=W4.ahQ (show w.2.2.length < 1000000 by omega) me w.1.proc.idx;obtain⟨K6,g6,c1,W6⟩:=PO W5 hc F (show PSz ({ w.1.proc with begun:=true }:Proc) from⟨P.ops,P.vals⟩) NI.cache aii hn (by simp only [zan,zai,zaq];omega) (o:=w.1.proc.op) k7;rw [hop,hidx] at W6;obtain⟨g',W'⟩:=W.to W6;refine⟨K6,g',aN rfl rfl (X9 _ _ _ _ _ ?_),W'⟩;simp -implicitDefEqProofs only [Nat.reduceAdd,xq_,Uk,l1,a1,b1,zae,zak,ls3,lp,eb,d1,li,e1,c1]
theorem QV(W:Walk b H g0 S c me k K g ls w)(hc:c.ok=true)(F:qM c w.2.1)(NI:Qw c me w.1)(hl:w.2.2.length < 999999)(hdd:w.1.deal.data.length < 1000000000):
  ∃K' g',match w.2.1.take me false with
   | (f',some p)=> cl 67 [.ref (S.a 0) 0 0,.ref S.f 0 0,.ref S.t 0 0] K=some (B true,K')/\Walk b H g0 S c me k K' g' ls (w.1.answered c me f' w.2.2 p)
   | (_,none)=> cl 67 [.ref (S.a 0) 0 0,.ref S.f 0 0,.ref S.t 0 0] K=some (B false,K')/\Walk b H g0 S c me k K' g' ls w:=by
 have P:=psz NI.proc;have Bd:=Gt hc;have aii:w.1.cache.clock < 1000:=by have:=NI.clk;have:=NI.proc.vals;have:=NI.proc.most;omega
 have C:=cok hc NI.cache (by omega);have W0:=Walk.of W.loc.good W.base W.JU;have li:=W0.ldN (i:=10) (v:=I me) rfl;obtain⟨K1,g1,a1,W1⟩:=W0.GI (fok hc F);obtain⟨F1,Q1⟩:=F.take me false;have W2:=W1.newL (ty:=70) (xs:=zP9) (r:=K1.next) rfl rfl;cases ht:w.2.1.take me false with
 | mk f' po=>
  rw [ht] at a1 W1 W2 F1 Q1;simp only at a1 W1 W2 F1 Q1;obtain⟨K3,u1,u2,W3⟩:=W2.whole ak (n:=9) (vs:=(po.getD .zero).av) rfl (aT _) (by decide) (aG _);simp only [dZ] at a1;cases po with
  | none=>
   simp only [zaR,zaC] at a1 u1 u2;have hf':f'=w.2.1:=by
    have:=JY (f:=w.2.1) (i:=me) (req:=false) (by rw [ht]);rw [ht] at this;exact this
   subst hf';obtain⟨g',W'⟩:=W.to W3;refine⟨K3,g',aN rfl rfl (QC _ _ _ _ _ ?_),W'⟩;simp -implicitDefEqProofs only [xq_,FW,li,a1,u1,zak]
  | some p=>
   simp only [zas,zaE] at a1 u1 u2;have Q:=Q1 p rfl;obtain⟨K4,g4,b1,W4⟩:=YN W3 C hdd p (J3 Q);unfold Node.answered;obtain⟨ca,d,ok,hA⟩:∃ca d ok,w.1.after me p=(ca,d,ok):=⟨_,_,_,rfl⟩
   rw [hA] at b1 W4;simp only [oW] at b1 W4;simp only [hA];have W5:=W4.newL (ty:=57) (xs:=zD9) (r:=K4.next) rfl rfl;obtain⟨K6,u3,u4,W6⟩:=W5.whole ak (n:=9) (vs:=d.av) rfl rfl (by decide) (aO d);cases ok with
   | false=>
    simp only [if_true];obtain⟨g',W'⟩:=W.to W6;refine⟨K6,g',aN rfl rfl (QC _ _ _ _ _ ?_),W'⟩;simp -implicitDefEqProofs only [xq_,FW,li,a1,u1,u2,zae,b1,u3,zak]
   | true=>
    simp only [Bool.true_eq_false,if_false];have hs:w.1.deal.step≠0:=λh0=> by
     have hf:w.1.deal.fits p=false:=by unfold bf.fits;rw [h0];simp [Kq,FC]
     rw [sD,wS hf] at hA;simp [mQ] at hA
    have NX:=PN NI.cache (NI.deal hs) hs Q (by rw [<-sD];exact hA);have hd2:d.data.length < 1000000000:=by
     rcases NX.dat with h | h
     ·rw [h];decide
     ·have:=h.1;have:=Bd.words;omega
    have hck:ca.clock < 1000000000:=by rcases NX.clk with h | h <;> omega
    have C2:COk ca:=cok hc NX.inv hck;obtain⟨K7,g7,c1,W7⟩:=W6.Wy d;have lp:=W7.ldN (i:=1) (v:=.ref (S.a 2) 0 0) rfl;obtain⟨K8,d1,W8⟩:=W7.cur P;have W9:=W8.newL (ty:=86) (xs:=[zI,zI,zI]) (r:=K8.next) rfl rfl;obtain⟨K10,u5,u6,W10⟩:=W9.whole ak (n:=3) (vs:=w.1.proc.op.av) rfl (fF _) (by decide) (rD _);have hlt:K4.next < K8.next:=W8.loc.good.lt (q:=K4.next) (lN (g:=g7) ak)
    have k9:eu (eu (eu (eu (eu (eu noL K1.next zP9) K1.next p.av) K4.next zD9) K4.next d.av) K8.next [zI,zI,zI]) K8.next w.1.proc.op.av K4.next=some d.av:=by
     rw [au (by omega),au (by omega),ak]
    have l3:=W10.loc.ld k9 (i:=3) (v:=I d.step) rfl;have l0:=W10.loc.ld k9 (i:=0) (v:=I d.kind) rfl;have lo:=W10.loc.ld (r:=K8.next) (xs:=w.1.proc.op.av) ak (i:=0) (v:=I w.1.proc.op.kind) rfl;by_cases h0:d.step=0
    ·simp only [if_pos h0];rw [h0] at l3;by_cases hf:d.kind=3/\w.1.proc.op.kind=4
     ·simp only [if_pos hf];rw [hf.1] at l0;rw [hf.2] at lo;obtain⟨K11,g11,e1,W11⟩:=V8 W10 P (show w.2.2.length < 1000000 by omega) 0;obtain⟨g',W'⟩:=W.to W11;refine⟨K11,g',aN rfl rfl (QC _ _ _ _ _ ?_),W'⟩;simp -implicitDefEqProofs only [Int.reduceEq,xq_,FW,li,a1,u1,u2,zae,b1,u3,u4,c1,lp,d1,u5,l3,l0,lo,e1]
     ·simp only [if_neg hf];obtain⟨g',W'⟩:=W.to W10;refine⟨K10,g',aN rfl rfl (QC _ _ _ _ _ ?_),W'⟩;by_cases hk:d.kind=3
      ·have ho:¬w.1.proc.op.kind=4:=λh=> hf ⟨hk,h⟩;rw [hk] at l0;simp -implicitDefEqProofs only [Int.reduceEq,xq_,FW,li,a1,u1,u2,zae,b1,u3,u4,c1,lp,d1,u5,l3,l0,lo,ho]
      ·simp -implicitDefEqProofs only [Int.reduceEq,xq_,FW,li,a1,u1,u2,zae,b1,u3,u4,c1,lp,d1,u5,l3,l0,hk]
    ·simp only [if_neg h0];by_cases h6:d.step=6/\d.kind≠3
     ·simp only [if_pos h6];rw [h6.1] at l3;have hk:=h6.2;simp only [ne_eq] at hk;obtain⟨K11,g11,e1,W11⟩:=JV W10 hc P C2 (show w.2.2.length < 1000000 by omega);obtain⟨K12,g12,e2,W12⟩:=MV W11 hc (fok hc F1) hd2;obtain⟨g',W'⟩:=W.to W12;refine⟨K12,g',aN rfl rfl (QC _ _ _ _ _ ?_),W'⟩;simp -implicitDefEqProofs only [Int.reduceEq,xq_,FW,BN,li,a1,u1,u2,zae,b1,u3,u4,c1,lp,d1,u5,l3,l0,hk,zak,e1,e2]
     ·simp only [if_neg h6];obtain⟨K12,g12,e2,W12⟩:=MV W10 hc (fok hc F1) hd2;obtain⟨g',W'⟩:=W.to W12;refine⟨K12,g',aN rfl rfl (QC _ _ _ _ _ ?_),W'⟩;by_cases h66:d.step=6
      ·have hk:d.kind=3:=Classical.byContradiction λh=> h6 ⟨h66,h⟩;rw [h66] at l3;rw [hk] at l0;simp -implicitDefEqProofs only [Int.reduceEq,xq_,FW,BN,li,a1,u1,u2,zae,b1,u3,u4,c1,lp,d1,u5,l3,l0,zae,e2]
      ·simp -implicitDefEqProofs only [xq_,FW,BN,li,a1,u1,u2,zae,b1,u3,u4,c1,lp,d1,u5,l3,h0,h66,e2]
theorem YS(W:Walk b H g0 S c me k K g ls w)(hc:c.ok=true)(F:qM c w.2.1)(NI:Qw c me w.1)(hn:0<=w.1.num/\w.1.num < 1000000)(hl:w.2.2.length < 999999)(hdd:w.1.deal.data.length < 1000000000)(hw:∀line,(w.1.home.turns.ws line).length < 1000000):
  ∃K' g',cl 36 [.ref (S.a 0) 0 0,.ref S.f 0 0,.ref S.t 0 0] K=some (I (w.1.step c me w.2.1 w.2.2).2,K')/\Walk b H g0 S c me k K' g' ls (w.1.step c me w.2.1 w.2.2).1:=by
 have Z:=hsz hc NI hw;have C:=cok hc NI.cache (by have:=NI.clk;have:=NI.proc.vals;have:=NI.proc.most;omega);unfold Node.step;obtain⟨K1,g1,h1⟩:=QV W hc F NI hl hdd;cases ht:w.2.1.take me false with
 | mk f' po=>
  rw [ht] at h1;cases po with
  | some p=>
   obtain⟨a1,W1⟩:=h1;refine⟨K1,g1,aN rfl rfl (QA _ _ _ _ _ ?_),W1⟩;simp -implicitDefEqProofs only [xq_,L6,a1]
  | none=>
   obtain⟨a1,W1⟩:=h1;simp only;obtain⟨K2,g2,h2⟩:=Wx W1 hc F Z;by_cases hg:w.1.home.ready≠[]/\w.2.1.roomOf me false≠0
   ·rw [if_pos hg] at h2 ⊢;obtain⟨a2,W2⟩:=h2;refine⟨K2,g2,aN rfl rfl (QA _ _ _ _ _ ?_),W2⟩;simp -implicitDefEqProofs only [xq_,L6,a1,a2]
   ·rw [if_neg hg] at h2 ⊢;obtain⟨a2,W2⟩:=h2;obtain⟨K3,g3,h3⟩:=MZ W2 hc F C Z;cases hr:(if w.2.1.roomOf me false=0 then(w.2.1,none) else w.2.1.take me true) with
    | mk f2 po2=>
     rw [hr] at h3;cases po2 with
     | some p=>
      obtain⟨a3,W3⟩:=h3;refine⟨K3,g3,aN rfl rfl (QA _ _ _ _ _ ?_),W3⟩;simp -implicitDefEqProofs only [xq_,L6,a1,a2,a3]
     | none=>
      obtain⟨a3,W3⟩:=h3;simp only;obtain⟨K4,g4,h4⟩:=WA W3 hc F NI hn hl;cases hcu:w.1.proc.cur with
      | none=>
       rw [hcu] at h4;obtain⟨a4,W4⟩:=h4;refine⟨K4,g4,aN rfl rfl (QA _ _ _ _ _ ?_),W4⟩;simp -implicitDefEqProofs only [xq_,L6,a1,a2,a3,a4]
      | some o=>
       rw [hcu] at h4;simp only at h4 ⊢;by_cases hs:w.1.deal.step=0
       ·rw [if_pos hs] at h4 ⊢;obtain⟨a4,W4⟩:=h4;refine⟨K4,g4,aN rfl rfl (QA _ _ _ _ _ ?_),W4⟩;simp -implicitDefEqProofs only [xq_,L6,a1,a2,a3,a4]
       ·rw [if_neg hs] at h4 ⊢;obtain⟨a4,W4⟩:=h4;refine⟨K4,g4,aN rfl rfl (QA _ _ _ _ _ ?_),W4⟩;simp -implicitDefEqProofs only [xq_,L6,a1,a2,a3,a4]
end
theorem YT {H:aj}{r:Nat}{o:dL}(h:H.get r=o):H.put r o=H:=by
 subst h;unfold aj.put;have:(λx=> if x=r then H.get r else H.get x)=H.get:=by
  funext x
  split
  ·rename_i e;rw [e]
  ·rfl
 rw [this]
theorem ac9 {H:aj}{r:Nat}{o o':dL}:(H.put r o).put r o'=H.put r o':=by
 unfold aj.put
 congr 1
 funext x
 simp only;split <;> rfl
def nZ(bit mask:Int)(i:Nat)(l:List By):List By:=l.mapIdx λj c=> if j < i then c ^^^ qj bit mask j else c
theorem mP(bit mask:Int)(i:Nat)(l:List By):(nZ bit mask i l).length=l.length:=by simp [nZ]
theorem QW(bit mask:Int)(l:List By):nZ bit mask 0 l=l:=by
 unfold nZ
 apply za5
 intro i;rw [za6];cases l[i]? <;> simp
theorem WB(bit mask:Int)(l:List By):nZ bit mask l.length l=mG bit mask l:=by
 unfold nZ mG
 apply za5
 intro i;rw [za6,za6];cases h:l[i]? with
 | none=> rfl
 | some c=> simp [(zam.1 h).1]
theorem J6(bit mask:Int){i:Nat}{l:List By}{c:By}(h:l[i]?=some c):(nZ bit mask i l)[i]?=some c:=by
 unfold nZ;rw [za6,h];simp
theorem EI(bit mask:Int){i:Nat}{l:List By}{c:By}(h:l[i]?=some c):nZ bit mask (i+1) l=(nZ bit mask i l).set i (c ^^^ qj bit mask i):=by
 apply za5
 intro j;have hi:=(zam.1 h).1;unfold nZ;rw [za6,List.getElem?_set,za6,List.length_mapIdx];by_cases e:i=j
 ·subst e;rw [if_pos rfl,if_pos hi,h];simp
 ·rw [if_neg e];cases hj:l[j]? with
  | none=> rfl
  | some d=>
   simp only [zah]
   congr 1
   by_cases h1:j < i
   ·rw [if_pos h1,if_pos (by omega)]
   ·rw [if_neg h1,if_neg (by omega)]
theorem yw(bit mask:Int){i:Nat}{l:List By}{c:By}(h:l[i]?=some c)(hm:qj bit mask i=0#8):nZ bit mask (i+1) l=nZ bit mask i l:=by
 rw [EI bit mask h,hm,BitVec.xor_zero]
 apply za5
 intro j;rw [List.getElem?_set];split
 ·rename_i e;subst e;split
  ·rw [J6 bit mask h]
  ·rename_i hh;rw [zaH (by omega)]
 ·rfl
theorem QX {K0:aj}{r n:Nat}{l:List By}{bit mask:Int}(hb:In64 bit)(h0:0<=mask)(h1:mask<=65535)(hs:l.length < 1000)(hr:r < K0.next)(hbase:K0.base<=r):
  ∀(k i:Nat),i+k=l.length->F9 cl0 [I bit,.s (.int .u16 mask),.sl r 0 0 1 l.length l.length false,I l.length,I i] (K0.put r (.blk 0 (5+dV) ((nZ bit mask i l).map Y)))
   =some (.sl r 0 0 1 l.length l.length false,K0.put r (.blk 0 (5+dV) ((nZ bit mask l.length l).map Y))):=by
 obtain⟨hb1,hb2⟩:=hb;intro k
 induction k with
 | zero=>
  intro i hi;have h1:¬((i:Int) < l.length):=by omega
  obtain rfl:i=l.length:=by omega
  rw [Ut];simp -implicitDefEqProofs only [Int.reduceNeg,xq_,h1]
 | succ k ih=>
  intro i hi;have h2:(i:Int) < l.length:=by omega
  have h6:(i:Int)+1=((i+1:Nat):Int):=by omega
  have h7:=wrap_i64 (a:=((i+1:Nat):Int)) (by omega) (by omega);obtain⟨c,hc⟩:∃c,l[i]?=some c:=⟨_,zad (by omega)⟩
  have w8:=wrap_i64 (a:=8*(i:Int)) (by omega) (by omega);have ihn:=ih (i+1) (by omega);rw [Ut];by_cases hov:8*(i:Int) - bit < 9223372036854775808
  ·have wd:=wrap_i64 (a:=8*(i:Int) - bit) (by omega) (by omega);by_cases hA:8*(i:Int) - bit<=-8
   ·have hm:qj bit mask i=0#8:=by unfold qj;rw [if_pos (.inl hA)]
    rw [yw bit mask hc hm] at ihn;simp -implicitDefEqProofs only [Int.reduceNeg,xq_,h2,ru,w8,gZ,wd,hA,xR,bV,h6,h7,ihn]
   by_cases hB:16<=8*(i:Int) - bit
   ·have hm:qj bit mask i=0#8:=by unfold qj;rw [if_pos (.inr hB)]
    rw [yw bit mask hc hm] at ihn;simp -implicitDefEqProofs only [Int.reduceNeg,xq_,h2,ru,w8,gZ,wd,hA,hB,xR,bV,h6,h7,ihn]
   have hd:∃d:Int,8*(i:Int) - bit=d/\-8 < d/\d < 16:=⟨_,rfl,by omega,by omega⟩
   obtain⟨d,hd,hd1,hd2⟩:=hd;have wd8:=wrap_i64 (a:=d+8) (by omega) (by omega);have wdd:=wrap_i64 (a:=d) (by omega) (by omega);have ds:¬(d<=-8):=by omega
   have db:¬(16<=d):=by omega
   obtain⟨m,rfl⟩:∃m:Nat,mask=m:=⟨mask.toNat,by omega⟩
   have alk:AV.s (.int .u16 (m:Int))=U16 (BitVec.ofNat 16 m):=by
    have hv:(((BitVec.ofNat 16 m).toNat:Nat):Int)=m:=by rw [zb2,Nat.mod_eq_of_lt (by omega)]
    show AV.s (.int .u16 (m:Int))=AV.s (.int .u16 (((BitVec.ofNat 16 m).toNat:Nat):Int));rw [hv]
   let K:aj:=K0.put r (.blk 0 (5+dV) ((nZ bit m i l).map Y));have byK:aZ K (.sl r 0 0 1 l.length l.length false) (nZ bit m i l):=by
    refine⟨⟨by simp,rfl,(mP ..).symm,⟨hr,zab _⟩,_,_,oQ,?_,?_⟩,by rw [mP];exact hs⟩
    ·rw [zaA,mP];omega
    ·rw [mP,zbw,zaM,zax (by rw [zaA,mP];exact zab _)]
   have s1:ix 1 (.sl r 0 0 1 l.length l.length false) (I i) K=some (.ref r 0 i,K):=by
    have:=byK.ix (i:=i) (by rw [mP];omega)
    simpa [cO] using this
   have s2:ld (.ref r 0 i) K=some (Y c,K):=by
    have:=byK.ld (J6 bit m hc)
    simpa [cO] using this
   have e1:cv 33 230 (.s (.int .u16 (m:Int))) K=some (U32 (BitVec.ofNat 32 m),K):=by
    refine(Td (k:=.u16) (n:=(m:Int)) (H:=K)).trans ?_;rw [wz (k:=.u32) rfl];rfl
   let u1:BitVec 32:=BitVec.ofNat 32 m <<< 8;let u2:BitVec 32:=u1 <<< (d+8).toNat;have e2:bi .shl 230 (U32 (BitVec.ofNat 32 m)) (.s (.int .u64 8))=some (U32 u1):=Uc (k:=.u32) rfl _ 8 (by decide) (by decide);have e3:bi .shl 230 (U32 u1) (I (d+8))=some (U32 u2):=Uc (k:=.u32) rfl u1 (d+8) (by omega) (show d+8<=(32:Int) by omega);have e4:bi .shr 230 (U32 u2) (.s (.int .u64 24))=some (U32 (u2 >>> 24)):=abZ (k:=.u32) u2 24 (by decide) (by decide);have e5:cv 230 5 (U32 (u2 >>> 24)) K=some (Y ((u2 >>> 24).setWidth 8),K):=
    (XO (k:=.u32) (n:=((u2 >>> 24).toNat:Int)) (H:=K)).trans (congrArg (λv=> some (v,K)) (aeG (k:=.u32) (k':=.u8) rfl _))
   have hm:(u2 >>> 24).setWidth 8=qj bit m i:=by
    unfold qj;rw [if_neg (by rw [hd];omega),hd];rfl
   rw [hm] at e5;have e6:bi .xor 5 (Y c) (Y (qj bit m i))=some (Y (c ^^^ qj bit m i)):=abY (k:=.u8) rfl _ _;have e7:st 1 (.ref r 0 i) (Y (c ^^^ qj bit m i)) K=some (aK,K0.put r (.blk 0 (5+dV) ((nZ bit m (i+1) l).map Y))):=by
    refine(IU (H:=K) (r:=r) (gg:=0) (off:=i) (ty:=5+dV) (xs:=(nZ bit m i l).map Y) (v:=Y (c ^^^ qj bit m i)) aY oQ hbase (by rw [zaA,mP];omega)).trans ?_;show some (aK,(K0.put r _).put r _)=_;rw [ac9,EI bit m hc,List.map_set]
   simp only [K] at s1 s2 e1 e5 e7;simp -implicitDefEqProofs only [Int.reduceNeg,xq_,h2,ru,w8,gZ,hd,wdd,ds,db,s1,s2,e1,e2,e3,e4,e5,e6,e7,wd8,xR,bV,h6,h7,ihn]
  ·have wd:IntKind.i64.wrap (8*(i:Int) - bit)=8*(i:Int) - bit - 18446744073709551616:=by
    simp only [IntKind.wrap,IntKind.signed,IntKind.bits];simp;omega
   have hA:8*(i:Int) - bit - 18446744073709551616<=-8:=by omega
   have hm:qj bit mask i=0#8:=by unfold qj;rw [if_pos (.inr (by omega))]
   rw [yw bit mask hc hm] at ihn;simp -implicitDefEqProofs only [Int.reduceNeg,xq_,h2,ru,w8,gZ,wd,hA,xR,bV,h6,h7,ihn]
theorem ahU {H:aj}(hb:H.base<=H.next){x:AV}{l:List By}(hx:aZ H x l)(hl:l≠[]){bit mask:Int}(hbit:In64 bit)(h0:0<=mask)(h1:mask<=65535):
  ∃r H',cl0 96 [x,I bit,.s (.int .u16 mask)] H=some (.sl r 0 0 1 l.length l.length false,H')/\Gro H H'/\aZ H' (.sl r 0 0 1 l.length l.length false) (mG bit mask l)/\H'.base<=H'.next:=by
 let H1:=H.new (.blk 0 5 []);let K0:=H1.new (.blk 0 (5+dV) (l.map Y));have e1:=Vl hx hl;have n1:H1.next=H.next+1:=nNew
 have n2:K0.next=H.next+1+1:=by simp only [K0,nNew,n1]
 have g:Gro H K0:=(Gro.new H 0 _ _).trans (Gro.new H1 0 _ _);have at_:K0.get (H.next+1)=.blk 0 (5+dV) (l.map Y):=aP n1.symm;have ps:K0.put (H.next+1) (.blk 0 (5+dV) ((nZ bit mask 0 l).map Y))=K0:=by rw [QW];exact YT at_
 have lp:=QX (K0:=K0) (r:=H.next+1) (n:=0) (l:=l) hbit h0 h1 hx.small (by omega) (by rw [g.base];omega) l.length 0 (by omega);rw [ps] at lp;have ln:lnS (.sl (H.next+1) 0 0 1 l.length l.length false) K0=some (I l.length,K0):=rfl;refine⟨H.next+1,K0.put (H.next+1) (.blk 0 (5+dV) ((nZ bit mask l.length l).map Y)),eG (ajw _ _ _ _ _ ?_),g.put (by omega),?_,by show K0.base<=K0.next;rw [g.base];omega⟩
 ·simp -implicitDefEqProofs only [xq_,afs,e1];exact lp
 ·rw [WB];refine⟨⟨by simp,rfl,(fO ..).symm,⟨by show H.next+1 < K0.next;omega,zab _⟩,_,_,oQ,?_,?_⟩,by rw [fO];exact hx.small⟩
  ·rw [zaA,fO];omega
  ·rw [fO,zbw,zaM,zax (by rw [zaA,fO];exact zab _)]
theorem ajW(c:By):yOf (Y c)=some c:=by
 have h:=c.isLt;show(if(0:Int)<=(c.toNat:Int)/\(c.toNat:Int) < 256 then some (BitVec.ofInt 8 (c.toNat:Int)) else none)=some c;rw [if_pos ⟨by omega,by omega⟩,mJ]
theorem aa7:∀l:List By,(l.map Y).mapM yOf=some l
 | []=> rfl
 | c::l=> by rw [zaz,zbo,ajW,aa7 l];rfl
theorem QY {H:aj}{r n:Nat}{l:List By}(hn:l.length=n)(h:aZ H (.sl r 0 0 1 n n false) l)(h0:0 < n)(h8:n<=800):bytesOf (.sl r 0 0 1 n n false) H=some l:=by
 subst hn;obtain⟨⟨hl,_,_,⟨hr,_⟩,ty,all,h2,h3,h4⟩,hs⟩:=h;rw [zbw] at h4 h3;simp only [bytesOf,h2];rw [if_pos ⟨trivial,trivial,h3,h0,h8⟩,<-h4];exact aa7 l
theorem J7(p:Pkt):(nX p).length=12+8*p.data.length:=by
 rw [nI];rfl
theorem WC {H:aj}{r:Nat}{p:Pkt}(hp:p.fit){bit mask:Int}(h0:0<=mask)(h1:mask<=65535){n:Nat}(hn:n=(nX p).length)(h:aZ H (.sl r 0 0 1 n n false) (mG bit mask (nX p))):
  cl 95 [.sl r 0 0 1 n n false] H=some (if turns p.bytes bit mask=true then .tup [.agg Pkt.zero.av,I 2] else .tup [.agg p.av,I 0],H):=by
 refine AP (p:=xQ) rfl ?_;have ok:=hp.ok;simp only [Pkt.ok,zaj,decide_eq_true_eq] at ok;have hlen:=J7 p;unfold xQ;simp only [QY (by rw [fO,hn]) h (by omega) (by omega)];by_cases ht:turns p.bytes bit mask=true
 ·rw [if_pos ht];have hne:∀y,mG bit mask (nX p)≠ig y:=λy=> LX h0 h1 (by
   have:(ig (dF p)).length=p.bytes:=nI p;rw [this];exact ht)
  rw [dif_neg (λ⟨q,_,hq⟩=> hne _ hq.symm),if_pos hne]
 ·rw [if_neg ht];have he:mG bit mask (nX p)=nX p:=Qz h0 h1 (by rw [nI];simpa using ht);have hex:∃q:Pkt,q.fit/\nX q=mG bit mask (nX p):=⟨p,hp,he.symm⟩
  rw [dif_pos hex];have hs:=Classical.choose_spec hex;have:Classical.choose hex=p:=pack_inj hs.1 hp (hs.2.trans he);rw [this]
theorem PS(p:Pkt)(n:Int):Frz 9 (.tup [.agg p.av,I n]):=rE λx hx=> by
 simp only [zal,zaF,or_false] at hx;rcases hx with rfl | rfl
 ·exact lG λx hx=> by
   simp only [Pkt.av,zal,zaF,or_false] at hx;rcases hx with rfl | rfl | rfl | rfl | rfl | rfl | rfl | rfl | rfl <;> first | exact gK | exact uN
 ·exact gK
theorem ada(H:aj){p:Pkt}(hp:p.fit){bit mask:Int}(hbit:In64 bit)(h0:0<=mask)(h1:mask<=65535):
  cl 62 [.agg p.av,I bit,.s (.int .u16 mask)] H=some (if turns p.bytes bit mask=true then .tup [.agg Pkt.zero.av,I 2] else .tup [.agg p.av,I 0],H):=by
 have ax:p.av=p.avx (dat p.data):=rfl;let o1:dL:=.blk 0 70 p.av;let o2:dL:=.blk 0 70 zPk;let K:=(H.guard.new o1).new o2;have hlen:=J7 p;have hK:K.base<=K.next:=by simp only [K,bNew,nNew];exact(by omega:H.next<=H.next+1+1)
 obtain⟨y,K1,e1,g1,b1,hb1⟩:=ahu hK p (lT K p.data) hp.ok;rw [<-ax] at e1;have e1':cl 94 [.agg p.av] K=some (.tup [y,I 0],K1):=AP (p:=cl0 94) rfl e1;obtain⟨r,K2,e2,g2,b2,hb2⟩:=ahU hb1 b1 (bit:=bit) (mask:=mask) (λe=> by rw [e] at hlen;simp at hlen;omega) hbit h0 h1;have e2':cl 96 [y,I bit,.s (.int .u16 mask)] K1=some (_,K2):=AP (p:=cl0 96) rfl e2;have e3:=WC hp h0 h1 rfl b2;have hR:K2.get (H.next+1)=o2:=by
  rw [g2.same _ (zat (show H.next+1 < K.next by simp only [K,nNew];exact Nat.lt_succ_self _) g1.next),g1.same _ (by simp only [K,nNew];exact Nat.lt_succ_self _)];exact aP rfl
 have hbase:K2.base<=H.next+1:=by
  rw [g2.base,g1.base];exact za2 _
 have key:∀q:Pkt,st 9 (.ref (H.next+1) 0 0) (.agg q.av) K2=some (aK,K2.put (H.next+1) (.blk 0 70 q.av))/\lda 9 (.ref (H.next+1) 0 0) (K2.put (H.next+1) (.blk 0 70 q.av))=some (.agg q.av,K2.put (H.next+1) (.blk 0 70 q.av)):=λq=> by
  refine⟨?_,(fV (off:=0) (n:=9) oQ (zab _)).trans rfl⟩;rw [Oh (aG _) (show q.av.length=9 from rfl) hR hbase (by decide)];rfl
 have l1:lda 9 (.ref H.next 0 0) K=some (.agg p.av,K):=by
  have:K.get H.next=.blk 0 70 p.av:=by
   simp only [K];rw [cZ (by rw [nNew];exact Nat.lt_succ_self _)];exact aP rfl
  exact(fV (off:=0) (n:=9) this (zab _)).trans rfl
 by_cases ht:turns p.bytes bit mask=true
 ·rw [if_pos ht] at e3 ⊢;refine bI rfl rfl (afa _ _ _ _ _) ?_ (PS _ _);obtain⟨k1,k2⟩:=key .zero;simp only [K,o1,o2] at e1' l1;have n1:H.guard.next=H.next:=rfl
  simp -implicitDefEqProofs only [Nat.reduceLT,xq_,hq_,ab8,aB,l1,e1',e2',e3,k1,k2,zae]
 ·rw [if_neg ht] at e3 ⊢;refine bI rfl rfl (afa _ _ _ _ _) ?_ (PS _ _);obtain⟨k1,k2⟩:=key p;simp only [K,o1,o2] at e1' l1;have n1:H.guard.next=H.next:=rfl
  simp -implicitDefEqProofs only [Nat.reduceLT,xq_,hq_,ab8,aB,l1,e1',e2',e3,k1,k2,zae]
theorem PU:∀(l:List Port) (i:Nat) (k:Nat) {j:Nat} {k':Int},rY (l.flatMap λp=> [p.rq,p.an]) (2*i) (k:Int)=some (j,k')->findAt l i k=some (j / 2,decide (j % 2=0),k'.toNat)
 | [],i,k,j,k',h=> by cases h
 | p::l,i,k,j,k',h=> by
  simp only [zaJ,zbC,zaS,rY] at h;simp only [findAt];by_cases h1:k < p.rq.length
  ·rw [if_pos ⟨by omega,by omega⟩] at h;cases h;rw [if_pos h1,show 2*i / 2=i by omega,show 2*i % 2=0 by omega];rfl
  ·rw [if_neg (λhh=> h1 (by omega))] at h;rw [if_neg h1];by_cases h2:k < p.rq.length+p.an.length
   ·rw [if_pos ⟨by omega,by omega⟩] at h;cases h;rw [if_pos h2,show(2*i+1) / 2=i by omega,show(2*i+1) % 2=1 by omega];simp only [zaa,zac,true_and];exact⟨by simp,by omega⟩
   ·rw [if_neg (λhh=> h2 (by omega))] at h;rw [if_neg h2];rw [show(k:Int) - p.rq.length - p.an.length=((k - (p.rq.length+p.an.length):Nat):Int) by omega,show 2*i+1+1=2*(i+1) by omega] at h;exact PU l (i+1) _ h
theorem ak5 {b:Nat}{K:aj}{gk:Store}{r:Nat}{ys:List AV}(Gk:Good b K gk)(hk:K.base<=b)(hz:gk r=some (ys.map Cell.av))(hy:ys.length=2){y:List AV}(h9:y.length=2)(ha:y.all AV.aJ=true):
  ∃K',st 2 (.ref r 0 0) (.agg y) K=some (aK,K')/\Good b K' (upd gk r (y.map Cell.av))/\Step b K K':=by
 obtain⟨K',t1,t2,t3,t4⟩:=Gk.stores hk hz (i:=0) (n:=2) (vs:=y) (by simp [hy]) h9 ha;have e:jQ (ys.map Cell.av) 0 y=y.map Cell.av:=by
  unfold jQ;rw [zaN (by simp [h9,hy])];simp
 rw [e] at t2;exact⟨K',t1,t2,t3⟩
theorem WE {fab:Fab}{d:Nat}{req:Bool}{l:List Pkt}:(fab.put d ((fab.port d).lI req l)).jU=fab.jU:=by
 unfold Fab.jU Fab.put;rw [zaB];have key:∀(ls:List Port) (d:Nat),((ls.set d ((ls.getD d .zero).lI req l)).flatMap λp=> [p.rq,p.an])=ls.flatMap λp=> [p.rq,p.an]:=by
  intro ls
  induction ls with
  | nil=> intro d;rfl
  | cons p ls ih=>
   intro d;cases d with
   | zero=> cases req <;> simp [Port.lI]
   | succ d=> simpa using ih d
 have:=key fab.l d;unfold Fab.port;rw [zaB];exact this
theorem PV:∀(ls:List Port) (j:Nat) {l:List Pkt},(ls.flatMap λp=> [p.rq,p.an])[j]?=some l->(ls.getD (j / 2) .zero).sort (decide (j % 2=0))=l
 | [],j,l,h=> by simp at h
 | p::ls,0,l,h=> by simpa [Port.sort] using h
 | p::ls,1,l,h=> by simpa [Port.sort] using h
 | p::ls,j+2,l,h=> by
  have h':(ls.flatMap λp=> [p.rq,p.an])[j]?=some l:=by simpa using h
  have:=PV ls j h';rw [show(j+2) / 2=j / 2+1 by omega,show(j+2) % 2=j % 2 by omega]
  simpa using this
section
variable {b:Nat}{H:aj}{g:Store}{f:Nat}{P:Nat->Nat->Nat}{c:Cfg}{fab:Fab}
theorem QZ(G:Good b H g)(hb:H.base<=b)(F:dU g f P c fab)(J:MG P fab.l.length)(K:FOk c fab)(h0:fab.l.length≠0)(hfit:∀p∈fab.all,p.fit/\fab.is p.dst=true){at_ bit mask:Int}(h64:In64 at_)(hbit:In64 bit)(m0:0<=mask)(m1:mask<=65535):
  ∃H' g',cl 35 [.ref f 0 0,I at_,I bit,.s (.int .u16 mask)] H=some (I (fab.deliver at_ bit mask).2,H')/\Good b H' g'/\dU g' f P c (fab.deliver at_ bit mask).1/\Off (JO P fab.l.length) g g'/\Step b H H':=by
 have hb0:H.base<=H.next:=zav hb G.1
 have WG:∀l∈fab.jU,l.length < 1000/\∀p∈l,p.data.length < 1000000000:=by
  intro l hl;unfold Fab.jU at hl;obtain⟨p,hp,hl⟩:=zbl.1 hl;simp only [zal,zaF,or_false] at hl;rcases hl with rfl | rfl
  ·exact⟨K.small hp (s:=0) (by decide),K.dat p hp 0 (by decide)⟩
  ·exact⟨K.small hp (s:=2) (by decide),K.dat p hp 2 (by decide)⟩
 have e1:=VB G F K.len h0 WG at_ h64;have hn0:g H.next=none:=G.isNone (zab _)
 have G1:=G.newObj (ty:=70) (xs:=zP9) rfl;obtain⟨K1,s1,l1,G2,S2⟩:=acW G1 (by rw [bNew];exact hb) upd_same rfl (y:=((fab.pkt at_).getD .zero).av) (aT _) (aG _);rw [kE] at G2;have S02:=(Step.new (.blk 0 70 zP9) G.1).trans S2;cases hp:fab.pkt at_ with
 | none=>
  have hd:fab.deliver at_ bit mask=(fab,3):=by
   unfold Fab.deliver;unfold Fab.pkt at hp;split at hp
   ·rename_i h;rw [if_pos h]
   ·rename_i h;rw [if_neg h,hp]
  rw [hd];rw [hp] at e1 s1;refine⟨K1,g,aN rfl rfl (X5 _ _ _ _ _ _ ?_),G2.sub ((nV.refl g).more hn0 _),F,Off.refl _ _,S02⟩;simp only [dZ,zaR,zaC] at e1 s1;simp -implicitDefEqProofs only [xq_,Ug,e1,s1,zak]
 | some p=>
  rw [hp] at e1 s1 l1 G2;simp only [dZ,zas,zaE] at e1 s1 l1 G2;have hat:¬at_ < 0:=by
   intro h;unfold Fab.pkt at hp;rw [if_pos h] at hp;cases hp
  have hall:fab.all[at_.toNat]?=some p:=by
   unfold Fab.pkt at hp
   rwa [if_neg hat] at hp
  obtain⟨pf,pd⟩:=hfit p (zaK hall);have e2:=ada K1 pf hbit m0 m1;have hd:fab.deliver at_ bit mask=if turns p.bytes bit mask=true then(fab,2) else
    if fab.room (Bo p.kind)<=((fab.port p.dst).qO (Bo p.kind)).length then(fab,5) else
    ((fab.put p.dst ((fab.port p.dst).lI (Bo p.kind) ((fab.port p.dst).qO (Bo p.kind)++[p]))).remove at_.toNat,0):=by
   unfold Fab.deliver;rw [if_neg hat,hall]
  have hk1:K1.base<=b:=by rw [S02.base];exact hb
  by_cases ht:turns p.bytes bit mask=true
  ·rw [if_pos ht] at e2 hd;rw [hd];obtain⟨K2,s3,l3,G3,S3⟩:=acW G2 hk1 upd_same (aT _) (y:=Pkt.zero.av) (aT _) (aG _);rw [kE] at G3;refine⟨K2,g,aN rfl rfl (X5 _ _ _ _ _ _ ?_),G3.sub ((nV.refl g).more hn0 _),F,Off.refl _ _,S02.trans S3⟩;simp -implicitDefEqProofs only [Int.reduceEq,xq_,Ug,e1,s1,zae,l1,e2,s3,zak]
  rw [if_neg ht] at e2 hd;rw [hd];obtain⟨K2,s3,l3,G3,S3⟩:=acW G2 hk1 upd_same (aT _) (y:=p.av) (aT _) (aG _);rw [kE] at G3;have S03:=S02.trans S3;have F3:=F.sub ((nV.refl g).more hn0 (p.av.map Cell.av));obtain⟨d,hdd,hdl⟩:=wO pd;obtain⟨x,r,gg,o,h1,h2,h3⟩:=wP G3 F3 hdl;have hdst:ld (.ref H.next 0 2) K2=some (I p.dst,K2):=G3.load upd_same (i:=2) rfl;have hkind:ld (.ref H.next 0 0) K2=some (I p.kind,K2):=G3.load upd_same (i:=0) rfl;let req:=Bo p.kind;have rq:=Eu K2.guard p.kind;obtain⟨K3,t1,t2⟩:=zY K2.guard (zab _) (P d) req;obtain⟨K3,t1,t2⟩:=drawn t1 t2;have G4:=G3.ext t2.next t2.same
  have hk3:K3.base<=b:=by rw [t2.base,S03.base];exact hb
  have S34:Step b K2 K3:=⟨t2.base,t2.next,λr hr=> t2.same r (zat hr G3.1)⟩
  have l9:lda 9 (.ref H.next 0 0) K3=some (.agg p.av,K3):=G4.loads upd_same (i:=0) (n:=9) (xs:=p.av) rfl rfl (by decide);have hbx:=eH (F3.port hdl) (nR req);have hR:=ED K.ok (iIx req);obtain⟨K4,q1,q2,q3⟩:=Ya G4 hk3 hbx hR.1 hR.2 (K.small (Fab.qA hdl) (nR req)) p (by have:=pf.ok;simp only [Pkt.ok,zaj,decide_eq_true_eq] at this;omega);rw [CB] at q1 q2;have hroom:GZ c (iIx req)=fab.room req:=by
   have ak6:fab.inn=c.inn:=F.2.2.2;unfold Fab.room;cases req <;> simp [iIx,GZ,ak6]
  have hle:=K.box _ (Fab.qA hdl) _ (nR req);rw [CB] at hle;have f1:(YG (P d) req)[1]?=some (.ref (P d (iIx req)) 0 0):=rfl;have S04:=(S03.trans S34).trans q3;have hk4:K4.base<=b:=by rw [S04.base];exact hb
  have hdp:p.dst=(d:Int):=hdd;have hpn:P d (iIx req)≠H.next:=λe=> F.MR G ⟨d,iIx req,hdl,nR req,e.symm⟩
  by_cases hfull:GZ c (iIx req)=(((fab.port d).qO req).length:Int)
  ·rw [if_pos hfull] at q1 q2;rw [if_pos (show fab.room (Bo p.kind)<=((fab.port p.dst).qO (Bo p.kind)).length by rw [hdp];show fab.room req<=_;rw [<-hroom];exact Int.le_of_eq hfull)];rw [dH (by rw [hbx,CB])] at q2;refine⟨K4,g,aN rfl rfl (X5 _ _ _ _ _ _ ?_),q2.sub ((nV.refl g).more hn0 _),F,Off.refl _ _,S04⟩;rw [hdp] at hdst;simp only [req] at rq t1 f1 q1;simp -implicitDefEqProofs only [Int.reduceEq,xq_,Ug,e1,s1,zae,l1,e2,s3,h1,hdst,h2,h3,hkind,rq,t1,f1,l9,q1,zak]
  ·rw [if_neg hfull] at q1 q2;rw [if_neg (show¬fab.room (Bo p.kind)<=((fab.port p.dst).qO (Bo p.kind)).length by rw [hdp];show¬fab.room req<=_;rw [<-hroom];exact λh=> hfull (Int.le_antisymm h hle))];have F4:=F3.fill J hdl (nR req) (p':=(fab.port d).lI req ((fab.port d).qO req++[p])) (l:=(fab.port d).qO req++[p]) (yg _ _ _);rw [hdp];show∃H' g',_/\_/\dU g' f P c ((fab.put d ((fab.port d).lI req ((fab.port d).qO req++[p]))).remove at_.toNat)/\_/\_;generalize adb:fab.put d ((fab.port d).lI req ((fab.port d).qO req++[p]))=GV at*;have ahV:GV.jU=fab.jU:=by rw [<-adb];exact WE
   have hlen1:GV.l.length=fab.l.length:=by rw [<-adb];simp [Fab.put]
   have e5:=VA q2 F4 (by rw [hlen1];exact K.len) (by rw [hlen1];exact h0) (λl hl=> (WG l (by rw [<-ahV];exact hl)).1) at_ h64;rw [ahV] at e5;cases hf:rY fab.jU 0 at_ with
   | none=>
    exfalso;have:=xZ hf;rw [show fab.jU.flatten=fab.all from x8 fab.l] at this;have h2:=(zam.1 hall).1;omega
   | some jk=>
    obtain⟨j,k⟩:=jk;rw [hf] at e5;obtain⟨_,l,z2,z3,z4,z5,z6⟩:=oP hf;rw [Nat.sub_zero] at z2;have hj:j < 2*fab.l.length:=by
     have:=(zam.1 z2).1
     rwa [Fab.jU,qo] at this
    have hj2:j / 2 < GV.l.length:=by rw [hlen1];omega
    obtain⟨kn,rfl⟩:∃kn:Nat,k=kn:=⟨k.toNat,by omega⟩
    have hfa:findAt GV.l 0 at_.toNat=some (j / 2,decide (j % 2=0),kn):=by
     have hh:=PU GV.l 0 at_.toNat (j:=j) (k':=kn) (by
      show rY GV.jU 0 _=_;rw [ahV,Int.toNat_of_nonneg (by omega)];exact hf)
     simpa using hh
    have ex1:rZ P (some (j,(kn:Int)))=.tup [.agg (iQ P j),I kn,B true]:=rfl;rw [ex1] at e5;let rq2:Bool:=decide (j % 2=0);have hP:(if j % 2=0 then 0 else 2)=oIx rq2:=by
     by_cases h:j % 2=0 <;> simp [rq2,h,oIx]
    have hp3:=Vz F4 (j:=j) (l:=l) (by rw [ahV];exact z2);rw [hP] at hp3;have hq4:=eH (F4.port hj2) (oV rq2);have hl:(GV.port (j / 2:Nat)).sort rq2=l:=by
     have:=PV GV.l j (show GV.jU[j]?=some l by rw [ahV];exact z2);unfold Fab.port;rw [zaB];exact this
    have hkl:kn < l.length:=by omega
    obtain⟨hl3,hd3⟩:=WG l (zaK z2);have n4:(upd (upd g H.next (p.av.map Cell.av)) (P d (iIx req)) (jY ((fab.port d).qO req++[p]) (GZ c (iIx req)))) K4.next=none:=q2.isNone (zab _)
    have G5:=q2.newObj (ty:=115) (xs:=[zP,zP]) rfl;obtain⟨K5,u1,G6,S6⟩:=ak5 G5 (by rw [bNew];exact hk4) upd_same rfl (y:=iQ P j) rfl rfl;rw [kE] at G6;have u2:ld (.ref K4.next 0 0) K5=some (.ref (P (j / 2) (oIx rq2)) 0 0,K5):=by
     refine G6.load upd_same (i:=0) ?_;rw [<-hP];rfl
    have S05:=(S04.trans (Step.new _ q2.1)).trans S6;have hk5:K5.base<=b:=by rw [S05.base];exact hb
    have hne:P (j / 2) (oIx rq2)≠K4.next:=λe=> by rw [e,n4] at hp3;cases hp3
    obtain⟨v,K6,y1,G7,S7⟩:=QM G6 hk5 (by rw [upd_ne hne];exact hp3) hl3 hd3 kn hkl;have hJ1:MG P GV.l.length:=by rw [hlen1];exact J
    have F7:=F4.fill hJ1 hj2 (oV rq2) (p':=(GV.port (j / 2:Nat)).drop rq2 kn) (l:=l.eraseIdx kn) (by
     intro t ht;have:=uU (GV.port (j / 2:Nat)) rq2 (l.eraseIdx kn) t ht;unfold Port.drop;rw [hl];exact this)
    have ajV:GV.remove at_.toNat=GV.put (j / 2:Nat) ((GV.port (j / 2:Nat)).drop rq2 kn):=by
     unfold Fab.remove;rw [hfa]
    rw [ajV];rw [nP] at F7;let g':=upd (upd g (P d (iIx req)) (jY ((fab.port d).qO req++[p]) (GZ c (iIx req)))) (P (j / 2) (oIx rq2)) (jY (l.eraseIdx kn) c.out);have ne2:P (j / 2) (oIx rq2)≠H.next:=λe=> F.MR G ⟨j / 2,oIx rq2,by omega,oV rq2,e.symm⟩
    have ak7:nV g' (upd (upd (upd g H.next (p.av.map Cell.av)) (P d (iIx req)) (jY ((fab.port d).qO req++[p]) (GZ c (iIx req)))) (P (j / 2) (oIx rq2)) (jY (l.eraseIdx kn) c.out)):=(((nV.refl g).more hn0 _).both _ _).both _ _;have F8:dU g' f P c (GV.put (j / 2:Nat) ((GV.port (j / 2:Nat)).drop rq2 kn)):=by
     have hJ:MG P fab.l.length:=J;have A:=F.fill J hdl (nR req) (p':=(fab.port d).lI req ((fab.port d).qO req++[p])) (l:=(fab.port d).qO req++[p]) (yg _ _ _);rw [adb] at A;have B:=A.fill hJ1 hj2 (oV rq2) (p':=(GV.port (j / 2:Nat)).drop rq2 kn) (l:=l.eraseIdx kn) (by
      intro t ht;have:=uU (GV.port (j / 2:Nat)) rq2 (l.eraseIdx kn) t ht;unfold Port.drop;rw [hl];exact this)
     rw [nP] at B;exact B
    refine⟨K6,g',aN rfl rfl (X5 _ _ _ _ _ _ ?_),G7.sub λq cs hq=> ?_,F8,(Off.upd ⟨d,iIx req,hdl,nR req,rfl⟩).trans (Off.upd ⟨j / 2,oIx rq2,by omega,oV rq2,rfl⟩),S05.trans S7⟩
    ·rw [hdp] at hdst;simp only [req] at rq t1 f1 q1;simp -implicitDefEqProofs only [xq_,Ug,e1,s1,zae,l1,e2,s3,h1,hdst,h2,h3,hkind,rq,t1,f1,l9,q1,e5,u1,u2,y1]
    ·have:=ak7 q cs hq;by_cases e:q=P (j / 2) (oIx rq2)
     ·subst e;rw [upd_same] at this ⊢;exact this
     ·rw [upd_ne e] at this ⊢;have h4:q≠K4.next:=λe'=> by rw [e',n4] at this;cases this
      rw [upd_ne h4];exact this
end
def DX(f:Fab):Prop:=∀p∈f.l,∀q,q∈p.rq∨q∈p.an->f.is q.dst=true
theorem ahW(f:Fab)(i:Int)(p:Port)(k:Int):(f.put i p).is k=f.is k:=by
 unfold Fab.is Fab.put;simp
theorem DX.put {f:Fab}(D:DX f)(i:Int){p:Port}(h:∀q,q∈p.rq∨q∈p.an->f.is q.dst=true):DX (f.put i p):=by
 intro x hx q hq;rw [ahW];unfold Fab.put at hx;rcases List.mem_or_eq_of_mem_set hx with hx | rfl
 ·exact D x hx q hq
 ·exact h q hq
theorem DX.at {f:Fab}(D:DX f)(i:Int):∀q,q∈(f.port i).rq∨q∈(f.port i).an->f.is q.dst=true:=by
 intro q hq;unfold Fab.port at hq;rw [zaG] at hq;cases h:f.l[i.toNat]? with
 | none=> rw [h] at hq;simp [Port.zero] at hq
 | some p=> rw [h] at hq;exact D p (zaK h) q hq
theorem DX.send {f:Fab}(D:DX f)(p:Pkt):DX (f.send p).1:=by
 unfold Fab.send;split
 ·exact D
 ·rename_i hc;split
  ·exact D
  ·refine D.put _ λq hq=> ?_;have hd:f.is p.dst=true:=by
    cases h:f.is p.dst with
    | true=> rfl
    | false=> simp [h] at hc
   cases hk:Bo p.kind with
   | true=>
    rw [hk] at hq;simp only [Port.kZ,Port.sort,if_true,zaZ,zaO] at hq;rcases hq with(hq | rfl) | hq
    ·exact D.at _ q (.inl hq)
    ·exact hd
    ·exact D.at _ q (.inr hq)
   | false=>
    rw [hk] at hq;simp only [Port.kZ,Port.sort,zaf,if_false,zaZ,zaO] at hq;rcases hq with hq | hq | rfl
    ·exact D.at _ q (.inl hq)
    ·exact D.at _ q (.inr hq)
    ·exact hd
theorem DX.lI {f:Fab}(D:DX f)(i:Int)(req:Bool)(l:List Pkt):DX (f.put i ((f.port i).lI req l)):=by
 refine D.put _ λq hq=> D.at i q ?_;cases req <;> exact hq
theorem DX.take {f:Fab}(D:DX f)(i:Int)(req:Bool):DX (f.take i req).1:=by
 unfold Fab.take;split
 ·split
  ·exact D
  ·exact D.lI _ _ _
 ·exact D
theorem DX.remove {f:Fab}(D:DX f)(k:Nat):DX (f.remove k):=by
 unfold Fab.remove;split
 ·refine D.put _ λq hq=> ?_;rename_i i req k' _;refine D.at i q ?_;cases req with
  | true=>
   simp only [Port.drop,Port.kZ,Port.sort,if_true] at hq;exact hq.imp List.mem_of_mem_eraseIdx id
  | false=>
   simp only [Port.drop,Port.kZ,Port.sort,zaf,if_false] at hq;exact hq.imp id List.mem_of_mem_eraseIdx
 ·exact D
theorem DX.deliver {f:Fab}(D:DX f)(a b k:Int):DX (f.deliver a b k).1:=by
 unfold Fab.deliver;split
 ·exact D
 split
 ·exact D
 split
 ·exact D
 split
 ·exact D
 ·exact(D.lI _ _ _).remove _
theorem DX.all {f:Fab}(D:DX f):∀p∈f.all,f.is p.dst=true:=by
 intro p hp;unfold Fab.all at hp;obtain⟨q,hq,hp⟩:=zbl.1 hp;rcases zaZ.1 hp with hp | hp
 ·exact D q hq p (.inl hp)
 ·exact D q hq p (.inr hp)
theorem DX.new(c:Cfg):DX (.new c):=by
 intro p hp q hq;rw [Fab.new,List.mem_replicate] at hp;rw [hp.2] at hq;simp [Port.zero] at hq
structure NX(T:Nat)(n:Node):Prop where
 Rn:0<=n.num
 num1:n.num < 4096
 dat:n.deal.data.length<=4
 ws:∀line,(n.home.turns.ws line).length<=T
theorem NX.mono {T T':Nat}{n:Node}(h:NX T n)(hT:T<=T'):NX T' n:=⟨h.Rn,h.num1,h.dat,λl=> zav (h.ws l) hT⟩
section
variable {d:bf}{ca:Cache}{p:Pkt}{me:Int}
theorem findLe(hc:∀e∈ca.l,e.data.length<=4){line:Int}{e:Ent}(h:ca.find line=some e):e.data.length<=4:=by
 unfold Cache.find at h;exact hc e (zaX h)
theorem WH(hd:d.data.length<=4)(hp:p.data.length<=4):(bJ d me ca p).2.1.data.length<=4:=by
 unfold bJ mQ
 repeat' split
 all_goals first
  | exact hd
  | exact hp
  | exact zaQ _
  | (show List.length (if _ then _ else _)<=4;split <;> first | exact hp | exact zaQ _)
theorem yN(hd:d.data.length<=4):(aX d me ca).2.data.length<=4:=by
 unfold aX;simp only
 repeat' split
 all_goals first
  | exact hd
  | exact zaQ _
theorem YU(hc:∀e∈ca.l,e.data.length<=4)(hd:d.data.length<=4)(hp:p.data.length<=4):(bM d me ca p).2.1.data.length<=4:=by
 unfold bM mQ;split
 ·exact zaQ _
 split
 ·refine yN ?_;cases h:ca.find d.line with
  | none=> exact hp
  | some e=> exact findLe hc h
 split
 ·refine yN ?_;cases h:ca.find d.line with
  | none=> exact hp
  | some e=> exact hd
 split
 ·exact hd
 ·exact zaQ _
theorem ade(hc:∀e∈ca.l,e.data.length<=4)(hd:d.data.length<=4):(bW d ca p).2.1.data.length<=4:=by
 unfold bW mQ eF;split
 ·exact zaQ _
 split
 ·simp only;split
  ·exact zaQ _
  ·rename_i e h;split
   ·show List.length (if e.dirty=true then e.data else [])<=4;split
    ·exact findLe hc h
    ·exact zaQ _
   ·split <;> exact zaQ _
 repeat' split
 all_goals first
  | exact hd
  | exact zaQ _
end
section
variable {T:Nat}{n:Node}{c:Cfg}{me:Int}{f:Fab}{t:List Evn}
theorem WI(h:NX T n)(v:Int):NX T (n.done me t v).1:=⟨h.Rn,h.num1,h.dat,h.ws⟩
theorem J8(h:NX T n):NX T (n.effect c me t).1:=⟨h.Rn,h.num1,h.dat,h.ws⟩
theorem Aa(h:NX T n)(kind line:Int):NX T (n.begin_ c me f kind line).1:=by
 have h0:=h.Rn;have h1:(n.num+1).tmod 4096=(n.num+1) % 4096:=zbv (by omega);refine⟨?_,?_,zaQ _,h.ws⟩
 ·show 0<=(n.num+1).tmod 4096;omega
 ·show(n.num+1).tmod 4096 < 4096;omega
theorem Ac {n:Node}(h:DX f)(kind line:Int):DX (n.begin_ c me f kind line).2:=h.send _
theorem WJ {n:Node}(h:DX f):DX (n.LP c me f):=h.send _
theorem YV(hc:∀e∈n.cache.l,e.data.length<=4)(h:NX T n){p:Pkt}(hp:p.data.length<=4):(n.after me p).2.1.data.length<=4:=by
 unfold Node.after mQ
 repeat' split
 ·exact WH h.dat hp
 ·exact YU hc h.dat hp
 ·exact ade hc h.dat
 ·exact zaQ _
theorem Q5(hc:∀e∈n.cache.l,e.data.length<=4)(h:NX T n)(D:DX f){p:Pkt}(hp:p.data.length<=4):NX T (n.answered c me f t p).1/\DX (n.answered c me f t p).2.1:=by
 have hd:=YV (me:=me) hc h hp;unfold Node.answered;split;rename_i ca d ok e;rw [e] at hd;have h1:NX T { n with cache:=ca,deal:=d }:=⟨h.Rn,h.num1,hd,h.ws⟩
 split
 ·exact⟨⟨h.Rn,h.num1,h.dat,h.ws⟩,D⟩
 ·simp only;split
  ·split
   ·exact⟨WI (me:=me) (t:=t) h1 0,D⟩
   ·exact⟨h1,D⟩
  ·split
   ·exact⟨J8 (c:=c) (me:=me) (t:=t) h1,WJ D⟩
   ·exact⟨h1,WJ D⟩
theorem aa8 {t:Turns}(h:∀line,(t.ws line).length<=T)(line who id:Int):∀l,((t.ask line who id).1.ws l).length<=T+1:=by
 intro l;unfold Turns.ask;split
 ·exact zbI (h l)
 split
 ·unfold Turns.ws;simp only;rw [jl];split
  ·rw [zas,zan];exact Nat.succ_le_succ (h line)
  ·exact zbI (h l)
 ·exact zbI (h l)
theorem Q7 {t:Turns}(h:∀line,(t.ws line).length<=T)(line who:Int):∀l,((t.release line who).1.ws l).length<=T:=by
 intro l;unfold Turns.release;split <;> exact h l
theorem adf {t:Turns}(h:∀line,(t.ws line).length<=T)(line:Int):∀l,((t.next line).1.ws l).length<=T:=by
 intro l;unfold Turns.next
 split
 ·exact h l
 split
 ·exact h l
 ·rename_i w ws e;have hh:=h line;rw [e] at hh;unfold Turns.ws;simp only;rw [jl];split
  ·rw [zas];exact Nat.le_of_succ_le hh
  ·exact h l
theorem WL {hm:Home}(h:∀line,(hm.turns.ws line).length<=T)(p:Pkt):∀l,((hm.handle c me p).1.turns.ws l).length<=T+1:=by
 have h':∀l,(hm.turns.ws l).length<=T+1:=λl=> zbI (h l);unfold Home.handle;split
 ·exact h'
 split
 ·exact h'
 split
 ·simp only;split
  ·exact aa8 h _ _ _
  ·exact aa8 h _ _ _
 ·have hu:∀l,((hm.unlock c p).1.turns.ws l).length<=T+1:=by
   unfold Home.unlock;split
   ·exact h'
   ·simp only;generalize setRow c hm.rows p.line p.state p.ptr (if p.flag then p.data else [])=r;split
    ·exact λl=> zbI (Q7 h _ _ l)
    ·exact h'
  simp only;split <;> exact hu
theorem YW {hm:Home}(h:∀line,(hm.turns.ws line).length<=T):∀l,((hm.grant me).1.turns.ws l).length<=T:=by
 unfold Home.grant;split
 ·exact h
 ·rename_i line _ _;have hn:=adf h line;split
  ·rename_i e;rw [e] at hn;exact hn
  ·exact h
theorem adg(h:NX T n)(D:DX f)(p:Pkt):NX (T+1) (n.asked c me f p).1/\DX (n.asked c me f p).2:=by
 unfold Node.asked;split
 ·have hw:=WL (c:=c) (me:=me) h.ws p;split;rename_i hm out ok e he;rw [he] at hw;refine⟨⟨h.Rn,h.num1,h.dat,hw⟩,?_⟩;simp only;split
  ·exact D.send _
  ·exact D
 ·split;refine⟨⟨h.Rn,h.num1,h.dat,λl=> zbI (h.ws l)⟩,?_⟩;simp only;split
  ·exact D.send _
  ·exact D
theorem ahX(h:NX T n)(D:DX f)(o:Opn):NX T (n.work c me f t o).1/\DX (n.work c me f t o).2.1:=by
 have h1:NX T { n with proc:={ n.proc with begun:=true } }:=⟨h.Rn,h.num1,h.dat,h.ws⟩
 unfold Node.work;simp only;split
 ·exact⟨WI (me:=me) (t:=t) h1 0,D⟩
 split
 ·exact⟨Aa (c:=c) (me:=me) (f:=f) h1 _ _,Ac D _ _⟩
 split
 ·exact⟨J8 (c:=c) (me:=me) (t:=if n.proc.begun then t else t++[⟨me,n.proc.values.length,false,0⟩]) ⟨h.Rn,h.num1,h.dat,h.ws⟩,D⟩
 split
 ·exact⟨Aa (c:=c) (me:=me) (f:=f) h1 _ _,Ac D _ _⟩
 split
 ·exact⟨Aa (c:=c) (me:=me) (f:=f) h1 _ _,Ac D _ _⟩
 ·exact⟨Aa (c:=c) (me:=me) (f:=f) h1 _ _,Ac D _ _⟩
theorem aa9(hc:∀e∈n.cache.l,e.data.length<=4)(hf:∀i req p,(f.take i req).2=some p->p.data.length<=4)(h:NX T n)(D:DX f):NX (T+1) (n.step c me f t).1.1/\DX (n.step c me f t).1.2.1:=by
 have h':=h.mono (za2 T);unfold Node.step;split
 ·rename_i f' p e;have D':=D.take me false;have hp:=hf me false p (by rw [e]);rw [e] at D';obtain⟨a,b⟩:=Q5 (c:=c) (me:=me) (t:=t) hc h' D' hp;exact⟨a,b⟩
 ·split
  ·exact⟨⟨h.Rn,h.num1,h.dat,λl=> zbI (YW h.ws l)⟩,D.send _⟩
  ·split
   ·rename_i f' p e;have D':DX f':=by
     split at e
     ·cases e
     ·have:=D.take me true;rw [e] at this;exact this
    exact adg h D' p
   ·split
    ·split
     ·exact ahX h' D _
     ·exact⟨h',D⟩
    ·exact⟨h',D⟩
end
structure MX(T:Nat)(m:gQ):Prop where
 inv:MInv m
 sim:∃r,WY m r
 dst:DX m.fab
 node:∀(i:Nat) n,m.nodes[i]?=some n->NX T n
theorem MX.mono {T T':Nat}{m:gQ}(h:MX T m)(hT:T<=T'):MX T' m:=⟨h.inv,h.sim,h.dst,λi n hn=> (h.node i n hn).mono hT⟩
theorem BI.le {c:Cfg}(hc:c.ok=true){ca:Cache}(I:BI c ca):∀e∈ca.l,e.data.length<=4:=by
 intro e he;have h1:=(I.ent e he).dat;have h2:=(Jb hc).2.2.1;have:=h1.1;omega
theorem MX.step {T:Nat}{m:gQ}(X:MX T m)(i:Int):MX (T+1) (m.step i).1:=by
 obtain⟨r,S⟩:=X.sim;obtain⟨h1,h2,h3⟩:=Ws S X.inv i;refine⟨h2,⟨_,h1⟩,?_,?_⟩
 ·unfold gQ.step;split
  ·exact X.dst
  ·rename_i n hn;split;rename_i n' f t k e;unfold gQ.node at hn;split at hn
   ·rename_i hi;have NI:=X.inv.node _ n hn;have:=(aa9 (c:=m.c) (me:=i) (t:=m.trace) (NI.cache.le X.inv.ok) (λi req p hp=> by
     have:=((X.inv.fab.take i req).2 p hp).ok;simp only [Pkt.ok,zaj,decide_eq_true_eq] at this;omega) (X.node _ n hn) X.dst).2
    rw [e] at this;exact this
   ·cases hn
 ·intro j n hj;unfold gQ.step at hj;split at hj
  ·exact(X.node j n hj).mono (za2 T)
  ·rename_i n0 hn;split at hj;rename_i n' f t k e;unfold gQ.node at hn;split at hn
   ·rename_i hi;simp only at hj;rw [List.getElem?_set] at hj;split at hj
    ·split at hj
     ·cases hj;have NI:=X.inv.node _ n0 hn;have:=(aa9 (c:=m.c) (me:=i) (t:=m.trace) (NI.cache.le X.inv.ok) (λi req p hp=> by
       have:=((X.inv.fab.take i req).2 p hp).ok;simp only [Pkt.ok,zaj,decide_eq_true_eq] at this;omega) (X.node _ n0 hn) X.dst).1
      rw [e] at this;exact this
     ·cases hj
    ·exact(X.node j n hj).mono (za2 T)
   ·cases hn
theorem MX.deliver {T:Nat}{m:gQ}(X:MX T m)(a b k:Int):MX T (m.deliver a b k).1:=by
 obtain⟨r,S⟩:=X.sim;obtain⟨h1,h2,h3⟩:=JZ S X.inv a b k;exact⟨h2,⟨_,h1⟩,X.dst.deliver a b k,X.node⟩
def ak8(A:Adr)(k n:Nat)(q:Nat):Prop:=(∃i s,i < k/\s < 6/\q=A.N i s)∨JO A.P n q∨q=A.trace
section
variable {b:Nat}{H:aj}{g g':Store}{A:Adr}{m:gQ}{T:Nat}
theorem evs_le {m:gQ}(I:MInv m):m.trace.length<=1000:=by
 have B:=Gt I.ok;have hl:=I.len;have:∀(l:List Node),(∀n∈l,Node.evs n<=49)->(l.map Node.evs).sum<=49*l.length:=by
  intro l
  induction l with
  | nil=> intro _;simp
  | cons n l ih=>
   intro h;have h1:=h n (by simp);have h2:=ih λx hx=> h x (by simp [hx]);simp only [zaz,List.sum_cons,zai];omega
 have h1:=this m.nodes λn hn=> by
  obtain⟨i,hi⟩:=List.mem_iff_getElem?.1 hn;have P:=(I.node i n hi).proc;have:=P.most;have:=P.vals;unfold Node.evs;split <;> omega
 rw [I.evs];have:=B.nodes;omega
def ak9(A:Adr)(i:Nat):zZ:=⟨A.N i,A.fab,A.P,A.trace⟩
theorem rW.nw(M:rW g A m){i:Nat}{n:Node}(hi:m.nodes[i]?=some n):NW g (ak9 A i) m.c i (n,m.fab,m.trace):=⟨M.node i n hi,M.fab,M.trace,M.Pj,M.tf⟩
theorem rW.len(M:rW g A m)(I:MInv m):m.nodes.length=m.fab.l.length:=by
 have:=I.len;have:=I.fab.len;omega
end
theorem tC(c:Cfg)(me line:Int):∀n:Nat,gU (c.jX me n) line=if 0<=line/\line < n/\c.fK line=me then some ⟨0,-1,c.first line⟩ else none
 | 0=> by
  have:¬(0<=line/\line < ((0:Nat):Int)/\c.fK line=me):=by omega
  rw [if_neg this];rfl
 | n+1=> by
  simp only [Cfg.jX];by_cases h:c.fK n=me
  ·rw [if_pos h,jl,tC c me line n];by_cases e:(n:Int)=line
   ·subst e;rw [if_pos rfl,if_pos ⟨by omega,by omega,h⟩]
   ·rw [if_neg e];by_cases h2:0<=line/\line < n/\c.fK line=me
    ·rw [if_pos h2,if_pos ⟨h2.1,by omega,h2.2.2⟩]
    ·rw [if_neg h2,if_neg (λh3=> h2 ⟨h3.1,by omega,h3.2.2⟩)]
  ·rw [if_neg h,tC c me line n];by_cases h2:0<=line/\line < n/\c.fK line=me
   ·rw [if_pos h2,if_pos ⟨h2.1,by omega,h2.2.2⟩]
   ·rw [if_neg h2,if_neg (λh3=> h2 ⟨h3.1,(by
     have:line≠n:=λe=> h (by rw [<-e];exact h3.2.2);omega),h3.2.2⟩)]
theorem J9 {c:Cfg}(h:c.ok=true){line:Int}(h0:0<=line):c.fK line=line % c.nodes:=by
 unfold Cfg.fK yE;rw [if_neg (by omega)]
theorem PW {c:Cfg}(h:c.ok=true)(me:Int)(l:List Opn):aeB c me (.new c me l) (.new c l):=by
 have Bd:=Gt h;have hl:=Bd.lines;have hh:∀line,kJ c me line=true↔(0<=line/\line < c.lines.toNat/\c.fK line=me):=by
  intro line;simp only [kJ,zaj,decide_eq_true_eq];constructor
  ·rintro⟨⟨a,b⟩,d⟩;exact⟨a,by omega,by rw [J9 h a];exact d⟩
  ·rintro⟨a,b,d⟩;exact⟨⟨a,by omega⟩,by rw [<-J9 h a];exact d⟩
 refine⟨rfl,rfl,rfl,rfl,rfl,rfl,rfl,rfl,rfl,List.Pairwise.nil,List.Perm.refl _,λline Nh=> ?_,λline Nh=> ?_,λline=> rfl,λline=> rfl⟩
 ·have h1:=(hh line).1 Nh;refine⟨⟨0,-1,c.first line⟩,?_,?_⟩
  ·show gU (c.jX me c.lines.toNat) line=_;rw [tC,if_pos h1]
  ·show((List.range c.lines.toNat).map λ(i:Nat)=> (⟨0,-1,c.first (i:Int)⟩:Row))[line.toNat]?=_;rw [zaI,zbL (by omega)];simp only [zah];rw [show((line.toNat:Nat):Int)=line by omega]
 ·show gU (c.jX me c.lines.toNat) line=_;rw [tC,if_neg λh1=> by rw [(hh line).2 h1] at Nh;cases Nh]
theorem adh {c:Cfg}(h:c.ok=true){ps:List (List Opn)}:Sim (.new c ps) (.new c ps):=by
 refine⟨rfl,by simp [gQ.new,iK.new],rfl,rfl,λi n rn hn hr=> ?_⟩;simp only [gQ.new,za6,zbN] at hn;simp only [iK.new,zaI,zbN] at hr;obtain⟨l,hl,rfl⟩:=hn;obtain⟨l',hl',rfl⟩:=hr;rw [hl] at hl';cases hl';exact PW h i l
theorem rW.sub {g g':Store}{A:Adr}{m:gQ}(h:rW g A m)(hg:nV g g'):rW g' A m:=by
 refine⟨hg _ _ h.LM,hg _ _ h.trace,⟨hg _ _ h.fab.1,λi p hp=> ?_,h.fab.2.2⟩,λi n hn=> ?_,h.Pj,h.akT,h.tf⟩
 ·obtain⟨a,b,c,d⟩:=h.fab.2.1 i p hp;exact⟨hg _ _ a,hg _ _ b,hg _ _ c,hg _ _ d⟩
 ·obtain⟨a,b,c,d,e,f⟩:=h.node i n hn;exact⟨hg _ _ a,hg _ _ b,hg _ _ c,hg _ _ d,hg _ _ e,hg _ _ f⟩
theorem LK.sub {g g':Store}{q f:Nat}{N:Nat->Nat->Nat}{m:iK}(h:LK g q f N m)(hg:nV g g'):LK g' q f N m:=by
 have hd:∀{x l},oJ g x l->oJ g' x l:=λh=> h.sub λq cs hq _=> hg q cs hq;obtain⟨ls,f1,f2,f3⟩:=h.fab;refine⟨hg _ _ h.LM,⟨ls,hg _ _ f1,f2,λi l cells hl hc=> (f3 i l cells hl hc).mono λp cs _ ⟨x,a,b⟩=> ⟨x,hd a,b⟩⟩,λi n hn=> ?_,h.inj⟩;obtain⟨⟨d,⟨x,d1,d2⟩,h0⟩,⟨cells,k,h1⟩,⟨rows,r,h2⟩⟩:=h.node i n hn;exact⟨⟨d,⟨x,hd d1,d2⟩,hg _ _ h0⟩,⟨cells,k.mono λe cs _ ⟨x,a,b⟩=> ⟨x,hd a,b⟩,hg _ _ h1⟩,⟨rows,r.mono λe cs _ ⟨x,a,b⟩=> ⟨x,hd a,b⟩,hg _ _ h2⟩⟩
theorem GX {b n:Nat}{H1:aj}{g g':Store}(G:Good b H1 g)(hn:H1.next=n):nV g (cup n g g'):=λq cs hq=> jw G hq hn
theorem PX {b n:Nat}{H1:aj}{g g':Store}(G:Good b H1 g')(hn:n<=b):nV g' (cup n g g'):=λq cs hq=> lq G hq hn
theorem EJ:In64 0:=⟨by decide,by decide⟩
theorem YX {c:Cfg}(hc:c.ok=true)(hi:∀z∈c.init,In64 z){line:Int}(h:0<=line/\line < c.lines):lg c (c.first line):=by
 have B:=Gt hc;have hw:=B.words;unfold Cfg.first
 rw [if_neg (by omega)];refine⟨by rw [zaA,List.length_range];omega,λv hv=> ?_⟩;obtain⟨j,_,rfl⟩:=zaL.1 hv;rw [zaG];cases e:c.init[(line*c.words).toNat+j]? with
 | none=> exact⟨by decide,by decide⟩
 | some x=> exact hi x (zaK e)
theorem CQ(c:Cfg)(me:Int):∀n:Nat,∀e∈c.jX me n,0<=e.1/\e.1 < n/\e.2.data=c.first e.1
 | 0,e,h=> by cases h
 | n+1,e,h=> by
  simp only [Cfg.jX] at h;have ih:=CQ c me n;split at h
  ·have key:∀(l:List (Int × Row)) (k:Int) (x:Row),e∈lH l k x->e∈l∨(e.1=k/\e.2=x):=by
    intro l
    induction l with
    | nil=>
     intro k x hx;simp only [lH,zaO] at hx;right;rw [hx];exact⟨rfl,rfl⟩
    | cons a l ih=>
     obtain⟨k',v⟩:=a;intro k x hx;simp only [lH] at hx;split at hx
     ·rename_i hk;rcases zal.1 hx with rfl | hx
      ·exact .inr ⟨by first | rfl | exact hk | exact hk.symm,rfl⟩
      ·exact .inl (zbG _ hx)
     ·rcases zal.1 hx with rfl | hx
      ·exact .inl (List.mem_cons_self ..)
      ·rcases ih k x hx with hx | hx
       ·exact .inl (zbG _ hx)
       ·exact .inr hx
   rcases key _ _ _ h with h | ⟨h1,h2⟩
   ·have:=ih e h;exact⟨this.1,by omega,this.2.2⟩
   ·exact⟨by omega,by omega,by rw [h2,h1]⟩
  ·have:=ih e h;exact⟨this.1,by omega,this.2.2⟩
theorem ahY {c:Cfg}(hc:c.ok=true)(me:Int)(l:List Opn):NS c me (.new c me l) (.new c l):=⟨PW hc me l,List.Pairwise.nil,λo ho=> by cases ho⟩
theorem YZ {c:Cfg}(hc:c.ok=true){ps:List (List Opn)}:WY (.new c ps) (.new c ps):=by
 have S:=adh hc (ps:=ps);refine⟨rfl,by simp [gQ.new,iK.new],rfl,rfl,λi n rn hn hr=> ?_⟩;simp only [gQ.new,za6,zbN] at hn;simp only [iK.new,zaI,zbN] at hr;obtain⟨l,hl,rfl⟩:=hn;obtain⟨l',hl',rfl⟩:=hr;rw [hl] at hl';cases hl';exact ahY hc i l
theorem abb {c:Cfg}(hc:c.ok=true)(hi:∀z∈c.init,In64 z){ps:List (List Opn)}(hp:c.Qr ps=true)(hv:∀l∈ps,∀o∈l,c.right o=true/\I64 o.value):MX 0 (.new c ps):=by
 have B:=Gt hc;have hn:=B.nodes;have hb:=B.lines;obtain⟨h1,h2⟩:=Yp hp;refine⟨⟨hc,?_,?_,λi n hn=> ?_,?_⟩,⟨_,YZ hc⟩,DX.new c,λi n hn=> ?_⟩
 ·simp only [gQ.new,List.length_mapIdx];exact h1
 ·refine⟨rfl,rfl,?_,λp hp=> ?_⟩
  ·simp only [gQ.new,Fab.new,List.length_replicate];omega
  ·simp only [gQ.new,Fab.new,List.mem_replicate] at hp;rw [hp.2];have:=B.out;have:=B.inn;refine⟨by show((0:Nat):Int)<=c.out;omega,by show((0:Nat):Int)<=c.out;omega,by show((0:Nat):Int)<=c.inn;omega,by show((0:Nat):Int)<=1;omega,λq hq=> by simp [Port.zero] at hq⟩
 ·simp only [gQ.new,za6,zbN] at hn;obtain⟨l,hl,rfl⟩:=hn;have hm:=zaK hl;refine⟨⟨h2 l hm,hv l hm,zaQ _,λh=> by cases h⟩,⟨rfl,rfl,List.Pairwise.nil,List.Pairwise.nil,λe he=> (by cases he),λline=> ?_,zbs 0⟩,λe he=> ?_,⟨⟨List.Pairwise.nil,λe he=> (by cases he),List.Pairwise.nil,λe he=> (by cases he)⟩,λe he=> (by cases he)⟩,λh=> absurd rfl h,zbs 0⟩
  ·have:=B.ways;show(([]:List Ent).length:Int)<=c.ways;simp;omega
  ·obtain⟨r1,r2,r3⟩:=CQ c i _ e he;rw [r3];exact YX hc hi ⟨r1,by omega⟩
 ·have:∀n∈(gQ.new c ps).nodes,Node.evs n=0:=by
   intro n hn;simp only [gQ.new,List.mem_mapIdx] at hn;obtain⟨i,hi,rfl⟩:=hn;rfl
  have h0:∀l:List Node,(∀n∈l,Node.evs n=0)->(l.map Node.evs).sum=0:=by
   intro l
   induction l with
   | nil=> intro _;rfl
   | cons n l ih=>
    intro h;rw [zaz,List.sum_cons,h n (by simp),ih λx hx=> h x (by simp [hx])]
  rw [h0 _ this];rfl
 ·simp only [gQ.new,za6,zbN] at hn;obtain⟨l,hl,rfl⟩:=hn;exact⟨zbs 0,by show(0:Int) < 4096;decide,zaQ _,λline=> zab 0⟩
theorem rW.here {g:Store}{A:Adr}{m:gQ}(M:rW g A m){x:Nat}(h:ak8 A m.nodes.length m.fab.l.length x):∃cs,g x=some cs:=by
 rcases h with⟨i,s,hi,hs,rfl⟩ | ⟨i,s,hi,hs,rfl⟩ | rfl
 ·obtain⟨n,hn⟩:∃n,m.nodes[i]?=some n:=⟨_,zad hi⟩
  exact(M.node i n hn).some hs
 ·exact⟨_,eH (M.fab.port hi) hs⟩
 ·exact⟨_,M.trace⟩
structure Ro(b:Nat)(H:aj)(g:Store)(A:Adr)(m:gQ)(T:Nat):Prop where
 good:Good b H g
 base:H.base<=b
 LM:rW g A m
 keep:MX T m
section
variable {b:Nat}{H:aj}{g:Store}{A:Adr}{m:gQ}{T:Nat}
theorem Ro.new(R:Ro b H g A m T)(o:dL):Ro b (H.new o) g A m T:=⟨R.good.new o,by rw [bNew];exact R.base,R.LM,R.keep⟩
theorem Ro.loc(R:Ro b H g A m T){ty n:Nat}{xs ys:List AV}(hx:xs.length=n)(hy:ys.length=n)(hn:0 < n)(ax:xs.all AV.aJ=true)(ay:ys.all AV.aJ=true)(ht:ty < dV:=by decide):
  ∃K,st n (.ref H.next 0 0) (.agg ys) (H.new (.blk 0 ty xs))=some (aK,K)/\Ro b K (upd g H.next (ys.map Cell.av)) A m T/\lda n (.ref H.next 0 0) K=some (.agg ys,K):=by
 have G1:=R.good.newObj (ty:=ty) (xs:=xs) ax ht;obtain⟨K',t1,t2,t3,t4⟩:=G1.stores (by rw [bNew];exact R.base) upd_same (i:=0) (n:=n) (vs:=ys) (by rw [zaA,hx];omega) hy ay;have e:jQ (xs.map Cell.av) 0 ys=ys.map Cell.av:=by
  unfold jQ;rw [zaN (by rw [zaA,hx,hy];omega)];simp
 rw [e,kE] at t2;exact⟨K',t1,⟨t2,by rw [t3.base,bNew];exact R.base,R.LM.sub ((nV.refl g).more (R.good.isNone (zab _)) _),R.keep⟩,t2.loads upd_same (i:=0) (n:=n) (xs:=ys) (by rw [zaM,zax (by simp [hy])]) hy hn⟩
theorem Ro.fab(R:Ro b H g A m T):ld (.ref A.LM 0 0) H=some (.ref A.fab 0 0,H):=R.good.load R.LM.LM (i:=0) (x:=.ref A.fab 0 0) rfl
theorem Ro.trace(R:Ro b H g A m T):ld (.ref A.LM 0 1) H=some (.ref A.trace 0 0,H):=R.good.load R.LM.LM (i:=1) (x:=.ref A.trace 0 0) rfl
theorem Ro.guard(R:Ro b H g A m T):Good b H.guard g/\rW g A m:=⟨R.good.guard,R.LM⟩
end
structure Solo(b:Nat)(H:aj)(g:Store)(S:zZ)(m:gQ)(T:Nat):Prop where
 good:Good b H g
 base:H.base<=b
 nw:∃n,m.nodes=[n]/\NW g S m.c 0 (n,m.fab,m.trace)
 keep:MX T m
section
variable {b:Nat}{H:aj}{g:Store}{S:zZ}{m:gQ}{T:Nat}
theorem Solo.new(R:Solo b H g S m T)(o:dL):Solo b (H.new o) g S m T:=⟨R.good.new o,by rw [bNew];exact R.base,R.nw,R.keep⟩
theorem Solo.step(R:Solo b H g S m T)(hT:T < 999000):
  ∃H' g',cl 36 [.ref (S.a 0) 0 0,.ref S.f 0 0,.ref S.t 0 0] H=some (I (m.step 0).2,H')/\Solo b H' g' S (m.step 0).1 (T+1)/\Off (WX S m.fab.l.length) g g'/\Step b H H':=by
 obtain⟨n,hn,N⟩:=R.nw;have hi:m.nodes[0]?=some n:=by rw [hn];rfl
 have NX:=R.keep.node 0 n hi;have NI:=R.keep.inv.node 0 n hi;have W:=Walk.of R.good R.base N;obtain⟨K',g',e1,W'⟩:=YS W R.keep.inv.ok R.keep.inv.fab NI ⟨NX.Rn,by have:=NX.num1;show n.num < 1000000;omega⟩ (by have:=evs_le R.keep.inv;show m.trace.length < 999999;omega) (by have:=NX.dat;show n.deal.data.length < 1000000000;omega) (λline=> by have:=NX.ws line;show(n.home.turns.ws line).length < 1000000;omega);have hst:m.step 0=({ m with nodes:=m.nodes.set 0 (n.step m.c 0 m.fab m.trace).1.1,fab:=(n.step m.c 0 m.fab m.trace).1.2.1,trace:=(n.step m.c 0 m.fab m.trace).1.2.2 },(n.step m.c 0 m.fab m.trace).2):=by
  unfold gQ.step gQ.node;rw [if_pos (by omega),show(0:Int).toNat=0 from rfl,hi]
 refine⟨K',g',?_,⟨W'.loc.out,by rw [W'.step.base];exact R.base,?_,R.keep.step 0⟩,W'.off,W'.step⟩
 ·rw [hst];exact e1
 ·refine⟨(n.step m.c 0 m.fab m.trace).1.1,?_,?_⟩
  ·rw [hst];simp only [hn,zb1]
  ·rw [hst];exact W'.nw
theorem Solo.deliver(R:Solo b H g S m T){at_ bit mask:Int}(h64:In64 at_)(hbit:In64 bit)(m0:0<=mask)(m1:mask<=65535):
  ∃H' g',cl 35 [.ref S.f 0 0,I at_,I bit,.s (.int .u16 mask)] H=some (I (m.deliver at_ bit mask).2,H')/\Solo b H' g' S (m.deliver at_ bit mask).1 T/\Off (WX S m.fab.l.length) g g'/\Step b H H':=by
 obtain⟨n,hn,N⟩:=R.nw;have X:=R.keep;have B:=Gt X.inv.ok;have h0:m.fab.l.length≠0:=by have:=X.inv.fab.len;have:=B.nodes;omega
 obtain⟨H',g',e1,G',F',O',S'⟩:=QZ R.good R.base N.fab N.Pj (fok X.inv.ok X.inv.fab) h0 (λp hp=> ⟨⟨(X.inv.fab.pkt hp).ok,(X.inv.fab.pkt hp).num⟩,X.dst.all p hp⟩) h64 hbit m0 m1;have hlen:(m.fab.deliver at_ bit mask).1.l.length=m.fab.l.length:=by
  have h1:=(X.inv.fab.deliver at_ bit mask).len;have h2:=X.inv.fab.len;omega
 exact⟨H',g',e1,⟨G',by rw [S'.base];exact R.base,⟨n,hn,N.net F' hlen O'⟩,X.deliver _ _ _⟩,O'.mono λq h=> .inr (.inl h),S'⟩
end
def EK:Cfg:=⟨1,1,1,1,1,1,1,[5]⟩
theorem ahZ(H:aj):cl 31 [] H=some (.agg EK.av,H):=by
 have b1:∀H,bs 22 1 [(0,I 5)] H=some (.sl H.next 0 0 1 1 1 true,H.new (.blk 0 3 [I 5])):=λH=> (yR (by decide)).trans (iZ rfl rfl rfl);let cells:List AV:=[I 1,I 1,I 1,I 1,I 1,I 1,I 1,.sl (H.next+1) 0 0 1 1 1 true]
 have ca:cells.all AV.aJ=true:=rfl;have ev:bd 40 [(0,I 1),(1,I 1),(2,I 1),(3,I 1),(4,I 1),(5,I 1),(6,I 1),(7,.sl (H.next+1) 0 0 1 1 1 true)]=some (.agg cells):=by
  simp -implicitDefEqProofs only [xq_,adU,iV,dW,abJ];rfl
 have cc:(AV.agg cells).cells=cells:=rfl;have cl8:cells.length=8:=rfl;have tk8:cells.take 8=cells:=rfl;have hn:H.guard.next<=H.guard.next+1:=za2 _
 refine jc rfl rfl (aiQ _ _ (r:=(.agg cells,(H.guard.new (.blk 0 40 cells)).new (.blk 0 3 [I 5]))) ?_) ?_
 ·simp -implicitDefEqProofs only [Nat.reduceAdd,setAt,xq_,hq_,aeS,b1,ev,ca,cc,cl8,tk8]
 ·have h5:EK.av=[I 1,I 1,I 1,I 1,I 1,I 1,I 1,.vs 1 1 [I 5]]:=rfl;rw [h5];have hsl:aU ((H.guard.new (.blk 0 40 cells)).new (.blk 0 3 [I 5])) H.next 8 (.sl (H.next+1) 0 0 1 1 1 true)=some (.vs 1 1 [I 5]):=by
   refine ji (by omega) (cells:=[I 5]) ?_ rfl;have hs:aH ((H.guard.new (.blk 0 40 cells)).new (.blk 0 3 [I 5])) (.sl (H.next+1) 0 0 1 1 1 true) 1 1 [I 5]:=⟨rfl,rfl,rfl,⟨by rw [nNew,nNew,Qq];omega,zab _⟩,3,_,aP (by rw [nNew,Qq]),zab _,rfl⟩
   exact hs.uh.2
  show aU _ H.next 9 (.agg cells)=_
  rw [aU];simp only [cells,zbo,List.mapM_nil,kS,hsl];rfl
theorem Y0 {H0 H1 H2 H3:aj}{c:Cfg}{l:List Opn}{f t:Nat}{P:Nat->Nat->Nat}{gf ga:Store}{a:Nat->Nat}(hck:c.ok=true)(h1:c.nodes=1)(M1:Made H0 H1 gf)(F:dU gf f P c (.new c))(J:MG P c.nodes.toNat)
  (M2:Made H1 H2 (upd nil0 t (iJ []))) (M3:Made H2 H3 ga) (N:mM ga a c 0 (.new c 0 l)) (hb:H0.base<=H0.next) (X:MX 0 (.new c [l])):
  ∃g,Solo H0.next H3 g ⟨a,f,P,t⟩ (.new c [l]) 0/\(∀x,WX ⟨a,f,P,t⟩ 1 x->x < H3.next):=by
 have M12:=M1.add M2;have G:=M12.good.merge M3;have hl:(Fab.new c).l.length=1:=by simp [Fab.new,h1]
 have ht:H1.next<=t:=M2.good.le upd_same
 have hf:f < H1.next:=M1.good.lt F.1
 have tf:t≠f:=by omega
 have F1:dU (upd gf t (iJ [])) f P c (.new c):=F.sub ((nV.refl gf).more (M1.good.isNone ht) _);have F2:=F1.sub (GX (g':=ga) M12.good rfl);have N2:mM (cup H2.next (upd gf t (iJ [])) ga) a c 0 (.new c 0 l):=N.ext λs hs=> by
  obtain⟨cs,e⟩:=N.some hs;rw [e,PX (g:=upd gf t (iJ [])) M3.good (zab _) _ _ e]
 have T2:cup H2.next (upd gf t (iJ [])) ga t=some (iJ []):=GX (g':=ga) M12.good rfl _ _ upd_same
 have NW2:NW (cup H2.next (upd gf t (iJ [])) ga) ⟨a,f,P,t⟩ c 0 (.new c 0 l,.new c,[]):=⟨N2,F2,T2,by show MG P (Fab.new c).l.length;rw [hl];rw [h1] at J;exact J,tf⟩
 refine⟨_,⟨G,by rw [M3.base,M2.base,M1.base];exact hb,⟨.new c 0 l,rfl,NW2⟩,X⟩,λx hx=> ?_⟩;have hx':WX ⟨a,f,P,t⟩ (Fab.new c).l.length x:=by rw [hl];exact hx
 have:=NW2.here (w:=(.new c 0 l,.new c,[])) hx';cases e:cup H2.next (upd gf t (iJ [])) ga x with
 | none=> exact absurd e this
 | some cs=> exact G.lt e
def ah0(m:gQ):gQ:=((m.step 0).1.deliver 0 0 0).1
def qL(left:Int):Nat->gQ->gQ
 | 0,m=> m
 | k+1,m=> if left < m.left then qL left k (ah0 m) else m
section
variable {b:Nat}{H:aj}{g:Store}{S:zZ}{m:gQ}{T:Nat}
theorem WM {n:Node}(h:m.nodes=[n]):m.left=n.proc.left:=by
 unfold gQ.left;rw [h];simp
theorem Solo.proc(R:Solo b H g S m T):ld (.ref (S.a 0) 0 1) H=some (.ref (S.a 2) 0 0,H):=by
 obtain⟨n,hn,N⟩:=R.nw;exact R.good.load N.node.1 (i:=1) (x:=.ref (S.a 2) 0 0) rfl
theorem Solo.cache(R:Solo b H g S m T):ld (.ref (S.a 0) 0 0) H=some (.ref (S.a 1) 0 0,H):=by
 obtain⟨n,hn,N⟩:=R.nw;exact R.good.load N.node.1 (i:=0) (x:=.ref (S.a 1) 0 0) rfl
theorem Solo.psz(R:Solo b H g S m T){n:Node}(hn:m.nodes=[n]):n.proc.ops.length < 1000/\n.proc.values.length < 1000:=by
 have NI:=R.keep.inv.node 0 n (by rw [hn];rfl);have:=NI.proc.most;have:=NI.proc.vals;omega
theorem Solo.left(R:Solo b H g S m T):cl 19 [.ref (S.a 2) 0 0] H=some (I m.left,H):=by
 obtain⟨n,hn,N⟩:=R.nw;obtain⟨p1,p2⟩:=R.psz hn;rw [WM hn];exact Gu R.good N.node.2.2.1 p1 p2
theorem Solo.values(R:Solo b H g S m T){n:Node}(hn:m.nodes=[n]):∃x,cl 29 [.ref (S.a 2) 0 0] H=some (x,H)/\∀H':aj,aH H' x 1 n.proc.values.length (n.proc.values.map I):=by
 obtain⟨n',hn',N⟩:=R.nw;rw [hn] at hn';cases hn';exact QG R.good N.node.2.2.1 (R.psz hn).2
end
section
variable {b:Nat}{H:aj}{g:Store}{S:zZ}{m:gQ}{T:Nat}
theorem Solo.mono(R:Solo b H g S m T){T':Nat}(h:T<=T'):Solo b H g S m T':=⟨R.good,R.base,R.nw,R.keep.mono h⟩
theorem Solo.loc(R:Solo b H g S m T){ty n:Nat}{xs ys:List AV}(hx:xs.length=n)(hy:ys.length=n)(hn:0 < n)(ax:xs.all AV.aJ=true)(ay:ys.all AV.aJ=true)(ht:ty < dV:=by decide):
  ∃K,st n (.ref H.next 0 0) (.agg ys) (H.new (.blk 0 ty xs))=some (aK,K)/\Solo b K (upd g H.next (ys.map Cell.av)) S m T/\lda n (.ref H.next 0 0) K=some (.agg ys,K)/\∀i v,ys[i]?=some v->ld (.ref H.next 0 i) K=some (v,K):=by
 have G1:=R.good.newObj (ty:=ty) (xs:=xs) ax ht;obtain⟨K',t1,t2,t3,t4⟩:=G1.stores (by rw [bNew];exact R.base) upd_same (i:=0) (n:=n) (vs:=ys) (by rw [zaA,hx];omega) hy ay;have e:jQ (xs.map Cell.av) 0 ys=ys.map Cell.av:=by
  unfold jQ;rw [zaN (by rw [zaA,hx,hy];omega)];simp
 rw [e,kE] at t2;obtain⟨k,hk,N⟩:=R.nw;refine⟨K',t1,⟨t2,by rw [t3.base,bNew];exact R.base,⟨k,hk,N.sub ((nV.refl g).more (R.good.isNone (zab _)) _)⟩,R.keep⟩,t2.loads upd_same (i:=0) (n:=n) (xs:=ys) (by rw [zaM,zax (by simp [hy])]) hy hn,λi v hv=> t2.load upd_same (i:=i) (x:=v) (by rw [zaI,hv];rfl)⟩
theorem Y1(left:Int):∀(k i:Nat) {H:aj} {g:Store} {m:gQ} {T:Nat},i+k=400->Solo b H g S m T->T+k < 999000->
  ∃H' g',FT cl [.ref (S.a 0) 0 0,.ref S.f 0 0,.ref S.t 0 0,I left,I i] H=some (B (decide ((qL left k m).left=left)),H')/\Solo b H' g' S (qL left k m) (T+k):=by
 intro k
 induction k with
 | zero=>
  intro i H g m T hi R hT;have hlt:¬(i:Int) < 400:=by omega
  have f0:=R.proc;have e1:=R.left;refine⟨H,g,?_,R⟩;rw [LZ];simp -implicitDefEqProofs only [xq_,hlt,f0,e1,qL]
  try rfl
 | succ k ih=>
  intro i H g m T hi R hT;have hlt:(i:Int) < 400:=by omega
  have f0:=R.proc;have e1:=R.left;by_cases hl:left < m.left
  ·obtain⟨K1,g1,a1,R1,_,_⟩:=R.step (by omega);obtain⟨K2,g2,a2,R2,_,_⟩:=R1.deliver (at_:=0) (bit:=0) (mask:=0) EJ EJ (by decide) (by decide);have h6:(i:Int)+1=((i+1:Nat):Int):=by omega
   have h7:=wrap_i64 (a:=((i+1:Nat):Int)) (by omega) (by omega);obtain⟨H',g',e,R'⟩:=ih (i+1) (by omega) R2 (by omega);have hr:qL left (k+1) m=qL left k ((m.step 0).1.deliver 0 0 0).1:=if_pos hl;refine⟨H',g',?_,by rw [hr];exact R'.mono (by omega)⟩;rw [LZ,hr];simp -implicitDefEqProofs only [xq_,hlt,f0,e1,hl,a1,a2,bV,h6,h7,e]
  ·have hr:qL left (k+1) m=m:=if_neg hl;refine⟨H,g,?_,by rw [hr];exact R.mono (by omega)⟩;rw [LZ,hr];simp -implicitDefEqProofs only [xq_,hlt,f0,e1,hl]
   try rfl
theorem Solo.alone(R:Solo b H g S m T)(hT:T < 900000)(left:Int):
  ∃H' g',cl 34 [.ref (S.a 0) 0 0,.ref S.f 0 0,.ref S.t 0 0,I left] H=some (B (decide ((qL left 400 m).left=left)),H')/\Solo b H' g' S (qL left 400 m) (T+400):=by
 obtain⟨H',g',e,R'⟩:=Y1 left 400 0 (by omega) R (by omega);have z0:((0:Nat):Int)=0:=rfl;rw [z0] at e;refine⟨H',g',aN rfl rfl (aiU _ _ _ _ _ _ ?_),R'⟩;simp -implicitDefEqProofs only [aeW,e]
end
theorem abd {l:List Opn}(hp:EK.Qr [l]=true)(hv:∀o∈l,EK.right o=true/\I64 o.value):MX 0 (.new EK [l]):=
 abb rfl (λz hz=> by simp only [EK,zal,zaF,or_false] at hz;subst hz;exact⟨by decide,by decide⟩) hp (λl' hl=> by simp only [zal,zaF,or_false] at hl;subst hl;exact hv)
theorem EL(H0:aj)(hb:H0.base<=H0.next){c:Cfg}(hck:c.ok=true)(h1:c.nodes=1){l:List Opn}(hl:l.length < 1000)(X:MX 0 (.new c [l])):
  ∃H1 f H2 t P,cl 30 [.agg c.av] H0=some (.ref f 0 0,H1)/\cl 32 [] H1=some (.ref t 0 0,H2)/\H0.next<=H2.next/\(∀r,r < H0.next->H2.get r=H0.get r)/\
   (∀r,r < H0.next->H1.get r=H0.get r)/\H0.next<=H1.next/\
   ∀H2':aj,(H2'=H2∨∃o,H2'=H2.new o)->∀x,aH H2' x 3 l.length (l.flatMap Opn.av)->(l=[]->x=zN)->
    ∃H3 a g,cl 33 [.agg c.av,I 0,x] H2'=some (.ref (a 0) 0 0,H3)/\Solo H0.next H3 g ⟨a,f,P,t⟩ (.new c [l]) 0:=by
 obtain⟨H1,f,P,gf,e1,M1,F,J⟩:=Vr H0 hb c hck;obtain⟨H2,t,e2,M2⟩:=Yh H1;refine⟨H1,f,H2,t,P,e1,e2,zav M1.next M2.next,λr hr=> by rw [M2.same r (zat hr M1.next),M1.same r hr],M1.same,M1.next,λH2' h2 x hx h0=> ?_⟩;obtain⟨H3,a,ga,e3,M3,N⟩:=Vq H2' c hck 0 l (by omega) hx h0;have M3':Made H2 H3 ga:=by
  rcases h2 with rfl | ⟨o,rfl⟩
  ·exact M3
  ·exact M3.BP
 obtain⟨g,R,_⟩:=Y0 hck h1 M1 F J M2 M3' N hb X;exact⟨H3,a,g,e3,R⟩
theorem Solo.idle {b:Nat}{H:aj}{g:Store}{S:zZ}{l:List Opn}(R:Solo b H g S (.new EK [l]) 0)(hbn:H.base<=H.next):
  ∃(H' H'':aj) (a2:Nat->Nat) (g':Store),cl 33 [.agg EK.av,I 0,zN] H=some (.ref (a2 0) 0 0,H')/\cl 36 [.ref (a2 0) 0 0,.ref S.f 0 0,.ref S.t 0 0] H'=some (I 0,H'')/\Solo b H'' g' S (.new EK [l]) 0:=by
 obtain⟨n,hn,N⟩:=R.nw;obtain⟨H',a2,ga,e1,M,N2⟩:=Vq H EK rfl 0 [] (by decide) (x:=zN) aH.nil λ_=> rfl;have G:=R.good.merge M;have sl:=GX (g':=ga) R.good rfl;have N':=N.sub sl;have hX:MX 0 (.new EK [[]]):=abd rfl (λo h=> by cases h);have N2':mM (cup H.next g ga) a2 EK 0 (.new EK 0 []):=N2.ext λs hs=> by
  obtain⟨cs,e⟩:=N2.some hs;rw [e,PX (g:=g) M.good (zab _) _ _ e]
 have R2:Solo b H' (cup H.next g ga) ⟨a2,S.f,S.P,S.t⟩ (.new EK [[]]) 0:=⟨G,by rw [M.base];exact R.base,⟨.new EK 0 [],rfl,⟨N2',N'.fab,N'.tr,N'.Pj,N'.tf⟩⟩,hX⟩
 obtain⟨H'',g',e2,R3,O,_⟩:=R2.step (by decide);have z2:((gQ.new EK [[]]).step 0).2=0:=by kernel_rfl
 have z1:((gQ.new EK [[]]).step 0).1=.new EK [[]]:=by kernel_rfl
 rw [z2] at e2;rw [z1] at R3;obtain⟨n3,_,N3⟩:=R3.nw;refine⟨H',H'',a2,g',e1,e2,R3.good,R3.base,⟨n,hn,⟨N'.node.ext λs hs=> ?_,N3.fab,N3.tr,N3.Pj,N3.tf⟩⟩,R.keep⟩;refine O _ ?_;rintro(⟨s',hs',e⟩ | h | e)
 ·obtain⟨cs,q1⟩:=N.node.some hs;obtain⟨cs',q2⟩:=N2.some hs';have:=R.good.lt q1;have:=M.good.le q2;have:S.a s=a2 s':=e;omega
 ·exact(N'.V7 h).1 s hs rfl
 ·exact N'.V6 s hs e
def w0:gQ:=.new EK [[⟨1,0,0⟩]]
def w1:gQ:=(w0.step 0).1
def w2:gQ:=(w1.deliver 0 0 0).1
def w3:gQ:=(w2.step 0).1
def w4:gQ:=(w3.deliver 0 0 0).1
def w5:gQ:=(w4.step 0).1
theorem adi(H:aj):cl 39 [] H=some (B true,H):=by
 have e0:=λH=> ahZ H;have X:MX 0 w0:=abd rfl (λo h=> by simp only [zal,zaF,or_false] at h;subst h;exact⟨rfl,by decide,by decide⟩);obtain⟨H1,f,H2,t,P,e1,e2,_,_,_,_,k⟩:=EL H.guard (zab _) (c:=EK) rfl rfl (l:=[⟨1,0,0⟩]) (by decide) X;let H2':=H2.new (.blk 0 86 [I 1,I 0,I 0]);have hx:aH H2' (.sl H2.next 0 0 3 1 1 true) 3 1 [I 1,I 0,I 0]:=⟨rfl,rfl,rfl,⟨by rw [nNew];omega,zab _⟩,86,_,aP rfl,zab _,rfl⟩
 obtain⟨H3,a,g,e3,R0⟩:=k H2' (.inr ⟨_,rfl⟩) _ hx λh=> by cases h
 have hb3:H3.base<=H3.next:=zav R0.base R0.good.1
 obtain⟨H4,H5,a2,g5,i1,i2,R⟩:=R0.idle hb3
 replace R:Solo _ _ _ _ w0 _:=R
 obtain⟨K1,g1,s1,R1,_⟩:=R.step (by decide)
 replace R1:Solo _ _ _ _ w1 _:=R1
 obtain⟨K2,g2,s2,R2,_⟩:=R1.deliver (at_:=0) (bit:=0) (mask:=0) EJ EJ (by decide) (by decide)
 replace R2:Solo _ _ _ _ w2 _:=R2
 obtain⟨K3,g3,s3,R3,_⟩:=R2.step (by decide)
 replace R3:Solo _ _ _ _ w3 _:=R3
 obtain⟨K4,g4,s4,R4,_⟩:=R3.deliver (at_:=0) (bit:=0) (mask:=0) EJ EJ (by decide) (by decide)
 replace R4:Solo _ _ _ _ w4 _:=R4
 obtain⟨K5,g6,s5,R5,_⟩:=R4.step (by decide)
 replace R5:Solo _ _ _ _ w5 _:=R5
 have v1:(w0.step 0).2=4:=by kernel_rfl
 have v2:(w1.deliver 0 0 0).2=0:=by kernel_rfl
 have v3:(w2.step 0).2=3:=by kernel_rfl
 have v4:(w3.deliver 0 0 0).2=0:=by kernel_rfl
 have v5:(w4.step 0).2=1:=by kernel_rfl
 have v6:w5.left=0:=by kernel_rfl
 have v7:∀n,w5.nodes=[n]->n.proc.values=[5]:=λn h=> by
  have:w5.nodes.map (λn=> n.proc.values)=[[5]]:=by kernel_rfl
  rw [h] at this
  simpa using this
 obtain⟨n5,hn5,_⟩:=R5.nw;obtain⟨x,y1,y2⟩:=R5.values hn5;rw [v7 n5 hn5] at y2;have f5:=R5.proc;have l5:=R5.left;rw [v1] at s1;rw [v2] at s2;rw [v3] at s3;rw [v4] at s4;rw [v5] at s5;rw [v6] at l5;let K6:=K5.new (.blk 0 3 [I 5]);have b5:bs 22 1 [(0,I 5)] K5=some (.sl K5.next 0 0 1 1 1 true,K6):=(yR (by decide)).trans (iZ rfl rfl rfl);have hy:aH K6 (.sl K5.next 0 0 1 1 1 true) 1 1 [I 5]:=⟨rfl,rfl,rfl,⟨by rw [nNew];omega,zab _⟩,3,_,aP rfl,zab _,rfl⟩
 have e6:=Vw K6 (l:=[5]) (by decide) (y2 K6) hy;have b1:bd 86 [(0,I 1)]=some (.agg [I 1,I 0,I 0]):=by
  simp -implicitDefEqProofs only [xq_,XK,iV,dW,XJ];rfl
 have b2:bs 98 1 [(0,.agg [I 1,I 0,I 0])] H2=some (.sl H2.next 0 0 3 1 1 true,H2'):=(abI (by decide)).trans (iZ rfl rfl rfl);have n1:bi .eql 43 (.ref f 0 0) zP=some (B false):=by kernel_rfl
 have n2:bi .eql 44 (.ref t 0 0) zP=some (B false):=by kernel_rfl
 have n3:bi .eql 54 (.ref (a 0) 0 0) zP=some (B false):=by kernel_rfl
 refine bI rfl rfl (aiY _ _) ?_ gK;simp -implicitDefEqProofs only [xq_,aeX,e0,e1,e2,b1,b2,e3,n1,n2,n3,i1,i2,s1,s2,s3,s4,s5,f5,l5,y1,b5,e6,zae]
theorem WO {c:Cfg}{k x v:Int}(h:(decide (1<=k) && decide (k<=4) && decide (c.dn x≠-1))=true)(hk:k=2∨k=3):c.right ⟨k,x,v⟩=true:=by
 unfold Cfg.right;simp only;rw [h];rcases hk with rfl | rfl <;> simp
theorem adk {l:List Opn}{c:Cfg}(hc:c.nodes=1)(hl:l.length<=24)(h:∀o∈l,c.right o=true):c.Qr [l]=true:=by
 have:l.all c.right=true:=zaY.2 h;simp only [Cfg.Qr,List.all_cons,List.all_nil,this,decide_eq_true hl,zai,zaq,hc];rfl
section
variable {b:Nat}{H:aj}{g:Store}{S:zZ}{m:gQ}{T:Nat}
theorem Solo.csz(R:Solo b H g S m T){n:Node}(hn:m.nodes=[n]):n.cache.l.length < 1000000/\∀e∈n.cache.l,e.data.length < 1000000000:=by
 have NI:=R.keep.inv.node 0 n (by rw [hn];rfl);have C:=cok R.keep.inv.ok NI.cache (by have:=NI.clk;have:=NI.proc.vals;have:=NI.proc.most;omega);exact⟨by have:=C.len;omega,C.dat⟩
end
section
variable {b:Nat}{H:aj}{g:Store}{S:zZ}{m:gQ}{T:Nat}
theorem abe {l:List Opn}{r n:Nat}(G:Good b H g)(hn:l.length=n)(h:g r=some ((l.flatMap Opn.av).map Cell.av)):aH H (.sl r 0 0 3 n n true) 3 n (l.flatMap Opn.av):=by
 subst hn;obtain⟨ty,hg,_⟩:=G.exact h;have hfl:(l.flatMap Opn.av).length=l.length*3:=bH (enc:=Opn.av) (m:=3) (λ_=> rfl) l;exact⟨hfl,rfl,rfl,⟨G.lt h,zab _⟩,ty,_,hg,by omega,by rw [zaM,zax (by omega)]⟩
theorem Solo.rows(R:Solo b H g S m T){n:Node}(hn:m.nodes=[n]):∀e∈n.home.rows,e.2.data.length < 1000000000:=by
 have NI:=R.keep.inv.node 0 n (by rw [hn];rfl);have B:=Gt R.keep.inv.ok;intro e he;have:=(NI.rows e he).1;have:=B.words;omega
theorem WQ(H:aj)(w:Int):lnS (dat [w]) H=some (I 1,H)/\ix 1 (dat [w]) (I 0) H=some (cO (dat [w]) 0,H)/\ld (cO (dat [w]) 0) H=some (I w,H):=by
 have Z:=jW H [w];have h1:=Z.lnS;have h2:=Z.ix (k:=.i64) (i:=0) (zbs 0) (show(0:Int) < 1 by decide);have h3:=Z.ld (i:=0) (show 0 < 1 by decide);exact⟨h1,h2,h3⟩
end
section
variable {b:Nat}{H:aj}{g:Store}{S:zZ}{m:gQ}{T:Nat}
theorem Y2(R:Solo b H g S m T){n:Node}(hn:m.nodes=[n]){gone stays v:Int}(hr:rowOf n.home.rows gone=⟨0,-1,[v]⟩)(hi:(gU n.home.rows gone).isSome=true)(hf:n.cache.find gone=none)(hl:n.cache.l.length=2)(hs:srt [] (n.cache.l.map (·.line))=[stays,2]):
  ∃H',Ov cl (.ref (S.a 0) 0 0) (I gone) (I stays) (I v) H=some (B true,H'):=by
 obtain⟨n',hn',N⟩:=R.nw;rw [hn] at hn';cases hn';have e1:=acE R.good N.node (R.rows hn) gone;rw [hr,hi] at e1;obtain⟨K,s1,R1,_,_⟩:=R.loc (ty:=100) (xs:=[zI,zI,zN]) (ys:=Row.av ⟨0,-1,[v]⟩) (n:=3) rfl rfl (by decide) rfl (LC _);have fc1:=R1.cache;obtain⟨n',hn',N1⟩:=R1.nw;rw [hn] at hn';cases hn';have hcf:=R1.csz hn;have e4:=lu R1.good N1.node.2.1 hcf.1 hcf.2 gone;rw [hf] at e4;simp only [ku,zaR,zaC] at e4;obtain⟨K2,s2,R2,_,_⟩:=R1.loc (ty:=93) (xs:=[zI,zI,zI,zI,zB,zN]) (ys:=Ent.zero.av) (n:=6) rfl rfl (by decide) rfl (iP _);have hne:H.next≠K.next:=by
  have:=R1.good.lt (q:=H.next) upd_same;omega
 have at1:upd (upd g H.next ((Row.av ⟨0,-1,[v]⟩).map Cell.av)) K.next (Ent.zero.av.map Cell.av) H.next=some ((Row.av ⟨0,-1,[v]⟩).map Cell.av):=by rw [upd_ne hne,upd_same]
 have d0:=R2.good.load at1 (i:=0) (x:=I 0) rfl;have d2:=R2.good.load at1 (i:=2) (x:=dat [v]) rfl;obtain⟨x1,x2,x3⟩:=WQ K2 v;have fc:=R2.cache;obtain⟨n',hn',N2⟩:=R2.nw;rw [hn] at hn';cases hn';obtain⟨y,e2,e3⟩:=Yw R2.good N2.node.2.1 (show n.cache.l.length<=12 by omega);rw [hs,hl] at e3;let cells:List AV:=[I stays,I 2]
 let K3:=K2.new (.blk 0 3 cells);have b5:bs 22 2 [(0,I stays),(1,I 2)] K2=some (.sl K2.next 0 0 1 2 2 true,K3):=(yR (by decide)).trans rfl;have hz:aH K3 (.sl K2.next 0 0 1 2 2 true) 1 2 cells:=⟨rfl,rfl,rfl,⟨by rw [nNew];omega,zab _⟩,3,_,aP rfl,zab _,rfl⟩
 have e6:=Vw K3 (l:=[stays,2]) (show 2 < 1000000000 by decide) (e3 K3) hz;have wk:=λH=> adi H;refine⟨K3,?_⟩;simp -implicitDefEqProofs only [Int.reduceNeg,xq_,Ov,e1,s1,fc1,e4,s2,zak,d0,d2,x1,x2,x3,fc,e2,b5,e6,wk]
 try rfl
end
def Nk:Cfg:=⟨1,3,1,1,2,1,1,[]⟩
def Q8(a b:Int)(o:Opn):List Opn:=[⟨2,0,a⟩,⟨2,1,b⟩,o,⟨1,2,0⟩]
def vic(a b:Int)(o:Opn):gQ:=.new Nk [Q8 a b o]
def ako(a b:Int)(o:Opn):gQ:=qL 0 400 (vic a b o)
theorem PY {H:aj}{z:Nat}{g:Store}{q r:Nat}(hb:H.base<=H.next)(G:Good z H g){a b:Int}{o:Opn}(hq:g q=some (Nk.av.map Cell.av))(hr:g r=some ((Q8 a b o).flatMap Opn.av |>.map Cell.av))(X:MX 0 (vic a b o)){st:Bool}
  {gone stays v:Int} (hj:(if st then((1:Int),(0:Int),b) else(0,1,a))=(gone,stays,v)) (v4:(qL 0 400 (vic a b o)).left=0)
  (q1:(ako a b o).nodes.map (λn=> (rowOf n.home.rows gone,(gU n.home.rows gone).isSome,n.cache.find gone,n.cache.l.length,srt [] (n.cache.l.map (·.line))))=[(⟨0,-1,[v]⟩,true,none,2,[stays,2])]):
  ∃H',Jg cl (I a) (I b) (B st) (.ref q 0 0) (.sl r 0 0 3 4 4 true) H=some (B true,H'):=by
 obtain⟨H1,f,H2,t,P,e1,e2,hn2,hs2,_,_,k⟩:=EL H hb (c:=Nk) rfl rfl (l:=Q8 a b o) (by show 4 < 1000;decide) X;have hx:aH H2 (.sl r 0 0 3 4 4 true) 3 4 ((Q8 a b o).flatMap Opn.av):=(abe G rfl hr).lM hn2 λq _ hq=> hs2 q hq;obtain⟨H3,ad,g',e3,R0⟩:=k H2 (.inl rfl) _ hx λh=> by cases h
 have l1:=G.loads hq (i:=0) (n:=8) (xs:=Nk.av) rfl rfl (by decide);have hql:=G.lt hq;obtain⟨ty,gq,_⟩:=G.exact hq;have l2:lda 8 (.ref q 0 0) H2=some (.agg Nk.av,H2):=BR (by rw [hs2 q hql];exact gq);obtain⟨K2,g2,s2,R2⟩:=R0.alone (by decide) 0
 replace s2:=s2.trans (by rw [show(qL 0 400 (gQ.new Nk [Q8 a b o])).left=0 from v4])
 replace R2:Solo _ K2 g2 _ (ako a b o) _:=R2
 obtain⟨n,hn,_⟩:=R2.nw;rw [hn] at q1;simp only [zaz,zbQ,zbz,and_true,zac] at q1;obtain⟨H',e⟩:=Y2 R2 hn (gone:=gone) (stays:=stays) (v:=v) q1.1 q1.2.1 q1.2.2.1 q1.2.2.2.1 q1.2.2.2.2;have n1:bi .eql 43 (.ref f 0 0) zP=some (B false):=by kernel_rfl
 have n2:bi .eql 44 (.ref t 0 0) zP=some (B false):=by kernel_rfl
 have n3:bi .eql 54 (.ref (ad 0) 0 0) zP=some (B false):=by kernel_rfl
 refine⟨H',?_⟩;cases st with
 | true=>
  simp only [if_true,zac] at hj;obtain⟨rfl,rfl,rfl⟩:=hj;simp -implicitDefEqProofs only [xq_,Jg,l1,e1,e2,l2,e3,n1,n2,n3,s2,zae,e]
 | false=>
  simp only [zaf,if_false,zac] at hj;obtain⟨rfl,rfl,rfl⟩:=hj;simp -implicitDefEqProofs only [xq_,Jg,l1,e1,e2,l2,e3,n1,n2,n3,s2,zae,e]
theorem CS(a:Int)(ha:In64 a)(b:Int)(hb:In64 b)(tb:Bool):∃H',cl 8 [I a,I b,B tb] aj.empty=some (B true,H'):=by
 let H0:=aj.empty.new (.blk 0 40 [zI,zI,zI,zI,zI,zI,zI,zN]);have G0:Good 0 H0 (upd nil0 0 ([zI,zI,zI,zI,zI,zI,zI,zN].map Cell.av)):=(Good.empty aj.empty).newObj (ty:=40) rfl;have hav:Nk.av=[I 1,I 3,I 1,I 1,I 2,I 1,I 1,zN]:=by simp only [Cfg.av,Nk,dat,fZ]
 obtain⟨K0,c1,G1,c3,c4⟩:=G0.stores (q:=0) (zaQ _) upd_same (i:=0) (n:=8) (vs:=Nk.av) (by decide) rfl (jE _);have hs0:jQ ([zI,zI,zI,zI,zI,zI,zI,zN].map Cell.av) 0 Nk.av=Nk.av.map Cell.av:=by rw [hav];rfl
 rw [hs0,kE] at G1;have k0:K0.next=1:=c4
 let H1:=K0.new (.blk 0 86 ((Q8 a b ⟨1,1,0⟩).flatMap Opn.av));have G2:Good 0 H1 (upd (upd nil0 0 (Nk.av.map Cell.av)) 1 (((Q8 a b ⟨1,1,0⟩).flatMap Opn.av).map Cell.av)):=by
  have:=G1.newObj (ty:=86) (xs:=(Q8 a b ⟨1,1,0⟩).flatMap Opn.av) rfl;rw [k0] at this;exact this
 have hb1:H1.base<=H1.next:=by
  have:H1.base=0:=by simp only [H1,bNew,c3.base];rfl
  omega
 have op:∀k x y:Int,bd 86 [(0,I k),(1,I x),(2,I y)]=some (.agg (Opn.av ⟨k,x,y⟩)):=λk x y=> by
  simp -implicitDefEqProofs only [xq_,XK,iV,dW,XJ];rfl
 have op0:∀k x:Int,bd 86 [(0,I k),(1,I x)]=some (.agg (Opn.av ⟨k,x,0⟩)):=λk x=> by
  simp -implicitDefEqProofs only [xq_,XK,iV,dW,XJ];rfl
 have cfg:bd 40 [(0,I 1),(1,I 3),(2,I 1),(3,I 1),(4,I 2),(5,I 1),(6,I 1)]=some (.agg Nk.av):=by
  rw [hav];simp -implicitDefEqProofs only [xq_,adU,iV,dW,abJ];rfl
 have b1:bs 98 4 [(0,.agg (Opn.av ⟨2,0,a⟩)),(1,.agg (Opn.av ⟨2,1,b⟩)),(2,.agg (Opn.av ⟨1,1,0⟩)),(3,.agg (Opn.av ⟨1,2,0⟩))] K0=some (.sl K0.next 0 0 3 4 4 true,H1):=(abI (by decide)).trans rfl;rw [k0] at b1;have right:∀o:Opn,(o=⟨1,1,0⟩∨o=⟨1,0,0⟩)->MX 0 (vic a b o):=λo ho=> by
  have hr:∀q∈Q8 a b o,Nk.right q=true/\I64 q.value:=λq h=> by
   simp only [Q8,zal,zaF,or_false] at h;rcases h with rfl | rfl | rfl | rfl
   ·exact⟨WO rfl (.inl rfl),ha⟩
   ·exact⟨WO rfl (.inl rfl),hb⟩
   ·rcases ho with rfl | rfl
    ·exact⟨rfl,by decide,by decide⟩
    ·exact⟨rfl,by decide,by decide⟩
   ·exact⟨rfl,by decide,by decide⟩
  exact abb rfl (λz hz=> by cases hz) (adk rfl (by show 4<=24;decide) λq h=> (hr q h).1) λl hl=> by
   simp only [zal,zaF,or_false] at hl;subst hl;exact hr
 have c1':st 8 (.ref 0 0 0) (.agg Nk.av) (aj.empty.new (.blk 0 40 [zI,zI,zI,zI,zI,zI,zI,zN]))=some (aK,K0):=c1;have akp:(0:Nat)≠1:=by decide
 cases tb with
 | false=>
  obtain⟨H',e⟩:=PY (H:=H1) (q:=0) (r:=1) hb1 G2 (a:=a) (b:=b) (o:=⟨1,1,0⟩) (by rw [upd_ne akp,upd_same]) upd_same (right _ (.inl rfl)) (st:=false) rfl (by kernel_rfl) (by kernel_rfl);refine⟨H',aN rfl rfl (akd _ _ _ _ _ ?_)⟩;simp -implicitDefEqProofs only [xq_,aiI,cfg,show aj.empty.next=0 from rfl,c1',op,op0,b1,e]
 | true=>
  obtain⟨K,t1,t2,t3,_⟩:=G2.store (q:=1) (by simp only [H1,bNew,c3.base];exact zaQ _) upd_same (i:=7) (v:=I 0) (show 7 < 12 by decide) aY;have hs:((((Q8 a b ⟨1,1,0⟩).flatMap Opn.av).map Cell.av).set 7 (.av (I 0)))=((Q8 a b ⟨1,0,0⟩).flatMap Opn.av).map Cell.av:=rfl;rw [hs,kE] at t2;have hb2:K.base<=K.next:=by
   have:K.base=0:=by rw [t3.base];simp only [H1,bNew,c3.base];rfl
   omega
  obtain⟨H',e⟩:=PY (H:=K) (q:=0) (r:=1) hb2 t2 (a:=a) (b:=b) (o:=⟨1,0,0⟩) (by rw [upd_ne akp,upd_same]) upd_same (right _ (.inr rfl)) (st:=true) rfl (by kernel_rfl) (by kernel_rfl);have i1:ix 3 (.sl 1 0 0 3 4 4 true) (I 2) H1=some (.ref 1 0 6,H1):=(abe (l:=Q8 a b ⟨1,1,0⟩) (n:=4) G2 rfl upd_same).ix (k:=.i64) (i:=2) (by decide) (by decide);refine⟨H',aN rfl rfl (akd _ _ _ _ _ ?_)⟩;simp -implicitDefEqProofs only [Nat.reduceAdd,xq_,aiI,cfg,show aj.empty.next=0 from rfl,c1',op,op0,b1,i1,t1,e]
end
end Go.Proofs.YthmoogcacpmjiaaGreat
