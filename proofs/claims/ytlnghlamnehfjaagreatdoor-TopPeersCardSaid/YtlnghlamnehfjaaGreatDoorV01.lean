/- Part V01. -/
import Derived.Test.YtlnghlamnehfjaaGreatDoorQ40
set_option linter.unusedVariables false
set_option linter.unusedSimpArgs false
set_option maxRecDepth 100000
set_option maxHeartbeats 64000000
namespace Go.Proofs.YtlnghlamnehfjaaGreatDoor.S
open Go.RowKit Go.Maps
theorem puts_fit:∀{l:List Msg} {p:Post},(p.l.length:Int)+l.length≤p.most→(p.puts l).l=p.l++l∧(p.puts l).most=p.most
 | [],p,_=>⟨by show p.l=_;simp,rfl⟩
 |m::r,p,h=>by
  simp only [List.length_cons] at h;have e:p.put m= {p with l:=p.l++ [m]}:=by unfold Post.put;rw [if_pos (by omega)]
  have:=puts_fit (l:=r) (p:=p.put m) (by rw [e];simp only [List.length_append,List.length_singleton];omega)
  show ((p.put m).puts r).l=_∧((p.put m).puts r).most=_
  rw [this.1,this.2,e];simp
structure NFk (k:Qd):Prop where
 es:∀e∈k.j.es,e.kd=.ready∨e.kd=.yes∨e.kd=.no
 st:∀id,0≤mgi k.st id∧mgi k.st id≤3
theorem kplays_nf {k:Qd} {e:Entry} (h:∀id,0≤mgi k.st id∧mgi k.st id≤3) (he:e.kd=.ready∨e.kd=.yes∨e.kd=.no):∀id,0≤mgi (k.Qg e).st id∧mgi (k.Qg e).st id≤3:=by
 intro id;obtain ⟨kd,eid,n⟩:=e;simp only at he;unfold Qd.Qg;rcases he with rfl|rfl|rfl
 ·simp only;split;simp only [UX];split;omega;exact h id;all_goals first|exact h id|(simp_all;done)
 simp only [UX];split;omega;exact h id;simp only [UX];split;omega;exact h id
theorem NFk.notes {k:Qd} (h:NFk k) {e:Entry} (he:e.kd=.ready∨e.kd=.yes∨e.kd=.no):NFk (k.notes e).2:=by
 obtain ⟨-, -, -,h4⟩:=TU k e;refine ⟨fun x hx=>?_,?_⟩;rcases h4 with h4|h4<;>rw [h4] at hx;exact h.es x hx;rcases List.mem_append.1 hx with hx|hx;exact h.es x hx;rw [List.mem_singleton] at hx;subst hx;exact he;unfold Qd.notes;split;exact h.st;exact kplays_nf (k:= {k with j:=(k.j.add e).2.sync}) h.st he
theorem replay_nf:∀(es:List Entry) {k:Qd},(∀id,0≤mgi k.st id∧mgi k.st id≤3)→(∀e∈es,e.kd=.ready∨e.kd=.yes∨e.kd=.no)→∀id,0≤mgi (k.Qi es).st id∧mgi (k.Qi es).st id≤3
 | [],_,h,_=>h
 |e::r,_,h,he=>replay_nf r (kplays_nf h (he e (by simp))) (fun x hx=>he x (by simp [hx]))
theorem NFk.start {k:Qd} (h:NFk k):NFk k.start:=by
 unfold Qd.start;split;obtain ⟨h1,h2⟩:=Vf k.j.es (({k with j:=k.j.recover}:Qd).forget);exact ⟨by rw [h1];exact h.es,replay_nf _ (fun id=>by simp [Qd.forget,mgi,Qc]) h.es⟩;exact h
theorem NFk.Qj {k:Qd} (h:NFk k) (stay:Int):NFk (k.Qj stay):=by
 unfold Qd.Qj;split;exact h;exact ⟨fun e he=>h.es e (List.mem_of_mem_take he),fun id=>by simp [Qd.forget,mgi,Qc]⟩
theorem vNext_nf {s:Int} (kd:Int) (can:Bool) (h:0≤s∧s≤3):(Qr s kd can).1=s∨(Qr s kd can).1=1∨(Qr s kd can).1=2∨(Qr s kd can).1=3:=by
 rcases Qg8 s kd can with h|h|h|h;exact .inl h;exact .inr (.inl h.1);exact .inr (.inr (.inl h));exact .inr (.inr (.inr h))
theorem NFk.handle {k:Qd} (h:NFk k) (m:Msg):NFk (k.handle m).2:=by
 unfold Qd.handle;split;exact h;have hs:=h.st m.id;obtain ⟨c1,c2⟩:=KS k m.kind m.id m.a m.b;have hc:NFk (k.can m.kind m.id m.a m.b).2:=⟨by rw [c1];exact h.es,by unfold Qd.can;split<;>exact h.st⟩;simp only;split;exact hc
 ·rename_i hne;refine hc.notes ?_;rcases vNext_nf m.kind (k.can m.kind m.id m.a m.b).1 hs with e|e|e|e;exact absurd e hne;all_goals rw [e];simp [Kk]
structure NF (H:Qb):Prop where
 k0:NFk H.k0
 k1:NFk H.k1
theorem NF.gives {H:Qb} (h:NF H) (m:Msg):NF (H.gives m):=by
 unfold Qb.gives;repeat' split
 all_goals first|exact ⟨h.k0,h.k1⟩|exact ⟨h.k0.handle m,h.k1⟩|exact ⟨h.k0,h.k1.handle m⟩
theorem NF.take {H:Qb} (h:NF H) (kind i:Int):NF (H.take kind i).2:=by
 unfold Qb.take;split;exact h;split;exact h;split;exact ⟨h.k0,h.k1⟩;split;exact NF.gives (H:=H.without i.toNat) ⟨h.k0,h.k1⟩ _;exact ⟨h.k0,h.k1⟩
theorem NF.Qo {H:Qb} (h:NF H) (i id:Int):NF (H.Qo i id).2:=by
 unfold Qb.Qo;repeat' split
 all_goals exact ⟨h.k0,h.k1⟩
theorem NF.Ye {H:Qb} (h:NF H) (kind node i:Int):NF (H.Ye kind node i).2:=by
 unfold Qb.Ye;split;exact h;split
 ·unfold Qb.starts;repeat' split
  all_goals first|exact ⟨h.k0,h.k1⟩|exact ⟨h.k0.start,h.k1⟩|exact ⟨h.k0,h.k1.start⟩
 ·unfold Qb.Qj;repeat' split
  all_goals first|exact ⟨h.k0,h.k1⟩|exact ⟨h.k0.Qj _,h.k1⟩|exact ⟨h.k0,h.k1.Qj _⟩
theorem NF.act {H:Qb} (h:NF H) {c:Cmd} (hc:c.kind≠3):NF (H.act c).2:=by
 unfold Qb.act Qb.asks;split;split;exact ⟨h.k0,h.k1⟩;split;exact ⟨h.k0,h.k1⟩;omega;split;exact h.take _ _;split;exact h.Qo _ _;exact h.Ye _ _ _
theorem init_nf (tries:Int):NF (Qb.init tries):=⟨⟨by simp [Qb.init],fun id=>by simp [Qb.init,mgi,Qc]⟩,⟨by simp [Qb.init],fun id=>by simp [Qb.init,mgi,Qc]⟩⟩
def want (a b:Int):Int:=if a=1∧b=2 then 2 else if (a=1∧(b=3∨b=0))∨(a=0∧b=1) then 3 else a
def Qb.ks (H:Qb) (i id:Int):Int:=mgi (H.kn i).st id
structure Peers (n:Nat) (H:Qb):Prop where
 c:H.c.j.down=true
 d0:H.k0.j.down=false
 d1:H.k1.j.down=false
 n0:H.k0.node=1
 n1:H.k1.node=2
 cnt:Cnt n H
 nf:NF H
 most:H.p.most=256
def AskM (s:Int→Int→Int) (m:Msg):Prop:=m.to=0∨m.kind=12∧(m.to=1∨m.to=2)∧m.frm=3-m.to∧s (3-m.to) m.id=1
def AnsM (s:Int→Int→Int) (m:Msg):Prop:=m.to=0∨(m.to=1∨m.to=2)∧s m.to m.id=1∧(m.kind=13∧s (3-m.to) m.id=2∨m.kind=14∧(s (3-m.to) m.id=0∨s (3-m.to) m.id=3))
theorem khandle_eq {k:Qd} {n:Nat} (hd:k.j.down=false) (hc:Vx n k) (hn:n<4096) (m:Msg) (h6:m.kind≠6):
 (k.handle m).1=(if (Qr (mgi k.st m.id) m.kind false).2=0 then [] else [⟨(Qr (mgi k.st m.id) m.kind false).2,k.node,if (Qr (mgi k.st m.id) m.kind false).2=11∨(Qr (mgi k.st m.id) m.kind false).2=17 then 0 else m.frm,m.id,0,0,0⟩])∧
 (∀id,mgi (k.handle m).2.st id=if m.id=id then (Qr (mgi k.st m.id) m.kind false).1 else mgi k.st id)∧(k.handle m).2.j.down=false∧(k.handle m).2.node=k.node:=by
 have hcan:k.can m.kind m.id m.a m.b=(false,k):=by unfold Qd.can;rw [if_neg (by simp [h6])]
 have hr:¬k.j.room≤(k.j.es.length:Int):=by have:=hc.len;rw [hc.room];omega
 have hno:∀e,k.notes e=(true,({k with j:=(k.j.add e).2.sync}:Qd).Qg e):=fun e=>by unfold Qd.notes;rw [if_neg hr]
 unfold Qd.handle;rw [if_neg (by simp [hd]),hcan];simp only [hno];have hv:=Qg8 (mgi k.st m.id) m.kind false;generalize Qr (mgi k.st m.id) m.kind false=x at *;by_cases hx:x.1=mgi k.st m.id;rw [if_pos hx];refine ⟨by simp,fun id=>?_,hd,rfl⟩;split;rename_i e;subst e;exact hx.symm;rfl;rw [if_neg hx];obtain ⟨p1,p2⟩:=Jd ({k with j:=(k.j.add (Kk x.1 m.id m.a m.b)).2.sync}:Qd) (Kk x.1 m.id m.a m.b);refine ⟨by simp,fun id=>?_,?_,p2⟩;rcases hv with e|⟨e,e6⟩|e|e;exact absurd e hx;exact absurd e6 h6;rw [e]
 show mgi (Qt k.st m.id 2) id=_
 exact UX _ _ _ _;rw [e]
 show mgi (Qt k.st m.id 3) id=_
 exact UX _ _ _ _;simp only;rw [p1]
 show (k.j.add _).2.down=false
 unfold Jrn.add;rw [if_neg hr];exact hd
theorem Peers.mono {n m:Nat} {H:Qb} (h:Peers n H) (hm:n≤m):Peers m H:=⟨h.c,h.d0,h.d1,h.n0,h.n1,h.cnt.mono hm,h.nf,h.most⟩
theorem take_first {H:Qb} {m:Msg} {r:List Msg} (h:H.p.l=m::r):(H.take 5 0).2=({H with p:= {H.p with l:=r}}:Qb).gives m:=by
 have hh:H.p.has 0=true:=by unfold Post.has;rw [h];simp
 unfold Qb.take;rw [hh];simp [h,Qb.without]
theorem peers_take {n:Nat} {H:Qb} (h:Peers n H) (hn:n<4096) {m:Msg} {r:List Msg} (hl:H.p.l=m::r) (h256:r.length<256) (hm:m.to=0∨(m.to=1∨m.to=2)∧m.kind≠6):
 Peers (n+1) (H.take 5 0).2∧∃a:List Msg,(H.take 5 0).2.p.l=r++a∧
  (m.to=0→a= []∧∀i id,(H.take 5 0).2.ks i id=H.ks i id)∧
  ((m.to=1∨m.to=2)→(a=if (Qr (H.ks m.to m.id) m.kind false).2=0 then [] else [⟨(Qr (H.ks m.to m.id) m.kind false).2,m.to,if (Qr (H.ks m.to m.id) m.kind false).2=11∨(Qr (H.ks m.to m.id) m.kind false).2=17 then 0 else m.frm,m.id,0,0,0⟩])∧
    ∀i id,i=1∨i=2→(H.take 5 0).2.ks i id=if i=m.to∧m.id=id then (Qr (H.ks m.to m.id) m.kind false).1 else H.ks i id):=by
 have hcn:=h.cnt.take 5 0;have hnf:=h.nf.take 5 0;rw [take_first hl] at hcn hnf⊢;have hlen:∀a:List Msg,a.length≤1→(({H.p with l:=r}:Post).puts a).l=r++a∧(({H.p with l:=r}:Post).puts a).most=256:=fun a ha=>by
  have:=puts_fit (p:= {H.p with l:=r}) (l:=a) (by rw [show ({H.p with l:=r}:Post).most=256 from h.most];simp only;omega);exact ⟨this.1,this.2.trans h.most⟩
 rcases hm with h0|⟨h12,h6⟩
 ·have e:(({H with p:= {H.p with l:=r}}:Qb).gives m)= {H with p:= {H.p with l:=r}}:=by
   unfold Qb.gives Qa.handle;rw [if_pos h0];simp only [h.c,if_true];rfl
  rw [e] at hcn hnf⊢;exact ⟨⟨h.c,h.d0,h.d1,h.n0,h.n1,hcn,hnf,h.most⟩,[],by simp,fun _=>⟨rfl,fun _ _=>rfl⟩,fun h12=>by omega⟩
 ·rcases h12 with h1|h1
  ·have e:(({H with p:= {H.p with l:=r}}:Qb).gives m)= {H with k0:=(H.k0.handle m).2,p:=({H.p with l:=r}:Post).puts (H.k0.handle m).1}:=by
    unfold Qb.gives;rw [if_neg (by omega),if_pos h1]
   rw [e] at hcn hnf⊢;obtain ⟨a1,a2,a3,a4⟩:=khandle_eq h.d0 h.cnt.k0 hn m h6;obtain ⟨l1,l2⟩:=hlen (H.k0.handle m).1 (by rw [a1];split<;>simp);refine ⟨⟨h.c,a3,h.d1,a4.trans h.n0,h.n1,hcn,hnf,l2⟩,_,l1,fun h0=>by omega,fun _=>⟨?_,fun i id hi=>?_⟩⟩;rw [a1,h.n0,h1];rfl;rw [h1];rcases hi with rfl|rfl
   show mgi (H.k0.handle m).2.st id=_
   rw [a2];simp [Qb.ks,Qb.kn];simp [Qb.ks,Qb.kn]
  ·have e:(({H with p:= {H.p with l:=r}}:Qb).gives m)= {H with k1:=(H.k1.handle m).2,p:=({H.p with l:=r}:Post).puts (H.k1.handle m).1}:=by
    unfold Qb.gives;rw [if_neg (by omega),if_neg (by omega),if_pos h1]
   rw [e] at hcn hnf⊢;obtain ⟨a1,a2,a3,a4⟩:=khandle_eq h.d1 h.cnt.k1 hn m h6;obtain ⟨l1,l2⟩:=hlen (H.k1.handle m).1 (by rw [a1];split<;>simp);refine ⟨⟨h.c,h.d0,a3,h.n0,a4.trans h.n1,hcn,hnf,l2⟩,_,l1,fun h0=>by omega,fun _=>⟨?_,fun i id hi=>?_⟩⟩;rw [a1,h.n1,h1];rfl;rw [h1];rcases hi with rfl|rfl;simp [Qb.ks,Qb.kn]
   show mgi (H.k1.handle m).2.st id=_
   rw [a2];simp [Qb.ks,Qb.kn]
theorem takes_succ:∀(n:Nat) (H:Qb),Qb.takes (n+1) H=((Qb.takes n H).take 5 0).2
 |0,_=>rfl
 |n+1,H=>takes_succ n (H.take 5 0).2
structure PhA (s:Int→Int→Int) (n:Nat) (H:Qb) (A B:List Msg):Prop where
 p:Peers n H
 l:H.p.l=A++B
 a:∀m∈A,AskM s m
 b:∀m∈B,AnsM s m
 st:∀i id,i=1∨i=2→H.ks i id=s i id∨s i id=0∧s (3-i) id=1∧H.ks i id=3
 all:∀i id,i=1∨i=2→1≤id→id≤6→s i id=1→s (3-i) id≠1→(∃m∈A,m.to=3-i∧m.id=id)∨(∃m∈B,m.to=i∧m.id=id∧(s (3-i) id=0→H.ks (3-i) id=3))
theorem vTells_eq (s:Int):Qr s 12 false=TY s:=by simp [Qr]
theorem phA_step {s:Int→Int→Int} (hs:∀i id,i=1∨i=2→0≤s i id∧s i id≤3) {n:Nat} {H:Qb} {m:Msg} {A B:List Msg} (h:PhA s n H (m::A) B) (hn:n<4096) (h256:A.length+B.length<256):
 ∃B',PhA s (n+1) (H.take 5 0).2 A B'∧B'.length≤B.length+1:=by
 have hm:=h.a m (by simp);have hl:H.p.l=m::(A++B):=h.l;obtain ⟨p1,a,p2,p3,p4⟩:=peers_take h.p hn hl (by simpa using h256) (by
  rcases hm with hm|⟨hm,hm2, -⟩;exact .inl hm;exact .inr ⟨hm2,by omega⟩)
 rcases hm with h0|⟨h12,hto,hfr,has⟩;obtain ⟨rfl,e⟩:=p3 h0;refine ⟨B,⟨p1,by rw [p2];simp,fun x hx=>h.a x (by simp [hx]),h.b,fun i id hi=>by rw [e];exact h.st i id hi,fun i id hi g0 g1 g2 g3=>?_⟩,by omega⟩;rcases h.all i id hi g0 g1 g2 g3 with ⟨x,hx,hx1,hx2⟩|⟨x,hx,hx1,hx2,hx3⟩;rcases List.mem_cons.1 hx with rfl|hx;omega;exact .inl ⟨x,hx,hx1,hx2⟩;exact .inr ⟨x,hx,hx1,hx2,fun hz=>by rw [e];exact hx3 hz⟩
 ·obtain ⟨ea,est⟩:=p4 hto;rw [h12,vTells_eq] at ea est;have hst:=h.st m.to m.id hto;have hsr:=hs m.to m.id hto;have h31:3-m.to=1∨3-m.to=2:=by omega
  have h33:3-(3-m.to)=m.to:=by omega
  have hv:(s m.to m.id=1∧TY (H.ks m.to m.id)=(1,0))∨(s m.to m.id=2∧TY (H.ks m.to m.id)=(2,13))∨((s m.to m.id=0∨s m.to m.id=3)∧TY (H.ks m.to m.id)=(3,14)):=by
   have:s m.to m.id=0∨s m.to m.id=1∨s m.to m.id=2∨s m.to m.id=3:=by omega
   rcases this with e|e|e|e;right;right;refine ⟨.inl e,?_⟩;rcases hst with h'|⟨-, -,h'⟩<;>rw [h']<;>simp [TY,e];left;refine ⟨e,?_⟩;rcases hst with h'|⟨h', -, -⟩;rw [h',e];rfl;omega;right;left;refine ⟨e,?_⟩;rcases hst with h'|⟨h', -, -⟩;rw [h',e];rfl;omega;right;right;refine ⟨.inr e,?_⟩;rcases hst with h'|⟨h', -, -⟩;rw [h',e];rfl;omega
  have hks:∀i id,i=1∨i=2→(H.take 5 0).2.ks i id=H.ks i id∨i=m.to∧id=m.id∧s i id=0∧s (3-i) id=1∧(H.take 5 0).2.ks i id=3:=by
   intro i id hi;rw [est i id hi];split;rename_i hc;obtain ⟨rfl,rfl⟩:=hc;rcases hv with ⟨e1,e2⟩|⟨e1,e2⟩|⟨e1,e2⟩;rw [e2];rcases hst with h'|⟨h', -, -⟩;left;rw [h',e1];omega;rw [e2];rcases hst with h'|⟨h', -, -⟩;left;rw [h',e1];omega;rw [e2];rcases e1 with e1|e1;right;exact ⟨rfl,rfl,e1,has,rfl⟩;left;rcases hst with h'|⟨h', -, -⟩;rw [h',e1];omega;exact .inl rfl
  have hks3:∀i id,i=1∨i=2→H.ks i id=3→(H.take 5 0).2.ks i id=3:=by
   intro i id hi h3;rcases hks i id hi with e|⟨-, -, -, -,e⟩;rw [e,h3];exact e
  refine ⟨B++a,⟨p1,by rw [p2];simp,fun x hx=>h.a x (by simp [hx]),fun x hx=>?_,fun i id hi=>?_,fun i id hi g0 g1 g2 g3=>?_⟩,?_⟩;rcases List.mem_append.1 hx with hx|hx;exact h.b x hx;rw [ea] at hx;rcases hv with ⟨e1,e2⟩|⟨e1,e2⟩|⟨e1,e2⟩<;>rw [e2] at hx<;>simp at hx;subst hx;right;simp only [hfr,h33];exact ⟨h31,has,.inl ⟨trivial,e1⟩⟩;subst hx;right;simp only [hfr,h33];exact ⟨h31,has,.inr ⟨trivial,e1⟩⟩;rcases hks i id hi with e|⟨e1,e2,e3,e4,e5⟩;rw [e];exact h.st i id hi;exact .inr ⟨e3,e4,e5⟩;rcases h.all i id hi g0 g1 g2 g3 with ⟨x,hx,hx1,hx2⟩|⟨x,hx,hx1,hx2,hx3⟩;rcases List.mem_cons.1 hx with rfl|hx;right;have hi2:3-x.to=i:=by omega
  rw [←hx1,←hx2] at g3;rcases hv with ⟨e1,e2⟩|⟨e1,e2⟩|⟨e1,e2⟩;exact absurd e1 g3;rw [e2] at ea;simp at ea;refine ⟨⟨13,x.to,x.frm,x.id,0,0,0⟩,List.mem_append_right _ (by rw [ea];simp),hfr.trans hi2,hx2,fun hz=>?_⟩;rw [←hx1,←hx2,e1] at hz;omega;rw [e2] at ea;simp at ea;refine ⟨⟨14,x.to,x.frm,x.id,0,0,0⟩,List.mem_append_right _ (by rw [ea];simp),hfr.trans hi2,hx2,fun hz=>?_⟩;rw [←hx1,←hx2,est _ _ hto,if_pos ⟨rfl,rfl⟩,e2];exact .inl ⟨x,hx,hx1,hx2⟩;exact .inr ⟨x,List.mem_append_left _ hx,hx1,hx2,fun hz=>hks3 _ _ (by omega) (hx3 hz)⟩;rw [ea];simp only [List.length_append];split<;>simp
theorem phA_all {s:Int→Int→Int} (hs:∀i id,i=1∨i=2→0≤s i id∧s i id≤3):∀(A:List Msg) {n:Nat} {H:Qb} {B:List Msg},PhA s n H A B→n+A.length≤4096→A.length+B.length≤256→
 ∃B',PhA s (n+A.length) (Qb.takes A.length H) [] B'∧B'.length≤B.length+A.length
 | [],n,H,B,h,_,_=>⟨B,h,by simp⟩
 |m::A,n,H,B,h,hn,hl=>by
  simp only [List.length_cons] at hn hl⊢;obtain ⟨B1,h1,hb1⟩:=phA_step hs h (by omega) (by omega);obtain ⟨B2,h2,hb2⟩:=phA_all hs A h1 (by omega) (by omega);refine ⟨B2,?_,by omega⟩;rw [show n+(A.length+1)=n+1+A.length by omega];exact h2
structure PhB (s:Int→Int→Int) (n:Nat) (H:Qb) (A B:List Msg):Prop where
 p:Peers n H
 l:H.p.l=A++B
 a:∀m∈A,AnsM s m
 b:∀m∈B,m.to=0
 st:∀i id,i=1∨i=2→H.ks i id=s i id∨H.ks i id=want (s i id) (s (3-i) id)
 all:∀i id,i=1∨i=2→1≤id→id≤6→H.ks i id=want (s i id) (s (3-i) id)∨(∃m∈A,m.to=i∧m.id=id)
theorem phA_end {s:Int→Int→Int} {n:Nat} {H:Qb} {B:List Msg} (hs:∀i id,i=1∨i=2→0≤s i id∧s i id≤3) (h:PhA s n H [] B):PhB s n H B []:=by
 refine ⟨h.p,by rw [h.l];simp,h.b,by simp,fun i id hi=>?_,fun i id hi g0 g1=>?_⟩;rcases h.st i id hi with e|⟨e1,e2,e3⟩;exact .inl e;right;rw [e3,e1,e2];rfl;have hsi:=hs i id hi;have hso:=hs (3-i) id (by omega);by_cases h1:s i id=1;by_cases h2:s (3-i) id=1;left;rcases h.st i id hi with e|⟨e1,e2,e3⟩;rw [e,h1,h2];rfl;omega;rcases h.all i id hi g0 g1 h1 h2 with ⟨x,hx, -⟩|⟨x,hx,hx1,hx2, -⟩;cases hx;exact .inr ⟨x,hx,hx1,hx2⟩;left;rcases h.st i id hi with e|⟨e1,e2,e3⟩;rw [e];by_cases h3:s i id=0∧s (3-i) id=1;rcases h.all (3-i) id (by omega) g0 g1 h3.2 (by rw [show 3-(3-i)=i by omega];omega) with ⟨x,hx, -⟩|⟨x,hx,hx1,hx2,hx3⟩;cases hx;rw [show 3-(3-i)=i by omega] at hx3;have:=hx3 h3.1;rw [e] at this;omega;unfold want;rw [if_neg (by omega),if_neg (by omega)];rw [e3,e1,e2];rfl
theorem phB_step {s:Int→Int→Int} (hs:∀i id,i=1∨i=2→0≤s i id∧s i id≤3) {n:Nat} {H:Qb} {m:Msg} {A B:List Msg} (h:PhB s n H (m::A) B) (hn:n<4096) (h256:A.length+B.length<256):
 ∃B',PhB s (n+1) (H.take 5 0).2 A B'∧B'.length≤B.length+1:=by
 have hm:=h.a m (by simp);have hl:H.p.l=m::(A++B):=h.l;obtain ⟨p1,a,p2,p3,p4⟩:=peers_take h.p hn hl (by simpa using h256) (by
  rcases hm with hm|⟨hm2, -,hm⟩;exact .inl hm;exact .inr ⟨hm2,by omega⟩)
 rcases hm with h0|⟨hto,h1,hk⟩;obtain ⟨rfl,e⟩:=p3 h0;refine ⟨B,⟨p1,by rw [p2];simp,fun x hx=>h.a x (by simp [hx]),h.b,fun i id hi=>by rw [e];exact h.st i id hi,fun i id hi g0 g1=>?_⟩,by omega⟩;rw [e];rcases h.all i id hi g0 g1 with hx|⟨x,hx,hx1,hx2⟩;exact .inl hx;rcases List.mem_cons.1 hx with rfl|hx;omega;exact .inr ⟨x,hx,hx1,hx2⟩
 ·obtain ⟨ea,est⟩:=p4 hto;have hst:=h.st m.to m.id hto;have hw:want (s m.to m.id) (s (3-m.to) m.id)=(if m.kind=13 then 2 else 3)∧Qr (H.ks m.to m.id) m.kind false=(if m.kind=13 then 2 else 3,11):=by
   rcases hk with ⟨k1,k2⟩|⟨k1,k2⟩;have hwn:want (s m.to m.id) (s (3-m.to) m.id)=2:=by rw [h1,k2];rfl
   rw [hwn] at hst⊢;rw [k1];refine ⟨rfl,?_⟩;rcases hst with e|e<;>rw [e];rw [h1];rfl;rfl
   ·have hwn:want (s m.to m.id) (s (3-m.to) m.id)=3:=by
     rw [h1];rcases k2 with k2|k2<;>rw [k2]<;>rfl
    rw [hwn] at hst⊢;rw [k1];refine ⟨rfl,?_⟩;rcases hst with e|e<;>rw [e];rw [h1];rfl;rfl
  rw [hw.2] at ea est;simp only at ea est;refine ⟨B++a,⟨p1,by rw [p2];simp,fun x hx=>h.a x (by simp [hx]),fun x hx=>?_,fun i id hi=>?_,fun i id hi g0 g1=>?_⟩,?_⟩;rcases List.mem_append.1 hx with hx|hx;exact h.b x hx;rw [ea] at hx;simp at hx;subst hx;rfl;rw [est i id hi];split;rename_i hc;obtain ⟨rfl,rfl⟩:=hc;exact .inr hw.1.symm;exact h.st i id hi;rw [est i id hi];split;rename_i hc;obtain ⟨rfl,rfl⟩:=hc;exact .inl hw.1.symm;rename_i hc;rcases h.all i id hi g0 g1 with hx|⟨x,hx,hx1,hx2⟩;exact .inl hx;rcases List.mem_cons.1 hx with rfl|hx;exact absurd ⟨hx1.symm,hx2⟩ hc;exact .inr ⟨x,hx,hx1,hx2⟩;rw [ea];simp
theorem phB_all {s:Int→Int→Int} (hs:∀i id,i=1∨i=2→0≤s i id∧s i id≤3):∀(A:List Msg) {n:Nat} {H:Qb} {B:List Msg},PhB s n H A B→n+A.length≤4096→A.length+B.length≤256→
 ∃B',PhB s (n+A.length) (Qb.takes A.length H) [] B'∧B'.length≤B.length+A.length
 | [],n,H,B,h,_,_=>⟨B,h,by simp⟩
 |m::A,n,H,B,h,hn,hl=>by
  simp only [List.length_cons] at hn hl⊢;obtain ⟨B1,h1,hb1⟩:=phB_step hs h (by omega) (by omega);obtain ⟨B2,h2,hb2⟩:=phB_all hs A h1 (by omega) (by omega);refine ⟨B2,?_,by omega⟩;rw [show n+(A.length+1)=n+1+A.length by omega];exact h2
theorem rings_peers {n:Nat} (i:Int) (hi:i=1∨i=2):∀(ids:List Int) {H:Qb},Peers n H→H.p.l.length+2*ids.length≤256→
 Peers n (H.rings i ids)∧(∀j id,j=1∨j=2→(H.rings i ids).ks j id=H.ks j id)∧∃A,(H.rings i ids).p.l=H.p.l++A∧A.length≤2*ids.length∧(∀m∈A,AskM H.ks m)∧∀id∈ids,H.ks i id=1→∃m∈A,m.to=3-i∧m.id=id
 | [],H,h,_=>⟨h,fun _ _ _=>rfl,[],by simp [Qb.rings],by simp,by simp,by simp⟩
 |id::r,H,h,hl=>by
  simp only [List.length_cons] at hl;have hkl:=Uf (H.kn i) id;have hdn:(H.kn i).j.down=false∧H.Qv i=false∧(H.kn i).node=i:=by
   rcases hi with rfl|rfl;exact ⟨h.d0,by simpa [Qb.Qv] using h.d0,h.n0⟩;exact ⟨h.d1,by simpa [Qb.Qv] using h.d1,h.n1⟩
  have hR:(H.Qo i id).2= {H with p:=H.p.puts ((H.kn i).ring id)}:=by
   unfold Qb.Qo Qb.kn;rw [if_neg (by simp [hdn.2.1]),if_neg (by omega)];rcases hi with rfl|rfl<;>rfl
  obtain ⟨l1,l2⟩:=puts_fit (p:=H.p) (l:=(H.kn i).ring id) (by rw [h.most];omega);have h1:Peers n (H.Qo i id).2:=by
   rw [hR];exact ⟨h.c,h.d0,h.d1,h.n0,h.n1,⟨h.cnt.k0,h.cnt.k1⟩,⟨h.nf.k0,h.nf.k1⟩,l2.trans h.most⟩
  have hks:∀j id',(H.Qo i id).2.ks j id'=H.ks j id':=fun j id'=>by rw [hR];rfl
  have hp:(H.Qo i id).2.p.l=H.p.l++(H.kn i).ring id:=by rw [hR];exact l1
  obtain ⟨h2,h3,A,h4,h5,h6,h7⟩:=rings_peers i hi r h1 (by rw [hp,List.length_append];omega);have hring:(H.kn i).ring id=if H.ks i id=1 then [⟨12,i,0,id,0,0,0⟩,⟨12,i,3-i,id,0,0,0⟩] else []:=by
   unfold Qd.ring;rw [if_neg (by simp [hdn.1]),hdn.2.2];rfl
  have hext:((H.Qo i id).2.ks)=H.ks:=by funext j id';exact hks j id'
  rw [hext] at h6 h7;refine ⟨h2,fun j id' hj=>(h3 j id' hj).trans (hks j id'),(H.kn i).ring id++A,by show ((H.Qo i id).2.rings i r).p.l=_;rw [h4,hp];simp,by simp only [List.length_append,List.length_cons];omega,fun m hm=>?_,fun id' hid' h1'=>?_⟩;rcases List.mem_append.1 hm with hm|hm;rw [hring] at hm;split at hm;rename_i h1';simp at hm;rcases hm with rfl|rfl;exact .inl rfl;exact .inr ⟨rfl,by show 3-i=1∨3-i=2;omega,by show i=3-(3-i);omega,by show H.ks (3-(3-i)) id=1;rw [show 3-(3-i)=i by omega];exact h1'⟩;cases hm;exact h6 m hm;rcases List.mem_cons.1 hid' with rfl|hid';exact ⟨⟨12,i,3-i,id',0,0,0⟩,List.mem_append_left _ (by rw [hring,if_pos h1'];simp),rfl,rfl⟩;obtain ⟨m,hm,hm1,hm2⟩:=h7 id' hid' h1';exact ⟨m,List.mem_append_right _ hm,hm1,hm2⟩
def ids6:List Int:= [1,2,3,4,5,6]
def Qb.ask2 (H:Qb):Qb:=(H.rings 1 ids6).rings 2 ids6
def Qb.peers (H:Qb):Qb:=Qb.takes (Qb.takes H.ask2.p.l.length H.ask2).p.l.length (Qb.takes H.ask2.p.l.length H.ask2)
theorem peers_round {n:Nat} {H:Qb} (h:Peers n H) (hn:n+500≤4096) (hm:∀m∈H.p.l,m.to=0) (hl:H.p.l.length≤200):
 Peers (n+500) H.peers∧(∀m∈H.peers.p.l,m.to=0)∧H.peers.p.l.length≤H.p.l.length+24∧(∀i id,i=1∨i=2→1≤id→id≤6→H.peers.ks i id=want (H.ks i id) (H.ks (3-i) id))∧
 H.ask2.p.l.length≤H.p.l.length+24∧(Qb.takes H.ask2.p.l.length H.ask2).p.l.length≤H.p.l.length+24:=by
 have hs:∀i id,i=1∨i=2→0≤H.ks i id∧H.ks i id≤3:=fun i id hi=>by
  rcases hi with rfl|rfl;exact h.nf.k0.st id;exact h.nf.k1.st id
 obtain ⟨a1,a2,A1,a3,a4,a5,a6⟩:=rings_peers 1 (.inl rfl) ids6 h (by simp [ids6];omega);obtain ⟨b1,b2,A2,b3,b4,b5,b6⟩:=rings_peers 2 (.inr rfl) ids6 a1 (by rw [a3,List.length_append];simp [ids6] at a4⊢;omega);have hl6:ids6.length=6:=rfl;have hp:H.ask2.p.l=H.p.l++A1++A2:=by show ((H.rings 1 ids6).rings 2 ids6).p.l=_;rw [b3,a3]
 have hA:PhA H.ks n H.ask2 (H.p.l++A1++A2) []:=by
  have hext:∀m,AskM (H.rings 1 ids6).ks m→AskM H.ks m:=fun m hm=>by
   rcases hm with hm|⟨e1,e2,e3,e4⟩;exact .inl hm;exact .inr ⟨e1,e2,e3,by rw [←a2 _ _ (by omega)];exact e4⟩
  refine ⟨b1,by rw [hp];simp,fun m hm'=>?_,by simp,fun i id hi=>.inl ((b2 i id hi).trans (a2 i id hi)),fun i id hi g0 g1 g2 g3=>.inl ?_⟩;rcases List.mem_append.1 hm' with hm'|hm';rcases List.mem_append.1 hm' with hm'|hm';exact .inl (hm m hm');exact a5 m hm';exact hext m (b5 m hm')
  ·have hin:id∈ids6:=by
    have:id=1∨id=2∨id=3∨id=4∨id=5∨id=6:=by omega
    simp [ids6,this]
   rcases hi with rfl|rfl;obtain ⟨m,e1,e2,e3⟩:=a6 id hin g2;exact ⟨m,by simp [e1],e2,e3⟩;obtain ⟨m,e1,e2,e3⟩:=b6 id hin (by rw [a2 _ _ (.inr rfl)];exact g2);exact ⟨m,by simp [e1],e2,e3⟩
 have hlen:(H.p.l++A1++A2).length≤H.p.l.length+24:=by simp only [List.length_append];omega
 obtain ⟨B,c1,c2⟩:=phA_all hs _ hA (by omega) (by simp only [List.length_nil];omega);have hq1:H.ask2.p.l.length=(H.p.l++A1++A2).length:=by rw [hp]
 rw [←hq1] at c1 c2 hlen;obtain ⟨D,d1,d2⟩:=phB_all hs B (phA_end hs c1) (by simp at c2;omega) (by simp at c2⊢;omega);have hq2:(Qb.takes H.ask2.p.l.length H.ask2).p.l.length=B.length:=by rw [c1.l];simp
 simp only [List.length_nil,Nat.zero_add] at c2 d2;have hpe:H.peers=Qb.takes B.length (Qb.takes H.ask2.p.l.length H.ask2):=by unfold Qb.peers;rw [hq2]
 rw [hpe];have hdl:=d1.l;simp only [List.nil_append] at hdl;refine ⟨d1.p.mono (by omega),fun m hm'=>d1.b m (by rw [hdl] at hm';exact hm'),by rw [hdl];omega,fun i id hi g0 g1=>?_,hlen,by omega⟩;rcases d1.all i id hi g0 g1 with e|⟨m,hm', -⟩;exact e;cases hm'
theorem want_want (a b:Int) (ha:0≤a∧a≤3) (hb:0≤b∧b≤3):want (want a b) (want b a)=want a b:=by
 have h1:a=0∨a=1∨a=2∨a=3:=by omega
 have h2:b=0∨b=1∨b=2∨b=3:=by omega
 rcases h1 with rfl|rfl|rfl|rfl<;>rcases h2 with rfl|rfl|rfl|rfl<;>rfl
end Go.Proofs.YtlnghlamnehfjaaGreatDoor.S
namespace Go.Proofs.YtlnghlamnehfjaaGreatDoor.S
open Go.RowKit Go.Maps
structure PL (p:Post):Prop where
 most:p.most=256
 len:p.l.length≤256
theorem PL.put {p:Post} (h:PL p) (m:Msg):PL (p.put m):=by
 unfold Post.put;split;rename_i hh;have h1:=h.most;exact ⟨h1,by simp only [List.length_append,List.length_singleton];omega⟩;exact ⟨h.most,by have:=h.len;simp only [List.length_drop,List.length_append,List.length_singleton];omega⟩
theorem PL.puts {p:Post} (h:PL p) (l:List Msg):PL (p.puts l):=by
 unfold Post.puts
 induction l generalizing p with
 |nil=>exact h
 |cons m r ih=>exact ih (h.put m)
theorem PL.gives {H:Qb} (h:PL H.p) (m:Msg):PL (H.gives m).p:=by
 unfold Qb.gives;repeat' split
 all_goals exact h.puts _
theorem PL.without {H:Qb} (h:PL H.p) (i:Nat):PL (H.without i).p:=⟨h.most,Nat.le_trans (List.length_eraseIdx_le ..) h.len⟩
theorem PL.take {H:Qb} (h:PL H.p) (kind i:Int):PL (H.take kind i).2.p:=by
 unfold Qb.take;split;exact h;split;exact h;split;exact h.put _;split;exact (h.without _).gives _;exact h.without _
theorem PL.Qo {H:Qb} (h:PL H.p) (i id:Int):PL (H.Qo i id).2.p:=by
 unfold Qb.Qo;repeat' split
 all_goals first|exact h|exact h.puts _
theorem PL.Ye {H:Qb} (h:PL H.p) (kind node i:Int):PL (H.Ye kind node i).2.p:=by
 unfold Qb.Ye Qb.starts Qb.Qj;repeat' split
 all_goals exact h
theorem PL.act {H:Qb} (h:PL H.p) (c:Cmd):PL (H.act c).2.p:=by
 unfold Qb.act Qb.asks Qb.XQ Qb.cancel Qb.force;repeat' split
 all_goals first|exact h.take _ _|exact h.Qo _ _|exact h.Ye _ _ _|exact h.puts _|exact h
theorem init_pl (tries:Int):PL (Qb.init tries).p:=⟨rfl,Nat.zero_le _⟩
theorem play_inv {I:Nat→Qb→Prop} (force:Bool) (hact:∀n H d,I n H→I (n+1) (H.act (H.cmd d force)).2) {H:Qb} (h:I 0 H) (ds:List XT):I ds.length (H.JX force ds).1:=by
 unfold Qb.JX;have key:∀(l:List XT) (x:Qb×List Od) (n:Nat),I n x.1→I (n+l.length) (l.foldl (Qb.Ul force) x).1:=by
  intro l
  induction l with
  |nil=>intro x n hx;exact hx
  |cons d r ih=>
   intro x n hx;have:=ih (Qb.Ul force x d) (n+1) (hact n x.1 d hx);simp only [List.foldl_cons,List.length_cons];exact (show n+1+r.length=n+(r.length+1) by omega)▸this
 have:=key ds (H,[]) 0 h;simpa using this
theorem cmd_nf (H:Qb) (d:XT):(H.cmd d false).kind≠3:=by
 unfold Qb.cmd;repeat' split
 all_goals first|(simp only;omega)|contradiction
theorem small_id (o:Od):1≤(small o).id∧(small o).id≤6:=Qix _
theorem cmd_small (H:Qb) (d:XT) (force:Bool) (h:(H.cmd d force).kind=1):1≤(H.cmd d force).o.id∧(H.cmd d force).o.id≤6:=by
 revert h;unfold Qb.cmd;repeat' split
 all_goals first|(intro _;exact small_id _)|(intro h;simp at h)
theorem play_ids (H:Qb) (force:Bool) (ds:List XT):∀o∈(H.JX force ds).2,1≤o.id∧o.id≤6:=by
 unfold Qb.JX;have key:∀(l:List XT) (x:Qb×List Od),(∀o∈x.2,1≤o.id∧o.id≤6)→∀o∈(l.foldl (Qb.Ul force) x).2,1≤o.id∧o.id≤6:=by
  intro l
  induction l with
  |nil=>intro x hx;exact hx
  |cons d r ih=>
   intro x hx;refine ih (Qb.Ul force x d) fun o ho=>?_;unfold Qb.Ul at ho;simp only at ho;split at ho;rename_i hk;rcases List.mem_append.1 ho with ho|ho;exact hx o ho;rw [List.mem_singleton.1 ho];exact cmd_small _ _ _ hk.2;exact hx o ho
 exact key ds (H,[]) (by simp)
def Qb.stK (H:Qb):Nat→Qb
 |0=>H
 |n+1=>((H.stK n).Ye 10 n 0).2
theorem power10_c {H:Qb} {i:Int} (h:i≠0):(H.Ye 10 i 0).2.c=H.c:=by
 unfold Qb.Ye Qb.starts;repeat' split
 all_goals first|rfl|contradiction
theorem power10_k0 {H:Qb} {i:Int} (h:i≠1):(H.Ye 10 i 0).2.k0=H.k0:=by
 unfold Qb.Ye Qb.starts;repeat' split
 all_goals first|rfl|contradiction
theorem power10_k1 {H:Qb} {i:Int} (h:i≠2):(H.Ye 10 i 0).2.k1=H.k1:=by
 unfold Qb.Ye Qb.starts;repeat' split
 all_goals first|rfl|contradiction
theorem kstart_up (k:Qd):k.start.j.down=false:=by
 unfold Qd.start;split;obtain ⟨h1,h2⟩:=Vf k.j.es (({k with j:=k.j.recover}:Qd).forget)
 show ((({k with j:=k.j.recover}:Qd).forget).Qi k.j.es).j.down=false
 rw [h1];rfl;rename_i h;simpa using h
theorem power10_up0 (H:Qb):(H.Ye 10 0 0).2.c.j.down=false:=by
 unfold Qb.Ye;split;rename_i h;simpa [Qb.Qv] using h
 show H.c.start.j.down=false
 rename_i h;unfold Qa.start;split
 show ((((({H.c with j:=H.c.j.recover}:Qa).forget).Qi H.c.j.es).ids.foldl Qa.wake ((({H.c with j:=H.c.j.recover}:Qa).forget).Qi H.c.j.es))).j.down=false
 rw [Qcy,(Yy _ _).2];rfl;rename_i hd;simpa using hd
theorem power10_up1 (H:Qb):(H.Ye 10 1 0).2.k0.j.down=false:=by
 unfold Qb.Ye;split;rename_i h;simpa [Qb.Qv] using h;exact kstart_up H.k0
theorem power10_up2 (H:Qb):(H.Ye 10 2 0).2.k1.j.down=false:=by
 unfold Qb.Ye;split;rename_i h;simpa [Qb.Qv] using h;exact kstart_up H.k1
theorem stK_up (H:Qb):(H.stK 7).c.j.down=false∧(H.stK 7).k0.j.down=false∧(H.stK 7).k1.j.down=false:=by
 refine ⟨?_,?_,?_⟩
 show ((((((((H.Ye 10 (0:Nat) 0).2.Ye 10 (1:Nat) 0).2.Ye 10 (2:Nat) 0).2.Ye 10 (3:Nat) 0).2.Ye 10 (4:Nat) 0).2.Ye 10 (5:Nat) 0).2.Ye 10 (6:Nat) 0).2).c.j.down=false
 rw [power10_c (by decide),power10_c (by decide),power10_c (by decide),power10_c (by decide),power10_c (by decide),power10_c (by decide)];exact power10_up0 H
 show ((((((((H.Ye 10 (0:Nat) 0).2.Ye 10 (1:Nat) 0).2.Ye 10 (2:Nat) 0).2.Ye 10 (3:Nat) 0).2.Ye 10 (4:Nat) 0).2.Ye 10 (5:Nat) 0).2.Ye 10 (6:Nat) 0).2).k0.j.down=false
 rw [power10_k0 (by decide),power10_k0 (by decide),power10_k0 (by decide),power10_k0 (by decide),power10_k0 (by decide)];exact power10_up1 _
 show ((((((((H.Ye 10 (0:Nat) 0).2.Ye 10 (1:Nat) 0).2.Ye 10 (2:Nat) 0).2.Ye 10 (3:Nat) 0).2.Ye 10 (4:Nat) 0).2.Ye 10 (5:Nat) 0).2.Ye 10 (6:Nat) 0).2).k1.j.down=false
 rw [power10_k1 (by decide),power10_k1 (by decide),power10_k1 (by decide),power10_k1 (by decide)];exact power10_up2 _
theorem stK_fine {H:Qb} (h:Qz H):∀n,Qz (H.stK n)
 |0=>h
 |n+1=>(stK_fine h n).Ye _ _ _
theorem stK_cnt {n:Nat} {H:Qb} (h:Cnt n H):∀k,Cnt n (H.stK k)
 |0=>h
 |k+1=>(stK_cnt h k).Ye _ _ _
theorem stK_nf {H:Qb} (h:NF H):∀k,NF (H.stK k)
 |0=>h
 |k+1=>(stK_nf h k).Ye _ _ _
theorem stK_pl {H:Qb} (h:PL H.p):∀k,PL (H.stK k).p
 |0=>h
 |k+1=>(stK_pl h k).Ye _ _ _
def Qb.shot (H:Qb):Qb:=((H.stK 7).Ye 9 0 1000).2
theorem shot_peers {n:Nat} {H:Qb} (hf:Qz H) (hc:Cnt n H) (hn:NF H) (hp:PL H.p):Peers n H.shot∧PL H.shot.p∧Qz H.shot:=by
 obtain ⟨u0,u1,u2⟩:=stK_up H;have f:=stK_fine hf 7;have c:=stK_cnt hc 7;have m:=stK_nf hn 7;have p:=stK_pl hp 7;unfold Qb.shot;generalize H.stK 7=G at *;have e:(G.Ye 9 0 1000).2= {G with c:=G.c.Qj 1000}:=by
  unfold Qb.Ye;rw [if_neg (by simp [Qb.Qv,u0]),if_neg (by decide)];rfl
 refine ⟨?_,p.Ye _ _ _,f.Ye _ _ _⟩;rw [e];refine ⟨?_,u1,u2,f.k0.node,f.k1.node,⟨c.k0,c.k1⟩,⟨m.k0,m.k1⟩,p.most⟩;unfold Qa.Qj;rw [if_neg (by simp [u0])];rfl
def Qb.drK (H:Qb):Nat→Qb
 |0=>H
 |n+1=>((H.drK n).take 6 0).2
theorem drop1 (H:Qb):(H.take 6 0).2= {H with p:= {H.p with l:=H.p.l.drop 1}}:=by
 unfold Qb.take;obtain ⟨c,k0,k1,s,v0,v1,v2,⟨mo,l,lo⟩⟩:=H;cases l with
 |nil=>simp [Post.has]
 |cons m r=>
  have e:Post.has ⟨mo,m::r,lo⟩ 0=true:=by simp [Post.has]
  simp [e,Qb.without]
theorem drK_eq (H:Qb):∀n,H.drK n= {H with p:= {H.p with l:=H.p.l.drop n}}
 |0=>rfl
 |n+1=>by
  show ((H.drK n).take 6 0).2=_
  rw [drK_eq H n,drop1];simp [List.drop_drop]
theorem drK_fine {H:Qb} (h:Qz H):∀n,Qz (H.drK n)
 |0=>h
 |n+1=>(drK_fine h n).take _ _
theorem drK_peers {n:Nat} {H:Qb} (h:Peers n H) (hp:PL H.p):Peers n (H.drK 300)∧(H.drK 300).p.l= []∧(H.drK 300).ks=H.ks:=by
 rw [drK_eq];refine ⟨⟨h.c,h.d0,h.d1,h.n0,h.n1,⟨h.cnt.k0,h.cnt.k1⟩,⟨h.nf.k0,h.nf.k1⟩,h.most⟩,?_,rfl⟩;exact List.drop_of_length_le (Nat.le_trans hp.len (by omega))
def Qb.peK (H:Qb):Nat→Qb
 |0=>H
 |n+1=>(H.peK n).peers
def Qb.rgK (H:Qb) (i:Int) (j:Nat):Qb:=H.rings i (ids6.take j)
theorem rgK_succ (H:Qb) (i:Int) {j:Nat} (hj:j<6):H.rgK i (j+1)=((H.rgK i j).Qo i ((j:Int)+1)).2:=by
 obtain rfl|rfl|rfl|rfl|rfl|rfl:j=0∨j=1∨j=2∨j=3∨j=4∨j=5:=by omega
 all_goals rfl
theorem rings_fine {H:Qb} (h:Qz H) (i:Int) (j:Nat):Qz (H.rgK i j):=h.rings i _ fun id hid=>by
 have:=List.mem_of_mem_take hid;simp [ids6] at this;omega
theorem peers_fine {H:Qb} (h:Qz H):Qz H.peers:=by
 have h1:Qz (H.rgK 1 6):=rings_fine h 1 6;have h2:Qz ((H.rgK 1 6).rgK 2 6):=rings_fine h1 2 6;exact Qz.takes _ (Qz.takes _ h2)
structure PK (s:Int→Int→Int) (n k:Nat) (H:Qb):Prop where
 p:Peers (n+500*k) H
 f:Qz H
 all0:∀m∈H.p.l,m.to=0
 len:H.p.l.length≤24*k
 now:∀i id,i=1∨i=2→1≤id→id≤6→H.ks i id=if k=0 then s i id else want (s i id) (s (3-i) id)
theorem PK.start {n:Nat} {H:Qb} (h:Peers n H) (f:Qz H) (hl:H.p.l= []):PK H.ks n 0 H:=
 ⟨h.mono (by omega),f,by rw [hl];simp,by rw [hl];simp,fun i id _ _ _=>by simp⟩
theorem Peers.ks_in {n:Nat} {H:Qb} (h:Peers n H) {i:Int} (hi:i=1∨i=2) (id:Int):0≤H.ks i id∧H.ks i id≤3:=by
 rcases hi with rfl|rfl;exact h.nf.k0.st id;exact h.nf.k1.st id
theorem want_in {a b:Int} (ha:0≤a∧a≤3) (hb:0≤b∧b≤3):0≤want a b∧want a b≤3:=by
 unfold want;repeat' split
 all_goals omega
theorem PK.round {s:Int→Int→Int} {n k:Nat} {H:Qb} (h:PK s n k H) (hs:∀i id,i=1∨i=2→0≤s i id∧s i id≤3) (hk:k≤4) (hn:n≤1000):
 PK s n (k+1) H.peers∧H.ask2.p.l.length≤256∧(Qb.takes H.ask2.p.l.length H.ask2).p.l.length≤256:=by
 have hl:=h.len;obtain ⟨r1,r2,r3,r4,r5,r6⟩:=peers_round h.p (by omega) h.all0 (by omega);refine ⟨⟨r1.mono (by omega),peers_fine h.f,r2,by omega,fun i id hi g0 g1=>?_⟩,by omega,by omega⟩;rw [r4 i id hi g0 g1,if_neg (by omega),h.now i id hi g0 g1,h.now (3-i) id (by omega) g0 g1];split;rfl;have e:(3:Int)-(3-i)=i:=by omega
 rw [e];exact want_want _ _ (hs i id hi) (hs (3-i) id (by omega))
end Go.Proofs.YtlnghlamnehfjaaGreatDoor.S
namespace Go.Proofs.YtlnghlamnehfjaaGreatDoor.S
open Go.RowKit Go.Maps
theorem Qc1:∀(L:List (Od×Value)) (k:Nat) (hk:k<L.length),(Yj L)[k*6+0]? =some (.int .i64 L[k].1.id)∧(Yj L)[k*6+1]? =some (.int .i64 L[k].1.item)∧(Yj L)[k*6+2]? =some (.int .i64 L[k].1.qty)∧(Yj L)[k*6+3]? =some (.int .i64 L[k].1.client)∧(Yj L)[k*6+4]? =some (.int .i64 L[k].1.price)∧(Yj L)[k*6+5]? =some L[k].2
 |p::l,0,_=>⟨rfl,rfl,rfl,rfl,rfl,rfl⟩
 |p::l,k+1,hk=>by
  have ih:=Qc1 l k (by simpa using hk);have e:∀j,(Yj (p::l))[(k+1)*6+j]? =(Yj l)[k*6+j]?:=fun j=>by
   show ([.int .i64 p.1.id,.int .i64 p.1.item,.int .i64 p.1.qty,.int .i64 p.1.client,.int .i64 p.1.price,p.2]++Yj l)[(k+1)*6+j]? =_
   rw [List.getElem?_append_right (by simp;omega)];congr 1;simp;omega
  rw [e,e,e,e,e,e];simpa using ih
theorem Qxv {w0 W:World} {l:List SA} {vp:Option Addr} {vk:Nat} {L:List (Od×Value)} (h:Heap w0 l W) (i:Nat) (e:l[i]? =some (.slc (.slice vp L.length vk) 32 6 L.length (Yj L))) (hs:∀p∈L,∃sp n sk,p.2=.slice sp n sk) {k:Nat} (hk:k<L.length):
 ∃g sp n sk,vp=some ⟨g,0,none⟩∧g<W.heap.size∧W.cell? ⟨g,k*6,none⟩=some (.int .i64 L[k].1.id)∧W.cell? ⟨g,k*6+1,none⟩=some (.int .i64 L[k].1.item)∧W.cell? ⟨g,k*6+2,none⟩=some (.int .i64 L[k].1.qty)∧W.cell? ⟨g,k*6+3,none⟩=some (.int .i64 L[k].1.client)∧W.cell? ⟨g,k*6+4,none⟩=some (.int .i64 L[k].1.price)∧W.cell? ⟨g,k*6+5,none⟩=some (.slice sp n sk):=by
 obtain ⟨sp,n,sk,he⟩:=hs L[k] (List.getElem_mem hk);rcases h.shp i e with ⟨-,hz, -⟩|⟨g,cap',hv, -, -,hc⟩;omega;cases hv;obtain ⟨a0,a1,a2,a3,a4,a5⟩:=Qc1 L k hk;rw [he] at a5;have c0:=hc (k*6+0) _ a0;exact ⟨g,sp,n,sk,rfl,World.block_lt_of_cell? W _ c0,c0,hc _ _ a1,hc _ _ a2,hc _ _ a3,hc _ _ a4,hc _ _ a5⟩
end Go.Proofs.YtlnghlamnehfjaaGreatDoor.S
namespace Go.Proofs.YtlnghlamnehfjaaGreatDoor.S
open Go.RowKit Go.Maps
theorem zTp61 {P:Prop} (h:P:=by
 obtain rfl|rfl|rfl|rfl|rfl|rfl:m=1∨m=2∨m=3∨m=4∨m=5∨m=6:=by omega
 all_goals simp [wasC,wasF]):P:=h
theorem zTp62 {P:Prop} (h:P:=by
 go_wp2_with fail;go_roundg (7-(m+1))
 case measure=>have:=HG2.1;omega
 case rel=>exact ⟨m+1,by go_num,by omega,by omega,⟨by omega⟩,HS2⟩):P:=h
theorem zTp63 {P:Prop} (h:P:=by
 go_roundg (6-(j+1))
 case measure=>have:=HG3.1;omega
 case rel=>exact ⟨j+1,by go_num,by omega,⟨by omega⟩,⟨H6.1⟩⟩):P:=h
theorem yTp61 {P:Prop} (h:P:=by
 go_wp2_with fail;refine Xh [(0,.f),(1,.f),(2,.s),(3,.f),(4,.f),(5,.s),(6,.f),(7,.f),(8,.f),(9,.s),(10,.f),(11,.f),(12,.s),(13,.f),(14,.f)] ?_;iterate 15
  first
   |(refine vg rfl rfl ?_;apply ex2;intro w' hw';go_simp;rfl;go_simp)
   |(refine vs_ rfl (fun K hK=>?_);go_simp;refine hK _ ?_;clear hK K)
 refine vn ?_;go_simp;go_wp2_with fail;refine wro (fun W=>W.cell? ⟨n0,0,none⟩=some (.int .i64 m)) [(0,.f),(1,.f),(2,.f),(4,.f),(5,.f),(3,.e),(6,.e),(7,.f)] y0 ?_;iterate 5
  first
   |(refine vg rfl rfl ?_;apply ex2;intro w' hw';go_simp;rfl;go_simp)
   |(refine vs_ rfl (fun K hK=>?_);go_simp;refine hK _ ?_;clear hK K)
 refine ve rfl rfl ?_;first
  |(have ty:Tg 1:=tg;go_wp2_with (go_at_call 16;refine (UK HR2.1.drew.drew 1 (.inl rfl)).m0 ?_);refine ⟨y0,?_⟩;go_simp;refine ve rfl rfl ?_;go_wp2_with (go_at_call 17;refine (QE7 HR2.1.drew.drew (.inl rfl) m (by have:=HMM.1;omega) (by have:=HMM.1;omega)).mono ?_;rintro e w' ⟨rfl,rfl⟩);refine ⟨y0,?_⟩;go_simp;first
     |(refine vg rfl rfl ?_;apply ex2;intro w' hw';go_simp;rfl;go_simp)
     |(refine vs_ rfl (fun K hK=>?_);go_simp;refine hK _ ?_;clear hK K)
    refine vn ?_;go_simp;have HE:mgi (U.kn 1).st m=want (s0 1 m) (s0 2 m):=HNW.1 1 m (.inl rfl) (by have:=HMM.1;omega) (by have:=HMM.1;omega);have hs1:=HSI.1 1 m (by omega);have hs2:=HSI.1 2 m (by omega);have HRD:=zk HR2.1.drew.drew;rw [HE];clear HE HNW HSI y0 y1 y2 y3 y4 HR2;generalize s0 1 m=va at *;generalize s0 2 m=vb at *;generalize hwt:want va vb=vc at *;obtain rfl|rfl|rfl|rfl:va=0∨va=1∨va=2∨va=3:=by omega
    all_goals obtain rfl|rfl|rfl|rfl:vb=0∨vb=1∨vb=2∨vb=3:=by omega
    all_goals
     simp [want] at hwt;subst hwt;go_wp2_with fail;go_roundg (2-(0+1))
     case measure=>have:=HG2.1;omega
     case rel=>exact ⟨1,by go_num,by omega,⟨by omega⟩,⟨HRD.1⟩⟩)
  |(have ty:Tg 2:=tg;go_wp2_with (go_at_call 16;refine (UK HR2.1.drew.drew 2 (.inr rfl)).m0 ?_);refine ⟨y0,?_⟩;go_simp;refine ve rfl rfl ?_;go_wp2_with (go_at_call 17;refine (QE7 HR2.1.drew.drew (.inr rfl) m (by have:=HMM.1;omega) (by have:=HMM.1;omega)).mono ?_;rintro e w' ⟨rfl,rfl⟩);refine ⟨y0,?_⟩;go_simp;first
     |(refine vg rfl rfl ?_;apply ex2;intro w' hw';go_simp;rfl;go_simp)
     |(refine vs_ rfl (fun K hK=>?_);go_simp;refine hK _ ?_;clear hK K)
    refine vn ?_;go_simp;have HE:mgi (U.kn 2).st m=want (s0 2 m) (s0 1 m):=HNW.1 2 m (.inr rfl) (by have:=HMM.1;omega) (by have:=HMM.1;omega);have hs1:=HSI.1 2 m (by omega);have hs2:=HSI.1 1 m (by omega);have HRD:=zk HR2.1.drew.drew;rw [HE];clear HE HNW HSI y0 y1 y2 y3 y4 HR2;generalize s0 2 m=va at *;generalize s0 1 m=vb at *;generalize hwt:want va vb=vc at *;obtain rfl|rfl|rfl|rfl:va=0∨va=1∨va=2∨va=3:=by omega
    all_goals obtain rfl|rfl|rfl|rfl:vb=0∨vb=1∨vb=2∨vb=3:=by omega
    all_goals
     simp [want] at hwt;subst hwt;go_wp2_with fail;go_roundg (2-(1+1))
     case measure=>have:=HG2.1;omega
     case rel=>exact ⟨2,by go_num,by omega,⟨by omega⟩,⟨HRD.1⟩⟩)):P:=h
theorem yTp62 {P:Prop} (h:P:=by
 have HM:=zk (And.intro hm1 hlm);go_wp2_with fail;refine Xh [(0,.f),(1,.f),(2,.f),(3,.f),(4,.f),(6,.f),(8,.f),(5,.e),(7,.e),(9,.f),(10,.e)] ?_;iterate 7
  first
   |(refine vg rfl rfl ?_;apply ex2;intro w' hw';go_simp;rfl;go_simp)
   |(refine vs_ rfl (fun K hK=>?_);go_simp;refine hK _ ?_;clear hK K)
 refine ve rfl rfl ?_;first
  |(have ty:Tg 1:=tg;go_wp2_with (go_at_call 16;refine (UK HR2.1.drew 1 (.inl rfl)).m0 ?_);refine ⟨trivial,?_⟩;go_simp;refine ve rfl rfl ?_;go_wp2_with (go_at_call 17;refine (QE7 HR2.1.drew (.inl rfl) m (by omega) (by omega)).m0 ?_);refine ⟨trivial,?_⟩;go_simp;first
     |(refine vg rfl rfl ?_;apply ex2;intro w' hw';go_simp;rfl;go_simp)
     |(refine vs_ rfl (fun K hK=>?_);go_simp;refine hK _ ?_;clear hK K)
    refine ve rfl rfl ?_;go_wp2_with fail;refine ⟨trivial,?_⟩;go_simp;refine vn ?_;go_simp;have HS2:As (Heap w0 (S.on q (.pts nw (.cells (wasC S.ks (7*0+(m+1))) 49)::SL)) ((wr.setCell ⟨nw,m,none⟩ (.int .i64 (mgi (S.kn 1).st m))).drew)):=⟨by
     have h7:=(HR2.1.sAt 13 m (.int .i64 (S.ks 1 m)) rfl).drew;rw [show (7*0+m:Nat)=m by omega,wasC_set0 S.ks HM.1.1 HM.1.2] at h7;rw [show (7*0+(m+1):Nat)=m+1 by omega];exact h7⟩
    exact zTp62)
  |(have ty:Tg 2:=tg;go_wp2_with (go_at_call 16;refine (UK HR2.1.drew 2 (.inr rfl)).m0 ?_);refine ⟨trivial,?_⟩;go_simp;refine ve rfl rfl ?_;go_wp2_with (go_at_call 17;refine (QE7 HR2.1.drew (.inr rfl) m (by omega) (by omega)).m0 ?_);refine ⟨trivial,?_⟩;go_simp;first
     |(refine vg rfl rfl ?_;apply ex2;intro w' hw';go_simp;rfl;go_simp)
     |(refine vs_ rfl (fun K hK=>?_);go_simp;refine hK _ ?_;clear hK K)
    refine ve rfl rfl ?_;go_wp2_with fail;refine ⟨trivial,?_⟩;go_simp;refine vn ?_;go_simp;have HS2:As (Heap w0 (S.on q (.pts nw (.cells (wasC S.ks (7*1+(m+1))) 49)::SL)) ((wr.setCell ⟨nw,(7+m),none⟩ (.int .i64 (mgi (S.kn 2).st m))).drew)):=⟨by
     have h7:=(HR2.1.sAt 13 (7+m) (.int .i64 (S.ks 2 m)) rfl).drew;rw [show (7*1+m:Nat)=(7+m) by omega,wasC_set1 S.ks HM.1.1 HM.1.2] at h7;rw [show (7*1+(m+1):Nat)=(7+m)+1 by omega];exact h7⟩
    exact zTp62)):P:=h
def wasF (s:Int→Int→Int) (n j:Nat):Int:=if j<n∧j%7≠0 then s (1+(j/7:Nat)) ((j%7:Nat)) else 0
def wasC (s:Int→Int→Int) (n:Nat):Array Value:= #[.int .i64 (wasF s n 0),.int .i64 (wasF s n 1),.int .i64 (wasF s n 2),.int .i64 (wasF s n 3),.int .i64 (wasF s n 4),.int .i64 (wasF s n 5),.int .i64 (wasF s n 6),.int .i64 (wasF s n 7),.int .i64 (wasF s n 8),.int .i64 (wasF s n 9),.int .i64 (wasF s n 10),.int .i64 (wasF s n 11),.int .i64 (wasF s n 12),.int .i64 (wasF s n 13)]
theorem wasC_zero (s:Int→Int→Int):wasC s 0= #[.int .i64 0,.int .i64 0,.int .i64 0,.int .i64 0,.int .i64 0,.int .i64 0,.int .i64 0,.int .i64 0,.int .i64 0,.int .i64 0,.int .i64 0,.int .i64 0,.int .i64 0,.int .i64 0]:=by simp [wasC,wasF]
theorem wasC_skip (s:Int→Int→Int) {n:Nat} (h:n=0∨n=7∨n=14):wasC s n=wasC s (n+1):=by
 rcases h with rfl|rfl|rfl<;>simp [wasC,wasF]
theorem wasC_size (s:Int→Int→Int) (n:Nat):(wasC s n).size=14:=rfl
theorem wasC_set0 (s:Int→Int→Int) {m:Nat} (h0:1≤m) (h1:m≤6):(wasC s m).setIfInBounds m (.int .i64 (s 1 m))=wasC s (m+1):=by
 exact zTp61
theorem wasC_set1 (s:Int→Int→Int) {m:Nat} (h0:1≤m) (h1:m≤6):(wasC s (7+m)).setIfInBounds (7+m) (.int .i64 (s 2 m))=wasC s (7+m+1):=by
 exact zTp61
theorem wasC_get0 (s:Int→Int→Int) {m:Nat} (h0:1≤m) (h1:m≤6):(wasC s 14)[m]? =some (.int .i64 (s 1 m)):=by
 exact zTp61
theorem wasC_get1 (s:Int→Int→Int) {m:Nat} (h0:1≤m) (h1:m≤6):(wasC s 14)[7+m]? =some (.int .i64 (s 2 m)):=by
 exact zTp61
def Qb.aJ (H:Qb):Nat→Qb
 |0=>H
 |n+1=>(H.aJ n).rgK ((n:Int)+1) 6
theorem aJ_fine {H:Qb} (h:Qz H):∀n,Qz (H.aJ n)
 |0=>h
 |n+1=>rings_fine (aJ_fine h n) _ 6
section
variable {w0 w:World} {R:List SA}
theorem toppeers_ok {a:Option Addr} {cap:Nat} {ds:List XT} (hd:Us w0 a cap ds) (h:Heap w0 R w) (rg:Int):
 Calls Tryz.prog 5 #[.slice a ds.length cap,.int .i64 rg] w fun e w'=>e=.returned (.bool true)∧Below w0.heap.size w0 w':=by
 have HD:=zk hd;have H0:=zk h;have HFI:=zk (FY (tries:=2+u64 4%5) (by decide) (by decide));have HCI:=zk (init_cnt (2+u64 4%5));have HNI:=zk (init_nf (2+u64 4%5));have HLI0:=zk (init_pl (2+u64 4%5));have HNN:As (∃N:Nat,wrap64 (1+wrap64 ((IntKind.u64.wrap rg).tmod 4))=N∧N≤4∧1≤N):=⟨by
  refine ⟨(1+u64 rg%4).toNat,?_,by omega,by omega⟩;rw [XP,wsm (x:=u64 rg%4) (by omega) (by omega),wsm (by omega) (by omega)];omega⟩
 clear h hd;go_enter Tryz.func5,Tryz.ntmps5;go_wp2_with (first
  |(go_at_call 6;refine (Qzq H0.1 4).mono ?_;rintro e w2 ⟨q,rfl,h2⟩;have H2:=zk h2;clear h2)
  |(go_at_call 7;refine (Qy1 HD.1 H2.1).mono ?_;rintro e w3 ⟨b,rfl,h3,hl⟩;have H3:=zk h3;have HL:=zk hl;clear h3 hl;cases b))
 ·go_wp2_with (first
   |(go_at_call 8;refine (Qjy H3.1).m1 fun w4 H4=>?_))
  go_ret;exact ⟨rfl,H4.1.bel⟩
 ·generalize Qb.init (2+u64 4%5)=HI at *;have HLI:=zk (HL.1 (by simp));have HPL:=zk (Qzi HD.1 HFI.1 H3.1 false HLI.1.1);have HNO:As ((HI.JX false ds).2.length≤150):=⟨by
   have h1:=Qso HI false ds ds.length;have h2:=HLI.1.1;unfold Qb.VL at h1;rw [List.take_length] at h1;omega⟩
  have HID:=zk (play_ids HI false ds);have HPF:As (Qz (HI.JX false ds).1):=⟨play_inv (I:=fun _ H=>Qz H) false (fun n H d h=>h.act (Qxw _ _ _)) HFI.1 ds⟩;have HPC:As (Cnt 150 (HI.JX false ds).1):=⟨(play_inv (I:=Cnt) false (fun n H d h=>h.act _) HCI.1 ds).mono HLI.1.1⟩;have HPN:As (NF (HI.JX false ds).1):=⟨play_inv (I:=fun _ H=>NF H) false (fun n H d h=>h.act (cmd_nf _ _)) HNI.1 ds⟩;have HPP:As (PL (HI.JX false ds).1.p):=⟨play_inv (I:=fun _ H=>PL H.p) false (fun n H d h=>h.act _) HLI0.1 ds⟩;generalize HI.JX false ds=X0 at *;obtain ⟨G0,os⟩:=X0;simp only at HID HPF HPC HPN HPP HNO;have HSH:=zk (shot_peers HPF.1 HPC.1 HPN.1 HPP.1);have HSF:=zk (stK_fine HPF.1);clear HL HPF HPC HPN HPP HFI HCI HNI HLI0 HLI;go_wp2_with (go_at_call 9;refine HPL.1.mono ?_;rintro e w4 ⟨v,L,rfl,hL1,hL2,h4⟩;obtain ⟨vp,vk,rfl⟩:=vS2 (h4.row 0 rfl);have HLS:=zk (And.intro hL1 hL2);have H4:As (Heap w0 (G0.on q (.slc (.slice vp L.length vk) 32 6 L.length (Yj L)::R)) w4):=⟨h4.sel (p:= [_,_,_,_,_,_,_,_,_,_,_,_,_,_]) [1,2,3,4,5,6,7,8,9,10,11,12,13,0] 14 rfl (by decide)⟩;clear h4 hL1 hL2);have HLL:As (L.length≤150):=⟨by have h1:=HNO.1;rw [←HLS.1.1,List.length_map] at h1;exact h1⟩;clear HPL HNO;obtain ⟨SL,hSL⟩:∃SL,SL=(.slc (.slice vp L.length vk) 32 6 L.length (Yj L)::R:List SA):=⟨_,rfl⟩;rw [←hSL] at H4;have HSL:=zk hSL;clear hSL
  go_loopg [7,36] 7 (fun gk a7 u wr=>∃k:Nat,u=.int .i64 k∧k≤7∧As (gk+k=7)∧As (Heap w0 ((G0.stK k).on q SL) wr))
  case atStart=>exact ⟨0,rfl,Nat.zero_le _,⟨rfl⟩,H4⟩
  case round=>
   obtain ⟨k,rfl,hk,HG,HR⟩:=hrel;clear H4;by_cases hlt:k<7
   ·have hk1:(k:Int)<7:=by omega
    go_wp2_with (go_at_call 18;refine (Qce (node:=k) (cid:=0) (i:=0) (yes:=false) (o:=Od.none) (sp:=none) (sn:=0) (sk:=0) (HSF.1 k) HR.1 (by omega) (by omega)).m1 fun w5 H5=>?_);go_roundg (7-(k+1))
    case measure=>have:=HG.1;omega
    case rel=>exact ⟨k+1,by go_num,by omega,⟨by omega⟩,⟨H5.1⟩⟩
   ·obtain rfl:k=7:=by omega
    go_wp2_with (go_at_call 18;refine (Qur (node:=0) (cid:=0) (i:=1000) (yes:=false) (o:=Od.none) (sp:=none) (sn:=0) (sk:=0) (HSF.1 7) HR.1 (by omega) (by omega)).m2 fun w5 h5=>?_;have H5:As (Heap w0 (G0.shot.on q SL) w5):=⟨h5⟩;clear h5);obtain ⟨hSp,hSl,hSfi⟩:=HSH.1;have HDR:=zk (drK_peers hSp hSl);have HDF:=zk (drK_fine hSfi);have HSI:As (∀i id,i=1∨i=2→0≤G0.shot.ks i id∧G0.shot.ks i id≤3):=⟨fun i id hi=>hSp.ks_in hi id⟩;clear HR HSF HSH hSp hSl hSfi HG hk hlt;generalize G0.shot=S at *;have HB:As (Heap w0 (S.on q (.pts w5.heap.size (.cells (wasC S.ks 1) 49)::SL)) (w5.alloc (.cells #[.int .i64 0,.int .i64 0,.int .i64 0,.int .i64 0,.int .i64 0,.int .i64 0,.int .i64 0,.int .i64 0,.int .i64 0,.int .i64 0,.int .i64 0,.int .i64 0,.int .i64 0,.int .i64 0] 49))):=⟨by
     rw [←wasC_skip S.ks (n:=0) (.inl rfl),wasC_zero];exact (H5.1.new _).sel (p:= [_,_,_,_,_,_,_,_,_,_,_,_,_,_]) [1,2,3,4,5,6,7,8,9,10,11,12,13,0] 14 rfl (by decide)⟩
    generalize hW:World.alloc _ _=W1 at *;clear hW;generalize w5.heap.size=nw at *;clear H5
    go_loopg [9,10,47] 2 (fun gk a9 a10 u wr=>∃k:Nat,u=.int .i64 k∧k≤2∧As (gk+k=2)∧As (Heap w0 (S.on q (.pts nw (.cells (wasC S.ks (7*k+1)) 49)::SL)) wr))
    case atStart=>exact ⟨0,rfl,Nat.zero_le _,⟨rfl⟩,HB⟩
    case round=>
     obtain ⟨k,rfl,hk,HG,HR⟩:=hrel;clear HB;by_cases hlt:k<2
     ·have hk1:(k:Int)<2:=by omega
      have HK:As (k<2):=⟨hlt⟩;go_wp2_with fail
      go_loopg [10] 6 (fun gk2 u wr2=>∃m:Nat,u=.int .i64 m∧1≤m∧m≤7∧As (gk2+m=7)∧As (Heap w0 (S.on q (.pts nw (.cells (wasC S.ks (7*k+m)) 49)::SL)) wr2))
      case atStart=>exact ⟨1,rfl,by omega,by omega,⟨by omega⟩,HR⟩
      case round=>
       obtain ⟨m,rfl,hm1,hm7,HG2,HR2⟩:=hrel;clear HR;by_cases hlm:m≤6;have hm6:(m:Int)≤6:=by omega
       have hmlt:(m:Int)<7:=by omega
       rcases (show k=0∨k=1 by omega) with rfl|rfl;have hc:=HR2.1.cell 13 m (v:=(wasC S.ks (7*0+m))[m]'(by rw [wasC_size];omega)) rfl (by simp);have hlb:=HR2.1.lt 13 rfl;have hcf:=HR2.1.frz 13 m rfl;have tg:=Tg.mk 1;exact yTp62;have hc:=HR2.1.cell 13 (7+m) (v:=(wasC S.ks (7*1+m))[(7+m)]'(by rw [wasC_size];omega)) rfl (by simp);have hlb:=HR2.1.lt 13 rfl;have hcf:=HR2.1.frz 13 (7+m) rfl;have tg:=Tg.mk 2;exact yTp62
       ·obtain rfl:m=7:=by omega
        go_wp2_with fail;go_roundg (2-(k+1))
        case measure=>have:=HG.1;omega
        case rel=>exact ⟨k+1,by go_num,by omega,⟨by omega⟩,⟨by rw [←wasC_skip S.ks (n:=7*(k+1)) (by omega)];exact HR2.1⟩⟩
     ·obtain rfl:k=2:=by omega
      have HW:As (Heap w0 (S.on q (.pts nw (.cells (wasC S.ks 14) 49)::SL)) wr):=⟨by rw [wasC_skip S.ks (n:=14) (by omega)];exact HR.1⟩;clear HR HG hk hlt;go_wp2_with fail
      go_loopg [65] 300 (fun gk u wr=>∃k:Nat,u=.int .i64 k∧k≤300∧As (gk+k=300)∧As (Heap w0 ((S.drK k).on q (.pts nw (.cells (wasC S.ks 14) 49)::SL)) wr))
      case atStart=>exact ⟨0,rfl,Nat.zero_le _,⟨rfl⟩,HW⟩
      case round=>
       obtain ⟨k,rfl,hk,HG,HR⟩:=hrel;clear HW;by_cases hlt:k<300
       ·have hk1:(k:Int)<300:=by omega
        go_wp2_with (go_at_call 18;refine (Qxk (node:=0) (cid:=0) (i:=0) (yes:=false) (o:=Od.none) (sp:=none) (sn:=0) (sk:=0) (HDF.1 k) HR.1).m1 fun w6 H6=>?_);go_roundg (300-(k+1))
        case measure=>have:=HG.1;omega
        case rel=>exact ⟨k+1,by go_num,by omega,⟨by omega⟩,⟨H6.1⟩⟩
       ·obtain rfl:k=300:=by omega
        obtain ⟨hD,hl0,hks⟩:=HDR.1;have HLZ:As (((S.drK 300).p.l.length:Int)=0):=⟨by rw [hl0];rfl⟩;go_wp2_with (first
         |(go_at_call 14;refine (Qmq HR.1).m0 ?_)
         |(go_at_call 15;refine (Qif HR.1).m0 ?_;rw [HLZ.1]))
        have HPK:As (PK S.ks 150 0 (S.drK 300)):=⟨by rw [←hks];exact PK.start hD (HDF.1 300) hl0⟩;clear HDR HDF HLZ hD hl0 hks HG hk hlt;generalize S.drK 300=T at *;generalize S.ks=s0 at *;obtain ⟨N,hN,hN4,hN1⟩:=HNN.1;rw [hN]
        go_loopg [80] N (fun gk u wr=>∃k:Nat,u=.int .i64 k∧k≤N∧As (gk+k=N)∧As (PK s0 150 k (T.peK k))∧As (Heap w0 ((T.peK k).on q (.pts nw (.cells (wasC s0 14) 49)::SL)) wr))
        case atStart=>exact ⟨0,rfl,Nat.zero_le _,⟨by omega⟩,HPK,HR⟩
        case round=>
         obtain ⟨k,rfl,hk,HG,HP,HR⟩:=hrel;by_cases hlt:k<N
         ·have hk1:(k:Int)<(N:Int):=by omega
          have HPR:=zk (HP.1.round HSI.1 (by omega) (by omega));have HFP:=zk HP.1.f;clear HPK HP;go_wp2_with fail
          go_loopg [11,12,82] 2 (fun gk2 a11 a12 u wr2=>∃k2:Nat,u=.int .i64 k2∧k2≤2∧As (gk2+k2=2)∧As (Heap w0 (((T.peK k).aJ k2).on q (.pts nw (.cells (wasC s0 14) 49)::SL)) wr2))
          case atStart=>exact ⟨0,rfl,Nat.zero_le _,⟨rfl⟩,HR⟩
          case round=>
           obtain ⟨k2,rfl,hk2,HG2,HR2⟩:=hrel;clear HR;by_cases hl2:k2<2
           ·rcases (show k2=0∨k2=1 by omega) with rfl|rfl
            ·go_wp2_with fail
             go_loopg [12] 6 (fun gk3 u wr3=>∃j:Nat,u=.int .i64 ((j:Int)+1)∧j≤6∧As (gk3+j=6)∧As (Heap w0 ((((T.peK k).aJ 0).rgK 1 j).on q (.pts nw (.cells (wasC s0 14) 49)::SL)) wr3))
             case atStart=>exact ⟨0,rfl,Nat.zero_le _,⟨rfl⟩,⟨HR2.1⟩⟩
             case round=>
              obtain ⟨j,rfl,hj,HG3,HR3⟩:=hrel;clear HR2;by_cases hlj:j<6
              ·have hj1:(j:Int)+1≤6:=by omega
               go_wp2_with (go_at_call 18;refine (Qp6 (node:=1) (cid:=(j:Int)+1) (i:=0) (yes:=false) (o:=Od.none) (sp:=none) (sn:=0) (sk:=0) (rings_fine (aJ_fine HFP.1 0) 1 j) HR3.1 (.inr (.inl rfl)) (by omega) (by omega)).m2 fun w6 h6=>?_;rw [←rgK_succ _ 1 hlj] at h6;have H6:=zk h6;clear h6);exact zTp63
              ·obtain rfl:j=6:=by omega
               go_wp2_with fail;go_roundg (2-(0+1))
               case measure=>have:=HG2.1;omega
               case rel=>exact ⟨1,by go_num,by omega,⟨by omega⟩,⟨HR3.1⟩⟩
            ·go_wp2_with fail
             go_loopg [12] 6 (fun gk3 u wr3=>∃j:Nat,u=.int .i64 ((j:Int)+1)∧j≤6∧As (gk3+j=6)∧As (Heap w0 ((((T.peK k).aJ 1).rgK 2 j).on q (.pts nw (.cells (wasC s0 14) 49)::SL)) wr3))
             case atStart=>exact ⟨0,rfl,Nat.zero_le _,⟨rfl⟩,⟨HR2.1⟩⟩
             case round=>
              obtain ⟨j,rfl,hj,HG3,HR3⟩:=hrel;clear HR2;by_cases hlj:j<6
              ·have hj1:(j:Int)+1≤6:=by omega
               go_wp2_with (go_at_call 18;refine (Qp6 (node:=2) (cid:=(j:Int)+1) (i:=0) (yes:=false) (o:=Od.none) (sp:=none) (sn:=0) (sk:=0) (rings_fine (aJ_fine HFP.1 1) 2 j) HR3.1 (.inr (.inr rfl)) (by omega) (by omega)).m2 fun w6 h6=>?_;rw [←rgK_succ _ 2 hlj] at h6;have H6:=zk h6;clear h6);exact zTp63
              ·obtain rfl:j=6:=by omega
               go_wp2_with fail;go_roundg (2-(1+1))
               case measure=>have:=HG2.1;omega
               case rel=>exact ⟨2,by go_num,by omega,⟨by omega⟩,⟨HR3.1⟩⟩
           ·obtain rfl:k2=2:=by omega
            have HA:As (Heap w0 ((T.peK k).ask2.on q (.pts nw (.cells (wasC s0 14) 49)::SL)) wr):=⟨HR2.1⟩;have HFA:As (Qz (T.peK k).ask2):=⟨aJ_fine HFP.1 2⟩;have HPS:As (PK s0 150 (k+1) (Qb.takes (Qb.takes (T.peK k).ask2.p.l.length (T.peK k).ask2).p.l.length (Qb.takes (T.peK k).ask2.p.l.length (T.peK k).ask2))∧Qb.takes (Qb.takes (T.peK k).ask2.p.l.length (T.peK k).ask2).p.l.length (Qb.takes (T.peK k).ask2.p.l.length (T.peK k).ask2)=T.peK (k+1)):=⟨HPR.1.1,rfl⟩;have hA4:=HPR.1.2.1;have hB4:=HPR.1.2.2;clear HR2 HG2 hl2 hk2 HFP HPR;generalize (T.peK k).ask2=A at *;go_wp2_with (first
             |(go_at_call 14;refine (Qmq HA.1).m0 ?_)
             |(go_at_call 15;refine (Qif HA.1).m0 ?_))
            go_loopg [99] A.p.l.length (fun gk4 u wr4=>∃j:Nat,u=.int .i64 j∧j≤A.p.l.length∧As (gk4+j=A.p.l.length)∧As (Heap w0 ((Qb.takes j A).on q (.pts nw (.cells (wasC s0 14) 49)::SL)) wr4))
            case atStart=>exact ⟨0,rfl,Nat.zero_le _,⟨by omega⟩,HA⟩
            case round=>
             obtain ⟨j,rfl,hj,HG4,HR4⟩:=hrel;clear HA;by_cases hlj:j<A.p.l.length
             ·have hj1:(j:Int)<(A.p.l.length:Int):=by omega
              go_wp2_with (go_at_call 18;refine (Qlb (node:=0) (cid:=0) (i:=0) (yes:=false) (o:=Od.none) (sp:=none) (sn:=0) (sk:=0) (Qz.takes j HFA.1) HR4.1).m2 fun w6 h6=>?_;rw [←takes_succ] at h6;have H6:=zk h6;clear h6);go_roundg (A.p.l.length-(j+1))
              case measure=>have:=HG4.1;omega
              case rel=>exact ⟨j+1,by go_num,by omega,⟨by omega⟩,⟨H6.1⟩⟩
             ·obtain rfl:j=A.p.l.length:=by omega
              have HFB:As (Qz (Qb.takes A.p.l.length A)):=⟨Qz.takes _ HFA.1⟩;clear HFA HG4 hlj hj;generalize Qb.takes A.p.l.length A=B at *;go_wp2_with (first
               |(go_at_call 14;refine (Qmq HR4.1).m0 ?_)
               |(go_at_call 15;refine (Qif HR4.1).m0 ?_))
              go_loopg [108] B.p.l.length (fun gk5 u wr5=>∃j:Nat,u=.int .i64 j∧j≤B.p.l.length∧As (gk5+j=B.p.l.length)∧As (Heap w0 ((Qb.takes j B).on q (.pts nw (.cells (wasC s0 14) 49)::SL)) wr5))
              case atStart=>exact ⟨0,rfl,Nat.zero_le _,⟨by omega⟩,HR4⟩
              case round=>
               obtain ⟨j,rfl,hj,HG5,HR5⟩:=hrel;clear HR4;by_cases hlj:j<B.p.l.length
               ·have hj1:(j:Int)<(B.p.l.length:Int):=by omega
                go_wp2_with (go_at_call 18;refine (Qlb (node:=0) (cid:=0) (i:=0) (yes:=false) (o:=Od.none) (sp:=none) (sn:=0) (sk:=0) (Qz.takes j HFB.1) HR5.1).m2 fun w6 h6=>?_;rw [←takes_succ] at h6;have H6:=zk h6;clear h6);go_roundg (B.p.l.length-(j+1))
                case measure=>have:=HG5.1;omega
                case rel=>exact ⟨j+1,by go_num,by omega,⟨by omega⟩,⟨H6.1⟩⟩
               ·obtain rfl:j=B.p.l.length:=by omega
                have HE1:As (Heap w0 ((T.peK (k+1)).on q (.pts nw (.cells (wasC s0 14) 49)::SL)) wr∧PK s0 150 (k+1) (T.peK (k+1))):=⟨by
                 obtain ⟨h1,h2⟩:=HPS.1;rw [←h2];exact ⟨HR5.1,h1⟩⟩
                go_wp2_with fail;go_roundg (N-(k+1))
                case measure=>have:=HG.1;omega
                case rel=>exact ⟨k+1,by go_num,by omega,⟨by omega⟩,⟨HE1.1.2⟩,⟨HE1.1.1⟩⟩
         ·obtain rfl:k=N:=by omega
          have HQ:As (Heap w0 ((T.peK k).on q (.pts nw (.cells (wasC s0 14) 49)::.slc (.slice vp L.length vk) 32 6 L.length (Yj L)::R)) wr):=⟨by rw [←HSL.1];exact HR.1⟩;have HNW:As (∀i id,i=1∨i=2→1≤id→id≤6→(T.peK k).ks i id=want (s0 i id) (s0 (3-i) id)):=⟨fun i id h0 h1 h2=>by rw [HP.1.now i id h0 h1 h2,if_neg (by omega)]⟩;clear HR HP HPK HG hlt hk HSL;generalize T.peK k=U at *;go_wp2_with fail
          go_loopg [14,117] L.length (fun gk a14 u wr=>∃k:Nat,u=.int .i64 k∧k≤L.length∧As (gk+k=L.length)∧As (Heap w0 (U.on q (.pts nw (.cells (wasC s0 14) 49)::.slc (.slice vp L.length vk) 32 6 L.length (Yj L)::R)) wr))
          case atStart=>exact ⟨0,rfl,Nat.zero_le _,⟨rfl⟩,HQ⟩
          case round=>
           obtain ⟨k,rfl,hk,HG,HR⟩:=hrel;have hl150:=HLL.1;clear HQ;by_cases hlt:k<L.length
           ·have hk1:(k:Int)<(L.length:Int):=by omega
            obtain ⟨g,sp,sn,sk,hv,hgl,c0,c1,c2,c3,c4,c5⟩:=Qxv HR.1 14 rfl HLS.1.2 hlt;have HOI:As (1≤(L[k]'hlt).1.id∧(L[k]'hlt).1.id≤6):=⟨HID.1 (L[k]'hlt).1 (by rw [←HLS.1.1];exact List.mem_map.2 ⟨_,List.getElem_mem hlt,rfl⟩)⟩;generalize (L[k]'hlt).1=o at *;generalize o.id=x at *;obtain ⟨m,rfl⟩:∃m:Nat,x=m:=⟨x.toNat,by have:=HOI.1.1;omega⟩;have HMM:As (1≤m∧m≤6):=⟨by have:=HOI.1;omega⟩;have hmlt:(m:Int)<7:=by have:=HOI.1.2;omega
            have HN:=zk (HR.1.new (.cells #[.int .i64 m,o.item,o.qty,o.client,o.price,.slice sp sn sk] 32));subst hv;clear HOI;go_wp2_with fail;generalize hW:World.alloc _ _=W1 at *;clear hW;generalize wr.heap.size=n0 at *;have HN2:As (Heap w0 (U.on q (.pts nw (.cells (wasC s0 14) 49)::.slc (.slice (some ⟨g,0,none⟩) L.length vk) 32 6 L.length (Yj L)::.pts n0 (.cells #[.int .i64 m,o.item,o.qty,o.client,o.price,.slice sp sn sk] 32)::R)) W1):=⟨HN.1.sel (p:= [_,_,_,_,_,_,_,_,_,_,_,_,_,_,_,_]) [1,2,3,4,5,6,7,8,9,10,11,12,13,14,15,0] 16 rfl (by decide)⟩;clear c0 c1 c2 c3 c4 c5 HN
            go_loopg [15,16,17,121] 2 (fun gk2 a15 a16 a17 u wr=>∃k2:Nat,u=.int .i64 k2∧k2≤2∧As (gk2+k2=2)∧As (Heap w0 (U.on q (.pts nw (.cells (wasC s0 14) 49)::.slc (.slice (some ⟨g,0,none⟩) L.length vk) 32 6 L.length (Yj L)::.pts n0 (.cells #[.int .i64 m,o.item,o.qty,o.client,o.price,.slice sp sn sk] 32)::R)) wr))
            case atStart=>exact ⟨0,rfl,Nat.zero_le _,⟨rfl⟩,HN2⟩
            case round=>
             obtain ⟨k2,rfl,hk2,HG2,HR2⟩:=hrel;clear HN2 HR;by_cases hl2:k2<2
             ·have y0:=HR2.1.cell 15 0 rfl rfl;have y1:=HR2.1.cell 13 m (v:=.int .i64 (s0 1 m)) rfl (wasC_get0 s0 HMM.1.1 HMM.1.2);have y2:=HR2.1.cell 13 (7+m) (v:=.int .i64 (s0 2 m)) rfl (wasC_get1 s0 HMM.1.1 HMM.1.2);have y3:wr.cell? ⟨nw,(IntKind.i64.wrap 1).toNat*7+m,none⟩=some (.int .i64 (s0 2 m)):=y2;have y4:wr.cell? ⟨nw,(IntKind.i64.wrap 0).toNat*7+m,none⟩=some (.int .i64 (s0 1 m)):=by
               rw [show (IntKind.i64.wrap 0).toNat*7+m=m by rw [show (IntKind.i64.wrap 0).toNat=0 from rfl];omega];exact y1
              have hly:=HR2.1.lt 15 rfl;have hlw:=HR2.1.lt 13 rfl;rcases (show k2=0∨k2=1 by omega) with rfl|rfl;have tg:=Tg.mk 1;exact yTp61;have tg:=Tg.mk 2;exact yTp61
             ·obtain rfl:k2=2:=by omega
              go_wp2_with fail;go_roundg (L.length-(k+1))
              case measure=>have:=HG.1;omega
              case rel=>exact ⟨k+1,by go_num,by omega,⟨by omega⟩,⟨HR2.1.sel (p:= [_,_,_,_,_,_,_,_,_,_,_,_,_,_,_,_]) [0,1,2,3,4,5,6,7,8,9,10,11,12,13,14] 16 rfl (by decide)⟩⟩
           ·obtain rfl:k=L.length:=by omega
            go_wp2_with (go_at_call 8;refine (Qjy HR.1).m1 fun w7 H7=>?_);go_ret;exact ⟨rfl,H7.1.bel⟩
end
end Go.Proofs.YtlnghlamnehfjaaGreatDoor.S
