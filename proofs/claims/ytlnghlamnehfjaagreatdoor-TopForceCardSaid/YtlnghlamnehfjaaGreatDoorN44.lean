/- Contracts and plain laws of the program, part N44. -/
import Derived.Test.YtlnghlamnehfjaaGreatDoorN09
import Derived.Test.YtlnghlamnehfjaaGreatDoorN19
import Derived.Test.YtlnghlamnehfjaaGreatDoorN23
import Derived.Test.YtlnghlamnehfjaaGreatDoorN29
import Derived.Test.YtlnghlamnehfjaaGreatDoorN34
import Derived.Test.YtlnghlamnehfjaaGreatDoorN42
import Derived.Test.YtlnghlamnehfjaaGreatDoorN43
set_option linter.unusedVariables false
set_option linter.unusedSimpArgs false
set_option maxRecDepth 100000
set_option maxHeartbeats 64000000
namespace Go.Proofs.YtlnghlamnehfjaaGreatDoor.S
open Go.RowKit Go.Maps
structure Cmd where
 kind:Int
 node:Int
 id:Int
 i:Int
 yes:Bool
 o:Od
def Harb.gives (H:Harb) (m:Msg):Harb:=
 if m.to=0 then {H with c:=(H.c.handle m).2,p:=H.p.puts (H.c.handle m).1} else
 if m.to=1 then {H with k0:=(H.k0.handle m).2,p:=H.p.puts (H.k0.handle m).1} else
 if m.to=2 then {H with k1:=(H.k1.handle m).2,p:=H.p.puts (H.k1.handle m).1} else
 if m.to=3 then {H with s:=(H.s.handle m).2,p:=H.p.puts (H.s.handle m).1} else
 if m.to=4 then {H with v0:=(H.v0.handle m).2,p:=H.p.puts (H.v0.handle m).1} else
 if m.to=5 then {H with v1:=(H.v1.handle m).2,p:=H.p.puts (H.v1.handle m).1} else
 {H with v2:=(H.v2.handle m).2,p:=H.p.puts (H.v2.handle m).1}
def Harb.without (H:Harb) (i:Nat):Harb:= {H with p:= {H.p with l:=H.p.l.eraseIdx i}}
def Harb.take (H:Harb) (kind i:Int):Int×Harb:=
 if H.p.has i=false then (6,H) else
 match H.p.l[i.toNat]? with
 |none=>(6,H)
 |some m=>if kind=7 then (0,{H with p:=H.p.put m}) else if kind=5 then (0,(H.without i.toNat).gives m) else (0,H.without i.toNat)
def Harb.ringN (H:Harb) (i id:Int):Int×Harb:=
 if H.isDown i=true then (10,H) else
 if i=0 then (0,{H with c:=(H.c.ring id).2,p:=H.p.puts (H.c.ring id).1}) else
 if i=1 then (0,{H with p:=H.p.puts (H.k0.ring id)}) else (0,{H with p:=H.p.puts (H.k1.ring id)})
def Harb.starts (H:Harb) (i:Int):Harb:=
 if i=0 then {H with c:=H.c.start} else
 if i=1 then {H with k0:=H.k0.start} else
 if i=2 then {H with k1:=H.k1.start} else
 if i=3 then {H with s:=H.s.start} else
 if i=4 then {H with v0:=H.v0.start} else
 if i=5 then {H with v1:=H.v1.start} else {H with v2:=H.v2.start}
def Harb.crash (H:Harb) (i stay:Int):Harb:=
 if i=0 then {H with c:=H.c.crash stay} else
 if i=1 then {H with k0:=H.k0.crash stay} else
 if i=2 then {H with k1:=H.k1.crash stay} else
 if i=3 then {H with s:=H.s.crash stay} else
 if i=4 then {H with v0:=H.v0.crash stay} else
 if i=5 then {H with v1:=H.v1.crash stay} else {H with v2:=H.v2.crash stay}
def Harb.power (H:Harb) (kind node i:Int):Int×Harb:=
 if (H.isDown node != decide (kind=10))=true then (7,H) else
 if kind=10 then (0,H.starts node) else (0,H.crash node i)
def Harb.submit (H:Harb) (o:Od):Int×Harb:=((H.c.begin o).2.1,{H with c:=(H.c.begin o).2.2,p:=H.p.puts (H.c.begin o).1})
def Harb.cancel (H:Harb) (id:Int):Int×Harb:=((H.c.cancel id).2.1,{H with c:=(H.c.cancel id).2.2,p:=H.p.puts (H.c.cancel id).1})
def Harb.force (H:Harb) (node id:Int) (yes:Bool):Int×Harb:=
 if node=1 then ((H.k0.force id yes).1,{H with k0:=(H.k0.force id yes).2}) else ((H.k1.force id yes).1,{H with k1:=(H.k1.force id yes).2})
def Harb.asks (H:Harb) (c:Cmd):Int×Harb:=if c.kind=1 then H.submit c.o else if c.kind=2 then H.cancel c.id else H.force c.node c.id c.yes
def Harb.act (H:Harb) (c:Cmd):Int×Harb:=
 if c.kind=1∨c.kind=2∨c.kind=3 then H.asks c else
 if c.kind=5∨c.kind=6∨c.kind=7 then H.take c.kind c.i else
 if c.kind=8 then H.ringN c.node c.id else H.power c.kind c.node c.i
structure Cmd.ok (c:Cmd):Prop where
 kind:c.kind=1∧c.o.ok∨(c.kind=2∨c.kind=3∧(c.node=1∨c.node=2)∨c.kind=8∧(c.node=0∨c.node=1∨c.node=2))∧1≤c.id∧c.id≤999∨c.kind=5∨c.kind=6∨c.kind=7∨(c.kind=9∨c.kind=10)∧0≤c.node∧c.node<7
def Keeper.waits (k:Keeper):List Int:=(k.st.filter fun p=>decide (p.2=1)).map (·.1)
def Harb.wakeAll (H:Harb):Harb:=(List.range 7).foldl (fun (H:Harb) (i:Nat)=>if H.isDown i=true then H.starts i else H) H
def Harb.takes:Nat→Harb→Harb
 |0,H=>H
 |n+1,H=>Harb.takes n (H.take 5 0).2
def Harb.rings (H:Harb) (i:Int) (ids:List Int):Harb:=ids.foldl (fun H id=>(H.ringN i id).2) H
def Harb.round (H:Harb):Harb:=
 let H1:=H.wakeAll
 let H2:=Harb.takes H1.p.l.length H1
 let H3:=H2.rings 0 H2.c.ids
 let H4:=H3.rings 1 H3.k0.waits
 H4.rings 2 H4.k1.waits
def Harb.opens (H:Harb):Nat:=(H.c.l.filter fun p=>!p.2.over).length
def Harb.calm (H:Harb):Bool:=!H.anyDown&&decide (H.p.l.length=0)&&decide (H.opens=0)&&decide (H.k0.waits.length+H.k1.waits.length=0)
def Harb.settle:Nat→Harb→Nat×Harb
 |0,H=>(0,H)
 |n+1,H=>if H.calm=true then (0,H) else ((Harb.settle n H.round).1+1,(Harb.settle n H.round).2)
structure MOk (m:Msg):Prop where
 id0:1≤m.id
 id1:m.id≤999
 dst:0≤m.to∧m.to<7
 c:m.to=0→m.kind=12∨m.kind=7∨m.kind=8∨m.kind=11∨m.kind=17→m.frm=1∨m.frm=2
 k:m.to=1∨m.to=2→(m.frm=0∨m.frm=3-m.to)∧(m.kind=6→0≤m.a∧m.a<8∧0<m.b∧m.b≤1000000000)
 s:m.to=3→m.kind=15∧m.frm=0∧0≤m.a∧m.a<8∧0<m.b∧m.b≤1000000000
 v:4≤m.to→m.frm=0∧numOk m.a∧(m.kind=1∨m.kind=4)∧0≤m.step∧m.step≤2
theorem mok_c {kind frm id step a b:Int} (h0:1≤id) (h1:id≤999) (hf:kind=12∨kind=7∨kind=8∨kind=11∨kind=17→frm=1∨frm=2):MOk ⟨kind,frm,0,id,step,a,b⟩:=
 ⟨h0,h1,⟨by show (0:Int)≤0;omega,by show (0:Int)<7;omega⟩,fun _=>hf,fun h=>by simp at h,fun h=>by simp at h,fun h=>by simp at h⟩
theorem mok_k {kind frm dst id step a b:Int} (h0:1≤id) (h1:id≤999) (ht:dst=1∨dst=2) (hf:frm=0∨frm=3-dst) (hk:kind=6→0≤a∧a<8∧0<b∧b≤1000000000):MOk ⟨kind,frm,dst,id,step,a,b⟩:=
 ⟨h0,h1,by show 0≤dst∧dst<7;omega,fun h=>by simp only at h;omega,fun _=>⟨hf,hk⟩,fun h=>by simp only at h;omega,fun h=>by simp only at h;omega⟩
theorem mok_tell {kind dst:Int} {o:Od} (ho:o.ok) (ht:dst=1∨dst=2) (hk:kind≠6):MOk (tellM kind dst o):=mok_k ho.id0 ho.id1 ht (.inl rfl) (fun h=>absurd h hk)
theorem next_ms {x:Led} {k:Int} (hx:x.ok k):∀m∈nextM x.o x.f,MOk m:=by
 intro m hm;have ho:=hx.o;obtain ⟨m1,m2,m3⟩:=mpt hx.may;have hdec:∀kk,kk≠6→m∈decisionM kk x.o x.f→MOk m:=fun kk hk6 hmem=>by
  rcases decision_mem hmem with ⟨rfl,_⟩|⟨rfl,_⟩
  ·exact mok_tell ho (.inl rfl) hk6
  ·exact mok_tell ho (.inr rfl) hk6
 unfold nextM at hm;split at hm
 ·cases hm
 split at hm
 ·rcases List.mem_append.1 hm with h|h
  ·exact hdec 10 (by decide) h
  ·obtain ⟨i,s,h1,h2,rfl⟩:=undo_mem h;have hs:=ho.svc s (List.mem_of_getElem? h2);have hl:=ho.len;have hu:x.f.undone.length-1-i<x.o.steps.length:=(List.getElem?_eq_some_iff.1 h2).1;exact ⟨ho.id0,ho.id1,by show 0≤s.svc∧s.svc<7;omega,fun h=>by simp only at h;omega,fun h=>by simp only at h;omega,fun h=>by simp only at h;omega,fun _=>⟨rfl,⟨by simp only;omega,by simp only;omega⟩,.inr rfl,by simp only;omega,by simp only;omega⟩⟩
 split at hm
 ·exact hdec 9 (by decide) hm
 split at hm
 ·rcases List.mem_append.1 hm with h|h
  ·exact hdec 9 (by decide) h
  ·simp at h;subst h;exact ⟨ho.id0,ho.id1,by simp,fun h=>by simp at h,fun h=>by simp at h,fun _=>⟨rfl,rfl,ho.item0,by have:=ho.item1;simp only;omega,ho.qty0,ho.qty1⟩,fun h=>by simp at h⟩
 unfold forwardM at hm;split at hm
 ·rename_i i hi;split at hm
  ·rename_i s h2;simp at hm;subst hm;have hs:=ho.svc s (List.mem_of_getElem? h2);have hl:=ho.len;have hu:i<x.o.steps.length:=(List.getElem?_eq_some_iff.1 h2).1;exact ⟨ho.id0,ho.id1,by show 0≤s.svc∧s.svc<7;omega,fun h=>by simp only at h;omega,fun h=>by simp only at h;omega,fun h=>by simp only at h;omega,fun _=>⟨rfl,⟨by simp only;omega,by simp only;omega⟩,.inl rfl,by simp only;omega,by simp only;omega⟩⟩
  ·cases hm
 ·simp at hm;rcases hm with rfl|rfl
  ·exact mok_k ho.id0 ho.id1 (.inl rfl) (.inl rfl) (fun _=>⟨ho.item0,by have:=ho.item1;omega,ho.qty0,ho.qty1⟩)
  ·exact mok_k ho.id0 ho.id1 (.inr rfl) (.inl rfl) (fun _=>⟨ho.client0,by have:=ho.client1;omega,ho.price0,ho.price1⟩)
theorem sends_ms {c:Chief} {x:Led} {k:Int} (hx:x.ok k):∀m∈(c.sends x).1,MOk m:=by
 unfold Chief.sends;split
 ·split
  ·exact next_ms hx
  ·simp
 ·exact next_ms hx
theorem goes_ms {c:Chief} (h:c.ok) (id:Int):∀m∈(c.goes id).1,MOk m:=by
 unfold Chief.goes;split
 ·simp
 ·rename_i x hx;unfold Chief.goesX;split
  ·simp
  ·exact sends_ms (h.get hx).1
section
variable {c:Chief}
theorem noteGo_ms (h:CF c) (hd:c.j.down=false) {e:Entry} (hf:c.Fits e) (he:e.ok):∀m∈(c.noteGo e).1,MOk m:=by
 obtain ⟨h1,h2⟩:=h.notes hd (run1 hf he);unfold Chief.noteGo;split
 ·exact goes_ms h1.ok _
 ·simp
theorem sureGo_ms (h:CF c) (hd:c.j.down=false) {e:Entry} (hf:c.Fits e) (he:e.ok):∀m∈(c.sureGo e).1,MOk m:=by
 obtain ⟨h1,h2⟩:=h.sures hd (run1 hf he);unfold Chief.sureGo;split
 ·exact goes_ms h1.ok _
 ·simp
theorem turns_ms (h:CF c) (hd:c.j.down=false) {id:Int} {x:Led} (hx:mget c.l id=some x) (hdec:x.decided=false):∀m∈(c.turns id).1,MOk m:=by
 have hg:=h.ok.get hx;obtain ⟨h1,h2⟩:=h.sures hd (run1 (.turn id x hx hdec) (asked_ok hg.2.1 hg.2.2 _));unfold Chief.turns;split
 ·exact goes_ms h1.ok _
 ·simp
theorem steps_ms (h:CF c) (hd:c.j.down=false) {x:Led} {m:Msg} (hx:mget c.l m.id=some x):∀m'∈(c.steps x m).1,MOk m':=by
 have hg:=h.ok.get hx;have hlen:=hg.1.o.len;unfold Chief.steps;split
 ·simp
 rename_i hsv;have hst:0≤m.step∧m.step<x.o.steps.length:=by
  unfold Led.service at hsv;simp at hsv;omega
 have hno:numOk m.step:=numOk_small hst.1 (by omega);split
 ·rename_i hk;exact turns_ms h hd hx (by simp at hk;exact hk.2)
 split
 ·split
  ·rename_i hk;simp at hk;obtain ⟨k,e⟩:=Int.eq_ofNat_of_zero_le hst.1;rw [e] at hk hno⊢;exact noteGo_ms h hd (.done m.id k x hx hk.1.1 hk.1.2 hk.2) (entry1_ok hg.2.1 hg.2.2 _ hno)
  ·simp
 split
 ·split
  ·rename_i hk;simp at hk;obtain ⟨k,e⟩:=Int.eq_ofNat_of_zero_le hst.1;rw [e] at hk hno⊢;exact noteGo_ms h hd (.undone m.id k x hx hk.1 hk.2) (entry1_ok hg.2.1 hg.2.2 _ hno)
  ·simp
 ·simp
theorem votes_ms (h:CF c) (hd:c.j.down=false) {x:Led} {m:Msg} (hx:mget c.l m.id=some x):∀m'∈(c.votes x m).1,MOk m':=by
 have hg:=h.ok.get hx;unfold Chief.votes;split
 ·simp
 rename_i a b ht;have hta:=hg.1.tally;rw [ht] at hta;simp at hta;split
 ·exact sureGo_ms h hd (.turn m.id x hx hta.2) (asked_ok hg.2.1 hg.2.2 _)
 by_cases hc:(if m.frm=1 then b&& !a else a&& !b)=true
 ·rw [if_pos hc];exact sureGo_ms h hd (.yes m.id x hx hta.1 hta.2) (asked_ok hg.2.1 hg.2.2 _)
 ·rw [if_neg hc];simp
theorem acks_ms (h:CF c) (hd:c.j.down=false) {x:Led} {m:Msg} (hx:mget c.l m.id=some x) (hf:m.frm=1∨m.frm=2):∀m'∈(c.acks x m).1,MOk m':=by
 have hg:=h.ok.get hx;have hno:numOk m.frm:=numOk_small (by omega) (by omega);have h18:MOk ⟨18,0,m.frm,m.id,0,0,0⟩:=mok_k hg.2.1 hg.2.2 hf (.inl rfl) (fun h=>by omega);unfold Chief.acks;split
 ·simp
 rename_i hdec;have hdec:x.decided=true:=by simpa using hdec
 split
 ·split
  ·simp
  ·exact noteGo_ms h hd (.ack m.id m.frm x hx hf hdec) (entry1_ok hg.2.1 hg.2.2 _ hno)
 split
 ·simpa using h18
 have h2:=sureGo_ms h hd (.damage m.id m.frm x hx hf hdec) (entry1_ok hg.2.1 hg.2.2 _ hno);unfold Chief.sureGo at h2;split
 ·rename_i e;rw [if_pos e] at h2;intro m' hm';rcases List.mem_cons.1 hm' with rfl|hm'
  ·exact h18
  ·exact h2 _ hm'
 ·simp
theorem handle_ms (h:CF c) {m:Msg} (h0:1≤m.id) (h1:m.id≤999) (hm:m.kind=12∨m.kind=7∨m.kind=8∨m.kind=11∨m.kind=17→m.frm=1∨m.frm=2):∀m'∈(c.handle m).1,MOk m':=by
 unfold Chief.handle;split
 ·simp
 rename_i hd;have hd:c.j.down=false:=by simpa using hd
 split
 ·rename_i h12;have hf:=hm (.inl h12);have e13:MOk ⟨13,0,m.frm,m.id,0,0,0⟩:=mok_k h0 h1 hf (.inl rfl) (fun h=>by omega);have e14:MOk ⟨14,0,m.frm,m.id,0,0,0⟩:=mok_k h0 h1 hf (.inl rfl) (fun h=>by omega);simp only;unfold Chief.tells;split
  ·simpa using e14
  ·split
   ·simpa using e14
   ·split
    ·simpa using e13
    ·simp
 split
 ·simp
 rename_i x hx;have hg:=h.ok.get hx;split
 ·exact steps_ms h hd hx
 split
 ·exact votes_ms h hd hx
 split
 ·exact acks_ms h hd hx (hm (by omega))
 split
 ·split
  ·rename_i hc;simp at hc;exact noteGo_ms h hd (.shipped m.id x hx hc.1.2) (asked_ok hg.2.1 hg.2.2 _)
  ·simp
 ·simp
theorem ring_ms (h:CF c) (id:Int):∀m'∈(c.ring id).1,MOk m':=by
 unfold Chief.ring;split
 ·simp
 rename_i hd;have hd:c.j.down=false:=by simpa using hd
 split
 ·simp
 rename_i x hx;have hg:=(h.ok.get hx).1;split
 ·simp
 have hb:=h.ringB id;split
 ·split
  ·rename_i hdec;exact turns_ms hb hd hx hdec
  ·exact sends_ms hg
 ·exact sends_ms hg
theorem cancel_ms (h:CF c) (id:Int):∀m'∈(c.cancel id).1,MOk m':=by
 unfold Chief.cancel;split
 ·simp
 rename_i hd;split
 ·simp
 rename_i x hx;split
 ·simp
 rename_i hdec;exact turns_ms h (by simpa using hd) hx (by simpa using hdec)
theorem begin_ms (h:CF c) {o:Od} (ho:o.ok):∀m'∈(c.begin o).1,MOk m':=by
 unfold Chief.begin;split
 ·simp
 rename_i hd;have hd:c.j.down=false:=by simpa using hd
 split
 ·simp
 rename_i hn;have hn:mget c.l o.id=none:=by simpa using hn
 split
 ·simp
 obtain ⟨hr, -⟩:=run_begin ho hn;obtain ⟨h1,h2⟩:=h.sures hd hr;split
 ·exact goes_ms (c:=(c.sures (beginEs o)).2.hang o.id) (h1.ok.bell (hang_keys h1.ok.bells o.id)) _
 ·simp
end
theorem kplays_j2 (k:Keeper) (e:Entry):(k.plays e).j=k.j∧(k.plays e).node=k.node:=by
 unfold Keeper.plays;split<;>exact ⟨rfl,rfl⟩
theorem knotes_j (k:Keeper) (e:Entry):(k.notes e).2.node=k.node∧(k.notes e).2.j.room=k.j.room∧(k.notes e).2.j.down=k.j.down∧((k.notes e).2.j.es=k.j.es∨(k.notes e).2.j.es=k.j.es++ [e]):=by
 unfold Keeper.notes;split
 ·exact ⟨rfl,rfl,rfl,.inl rfl⟩
 ·rename_i h;obtain ⟨h1,h2⟩:=kplays_j2 ({k with j:=(k.j.add e).2.sync}:Keeper) e;simp only;rw [h1,h2];refine ⟨rfl,?_,?_,.inr ?_⟩<;>simp only [Jrn.sync,Jrn.add]<;>rw [if_neg h]
structure KF (n:Int) (k:Keeper):Prop where
 node:k.node=n
 es:∀e∈k.j.es,KpE e
theorem KF.notes {n:Int} {k:Keeper} (h:KF n k) {e:Entry} (he:KpE e):KF n (k.notes e).2:=by
 obtain ⟨h1,h2,h3,h4⟩:=knotes_j k e;refine ⟨h1.trans h.node,fun x hx=>?_⟩;rcases h4 with h4|h4<;>rw [h4] at hx
 ·exact h.es x hx
 ·rcases List.mem_append.1 hx with hx|hx
  ·exact h.es x hx
  ·rw [List.mem_singleton] at hx;subst hx;exact he
theorem kplays_all (es:List Entry):∀(k:Keeper),(k.replay es).j=k.j∧(k.replay es).node=k.node:=by
 induction es with
 |nil=>intro k;exact ⟨rfl,rfl⟩
 |cons e r ih=>
  intro k;obtain ⟨h1,h2⟩:=ih (k.plays e);obtain ⟨h3,h4⟩:=kplays_j2 k e;exact ⟨h1.trans h3,h2.trans h4⟩
theorem KF.start {n:Int} {k:Keeper} (h:KF n k):KF n k.start:=by
 unfold Keeper.start;split
 ·obtain ⟨h1,h2⟩:=kplays_all k.j.es (({k with j:=k.j.recover}:Keeper).forget);exact ⟨h2.trans h.node,by rw [h1];exact h.es⟩
 ·exact h
theorem KF.crash {n:Int} {k:Keeper} (h:KF n k) (stay:Int):KF n (k.crash stay):=by
 unfold Keeper.crash;split
 ·exact h
 ·exact ⟨h.node,fun e he=>h.es e (List.mem_of_mem_take he)⟩
theorem KF.force {n:Int} {k:Keeper} (h:KF n k) (id:Int) (h0:1≤id) (h1:id≤999) (yes:Bool):KF n (k.force id yes).2:=by
 unfold Keeper.force;split
 ·exact h
 split
 ·refine h.notes ?_;cases yes
  ·exact .fno id h0 h1
  ·exact .fyes id h0 h1
 ·exact h
theorem vNext_new (s kd:Int) (can:Bool):(vNext s kd can).1=s∨((vNext s kd can).1=1∧kd=6)∨(vNext s kd can).1=2∨(vNext s kd can).1=3:=by
 unfold vNext vAsked vCommits vAborts vTells;split
 ·rename_i h6;split
  ·split
   ·exact .inr (.inl ⟨rfl,h6⟩)
   ·exact .inr (.inr (.inr rfl))
  ·split
   ·exact .inl rfl
   ·split<;>exact .inl rfl
 split
 ·split
  ·exact .inr (.inr (.inl rfl))
  ·split
   ·exact .inl rfl
   ·split<;>exact .inl rfl
 split
 ·split
  ·exact .inr (.inr (.inr rfl))
  ·split
   ·exact .inl rfl
   ·split<;>exact .inl rfl
 split
 ·split
  ·exact .inr (.inr (.inr rfl))
  ·split<;>exact .inl rfl
 ·exact .inl rfl
theorem vNext_ans (s kd:Int) (can:Bool):(vNext s kd can).2≠6:=by
 unfold vNext vAsked vCommits vAborts vTells;repeat' split
 all_goals simp
theorem kcan_j (k:Keeper) (kind id a q:Int):(k.can kind id a q).2.j=k.j∧(k.can kind id a q).2.node=k.node:=by
 unfold Keeper.can;split<;>exact ⟨rfl,rfl⟩
theorem KF.handle {n:Int} {k:Keeper} (h:KF n k) {m:Msg} (h0:1≤m.id) (h1:m.id≤999) (hm:m.kind=6→0≤m.a∧m.a<8∧0<m.b∧m.b≤1000000000):KF n (k.handle m).2:=by
 unfold Keeper.handle;split
 ·exact h
 obtain ⟨c1,c2⟩:=kcan_j k m.kind m.id m.a m.b;have hc:KF n (k.can m.kind m.id m.a m.b).2:=⟨c2.trans h.node,by rw [c1];exact h.es⟩;simp only;split
 ·exact hc
 ·rename_i hne;refine hc.notes ?_;rcases vNext_new (mgi k.st m.id) m.kind (k.can m.kind m.id m.a m.b).1 with e|⟨e,e6⟩|e|e
  ·exact absurd e hne
  ·obtain ⟨a0,a1,b0,b1⟩:=hm e6;obtain ⟨a,ea⟩:=Int.eq_ofNat_of_zero_le a0;rw [e];unfold kEnt;rw [if_pos rfl,ea];exact .ready m.id a m.b h0 h1 (by omega) b0 b1
  ·rw [e];exact .yes m.id h0 h1
  ·rw [e];exact .no m.id h0 h1
theorem khandle_ms {n:Int} {k:Keeper} (h:KF n k) (hn:n=1∨n=2) {m:Msg} (h0:1≤m.id) (h1:m.id≤999) (hf:m.frm=0∨m.frm=3-n):∀m'∈(k.handle m).1,MOk m':=by
 unfold Keeper.handle;split
 ·simp
 have ha:=vNext_ans (mgi k.st m.id) m.kind (k.can m.kind m.id m.a m.b).1;simp only;generalize vNext (mgi k.st m.id) m.kind (k.can m.kind m.id m.a m.b).1=x at *;have key:∀p:Bool,∀m'∈(if p=false then [] else if x.2=0 then [] else [(⟨x.2,k.node,if x.2=11∨x.2=17 then 0 else m.frm,m.id,0,0,0⟩:Msg)]),MOk m':=by
  intro p;split
  ·simp
  split
  ·simp
  intro m' hm';rw [List.mem_singleton] at hm';subst hm';rw [h.node];split
  ·exact mok_c h0 h1 (fun _=>hn)
  ·rcases hf with e|e
   ·rw [e];exact mok_c h0 h1 (fun _=>hn)
   ·rw [e];exact mok_k h0 h1 (by omega) (.inr (by omega)) (fun h=>absurd h ha)
 exact key _
theorem kring_ms {n:Int} {k:Keeper} (h:KF n k) (hn:n=1∨n=2) {id:Int} (h0:1≤id) (h1:id≤999):∀m'∈k.ring id,MOk m':=by
 unfold Keeper.ring;split
 ·simp
 split
 ·rw [h.node];intro m' hm';simp at hm';rcases hm' with rfl|rfl
  ·exact mok_c h0 h1 (fun _=>hn)
  ·exact mok_k h0 h1 (by omega) (.inr (by omega)) (fun h=>by omega)
 ·simp
structure ShF (s:Shipper):Prop where
 es:∀e∈s.j.es,ShE e
 len:s.l.length≤s.j.es.length
 room:(s.j.es.length:Int)≤s.j.room∧s.j.room≤4096
theorem splays_j (s:Shipper) (e:Entry):(s.plays e).j=s.j∧(s.plays e).l.length≤s.l.length+1:=by
 unfold Shipper.plays;split
 ·refine ⟨rfl,?_⟩;simp only;unfold pship;repeat' split
  all_goals simp
 ·exact ⟨rfl,by omega⟩
theorem splays_all (es:List Entry):∀s:Shipper,(s.replay es).j=s.j∧(s.replay es).l.length≤s.l.length+es.length:=by
 induction es with
 |nil=>intro s;exact ⟨rfl,by show s.l.length≤_;simp⟩
 |cons e r ih=>
  intro s;obtain ⟨h1,h2⟩:=ih (s.plays e);obtain ⟨h3,h4⟩:=splays_j s e;refine ⟨h1.trans h3,?_⟩
  show ((s.plays e).replay r).l.length≤_
  simp only [List.length_cons];omega
theorem ShF.start {s:Shipper} (h:ShF s):ShF s.start:=by
 unfold Shipper.start;split
 ·obtain ⟨h1,h2⟩:=splays_all s.j.es ⟨s.j.recover,[]⟩;exact ⟨by rw [h1];exact h.es,by rw [h1];simpa [Jrn.recover] using h2,by rw [h1];exact h.room⟩
 ·exact h
theorem ShF.crash {s:Shipper} (h:ShF s) (stay:Int):ShF (s.crash stay):=by
 unfold Shipper.crash;split
 ·exact h
 ·refine ⟨fun e he=>h.es e (List.mem_of_mem_take he),by simp,?_,h.room.2⟩
  show ((s.j.es.take _).length:Int)≤s.j.room
  have:=h.room.1;rw [List.length_take];omega
theorem ShF.handle {s:Shipper} (h:ShF s) {m:Msg} (h0:1≤m.id) (h1:m.id≤999) (ha0:0≤m.a) (ha1:m.a<8):ShF (s.handle m).2:=by
 unfold Shipper.handle;split
 ·exact h
 simp only;unfold Shipper.ships;split
 ·exact h
 split
 ·exact h
 ·rename_i hr;obtain ⟨h3,h4⟩:=splays_j ({s with j:=(s.j.add ⟨.sent,m.id,[m.a,m.b]⟩).2.sync}:Shipper) ⟨.sent,m.id,[m.a,m.b]⟩;have hj:(s.j.add ⟨.sent,m.id,[m.a,m.b]⟩).2.sync.es=s.j.es++ [⟨.sent,m.id,[m.a,m.b]⟩]∧(s.j.add ⟨.sent,m.id,[m.a,m.b]⟩).2.sync.room=s.j.room:=by
   simp only [Jrn.sync,Jrn.add];rw [if_neg hr];exact ⟨rfl,rfl⟩
  have:=h.room;have:=h.len;refine ⟨fun e he=>?_,?_,?_⟩
  ·rw [h3] at he;simp only [hj.1] at he;rcases List.mem_append.1 he with he|he
   ·exact h.es e he
   ·rw [List.mem_singleton] at he;obtain ⟨a,ea⟩:=Int.eq_ofNat_of_zero_le ha0;exact ⟨m.id,a,m.b,by rw [he,ea],h0,h1,by omega⟩
  ·rw [h3];simp only [hj.1,List.length_append,List.length_singleton];simp only at h4;omega
  ·rw [h3];simp only [hj.1,hj.2,List.length_append,List.length_singleton];omega
theorem shandle_ms {s:Shipper} {m:Msg} (h0:1≤m.id) (h1:m.id≤999):∀m'∈(s.handle m).1,MOk m':=by
 unfold Shipper.handle;split
 ·simp
 simp only;split
 ·intro m' hm';rw [List.mem_singleton] at hm';subst hm';exact mok_c h0 h1 (fun h=>by omega)
 ·simp
structure SvF (n:Int) (s:Service):Prop where
 node:s.node=n
 es:∀e∈s.j.es,SvE e
theorem vplays_j (s:Service) (e:Entry):(s.plays e).j=s.j∧(s.plays e).node=s.node:=by
 unfold Service.plays;split<;>exact ⟨rfl,rfl⟩
theorem SvF.notes {n:Int} {s:Service} (h:SvF n s) {e:Entry} (he:SvE e):SvF n (s.notes e).2:=by
 unfold Service.notes;split
 ·exact h
 ·rename_i hr;obtain ⟨h1,h2⟩:=vplays_j ({s with j:=(s.j.add e).2.sync}:Service) e;refine ⟨h2.trans h.node,fun x hx=>?_⟩;simp only at hx;rw [h1] at hx;simp only [Jrn.sync,Jrn.add] at hx;rw [if_neg hr] at hx;rcases List.mem_append.1 hx with hx|hx
  ·exact h.es x hx
  ·rw [List.mem_singleton] at hx;subst hx;exact he
theorem vplays_all (es:List Entry):∀s:Service,(s.replay es).j=s.j∧(s.replay es).node=s.node:=by
 induction es with
 |nil=>intro s;exact ⟨rfl,rfl⟩
 |cons e r ih=>
  intro s;obtain ⟨h1,h2⟩:=ih (s.plays e);obtain ⟨h3,h4⟩:=vplays_j s e;exact ⟨h1.trans h3,h2.trans h4⟩
theorem SvF.start {n:Int} {s:Service} (h:SvF n s):SvF n s.start:=by
 unfold Service.start;split
 ·obtain ⟨h1,h2⟩:=vplays_all s.j.es (({s with j:=s.j.recover}:Service).forget);exact ⟨h2.trans h.node,by rw [h1];exact h.es⟩
 ·exact h
theorem SvF.crash {n:Int} {s:Service} (h:SvF n s) (stay:Int):SvF n (s.crash stay):=by
 unfold Service.crash;split
 ·exact h
 ·exact ⟨h.node,fun e he=>h.es e (List.mem_of_mem_take he)⟩
theorem SvF.book {n:Int} {s:Service} (h:SvF n s) (t:Hold):SvF n {s with book:=t}:=⟨h.node,h.es⟩
theorem SvF.handle {n:Int} {s:Service} (h:SvF n s) {m:Msg} (h0:1≤m.id) (h1:m.id≤999) (ha:numOk m.a):SvF n (s.handle m).2:=by
 unfold Service.handle;split
 ·exact h
 simp only;unfold Service.asked;split
 ·unfold Service.does;split
  ·exact h
  split
  ·split
   ·exact (h.book _).notes (.did m.id m.a h0 h1 ha)
   ·exact (h.book _).notes (.cant m.id h0 h1)
  ·exact h
 ·unfold Service.undoes;split
  ·exact h.notes (.undid m.id h0 h1)
  ·exact h
theorem does_kinds (s:Service) (id n:Int):(s.does id n).1=0∨(s.does id n).1=2∨(s.does id n).1=3:=by
 unfold Service.does;repeat' split
 all_goals simp
theorem undoes_kinds (s:Service) (id:Int):(s.undoes id).1=0∨(s.undoes id).1=5:=by
 unfold Service.undoes;repeat' split
 all_goals simp
theorem vhandle_ms {s:Service} {m:Msg} (h0:1≤m.id) (h1:m.id≤999):∀m'∈(s.handle m).1,MOk m':=by
 unfold Service.handle;split
 ·simp
 simp only;split
 ·simp
 ·intro m' hm';rw [List.mem_singleton] at hm';subst hm';refine mok_c h0 h1 (fun h=>?_);exfalso;unfold Service.asked at h;split at h
  ·have:=does_kinds s m.id m.a;omega
  ·have:=undoes_kinds s m.id;omega
structure Fine (H:Harb):Prop where
 c:CF H.c
 k0:KF 1 H.k0
 k1:KF 2 H.k1
 s:ShF H.s
 v0:SvF 4 H.v0
 v1:SvF 5 H.v1
 v2:SvF 6 H.v2
 ms:∀m∈H.p.l,MOk m
theorem put_mem {p:Post} {m x:Msg} (h:x∈(p.put m).l):x∈p.l∨x=m:=by
 unfold Post.put at h;split at h
 ·simpa using h
 ·have:=List.mem_of_mem_drop h;simpa using this
theorem puts_mem {l:List Msg}:∀{p:Post} {x:Msg},x∈(p.puts l).l→x∈p.l∨x∈l:=by
 induction l with
 |nil=>intro p x h;exact .inl h
 |cons m r ih=>
  intro p x h;rcases ih (p:=p.put m) h with h|h
  ·rcases put_mem h with h|rfl
   ·exact .inl h
   ·exact .inr (by simp)
  ·exact .inr (by simp [h])
theorem puts_ok {p:Post} {l:List Msg} (h:∀m∈p.l,MOk m) (h2:∀m∈l,MOk m):∀m∈(p.puts l).l,MOk m:=fun m hm=>(puts_mem hm).elim (h m) (h2 m)
theorem Fine.gives {H:Harb} (h:Fine H) {m:Msg} (hm:MOk m):Fine (H.gives m):=by
 unfold Harb.gives;have hto:=hm.dst;split
 ·exact ⟨h.c.handle (hm.c ‹_›),h.k0,h.k1,h.s,h.v0,h.v1,h.v2,puts_ok h.ms (handle_ms h.c hm.id0 hm.id1 (hm.c ‹_›))⟩
 split
 ·obtain ⟨h1,h2⟩:=hm.k (.inl ‹_›);exact ⟨h.c,h.k0.handle hm.id0 hm.id1 h2,h.k1,h.s,h.v0,h.v1,h.v2,puts_ok h.ms (khandle_ms h.k0 (.inl rfl) hm.id0 hm.id1 (by omega))⟩
 split
 ·obtain ⟨h1,h2⟩:=hm.k (.inr ‹_›);exact ⟨h.c,h.k0,h.k1.handle hm.id0 hm.id1 h2,h.s,h.v0,h.v1,h.v2,puts_ok h.ms (khandle_ms h.k1 (.inr rfl) hm.id0 hm.id1 (by omega))⟩
 split
 ·obtain ⟨-, -,h1,h2, -⟩:=hm.s ‹_›;exact ⟨h.c,h.k0,h.k1,h.s.handle hm.id0 hm.id1 h1 h2,h.v0,h.v1,h.v2,puts_ok h.ms (shandle_ms hm.id0 hm.id1)⟩
 obtain ⟨-,ha, -⟩:=hm.v (by omega);split
 ·exact ⟨h.c,h.k0,h.k1,h.s,h.v0.handle hm.id0 hm.id1 ha,h.v1,h.v2,puts_ok h.ms (vhandle_ms hm.id0 hm.id1)⟩
 split
 ·exact ⟨h.c,h.k0,h.k1,h.s,h.v0,h.v1.handle hm.id0 hm.id1 ha,h.v2,puts_ok h.ms (vhandle_ms hm.id0 hm.id1)⟩
 ·exact ⟨h.c,h.k0,h.k1,h.s,h.v0,h.v1,h.v2.handle hm.id0 hm.id1 ha,puts_ok h.ms (vhandle_ms hm.id0 hm.id1)⟩
theorem Fine.without {H:Harb} (h:Fine H) (i:Nat):Fine (H.without i):=⟨h.c,h.k0,h.k1,h.s,h.v0,h.v1,h.v2,fun m hm=>h.ms m (List.mem_of_mem_eraseIdx hm)⟩
theorem Fine.take {H:Harb} (h:Fine H) (kind i:Int):Fine (H.take kind i).2:=by
 unfold Harb.take;split
 ·exact h
 split
 ·exact h
 rename_i m hm;have hmo:=h.ms m (List.mem_of_getElem? hm);split
 ·exact ⟨h.c,h.k0,h.k1,h.s,h.v0,h.v1,h.v2,fun x hx=>(put_mem hx).elim (h.ms x) (fun e=>e▸hmo)⟩
 split
 ·exact (h.without _).gives hmo
 ·exact h.without _
theorem Fine.ringN {H:Harb} (h:Fine H) (i:Int) {id:Int} (h0:1≤id) (h1:id≤999):Fine (H.ringN i id).2:=by
 unfold Harb.ringN;split
 ·exact h
 split
 ·exact ⟨h.c.ringC id,h.k0,h.k1,h.s,h.v0,h.v1,h.v2,puts_ok h.ms (ring_ms h.c id)⟩
 split
 ·exact ⟨h.c,h.k0,h.k1,h.s,h.v0,h.v1,h.v2,puts_ok h.ms (kring_ms h.k0 (.inl rfl) h0 h1)⟩
 ·exact ⟨h.c,h.k0,h.k1,h.s,h.v0,h.v1,h.v2,puts_ok h.ms (kring_ms h.k1 (.inr rfl) h0 h1)⟩
theorem Fine.starts {H:Harb} (h:Fine H) (i:Int):Fine (H.starts i):=by
 unfold Harb.starts;split
 ·exact ⟨h.c.startC,h.k0,h.k1,h.s,h.v0,h.v1,h.v2,h.ms⟩
 split
 ·exact ⟨h.c,h.k0.start,h.k1,h.s,h.v0,h.v1,h.v2,h.ms⟩
 split
 ·exact ⟨h.c,h.k0,h.k1.start,h.s,h.v0,h.v1,h.v2,h.ms⟩
 split
 ·exact ⟨h.c,h.k0,h.k1,h.s.start,h.v0,h.v1,h.v2,h.ms⟩
 split
 ·exact ⟨h.c,h.k0,h.k1,h.s,h.v0.start,h.v1,h.v2,h.ms⟩
 split
 ·exact ⟨h.c,h.k0,h.k1,h.s,h.v0,h.v1.start,h.v2,h.ms⟩
 ·exact ⟨h.c,h.k0,h.k1,h.s,h.v0,h.v1,h.v2.start,h.ms⟩
theorem Fine.crash {H:Harb} (h:Fine H) (i stay:Int):Fine (H.crash i stay):=by
 unfold Harb.crash;split
 ·exact ⟨h.c.crashC stay,h.k0,h.k1,h.s,h.v0,h.v1,h.v2,h.ms⟩
 split
 ·exact ⟨h.c,h.k0.crash stay,h.k1,h.s,h.v0,h.v1,h.v2,h.ms⟩
 split
 ·exact ⟨h.c,h.k0,h.k1.crash stay,h.s,h.v0,h.v1,h.v2,h.ms⟩
 split
 ·exact ⟨h.c,h.k0,h.k1,h.s.crash stay,h.v0,h.v1,h.v2,h.ms⟩
 split
 ·exact ⟨h.c,h.k0,h.k1,h.s,h.v0.crash stay,h.v1,h.v2,h.ms⟩
 split
 ·exact ⟨h.c,h.k0,h.k1,h.s,h.v0,h.v1.crash stay,h.v2,h.ms⟩
 ·exact ⟨h.c,h.k0,h.k1,h.s,h.v0,h.v1,h.v2.crash stay,h.ms⟩
theorem Fine.power {H:Harb} (h:Fine H) (kind node i:Int):Fine (H.power kind node i).2:=by
 unfold Harb.power;split
 ·exact h
 split
 ·exact h.starts _
 ·exact h.crash _ _
theorem Fine.submit {H:Harb} (h:Fine H) {o:Od} (ho:o.ok):Fine (H.submit o).2:=⟨h.c.beginC ho,h.k0,h.k1,h.s,h.v0,h.v1,h.v2,puts_ok h.ms (begin_ms h.c ho)⟩
theorem Fine.cancel {H:Harb} (h:Fine H) (id:Int):Fine (H.cancel id).2:=⟨h.c.cancelC id,h.k0,h.k1,h.s,h.v0,h.v1,h.v2,puts_ok h.ms (cancel_ms h.c id)⟩
theorem Fine.force {H:Harb} (h:Fine H) (node:Int) {id:Int} (h0:1≤id) (h1:id≤999) (yes:Bool):Fine (H.force node id yes).2:=by
 unfold Harb.force;split
 ·exact ⟨h.c,h.k0.force id h0 h1 yes,h.k1,h.s,h.v0,h.v1,h.v2,h.ms⟩
 ·exact ⟨h.c,h.k0,h.k1.force id h0 h1 yes,h.s,h.v0,h.v1,h.v2,h.ms⟩
theorem Fine.act {H:Harb} (h:Fine H) {c:Cmd} (hc:c.ok):Fine (H.act c).2:=by
 have hk:=hc.kind;unfold Harb.act Harb.asks;split
 ·split
  ·exact h.submit (by rcases hk with hk|hk|hk|hk|hk|hk<;>first|exact hk.2|omega)
  split
  ·exact h.cancel _
  ·exact h.force _ (by omega) (by omega) _
 split
 ·exact h.take _ _
 split
 ·exact h.ringN _ (by omega) (by omega)
 ·exact h.power _ _ _
theorem Fine.wakeAll {H:Harb} (h:Fine H):Fine H.wakeAll:=by
 unfold Harb.wakeAll;generalize List.range 7=l
 induction l generalizing H with
 |nil=>exact h
 |cons i r ih=>
  show Fine (r.foldl _ (if _ then _ else _))
  split
  ·exact ih (h.starts _)
  ·exact ih h
theorem Fine.takes:∀(n:Nat) {H:Harb},Fine H→Fine (Harb.takes n H)
 |0,_,h=>h
 |n+1,_,h=>Fine.takes n (h.take _ _)
theorem Fine.rings {H:Harb} (h:Fine H) (i:Int):∀(ids:List Int),(∀id∈ids,1≤id∧id≤999)→Fine (H.rings i ids)
 | [],_=>h
 |id::r,hi=>Fine.rings (h.ringN i (hi id (by simp)).1 (hi id (by simp)).2) i r (fun k hk=>hi k (by simp [hk]))
theorem kring_len (k:Keeper) (id:Int):(k.ring id).length≤2:=by
 unfold Keeper.ring;split
 ·simp
 split<;>simp
theorem zHb81 {P:Prop} (h:P:=by
 exact ⟨rfl,h2.sel (p:= [_,_,_,_,_,_,_,_,_,_,_,_,_]) [1,2,0,3,4,5,6,7,8,9,10,11,12] 13 rfl (by decide)⟩):P:=h
theorem zHb82 {P:Prop} (h:P:=by
 exact ⟨rfl,h2.sel (p:= [_,_,_,_,_,_,_,_,_,_,_,_,_]) [1,2,3,0,4,5,6,7,8,9,10,11,12] 13 rfl (by decide)⟩):P:=h
theorem zHb83 {P:Prop} (h:P:=by
 exact ⟨rfl,h2.sel (p:= [_,_,_,_,_,_,_,_,_,_,_,_,_]) [1,2,3,4,0,5,6,7,8,9,10,11,12] 13 rfl (by decide)⟩):P:=h
theorem zHb84 {P:Prop} (h:P:=by
 exact ⟨rfl,h2.sel (p:= [_,_,_,_,_,_,_,_,_,_,_,_,_]) [1,2,3,4,5,0,6,7,8,9,10,11,12] 13 rfl (by decide)⟩):P:=h
theorem zHb85 {P:Prop} (h:P:=by
 exact ⟨rfl,h2.sel (p:= [_,_,_,_,_,_,_,_,_,_,_,_,_]) [1,2,3,4,5,6,0,7,8,9,10,11,12] 13 rfl (by decide)⟩):P:=h
theorem zHb86 {P:Prop} (h:P:=by
 exact ⟨rfl,h2.sel (p:= [_,_,_,_,_,_,_,_,_,_,_,_,_]) [1,2,3,4,5,6,7,0,8,9,10,11,12] 13 rfl (by decide)⟩):P:=h
theorem zHb87 {P:Prop} (h:P:=by
 exact ⟨rfl,h2.sel (p:= [_,_,_,_,_,_,_,_,_,_,_,_,_]) [1,2,3,4,5,6,7,8,0,9,10,11,12] 13 rfl (by decide)⟩):P:=h
theorem sends_len2 (c:Chief) (x:Led):(c.sends x).1.length≤3:=sends_len c x
theorem noteGo_len (c:Chief) (e:Entry):(c.noteGo e).1.length≤3:=by
 unfold Chief.noteGo;split
 ·exact goes_len _ _
 ·simp
theorem sureGo_len (c:Chief) (e:Entry):(c.sureGo e).1.length≤3:=by
 unfold Chief.sureGo;split
 ·exact goes_len _ _
 ·simp
theorem turns_len (c:Chief) (id:Int):(c.turns id).1.length≤3:=by
 unfold Chief.turns;split
 ·exact goes_len _ _
 ·simp
theorem chandle_len (c:Chief) (m:Msg):(c.handle m).1.length≤4:=by
 unfold Chief.handle;split
 ·simp
 split
 ·show (c.tells m).length≤4
  unfold Chief.tells;repeat' split
  all_goals simp
 split
 ·simp
 rename_i x hx;split
 ·unfold Chief.steps;split
  ·simp
  split
  ·exact Nat.le_succ_of_le (turns_len _ _)
  split
  ·split
   ·exact Nat.le_succ_of_le (noteGo_len _ _)
   ·simp
  split
  ·split
   ·exact Nat.le_succ_of_le (noteGo_len _ _)
   ·simp
  ·simp
 split
 ·unfold Chief.votes;split
  ·simp
  split
  ·exact Nat.le_succ_of_le (sureGo_len _ _)
  rename_i a b _ _;by_cases hc:(if m.frm=1 then b&& !a else a&& !b)=true
  ·rw [if_pos hc];exact Nat.le_succ_of_le (sureGo_len _ _)
  ·rw [if_neg hc];simp
 split
 ·unfold Chief.acks;split
  ·simp
  split
  ·split
   ·simp
   ·exact Nat.le_succ_of_le (noteGo_len _ _)
  split
  ·simp
  split
  ·simp only [List.length_cons];have:=goes_len (c.sures [⟨.damage,m.id,[m.frm]⟩]).2 m.id;omega
  ·simp
 split
 ·split
  ·exact Nat.le_succ_of_le (noteGo_len _ _)
  ·simp
 ·simp
theorem khandle_len (k:Keeper) (m:Msg):(k.handle m).1.length≤1:=by
 unfold Keeper.handle;split
 ·simp
 ·simp only;generalize vNext (mgi k.st m.id) m.kind (k.can m.kind m.id m.a m.b).1=x;have key:∀p:Bool,(if p=false then [] else if x.2=0 then [] else [(⟨x.2,k.node,if x.2=11∨x.2=17 then 0 else m.frm,m.id,0,0,0⟩:Msg)]).length≤1:=by
   intro p;split
   ·simp
   ·split<;>simp
  exact key _
theorem shandle_len (s:Shipper) (m:Msg):(s.handle m).1.length≤1:=by
 unfold Shipper.handle;split
 ·simp
 ·simp only;split<;>simp
theorem vhandle_len (s:Service) (m:Msg):(s.handle m).1.length≤1:=by
 unfold Service.handle;split
 ·simp
 ·simp only;split<;>simp
section
variable {w0:World} {q:HA} {H:Harb} {R:List SA}
abbrev Handles (w0:World) (q:HA) (H:Harb) (R:List SA) (m:Msg) (e:Ending) (w':World):Prop:=∃(v':Value) (ms:List Msg) (H':Harb),e=.returned v'∧ms.length<1000∧Heap w0 (.slc v' 113 7 ms.length (mcells ms)::H'.on q R) w'∧H.gives m= {H' with p:=H'.p.puts ms}
theorem node_cases {i:Int} (h0:0≤i) (h1:i<7):i=0∨i=1∨i=2∨i=3∨i=4∨i=5∨i=6:=by omega
theorem handle_on (hf:Fine H) {m:Msg} (hm:MOk m):∃T p F,q.node m.to=.iface T p∧(∀W,(method 463 T p "Handle").run Tryz.prog W=.ok (F,p) W)∧(∀args W,(callFunc F args).run Tryz.prog W=.ok (.enter F args) W)∧∀W,Heap w0 (H.on q R) W→Calls Tryz.prog F #[p,m.val] W (Handles w0 q H R m):=by
 rcases node_cases hm.dst.1 hm.dst.2 with e|e|e|e|e|e|e
 ·refine ⟨70,.pointer (some ⟨q.bc,0,none⟩),278,by rw [e];rfl,fun W=>meth_Handle70 _ W,enters_of Tryz.func278 (by kernel_rfl) rfl,fun W h=>?_⟩;refine (chandle_ok (h.frt 2 rfl) m ⟨e,hm.id0,hm.id1,hm.c e,fun x hx=>hf.c.two _ x hx⟩).mono ?_;rintro e' w' ⟨v',rfl,h2⟩;exact ⟨v',_,{H with c:=(H.c.handle m).2},rfl,by have:=chandle_len H.c m;omega,h2.sel (p:= [_,_,_,_,_,_,_,_,_,_,_,_,_,_]) [0,2,3,1,4,5,6,7,8,9,10,11,12,13] 14 rfl (by decide),by unfold Harb.gives;simp [e]⟩
 ·refine ⟨40,.pointer (some ⟨q.k0,0,none⟩),215,by rw [e];rfl,fun W=>meth_Handle40 _ W,enters_of Tryz.func215 (by kernel_rfl) rfl,fun W h=>?_⟩;have hk:=hm.k (by omega);have hn:=hf.k0.node;have key:=khandle_ok (h.frt 3 rfl) m.kind m.frm m.id m.step m.a m.b (by rw [hn];have:=hk.1;omega) hm.id0 hm.id1 hk.2;have em:(⟨m.kind,m.frm,H.k0.node,m.id,m.step,m.a,m.b⟩:Msg)=m:=by rw [hn,←e]
  rw [em] at key;refine key.mono ?_;rintro e' w' ⟨v',rfl,h2⟩;exact ⟨v',_,{H with k0:=(H.k0.handle m).2},rfl,by have:=khandle_len H.k0 m;omega,h2.sel (p:= [_,_,_,_,_,_,_,_,_,_,_,_,_,_]) [0,2,3,4,1,5,6,7,8,9,10,11,12,13] 14 rfl (by decide),by unfold Harb.gives;simp [e]⟩
 ·refine ⟨40,.pointer (some ⟨q.k1,0,none⟩),215,by rw [e];rfl,fun W=>meth_Handle40 _ W,enters_of Tryz.func215 (by kernel_rfl) rfl,fun W h=>?_⟩;have hk:=hm.k (by omega);have hn:=hf.k1.node;have key:=khandle_ok (h.frt 4 rfl) m.kind m.frm m.id m.step m.a m.b (by rw [hn];have:=hk.1;omega) hm.id0 hm.id1 hk.2;have em:(⟨m.kind,m.frm,H.k1.node,m.id,m.step,m.a,m.b⟩:Msg)=m:=by rw [hn,←e]
  rw [em] at key;refine key.mono ?_;rintro e' w' ⟨v',rfl,h2⟩;exact ⟨v',_,{H with k1:=(H.k1.handle m).2},rfl,by have:=khandle_len H.k1 m;omega,h2.sel (p:= [_,_,_,_,_,_,_,_,_,_,_,_,_,_]) [0,2,3,4,5,1,6,7,8,9,10,11,12,13] 14 rfl (by decide),by unfold Harb.gives;simp [e]⟩
 ·refine ⟨63,.pointer (some ⟨q.bs,0,none⟩),260,by rw [e];rfl,fun W=>meth_Handle63 _ W,enters_of Tryz.func260 (by kernel_rfl) rfl,fun W h=>?_⟩;obtain ⟨s1,s2,s3,s4,s5,s6⟩:=hm.s e;obtain ⟨a,ea⟩:=Int.eq_ofNat_of_zero_le s3;have hl:=hf.s.len;have hr:=hf.s.room;have key:=hhandle_ok (h.frt 5 rfl) (by omega) m.id m.step a m.b hm.id0 hm.id1 (by omega) s5 s6;have em:(⟨15,0,3,m.id,m.step,(a:Int),m.b⟩:Msg)=m:=by
   obtain ⟨kind,frm,dst,id,step,a',b'⟩:=m;simp only at e s1 s2 ea;rw [e,s1,s2,ea]
  rw [em] at key;refine key.mono ?_;rintro e' w' ⟨v',rfl,h2⟩;exact ⟨v',_,{H with s:=(H.s.handle m).2},rfl,by have:=shandle_len H.s m;omega,h2.sel (p:= [_,_,_,_,_,_,_,_,_,_,_,_,_,_]) [0,2,3,4,5,6,1,7,8,9,10,11,12,13] 14 rfl (by decide),by unfold Harb.gives;simp [e]⟩
 ·refine ⟨64,.pointer (some ⟨q.v0,0,none⟩),267,by rw [e];rfl,fun W=>meth_Handle64 _ W,enters_of Tryz.func267 (by kernel_rfl) rfl,fun W h=>?_⟩;obtain ⟨s1,s2,s3,s4⟩:=hm.v (by omega);refine (vhandle_ok (h.frt 6 rfl) m ⟨by rw [e];exact hf.v0.node.symm,s1,hm.id0,hm.id1,s2,s3⟩).mono ?_;rintro e' w' ⟨v',rfl,h2⟩;exact ⟨v',_,{H with v0:=(H.v0.handle m).2},rfl,by have:=vhandle_len H.v0 m;omega,h2.sel (p:= [_,_,_,_,_,_,_,_,_,_,_,_,_,_]) [0,2,3,4,5,6,7,1,8,9,10,11,12,13] 14 rfl (by decide),by unfold Harb.gives;simp [e]⟩
 ·refine ⟨64,.pointer (some ⟨q.v1,0,none⟩),267,by rw [e];rfl,fun W=>meth_Handle64 _ W,enters_of Tryz.func267 (by kernel_rfl) rfl,fun W h=>?_⟩;obtain ⟨s1,s2,s3,s4⟩:=hm.v (by omega);refine (vhandle_ok (h.frt 7 rfl) m ⟨by rw [e];exact hf.v1.node.symm,s1,hm.id0,hm.id1,s2,s3⟩).mono ?_;rintro e' w' ⟨v',rfl,h2⟩;exact ⟨v',_,{H with v1:=(H.v1.handle m).2},rfl,by have:=vhandle_len H.v1 m;omega,h2.sel (p:= [_,_,_,_,_,_,_,_,_,_,_,_,_,_]) [0,2,3,4,5,6,7,8,1,9,10,11,12,13] 14 rfl (by decide),by unfold Harb.gives;simp [e]⟩
 ·refine ⟨64,.pointer (some ⟨q.v2,0,none⟩),267,by rw [e];rfl,fun W=>meth_Handle64 _ W,enters_of Tryz.func267 (by kernel_rfl) rfl,fun W h=>?_⟩;obtain ⟨s1,s2,s3,s4⟩:=hm.v (by omega);refine (vhandle_ok (h.frt 8 rfl) m ⟨by rw [e];exact hf.v2.node.symm,s1,hm.id0,hm.id1,s2,s3⟩).mono ?_;rintro e' w' ⟨v',rfl,h2⟩;exact ⟨v',_,{H with v2:=(H.v2.handle m).2},rfl,by have:=vhandle_len H.v2 m;omega,h2.sel (p:= [_,_,_,_,_,_,_,_,_,_,_,_,_,_]) [0,2,3,4,5,6,7,8,9,1,10,11,12,13] 14 rfl (by decide),by unfold Harb.gives;simp [e]⟩
theorem down_on {i:Int} (h0:0≤i) (h1:i<7):∃T p F,q.node i=.iface T p∧(∀W,(method 463 T p "Down").run Tryz.prog W=.ok (F,p) W)∧(∀args W,(callFunc F args).run Tryz.prog W=.ok (.enter F args) W)∧∀W,Heap w0 (H.on q R) W→Calls Tryz.prog F #[p] W fun e w'=>e=.returned (.bool (H.isDown i))∧W=w':=by
 rcases node_cases h0 h1 with e|e|e|e|e|e|e
 ·exact ⟨70,.pointer (some ⟨q.bc,0,none⟩),97,by rw [e];rfl,fun W=>meth_Down70 _ W,enters_of Tryz.func97 (by kernel_rfl) rfl,fun W h=>by rw [e];exact cdown_ok (h.frt 2 rfl)⟩
 ·exact ⟨40,.pointer (some ⟨q.k0,0,none⟩),19,by rw [e];rfl,fun W=>meth_Down40 _ W,enters_of Tryz.func19 (by kernel_rfl) rfl,fun W h=>by rw [e];exact kdown_ok (h.frt 3 rfl)⟩
 ·exact ⟨40,.pointer (some ⟨q.k1,0,none⟩),19,by rw [e];rfl,fun W=>meth_Down40 _ W,enters_of Tryz.func19 (by kernel_rfl) rfl,fun W h=>by rw [e];exact kdown_ok (h.frt 4 rfl)⟩
 ·exact ⟨63,.pointer (some ⟨q.bs,0,none⟩),259,by rw [e];rfl,fun W=>meth_Down63 _ W,enters_of Tryz.func259 (by kernel_rfl) rfl,fun W h=>by rw [e];exact hdown_ok (h.frt 5 rfl)⟩
 ·exact ⟨64,.pointer (some ⟨q.v0,0,none⟩),266,by rw [e];rfl,fun W=>meth_Down64 _ W,enters_of Tryz.func266 (by kernel_rfl) rfl,fun W h=>by rw [e];exact vdown_ok (h.frt 6 rfl)⟩
 ·exact ⟨64,.pointer (some ⟨q.v1,0,none⟩),266,by rw [e];rfl,fun W=>meth_Down64 _ W,enters_of Tryz.func266 (by kernel_rfl) rfl,fun W h=>by rw [e];exact vdown_ok (h.frt 7 rfl)⟩
 ·exact ⟨64,.pointer (some ⟨q.v2,0,none⟩),266,by rw [e];rfl,fun W=>meth_Down64 _ W,enters_of Tryz.func266 (by kernel_rfl) rfl,fun W h=>by rw [e];exact vdown_ok (h.frt 8 rfl)⟩
theorem crash_on {i:Int} (h0:0≤i) (h1:i<7) (stay torn:Int):∃T p F,q.node i=.iface T p∧(∀W,(method 463 T p "Crash").run Tryz.prog W=.ok (F,p) W)∧(∀args W,(callFunc F args).run Tryz.prog W=.ok (.enter F args) W)∧∀W,Heap w0 (H.on q R) W→Calls Tryz.prog F #[p,.int .i64 stay,.int .i64 torn] W fun e w'=>e=.returned (.tuple #[])∧Heap w0 ((H.crash i stay).on q R) w':=by
 rcases node_cases h0 h1 with e|e|e|e|e|e|e
 ·refine ⟨70,.pointer (some ⟨q.bc,0,none⟩),277,by rw [e];rfl,fun W=>meth_Crash70 _ W,enters_of Tryz.func277 (by kernel_rfl) rfl,fun W h=>?_⟩;refine (ccrash_ok (h.frt 2 rfl) stay torn).mono ?_;rintro e' w' ⟨rfl,h2⟩;rw [show H.crash i stay= {H with c:=H.c.crash stay} by unfold Harb.crash;simp [e]];exact zHb81
 ·refine ⟨40,.pointer (some ⟨q.k0,0,none⟩),214,by rw [e];rfl,fun W=>meth_Crash40 _ W,enters_of Tryz.func214 (by kernel_rfl) rfl,fun W h=>?_⟩;refine (kcrash_ok (h.frt 3 rfl) stay torn).mono ?_;rintro e' w' ⟨rfl,h2⟩;rw [show H.crash i stay= {H with k0:=H.k0.crash stay} by unfold Harb.crash;simp [e]];exact zHb82
 ·refine ⟨40,.pointer (some ⟨q.k1,0,none⟩),214,by rw [e];rfl,fun W=>meth_Crash40 _ W,enters_of Tryz.func214 (by kernel_rfl) rfl,fun W h=>?_⟩;refine (kcrash_ok (h.frt 4 rfl) stay torn).mono ?_;rintro e' w' ⟨rfl,h2⟩;rw [show H.crash i stay= {H with k1:=H.k1.crash stay} by unfold Harb.crash;simp [e]];exact zHb83
 ·refine ⟨63,.pointer (some ⟨q.bs,0,none⟩),258,by rw [e];rfl,fun W=>meth_Crash63 _ W,enters_of Tryz.func258 (by kernel_rfl) rfl,fun W h=>?_⟩;refine (hcrash_ok (h.frt 5 rfl) stay torn).mono ?_;rintro e' w' ⟨rfl,h2⟩;rw [show H.crash i stay= {H with s:=H.s.crash stay} by unfold Harb.crash;simp [e]];exact zHb84
 ·refine ⟨64,.pointer (some ⟨q.v0,0,none⟩),265,by rw [e];rfl,fun W=>meth_Crash64 _ W,enters_of Tryz.func265 (by kernel_rfl) rfl,fun W h=>?_⟩;refine (vcrash_ok (h.frt 6 rfl) stay torn).mono ?_;rintro e' w' ⟨rfl,h2⟩;rw [show H.crash i stay= {H with v0:=H.v0.crash stay} by unfold Harb.crash;simp [e]];exact zHb85
 ·refine ⟨64,.pointer (some ⟨q.v1,0,none⟩),265,by rw [e];rfl,fun W=>meth_Crash64 _ W,enters_of Tryz.func265 (by kernel_rfl) rfl,fun W h=>?_⟩;refine (vcrash_ok (h.frt 7 rfl) stay torn).mono ?_;rintro e' w' ⟨rfl,h2⟩;rw [show H.crash i stay= {H with v1:=H.v1.crash stay} by unfold Harb.crash;simp [e]];exact zHb86
 ·refine ⟨64,.pointer (some ⟨q.v2,0,none⟩),265,by rw [e];rfl,fun W=>meth_Crash64 _ W,enters_of Tryz.func265 (by kernel_rfl) rfl,fun W h=>?_⟩;refine (vcrash_ok (h.frt 8 rfl) stay torn).mono ?_;rintro e' w' ⟨rfl,h2⟩;rw [show H.crash i stay= {H with v2:=H.v2.crash stay} by unfold Harb.crash;simp [e]];exact zHb87
theorem start_on (hf:Fine H) {i:Int} (h0:0≤i) (h1:i<7):∃T p F,q.node i=.iface T p∧(∀W,(method 463 T p "Start").run Tryz.prog W=.ok (F,p) W)∧(∀args W,(callFunc F args).run Tryz.prog W=.ok (.enter F args) W)∧∀W,Heap w0 (H.on q R) W→Calls Tryz.prog F #[p] W fun e w'=>e=.returned (.tuple #[])∧Heap w0 ((H.starts i).on q R) w':=by
 rcases node_cases h0 h1 with e|e|e|e|e|e|e
 ·refine ⟨70,.pointer (some ⟨q.bc,0,none⟩),279,by rw [e];rfl,fun W=>meth_Start70 _ W,enters_of Tryz.func279 (by kernel_rfl) rfl,fun W h=>?_⟩;refine (cstart_ok (h.frt 2 rfl) (fun _=>hf.c.histS)).mono ?_;rintro e' w' ⟨rfl,h2⟩;rw [show H.starts i= {H with c:=H.c.start} by unfold Harb.starts;simp [e]];exact zHb81
 ·refine ⟨40,.pointer (some ⟨q.k0,0,none⟩),216,by rw [e];rfl,fun W=>meth_Start40 _ W,enters_of Tryz.func216 (by kernel_rfl) rfl,fun W h=>?_⟩;refine (kstart_ok (h.frt 3 rfl) (hf.k0.es)).mono ?_;rintro e' w' ⟨rfl,h2⟩;rw [show H.starts i= {H with k0:=H.k0.start} by unfold Harb.starts;simp [e]];exact zHb82
 ·refine ⟨40,.pointer (some ⟨q.k1,0,none⟩),216,by rw [e];rfl,fun W=>meth_Start40 _ W,enters_of Tryz.func216 (by kernel_rfl) rfl,fun W h=>?_⟩;refine (kstart_ok (h.frt 4 rfl) (hf.k1.es)).mono ?_;rintro e' w' ⟨rfl,h2⟩;rw [show H.starts i= {H with k1:=H.k1.start} by unfold Harb.starts;simp [e]];exact zHb83
 ·refine ⟨63,.pointer (some ⟨q.bs,0,none⟩),261,by rw [e];rfl,fun W=>meth_Start63 _ W,enters_of Tryz.func261 (by kernel_rfl) rfl,fun W h=>?_⟩;refine (hstart_ok (h.frt 5 rfl) (hf.s.es)).mono ?_;rintro e' w' ⟨rfl,h2⟩;rw [show H.starts i= {H with s:=H.s.start} by unfold Harb.starts;simp [e]];exact zHb84
 ·refine ⟨64,.pointer (some ⟨q.v0,0,none⟩),268,by rw [e];rfl,fun W=>meth_Start64 _ W,enters_of Tryz.func268 (by kernel_rfl) rfl,fun W h=>?_⟩;refine (vstart_ok (h.frt 6 rfl) (hf.v0.es)).mono ?_;rintro e' w' ⟨rfl,h2⟩;rw [show H.starts i= {H with v0:=H.v0.start} by unfold Harb.starts;simp [e]];exact zHb85
 ·refine ⟨64,.pointer (some ⟨q.v1,0,none⟩),268,by rw [e];rfl,fun W=>meth_Start64 _ W,enters_of Tryz.func268 (by kernel_rfl) rfl,fun W h=>?_⟩;refine (vstart_ok (h.frt 7 rfl) (hf.v1.es)).mono ?_;rintro e' w' ⟨rfl,h2⟩;rw [show H.starts i= {H with v1:=H.v1.start} by unfold Harb.starts;simp [e]];exact zHb86
 ·refine ⟨64,.pointer (some ⟨q.v2,0,none⟩),268,by rw [e];rfl,fun W=>meth_Start64 _ W,enters_of Tryz.func268 (by kernel_rfl) rfl,fun W h=>?_⟩;refine (vstart_ok (h.frt 8 rfl) (hf.v2.es)).mono ?_;rintro e' w' ⟨rfl,h2⟩;rw [show H.starts i= {H with v2:=H.v2.start} by unfold Harb.starts;simp [e]];exact zHb87
theorem Heap.boxed {w:World} {X:SA} (h:Heap w0 (X::H.on q R) w):Heap w0 (H.on q (X::R)) w:=h.sel (p:= [_,_,_,_,_,_,_,_,_,_,_,_,_,_]) [1,2,3,4,5,6,7,8,9,10,11,12,13,0] 14 rfl (by decide)
theorem Heap.unbox {w:World} {X:SA} (h:Heap w0 (H.on q (X::R)) w):Heap w0 (H.on q R) w:=h.sel (p:= [_,_,_,_,_,_,_,_,_,_,_,_,_,_]) [0,1,2,3,4,5,6,7,8,9,10,11,12] 14 rfl (by decide)
theorem put_on {w:World} {v:Value} {ms:List Msg} (h:Heap w0 (.slc v 113 7 ms.length (mcells ms)::H.on q R) w) (hl:ms.length<1000):Calls Tryz.prog 66 #[.pointer (some ⟨q.bp,0,none⟩),v] w fun e w'=>e=.returned (.tuple #[])∧Heap w0 (({H with p:=H.p.puts ms}:Harb).on q R) w':=by
 refine (put_ok (h.sel (p:= [_,_,_,_,_,_,_,_,_,_,_,_,_,_]) [10,0,1,2,3,4,5,6,7,8,9,11,12,13] 14 rfl (by decide)) hl).mono ?_;rintro e w' ⟨rfl,h2⟩;exact ⟨rfl,h2.sel (p:= [_,_,_,_,_,_,_,_,_,_,_,_,_,_]) [2,3,4,5,6,7,8,9,10,0,11,12,13] 14 rfl (by decide)⟩
theorem cring_len (c:Chief) (id:Int):(c.ring id).1.length≤3:=by
 unfold Chief.ring;split
 ·simp
 split
 ·simp
 split
 ·simp
 split
 ·split
  ·exact turns_len _ _
  ·exact sends_len _ _
 ·exact sends_len _ _
theorem cring_on {w:World} (hf:Fine H) (h:Heap w0 (H.on q R) w) (id:Int) (h0:1≤id) (h1:id≤999):Calls Tryz.prog 68 #[.pointer (some ⟨q.bc,0,none⟩),.int .i64 id] w fun e w'=>∃v',e=.returned v'∧Heap w0 (.slc v' 113 7 (H.c.ring id).1.length (mcells (H.c.ring id).1)::({H with c:=(H.c.ring id).2}:Harb).on q R) w':=by
 refine (cring_ok (h.frt 2 rfl) id h0 h1 (fun x hx hb=>hf.c.bell id x trivial hx hb)).mono ?_;rintro e w' ⟨v',rfl,h2⟩;exact ⟨v',rfl,h2.sel (p:= [_,_,_,_,_,_,_,_,_,_,_,_,_,_]) [0,2,3,1,4,5,6,7,8,9,10,11,12,13] 14 rfl (by decide)⟩
theorem kring_on {w:World} (h:Heap w0 (H.on q R) w) (i:Int) (hi:i=1∨i=2) (id:Int) (h0:1≤id) (h1:id≤999):Calls Tryz.prog 69 #[.pointer (some ⟨q.kp i,0,none⟩),.int .i64 id] w fun e w'=>∃v' ms,e=.returned v'∧ms.length<1000∧(if i=1 then ms=H.k0.ring id else ms=H.k1.ring id)∧Heap w0 (.slc v' 113 7 ms.length (mcells ms)::H.on q R) w':=by
 rcases hi with rfl|rfl
 ·refine (kring_ok (h.frt 3 rfl) id h0 h1).mono ?_;rintro e w' ⟨v',rfl,h2⟩;exact ⟨v',_,rfl,by have:=kring_len H.k0 id;omega,rfl,h2.sel (p:= [_,_,_,_,_,_,_,_,_,_,_,_,_,_]) [0,2,3,4,1,5,6,7,8,9,10,11,12,13] 14 rfl (by decide)⟩
 ·refine (kring_ok (h.frt 4 rfl) id h0 h1).mono ?_;rintro e w' ⟨v',rfl,h2⟩;exact ⟨v',_,rfl,by have:=kring_len H.k1 id;omega,rfl,h2.sel (p:= [_,_,_,_,_,_,_,_,_,_,_,_,_,_]) [0,2,3,4,5,1,6,7,8,9,10,11,12,13] 14 rfl (by decide)⟩
end
abbrev Decides (w0:World) (q:HA):Prop:=∀(H:Harb) (R:List SA) (w:World) (id:Int),Heap w0 (H.on q R) w→1≤id→id≤999→Calls Tryz.prog 63 #[.pointer (some ⟨q.b,0,none⟩),.int .i64 id] w fun e w'=>e=.returned (.tuple #[])∧Heap w0 (H.on q R) w'
section
variable {w0 w:World} {q:HA} {H:Harb} {R:List SA}
theorem hring_c (hDE:Decides w0 q) (hf:Fine H) (h:Heap w0 (H.on q R) w) (id:Int) (h0:1≤id) (h1:id≤999):
 Calls Tryz.prog 35 #[.pointer (some ⟨q.b,0,none⟩),.int .i64 0,.int .i64 id] w fun e w'=>e=.returned (.int .i64 (H.ringN 0 id).1)∧Heap w0 ((H.ringN 0 id).2.on q R) w':=by
 have HR:As (H.ringN 0 id=if H.isDown 0=true then (10,H) else (0,{H with c:=(H.c.ring id).2,p:=H.p.puts (H.c.ring id).1})):=⟨by simp [Harb.ringN]⟩;obtain ⟨T,p,F,hn,hm,hent,hd⟩:=down_on (w0:=w0) (q:=q) (H:=H) (R:=R) (i:=0) (by omega) (by omega);have HN:=zk hn;have HD:=zk hd;have HF:=zk hf;have HDE:=zk hDE;have HH:=zk h;have c7:=h.cell 0 7 rfl rfl;have hlb:=h.lt 0 rfl;generalize H.ringN 0 id=res at *;clear hn hd hf h hDE;cases hdn:H.isDown 0
 ·have HDN:=zk hdn;rw [hdn] at HR HD;simp only [Bool.false_eq_true,if_false] at HR;clear hdn;go_enter Tryz.func35,Tryz.ntmps35;go_wp2_with (first
   |(go_at_call 48;refine (node_ok HH.out _ (by omega)).mono ?_;rintro e w' ⟨rfl,rfl⟩;rw [HN.out])
   |(refine (HD.out _ HH.out).mono ?_;rintro e w' ⟨rfl,rfl⟩))
  refine wro (fun W=>W.cell? ⟨q.b,7,none⟩=some (.pointer (some ⟨q.bp,0,none⟩))∧q.b<W.heap.size) [(0,.f),(1,.f),(2,.f),(3,.f),(4,.f),(6,.f),(5,.e),(7,.e),(8,.e)] ⟨c7,hlb⟩ ?_;repeat (first
   |(refine vg rfl rfl ?_;apply ex2;intro w' hw';obtain ⟨c7',hlb'⟩:=hw';go_simp;rfl;go_simp)
   |(refine vs_ rfl (fun K hK=>?_);go_simp;refine hK _ ?_;clear hK K)
   |(refine ve rfl rfl ?_;go_wp2_with (go_at_call 52;refine (hchief_ok HH.out.drew).mono ?_;rintro e w' ⟨rfl,rfl⟩);refine ⟨⟨c7,hlb⟩,?_⟩;go_simp)
   |(refine ve rfl rfl ?_;go_wp2_with (go_at_call 68;refine (cring_on HF.out HH.out.drew id h0 h1).mono ?_;rintro e w1 ⟨v1,rfl,h1⟩;have H1:=zk h1;clear h1);refine ⟨⟨H1.out.cell 1 7 rfl rfl,H1.out.lt 1 rfl⟩,?_⟩;go_simp)
   |(refine ve rfl rfl ?_;go_wp2_with (go_at_call 66;refine (put_on H1.out (by have:=cring_len H.c id;omega)).mono ?_;rintro e w2 ⟨rfl,h2⟩;have H2:=zk h2;clear h2);refine ⟨⟨H2.out.cell 0 7 rfl rfl,H2.out.lt 0 rfl⟩,?_⟩;go_simp))
  refine vn ?_;go_simp;go_wp2_with (go_at_call 63;refine (HDE.out _ _ _ id H2.out h0 h1).mono ?_;rintro e w3 ⟨rfl,h3⟩;have H3:=zk h3;clear h3);go_ret;rw [HR.out];exact ⟨rfl,H3.out⟩
 ·rw [hdn] at HR HD;simp only [if_true] at HR;clear hdn;go_enter Tryz.func35,Tryz.ntmps35;go_wp2_with (first
   |(go_at_call 48;refine (node_ok HH.out _ (by omega)).mono ?_;rintro e w' ⟨rfl,rfl⟩;rw [HN.out])
   |(refine (HD.out _ HH.out).mono ?_;rintro e w' ⟨rfl,rfl⟩))
  go_ret;rw [HR.out];exact ⟨rfl,HH.out⟩
theorem hring_k (hf:Fine H) (h:Heap w0 (H.on q R) w) (i:Int) (hi:i=1∨i=2) (id:Int) (h0:1≤id) (h1:id≤999):
 Calls Tryz.prog 35 #[.pointer (some ⟨q.b,0,none⟩),.int .i64 i,.int .i64 id] w fun e w'=>e=.returned (.int .i64 (H.ringN i id).1)∧Heap w0 ((H.ringN i id).2.on q R) w':=by
 have HR:As (H.ringN i id=if H.isDown i=true then (10,H) else if i=1 then (0,{H with p:=H.p.puts (H.k0.ring id)}) else (0,{H with p:=H.p.puts (H.k1.ring id)})):=⟨by
  unfold Harb.ringN;rw [if_neg (c:=i=0) (by omega)]⟩
 obtain ⟨T,p,F,hn,hm,hent,hd⟩:=down_on (w0:=w0) (q:=q) (H:=H) (R:=R) (i:=i) (by omega) (by omega);have HN:=zk hn;have HD:=zk hd;have HF:=zk hf;have HH:=zk h;have HI:=zk hi;have c7:=h.cell 0 7 rfl rfl;have hlb:=h.lt 0 rfl;have HPUT:As (∀ms,(if i=1 then ms=H.k0.ring id else ms=H.k1.ring id)→H.isDown i=false→H.ringN i id=(0,{H with p:=H.p.puts ms})):=⟨fun ms hms hdn=>by
  rw [HR.out,hdn];simp only [Bool.false_eq_true,if_false];rcases hi with rfl|rfl
  ·rw [if_pos rfl] at hms⊢;rw [hms]
  ·rw [if_neg (by decide)] at hms⊢;rw [hms]⟩
 have HDO:As (H.isDown i=true→H.ringN i id=(10,H)):=⟨fun e=>by rw [HR.out,e];rfl⟩;generalize H.ringN i id=res at *;clear HR hn hd hf h;have hb:(i != 0)=true∧((i != 1)=false∨(i != 1)=true∧(i != 2)=false)∧(i==0)=false:=by
  rcases hi with rfl|rfl
  ·exact ⟨by decide,.inl (by decide),by decide⟩
  ·exact ⟨by decide,.inr ⟨by decide,by decide⟩,by decide⟩
 obtain ⟨b1,b2,b4⟩:=hb;clear hi;rcases b2 with b2|⟨b2,b3⟩;all_goals
  cases hdn:H.isDown i
  ·have HDN:=zk hdn;rw [hdn] at HD;clear hdn HDO;go_enter Tryz.func35,Tryz.ntmps35;go_wp2_with (first
    |(go_at_call 48;refine (node_ok HH.out _ (by have:=HI.out;omega)).mono ?_;rintro e w' ⟨rfl,rfl⟩;rw [HN.out])
    |(refine (HD.out _ HH.out).mono ?_;rintro e w' ⟨rfl,rfl⟩))
   refine wro (fun W=>W.cell? ⟨q.b,7,none⟩=some (.pointer (some ⟨q.bp,0,none⟩))∧q.b<W.heap.size) [(0,.f),(1,.f),(2,.f),(3,.f),(4,.f),(5,.f),(7,.f),(6,.e),(8,.e),(9,.e)] ⟨c7,hlb⟩ ?_;repeat (first
    |(refine vg rfl rfl ?_;apply ex2;intro w' hw';obtain ⟨c7',hlb'⟩:=hw';go_simp;rfl;go_simp)
    |(refine vs_ rfl (fun K hK=>?_);go_simp;refine hK _ ?_;clear hK K)
    |(refine ve rfl rfl ?_;go_wp2_with (go_at_call 16;refine (hkeeper_ok HH.out.drew i HI.out).mono ?_;rintro e w' ⟨rfl,rfl⟩);refine ⟨⟨c7,hlb⟩,?_⟩;go_simp)
    |(refine ve rfl rfl ?_;go_wp2_with (go_at_call 69;refine (kring_on HH.out.drew i HI.out id h0 h1).mono ?_;rintro e w1 ⟨v1,ms,rfl,hl1,he1,h1⟩;have H1:=zk h1;have HL1:=zk hl1;have HE1:=zk he1;clear h1 hl1 he1);refine ⟨⟨H1.out.cell 1 7 rfl rfl,H1.out.lt 1 rfl⟩,?_⟩;go_simp)
    |(refine ve rfl rfl ?_;go_wp2_with (go_at_call 66;refine (put_on H1.out HL1.out).mono ?_;rintro e w2 ⟨rfl,h2⟩;have H2:=zk h2;clear h2);refine ⟨⟨H2.out.cell 0 7 rfl rfl,H2.out.lt 0 rfl⟩,?_⟩;go_simp))
   refine vn ?_;go_simp;go_wp2_with (fail);go_ret;rw [HPUT.out _ HE1.out HDN.out];exact ⟨rfl,H2.out⟩
  ·have HDN:=zk hdn;rw [hdn] at HD;clear hdn HPUT;go_enter Tryz.func35,Tryz.ntmps35;go_wp2_with (first
    |(go_at_call 48;refine (node_ok HH.out _ (by have:=HI.out;omega)).mono ?_;rintro e w' ⟨rfl,rfl⟩;rw [HN.out])
    |(refine (HD.out _ HH.out).mono ?_;rintro e w' ⟨rfl,rfl⟩))
   go_ret;rw [HDO.out HDN.out];exact ⟨rfl,HH.out⟩
end
end Go.Proofs.YtlnghlamnehfjaaGreatDoor.S
