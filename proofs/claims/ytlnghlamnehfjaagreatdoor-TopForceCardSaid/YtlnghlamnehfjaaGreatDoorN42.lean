/- Contracts and plain laws of the program, part N42. -/
import Derived.Test.YtlnghlamnehfjaaGreatDoorN35
import Derived.Test.YtlnghlamnehfjaaGreatDoorN41
set_option linter.unusedVariables false
set_option linter.unusedSimpArgs false
set_option maxRecDepth 100000
set_option maxHeartbeats 64000000
namespace Go.Proofs.YtlnghlamnehfjaaGreatDoor.S
open Go.RowKit Go.Maps
theorem zCfn1 {P:Prop} (h:P:=by
 split
 ·exact (h1.mono (fun k hk=>⟨trivial,fun _ e' he'=>by rw [List.mem_singleton] at he';subst he';exact hk⟩)).goes h2
 ·rename_i hn;exact ⟨h1.mono (fun k _=>⟨trivial,fun e=>absurd e hn⟩),h2⟩):P:=h
theorem mget_put {V:Type} (m:IM V) (k k':Int) (v:V):mget (mput m k v) k'=if k=k' then some v else mget m k':=by
 rw [mget_mput,mget_mdel];split<;>rfl
def Led.base (x:Led):Od×Facts×Bool:=(x.o,x.f,x.t.isSome)
def Alike (l l':IM Led):Prop:=∀id,(mget l id).map Led.base=(mget l' id).map Led.base
theorem Alike.refl (l:IM Led):Alike l l:=fun _=>rfl
theorem Alike.symm {l l':IM Led} (h:Alike l l'):Alike l' l:=fun id=>(h id).symm
theorem Alike.trans {l l' l'':IM Led} (h:Alike l l') (h':Alike l' l''):Alike l l'':=fun id=>(h id).trans (h' id)
theorem Alike.some {l l':IM Led} (h:Alike l l') {id:Int} {x:Led} (hx:mget l id=some x):∃y,mget l' id=.some y∧y.o=x.o∧y.f=x.f∧y.t.isSome=x.t.isSome:=by
 have:=h id;rw [hx] at this;cases hy:mget l' id with
 |none=>rw [hy] at this;cases this
 |some y=>
  rw [hy] at this;simp only [Option.map_some,Option.some.injEq,Led.base,Prod.mk.injEq] at this;exact ⟨y,rfl,this.1.symm,this.2.1.symm,this.2.2.symm⟩
theorem Alike.none {l l':IM Led} (h:Alike l l') {id:Int} (hx:mget l id=none):mget l' id=.none:=by
 have:=h id;rw [hx] at this;cases hy:mget l' id with
 |none=>rfl
 |some y=>rw [hy] at this;cases this
theorem Alike.put {l l':IM Led} (h:Alike l l') (id:Int) {x y:Led} (hb:x.base=y.base):Alike (mput l id x) (mput l' id y):=by
 intro k;rw [mget_put,mget_put];split
 ·simp [hb]
 ·exact h k
theorem base_facts {x y:Led} (h:x.base=y.base) (kd:Kd) (n:Int):(x.facts kd n).base=(y.facts kd n).base:=by
 obtain ⟨o,f,t⟩:=x;obtain ⟨o',f',t'⟩:=y;simp only [Led.base,Prod.mk.injEq] at h;obtain ⟨rfl,rfl,h⟩:=h;cases kd<;>simp only [Led.facts,Led.base]<;>(try rw [h])<;>(try split)<;>simp [h]
theorem base_more {x y:Led} (h:x.base=y.base) (s n:Int):(x.more s n).base=(y.more s n).base:=by
 obtain ⟨o,f,t⟩:=x;obtain ⟨o',f',t'⟩:=y;simp only [Led.base,Prod.mk.injEq] at h;obtain ⟨rfl,rfl,h⟩:=h;simp [Led.more,Led.base,h]
theorem plays_alike {c c':Chief} (h:Alike c.l c'.l) (e:Entry):Alike (c.plays e).l (c'.plays e).l:=by
 have hget:∀id,(mget c.l id=none∧mget c'.l id=none)∨∃x y,mget c.l id=some x∧mget c'.l id=some y∧x.base=y.base:=by
  intro id;cases hx:mget c.l id with
  |none=>exact .inl ⟨rfl,h.none hx⟩
  |some x=>
   obtain ⟨y,hy,h1,h2,h3⟩:=h.some hx;exact .inr ⟨x,y,rfl,hy,by simp [Led.base,h1,h2,h3]⟩
 unfold Chief.plays;split
 ·exact h.put _ rfl
 ·rcases hget e.id with ⟨h1,h2⟩|⟨x,y,h1,h2,h3⟩
  ·simp only [h1,h2];exact h
  ·simp only [h1,h2];exact h.put _ (base_more h3 _ _)
 ·rcases hget e.id with ⟨h1,h2⟩|⟨x,y,h1,h2,h3⟩
  ·simp only [h1,h2];exact h
  ·simp only [h1,h2];exact h.put _ (base_facts h3 _ _)
theorem fits_alike {c c':Chief} (h:Alike c.l c'.l) {e:Entry} (hf:c.Fits e):c'.Fits e:=by
 cases hf with
 |begin id a b d p ho hn=>exact .begin id a b d p ho (h.none hn)
 |step id i s n x hx hi hf ht ho=>
  obtain ⟨y,hy,h1,h2,h3⟩:=h.some hx;exact .step id i s n y hy hi (by rw [h1,h2];exact hf) (by rw [ht] at h3;simpa using h3) (by
   have e:(y.more s n).o=(x.more s n).o:=by simp [Led.more,h1]
   rw [e];exact ho)
 |asked id x hx hd hf=>
  obtain ⟨y,hy,h1,h2,h3⟩:=h.some hx;exact .asked id y hy (by unfold Led.decided;rw [h2];exact hd) (by rw [h2];exact hf)
 |done id k x hx ha hd hk=>
  obtain ⟨y,hy,h1,h2,h3⟩:=h.some hx;exact .done id k y hy (by rw [h2];exact ha) (by unfold Led.decided;rw [h2];exact hd) (by rw [h2];exact hk)
 |undone id k x hx ht hk=>
  obtain ⟨y,hy,h1,h2,h3⟩:=h.some hx;exact .undone id k y hy (by rw [h2];exact ht) (by rw [h2];exact hk)
 |yes id x hx ha hd=>
  obtain ⟨y,hy,h1,h2,h3⟩:=h.some hx;exact .yes id y hy (by rw [h2];exact ha) (by unfold Led.decided;rw [h2];exact hd)
 |turn id x hx hd=>
  obtain ⟨y,hy,h1,h2,h3⟩:=h.some hx;exact .turn id y hy (by unfold Led.decided;rw [h2];exact hd)
 |ack id n x hx hn hd=>
  obtain ⟨y,hy,h1,h2,h3⟩:=h.some hx;exact .ack id n y hy hn (by unfold Led.decided;rw [h2];exact hd)
 |damage id n x hx hn hd=>
  obtain ⟨y,hy,h1,h2,h3⟩:=h.some hx;exact .damage id n y hy hn (by unfold Led.decided;rw [h2];exact hd)
 |shipped id x hx hy'=>
  obtain ⟨y,hy,h1,h2,h3⟩:=h.some hx;exact .shipped id y hy (by rw [h2];exact hy')
theorem hist_alike:∀(es:List Entry) {c c':Chief},Alike c.l c'.l→c.Hist es→c'.Hist es
 | [],_,_,_,_=>trivial
 |e::r,_,_,h,hh=>⟨fits_alike h hh.1,hist_alike r (plays_alike h e) hh.2⟩
theorem replay_alike:∀(es:List Entry) {c c':Chief},Alike c.l c'.l→Alike (c.replay es).l (c'.replay es).l
 | [],_,_,h=>h
 |e::r,_,_,h=>replay_alike r (plays_alike h e)
theorem hist_app:∀(es:List Entry) {c:Chief} {es':List Entry},c.Hist (es++es')↔c.Hist es∧(c.replay es).Hist es'
 | [],_,_=>⟨fun h=>⟨trivial,h⟩,fun h=>h.2⟩
 |e::r,c,es'=>by
  have h:=hist_app r (c:=c.plays e) (es':=es');exact ⟨fun ⟨a,b⟩=>⟨⟨a,(h.1 b).1⟩,(h.1 b).2⟩,fun ⟨⟨a,b⟩,c⟩=>⟨a,h.2 ⟨b,c⟩⟩⟩
theorem hist_take {c:Chief} {es:List Entry} (h:c.Hist es) (n:Nat):c.Hist (es.take n):=by
 rw [←List.take_append_drop n es,hist_app] at h;exact h.1
def Chief.nil:Chief:=⟨0,0,0,⟨0,[],0,false⟩,0,[],⟨0,[]⟩⟩
structure CFb (P:Int→Prop) (c:Chief):Prop where
 ok:c.ok
 room:c.room=c.j.room
 len:(c.j.es.length:Int)≤c.j.room
 hist:Chief.nil.Hist c.j.es
 up:c.j.down=false→Alike (Chief.nil.replay c.j.es).l c.l∧c.used=c.j.es.length
 bell:∀id x,P id→mget c.l id=some x→c.bells.has id=true→x.over=false
 two:∀id x,mget c.l id=some x→x.t≠some (true,true)
abbrev CF (c:Chief):Prop:=CFb (fun _=>True) c
theorem CFb.mono {P Q:Int→Prop} {c:Chief} (h:CFb P c) (hq:∀k,Q k→P k):CFb Q c:=
 ⟨h.ok,h.room,h.len,h.hist,h.up,fun id x hP=>h.bell id x (hq id hP),h.two⟩
theorem plays_other {c:Chief} {e:Entry} {k:Int} (h:k≠e.id):mget (c.plays e).l k=mget c.l k:=by
 have hp:∀x,mget (mput c.l e.id x) k=mget c.l k:=fun x=>by rw [mget_put,if_neg (Ne.symm h)]
 unfold Chief.plays;split
 ·exact hp _
 ·split
  ·rfl
  ·exact hp _
 ·split
  ·rfl
  ·exact hp _
theorem plays_two {c:Chief} {e:Entry} {x:Led} (h:∀y,mget c.l e.id=some y→y.t≠some (true,true)) (hx:mget (c.plays e).l e.id=some x):x.t≠some (true,true):=by
 unfold Chief.plays at hx;split at hx
 ·rw [show mget (c.withL e.id _).l e.id=_ from mget_put_same _ _ _] at hx;obtain rfl:=Option.some.inj hx;simp
 ·split at hx
  ·exact h x hx
  ·rename_i y hy;rw [show mget (c.withL e.id _).l e.id=_ from mget_put_same _ _ _] at hx;obtain rfl:=Option.some.inj hx;exact h y hy
 ·split at hx
  ·exact h x hx
  ·rename_i y hy;rw [show mget (c.withL e.id _).l e.id=_ from mget_put_same _ _ _] at hx;obtain rfl:=Option.some.inj hx;have:=h y hy;rename_i kd _ _ _;cases e.kd<;>simp only [Led.facts]<;>(try split)<;>first|exact this|simp
theorem cplays_all (c:Chief) (e:Entry):(c.plays e).used=c.used+1∧(c.plays e).j=c.j∧(c.plays e).bells=c.bells∧(c.plays e).room=c.room:=by
 unfold Chief.plays;split
 ·exact ⟨rfl,rfl,rfl,rfl⟩
 ·split<;>exact ⟨rfl,rfl,rfl,rfl⟩
 ·split<;>exact ⟨rfl,rfl,rfl,rfl⟩
theorem CFb.note1 {P:Int→Prop} {c:Chief} (h:CFb P c) (hd:c.j.down=false) {e:Entry} (hf:c.Fits e) (hr:c.used<c.room):CFb (fun k=>P k∧k≠e.id) (c.note1 e)∧(c.note1 e).j.down=false∧(c.note1 e).used=c.used+1∧(c.note1 e).room=c.room:=by
 obtain ⟨hal,hu⟩:=h.up hd;have hadd:(c.j.add e).2= {c.j with es:=c.j.es++ [e]}:=by
  unfold Jrn.add;rw [if_neg (by rw [←h.room,←hu];omega)]
 have hok2:({c with j:=(c.j.add e).2}:Chief).ok:=⟨h.ok.keys,h.ok.led,h.ok.bells,h.ok.t0,h.ok.t1,h.ok.r1,h.ok.used0,h.ok.used1⟩;have hf2:({c with j:=(c.j.add e).2}:Chief).Fits e:=fits_alike (c:=c) (c':= {c with j:=(c.j.add e).2}) (Alike.refl _) hf;have hok:=hok2.plays hf2 (by show c.used<4096;have:=h.ok.r1;omega);obtain ⟨p1,p2,p3,p4⟩:=cplays_all ({c with j:=(c.j.add e).2}:Chief) e;have hj:(c.note1 e).j= {c.j with es:=c.j.es++ [e]}:=p2.trans hadd;refine ⟨⟨hok,?_,?_,?_,fun _=>⟨?_,?_⟩,fun id x hP hx hb=>?_,fun id x hx=>?_⟩,?_,p1,p4⟩
 ·rw [hj];exact p4.trans h.room
 ·rw [hj];simp only [List.length_append,List.length_singleton];have:=h.room;omega
 ·rw [hj]
  show Chief.nil.Hist (c.j.es++ [e])
  rw [hist_app];exact ⟨h.hist,fits_alike hal.symm hf,trivial⟩
 ·rw [hj]
  show Alike (Chief.nil.replay (c.j.es++ [e])).l _
  unfold Chief.replay;rw [List.foldl_append];exact plays_alike (c:=Chief.nil.replay c.j.es) (c':=({c with j:=(c.j.add e).2}:Chief)) hal e
 ·rw [hj]
  show (c.note1 e).used=((c.j.es++ [e]).length:Int)
  rw [show (c.note1 e).used=c.used+1 from p1,hu];simp
 ·have hx':mget c.l id=some x:=by
   rw [←hx];exact (plays_other (c:=({c with j:=(c.j.add e).2}:Chief)) hP.2).symm
  exact h.bell id x hP.1 hx' (by rw [←hb];show _=Tower.has (Chief.plays _ e).bells id;rw [p3])
 ·by_cases hk:id=e.id
  ·subst hk;exact plays_two (c:=({c with j:=(c.j.add e).2}:Chief)) (fun y hy=>h.two _ y hy) hx
  ·exact h.two id x (by rw [←hx];exact (plays_other (c:=({c with j:=(c.j.add e).2}:Chief)) hk).symm)
 ·rw [hj];exact hd
theorem CFb.run {P:Int→Prop}:∀(es:List Entry) {c:Chief},CFb P c→c.j.down=false→c.Run es→c.used+es.length≤c.room→CFb (fun k=>P k∧∀e∈es,k≠e.id) (es.foldl Chief.note1 c)∧(es.foldl Chief.note1 c).j.down=false
 | [],c,h,hd,_,_=>⟨h.mono (fun k hk=>hk.1),hd⟩
 |e::r,c,h,hd,hr,hl=>by
  simp only [List.length_cons] at hl;obtain ⟨h1,h2,h3,h4⟩:=h.note1 hd hr.1 (by omega);obtain ⟨h5,h6⟩:=CFb.run r h1 h2 hr.2.2 (by rw [h3,h4];omega);exact ⟨h5.mono (fun k hk=>⟨⟨hk.1,hk.2 e (by simp)⟩,fun e' he'=>hk.2 e' (by simp [he'])⟩),h6⟩
theorem CFb.sync {P:Int→Prop} {c:Chief} (h:CFb P c):CFb P c.sync:=⟨⟨h.ok.keys,h.ok.led,h.ok.bells,h.ok.t0,h.ok.t1,h.ok.r1,h.ok.used0,h.ok.used1⟩,h.room,h.len,h.hist,h.up,h.bell,h.two⟩
theorem CFb.notes {P:Int→Prop} {c:Chief} (h:CFb P c) (hd:c.j.down=false) {es:List Entry} (hr:c.Run es):CFb (fun k=>P k∧((c.notes es).1=true→∀e∈es,k≠e.id)) (c.notes es).2∧(c.notes es).2.j.down=false:=by
 rw [notes_eq];split
 ·exact ⟨h.mono (fun k hk=>hk.1),hd⟩
 ·rename_i hn;obtain ⟨h1,h2⟩:=CFb.run es h hd hr (by omega);exact ⟨h1.mono (fun k hk=>⟨hk.1,hk.2 rfl⟩),h2⟩
theorem CFb.sures {P:Int→Prop} {c:Chief} (h:CFb P c) (hd:c.j.down=false) {es:List Entry} (hr:c.Run es):CFb (fun k=>P k∧((c.sures es).1=true→∀e∈es,k≠e.id)) (c.sures es).2∧(c.sures es).2.j.down=false:=by
 obtain ⟨h1,h2⟩:=h.notes hd hr;unfold Chief.sures;split
 ·rename_i hn;exact ⟨(h1.mono (fun k hk=>⟨hk.1,fun _=>hk.2 rfl⟩)).sync,h2⟩
 ·rename_i hn;exact ⟨h1.mono (fun k hk=>⟨hk.1,fun e=>absurd e hn⟩),h2⟩
theorem run1 {c:Chief} {e:Entry} (hf:c.Fits e) (he:e.ok):c.Run [e]:=⟨hf,he,trivial⟩
theorem CFb.bells {P Q:Int→Prop} {c:Chief} (h:CFb P c) {t:Tower} (ht:KeysOk t.left) (hq:∀id x,Q id→mget c.l id=some x→t.has id=true→x.over=false):CFb Q {c with bells:=t}:=
 ⟨h.ok.bell ht,h.room,h.len,h.hist,h.up,hq,h.two⟩
theorem again_has (t:Tower) (id k:Int):(t.again id).has k=t.has k:=by
 unfold Tower.again;split
 ·rename_i h;unfold Tower.has at h⊢
  show (mget (mput t.left id t.tries) k).isSome=_
  rw [mget_put];split
  ·rename_i e;subst e;simp [h]
  ·rfl
 ·rfl
theorem cut_has (t:Tower) (id k:Int):(t.cut id).has k=(t.has k&& !decide (id=k)):=by
 unfold Tower.cut;split
 ·unfold Tower.has;simp only [mget_mdel];split<;>simp_all
 ·rename_i h;by_cases e:id=k
  ·subst e;simpa using h
  ·simp [e]
theorem hang_has {t:Tower} {id k:Int} (h:(t.hang id).has k=true):t.has k=true∨k=id:=by
 unfold Tower.hang at h;split at h
 ·unfold Tower.has at h⊢;simp only [mget_put] at h;split at h
  ·rename_i e;exact .inr e.symm
  ·exact .inl h
 ·exact .inl h
theorem ring_has2 (t:Tower) (id k:Int):(t.ring id).2.2.has k=t.has k:=by
 unfold Tower.ring;split
 ·rfl
 ·rename_i h;split
  ·rfl
  ·unfold Tower.has at h⊢;simp only [mget_put];split
   ·rename_i e;subst e;cases hh:(mget t.left id).isSome
    ·exact absurd hh h
    ·rfl
   ·rfl
theorem over_decided {x:Led} (h:x.over=true):x.decided=true:=by
 unfold Led.over Facts.over Facts.ends at h;unfold Led.decided;cases hy:x.f.yes<;>cases ht:x.f.turned<;>simp [hy,ht] at h⊢
 cases ha:x.f.asked<;>simp [ha] at h
theorem not_over {x:Led} (h:x.decided=false):x.over=false:=by
 cases e:x.over
 ·rfl
 ·rw [over_decided e] at h;cases h
theorem CFb.again {P:Int→Prop} {c:Chief} (h:CFb P c) (id:Int):CFb P (c.again id):=
 h.bells (again_keys h.ok.bells id) (fun k x hq hx hb=>h.bell k x hq hx (by rw [←again_has c.bells id];exact hb))
theorem CFb.ringB {P:Int→Prop} {c:Chief} (h:CFb P c) (id:Int):CFb P {c with bells:=(c.bells.ring id).2.2}:=
 h.bells (ring_keys h.ok.bells id) (fun k x hq hx hb=>h.bell k x hq hx (by rw [←ring_has2 c.bells id];exact hb))
theorem CFb.sends {c:Chief} {P:Int→Prop} (h:CFb P c) (hd:c.j.down=false) {x:Led} (hx:mget c.l x.o.id=some x):CFb P (c.sends x).2∧(c.sends x).2.j.down=false:=by
 unfold Chief.sends;split
 ·rename_i hp;have hp1:isPrep (nextM x.o x.f)=true:=by simp at hp;exact hp.1
  obtain ⟨p1,p2,p3⟩:=prep_is hp1;have hdec:x.decided=false:=by unfold Led.decided;rw [p1,p2];rfl
  have hg:=h.ok.get hx;have hr:c.Run [⟨.asked,x.o.id,[]⟩]:=run1 (.asked _ x hx hdec p3) (asked_ok hg.2.1 hg.2.2 _);obtain ⟨h1,h2⟩:=h.notes hd hr;have h3:CFb P (c.notes [⟨.asked,x.o.id,[]⟩]).2:=by
   refine ⟨h1.ok,h1.room,h1.len,h1.hist,h1.up,fun k y hP hy hb=>?_,h1.two⟩;by_cases hk:k=x.o.id
   ·subst hk;cases hn:(c.notes [⟨.asked,x.o.id,[]⟩]).1 with
    |true=>
     have e:=notes_get1 hn hx ⟨by simp,by simp⟩;rw [e] at hy;obtain rfl:=Option.some.inj hy;exact not_over (by unfold Led.decided Led.facts;simp [p1,p2])
    |false=>exact h1.bell _ y ⟨hP,fun e=>by rw [hn] at e;cases e⟩ hy hb
   ·exact h1.bell k y ⟨hP,fun _ e he=>by rw [List.mem_singleton] at he;subst he;exact hk⟩ hy hb
  split
  ·exact ⟨h3,h2⟩
  ·exact ⟨h3,h2⟩
 ·exact ⟨h,hd⟩
theorem CFb.goes {c:Chief} {id:Int} (h:CFb (fun k=>k≠id) c) (hd:c.j.down=false):CF (c.goes id).2∧(c.goes id).2.j.down=false:=by
 unfold Chief.goes;split
 ·rename_i hn;exact ⟨⟨h.ok,h.room,h.len,h.hist,h.up,fun k x _ hx hb=>h.bell k x (fun e=>by subst e;rw [hn] at hx;cases hx) hx hb,h.two⟩,hd⟩
 ·rename_i x hx;have hid:x.o.id=id:=(h.ok.get hx).1.id;unfold Chief.goesX;rw [hid];split
  ·refine ⟨?_,hd⟩;have h2:=h.again id;exact h2.bells (cut_keys h2.ok.bells id) (fun k y _ hy hb=>by
    have hb2:((c.again id).bells.cut id).has k=true:=hb;rw [cut_has] at hb2;simp only [Bool.and_eq_true,Bool.not_eq_true',decide_eq_false_iff_not] at hb2;exact h2.bell k y (fun e=>hb2.2 e.symm) hy hb2.1)
  ·rename_i hov;have h2:CF (c.again id):=by
    have h3:=h.again id;refine ⟨h3.ok,h3.room,h3.len,h3.hist,h3.up,fun k y _ hy hb=>?_,h3.two⟩;by_cases hk:k=id
    ·subst hk;have hy2:mget c.l k=some y:=hy;rw [hx] at hy2;obtain rfl:=Option.some.inj hy2;simpa using hov
    ·exact h3.bell k y hk hy hb
   have hx2:mget (c.again id).l x.o.id=some x:=by rw [hid];exact hx
   exact h2.sends hd hx2
theorem CFb.noteGo {c:Chief} (h:CF c) (hd:c.j.down=false) {e:Entry} (hf:c.Fits e) (he:e.ok):CF (c.noteGo e).2∧(c.noteGo e).2.j.down=false:=by
 obtain ⟨h1,h2⟩:=h.notes hd (run1 hf he);unfold Chief.noteGo;exact zCfn1
theorem CFb.sureGo {c:Chief} (h:CF c) (hd:c.j.down=false) {e:Entry} (hf:c.Fits e) (he:e.ok):CF (c.sureGo e).2∧(c.sureGo e).2.j.down=false:=by
 obtain ⟨h1,h2⟩:=h.sures hd (run1 hf he);unfold Chief.sureGo;exact zCfn1
theorem CFb.turns {c:Chief} (h:CF c) (hd:c.j.down=false) {id:Int} {x:Led} (hx:mget c.l id=some x) (hdec:x.decided=false):CF (c.turns id).2.2∧(c.turns id).2.2.j.down=false:=by
 have hg:=h.ok.get hx;obtain ⟨h1,h2⟩:=h.sures hd (run1 (.turn id x hx hdec) (asked_ok hg.2.1 hg.2.2 _));unfold Chief.turns;exact zCfn1
theorem numOk_small {n:Int} (h0:0≤n) (h1:n≤1000):numOk n:=⟨by omega,by omega⟩
theorem entry1_ok {id:Int} (h0:1≤id) (h1:id≤999) (k:Kd) {n:Int} (hn:numOk n):Entry.ok ⟨k,id,[n]⟩:=⟨by show 0≤id;omega,h1,by simp,by simpa using hn⟩
theorem CFb.stepsM {c:Chief} (h:CF c) (hd:c.j.down=false) {x:Led} {m:Msg} (hx:mget c.l m.id=some x):CF (c.steps x m).2∧(c.steps x m).2.j.down=false:=by
 have hg:=h.ok.get hx;have hlen:=hg.1.o.len;unfold Chief.steps;split
 ·exact ⟨h,hd⟩
 rename_i hsv;have hst:0≤m.step∧m.step<x.o.steps.length:=by
  unfold Led.service at hsv;simp at hsv;omega
 have hno:numOk m.step:=numOk_small hst.1 (by omega);split
 ·rename_i hk;exact h.turns hd hx (by simp at hk;exact hk.2)
 split
 ·split
  ·rename_i hk;simp at hk;obtain ⟨k,e⟩:=Int.eq_ofNat_of_zero_le hst.1;rw [e] at hk hno⊢;exact h.noteGo hd (.done m.id k x hx hk.1.1 hk.1.2 hk.2) (entry1_ok hg.2.1 hg.2.2 _ hno)
  ·exact ⟨h,hd⟩
 split
 ·split
  ·rename_i hk;simp at hk;obtain ⟨k,e⟩:=Int.eq_ofNat_of_zero_le hst.1;rw [e] at hk hno⊢;exact h.noteGo hd (.undone m.id k x hx hk.1 hk.2) (entry1_ok hg.2.1 hg.2.2 _ hno)
  ·exact ⟨h,hd⟩
 ·exact ⟨h,hd⟩
theorem says_base (x:Led) (i:Int):(x.says i).base=x.base:=by
 obtain ⟨o,f,t⟩:=x;unfold Led.says Led.base;cases t with
 |none=>rfl
 |some p=>rfl
theorem CFb.votesM {c:Chief} (h:CF c) (hd:c.j.down=false) {x:Led} {m:Msg} (hx:mget c.l m.id=some x) (hf:m.frm=1∨m.frm=2):CF (c.votes x m).2∧(c.votes x m).2.j.down=false:=by
 have hg:=h.ok.get hx;unfold Chief.votes;split
 ·exact ⟨h,hd⟩
 rename_i a b ht;have hta:=hg.1.tally;rw [ht] at hta;simp at hta;split
 ·exact h.sureGo hd (.turn m.id x hx hta.2) (asked_ok hg.2.1 hg.2.2 _)
 by_cases hc:(if m.frm=1 then b&& !a else a&& !b)=true
 ·rw [if_pos hc];exact h.sureGo hd (.yes m.id x hx hta.1 hta.2) (asked_ok hg.2.1 hg.2.2 _)
 ·rw [if_neg hc];refine ⟨⟨?_,h.room,h.len,h.hist,fun hd=>⟨?_,(h.up hd).2⟩,fun k y _ hy hb=>?_,fun k y hy=>?_⟩,hd⟩
  ·refine ⟨h.ok.keys.put _ hg.2.1 hg.2.2,fun p hp=>?_,h.ok.bells,h.ok.t0,h.ok.t1,h.ok.r1,h.ok.used0,h.ok.used1⟩;rcases mem_mput hp with rfl|hp
   ·refine ⟨?_,?_,?_,?_,?_⟩<;>simp only [Led.says,ht]
    ·exact hg.1.o
    ·exact hg.1.id
    ·exact hg.1.may
    ·have:=hg.1.tally;rw [ht] at this;exact this
    ·exact hg.1.full
   ·exact h.ok.led p hp
  ·refine (h.up hd).1.trans ?_;intro k
   show _=(mget (mput c.l m.id _) k).map Led.base
   rw [mget_put];split
   ·rename_i e;subst e;rw [hx];simp [says_base]
   ·rfl
  ·have hy2:mget (mput c.l m.id (x.says (m.frm-1))) k=some y:=hy;rw [mget_put] at hy2;split at hy2
   ·rename_i e;subst e;obtain rfl:=Option.some.inj hy2;have:=h.bell m.id x trivial hx hb;unfold Led.says;rw [ht];exact this
   ·exact h.bell k y trivial hy2 hb
  ·have hy2:mget (mput c.l m.id (x.says (m.frm-1))) k=some y:=hy;rw [mget_put] at hy2;split at hy2
   ·obtain rfl:=Option.some.inj hy2;have:=h.two _ x hx;rw [ht] at this;unfold Led.says;rw [ht];rcases hf with e|e<;>rw [e] at hc⊢ <;>cases a<;>cases b<;>simp at hc this⊢
   ·exact h.two k y hy2
theorem CFb.acksM {c:Chief} (h:CF c) (hd:c.j.down=false) {x:Led} {m:Msg} (hx:mget c.l m.id=some x) (hf:m.frm=1∨m.frm=2):CF (c.acks x m).2∧(c.acks x m).2.j.down=false:=by
 have hg:=h.ok.get hx;have hno:numOk m.frm:=numOk_small (by omega) (by omega);unfold Chief.acks;split
 ·exact ⟨h,hd⟩
 rename_i hdec;have hdec:x.decided=true:=by simpa using hdec
 split
 ·split
  ·exact ⟨h,hd⟩
  ·exact h.noteGo hd (.ack m.id m.frm x hx hf hdec) (entry1_ok hg.2.1 hg.2.2 _ hno)
 split
 ·exact ⟨h,hd⟩
 have h2:=h.sureGo hd (.damage m.id m.frm x hx hf hdec) (entry1_ok hg.2.1 hg.2.2 _ hno);unfold Chief.sureGo at h2;split
 ·rename_i e;rw [if_pos e] at h2;exact h2
 ·rename_i e;rw [if_neg e] at h2;exact h2
theorem CFb.handle {c:Chief} (h:CF c) {m:Msg} (hm:m.kind=12∨m.kind=7∨m.kind=8∨m.kind=11∨m.kind=17→m.frm=1∨m.frm=2):CF (c.handle m).2:=by
 unfold Chief.handle;split
 ·exact h
 rename_i hd;have hd:c.j.down=false:=by simpa using hd
 split
 ·exact h
 split
 ·exact h
 rename_i x hx;have hg:=h.ok.get hx;split
 ·exact (h.stepsM hd hx).1
 split
 ·exact (h.votesM hd hx (hm (by omega))).1
 split
 ·exact (h.acksM hd hx (hm (by omega))).1
 split
 ·split
  ·rename_i hc;simp at hc;exact (h.noteGo hd (.shipped m.id x hx hc.1.2) (asked_ok hg.2.1 hg.2.2 _)).1
  ·exact h
 ·exact h
theorem CFb.ringC {c:Chief} (h:CF c) (id:Int):CF (c.ring id).2:=by
 unfold Chief.ring;split
 ·exact h
 rename_i hd;have hd:c.j.down=false:=by simpa using hd
 split
 ·exact h.ringB id
 rename_i x hx;have hid:x.o.id=id:=(h.ok.get hx).1.id;split
 ·exact h.ringB id
 have hb:=h.ringB id;split
 ·split
  ·rename_i hdec;exact (hb.turns hd hx hdec).1
  ·exact ((hb.again id).sends hd (by rw [hid];exact hx)).1
 ·exact (hb.sends hd (by rw [hid];exact hx)).1
theorem CFb.cancelC {c:Chief} (h:CF c) (id:Int):CF (c.cancel id).2.2:=by
 unfold Chief.cancel;split
 ·exact h
 rename_i hd;split
 ·exact h
 rename_i x hx;split
 ·exact h
 rename_i hdec;exact (h.turns (by simpa using hd) hx (by simpa using hdec)).1
theorem begin_ids {o:Od} {e:Entry} (h:e∈beginEs o):e.id=o.id:=by
 unfold beginEs at h;rcases List.mem_cons.1 h with rfl|h
 ·rfl
 ·have:∀(r:List Sp) (i:Nat),e∈stepEs o.id i r→e.id=o.id:=by
   intro r
   induction r with
   |nil=>intro i h;cases h
   |cons s r ih=>
    intro i h;rcases List.mem_cons.1 h with rfl|h
    ·rfl
    ·exact ih _ h
  exact this _ _ h
theorem CFb.beginC {c:Chief} (h:CF c) {o:Od} (ho:o.ok):CF (c.begin o).2.2:=by
 unfold Chief.begin;split
 ·exact h
 rename_i hd;have hd:c.j.down=false:=by simpa using hd
 split
 ·exact h
 rename_i hn;have hn:mget c.l o.id=none:=by simpa using hn
 split
 ·exact h
 obtain ⟨hr, -⟩:=run_begin ho hn;obtain ⟨h1,h2⟩:=h.sures hd hr;split
 ·have h3:CFb (fun k=>k≠o.id) (c.sures (beginEs o)).2:=h1.mono (fun k hk=>⟨trivial,fun _ e he=>by rw [begin_ids he];exact hk⟩);have h4:CFb (fun k=>k≠o.id) ((c.sures (beginEs o)).2.hang o.id):=
   h3.bells (hang_keys h3.ok.bells o.id) (fun k x hk hx hb=>by
    rcases hang_has hb with hb|rfl
    ·exact h3.bell k x hk hx hb
    ·exact absurd rfl hk)
  exact (h4.goes h2).1
 ·rename_i e;exact h1.mono (fun k _=>⟨trivial,fun e'=>absurd e' e⟩)
theorem CFb.crashC {c:Chief} (h:CF c) (stay:Int):CF (c.crash stay):=by
 unfold Chief.crash;split
 ·exact h
 refine ⟨⟨KeysOk.nil,by simp [Chief.forget],KeysOk.nil,h.ok.t0,h.ok.t1,h.ok.r1,by simp [Chief.forget],by simp [Chief.forget]⟩,h.room,?_,hist_take h.hist _,?_,?_,?_⟩
 ·show ((c.j.es.take _).length:Int)≤c.j.room
  rw [List.length_take];have:=h.len;omega
 ·intro hd;cases hd
 ·intro id x _ hx;cases hx
 ·intro id x hx;cases hx
theorem CFb.wakeC {c:Chief} (h:CF c) (hd:c.j.down=false) (id:Int):CF (c.wake id)∧(c.wake id).j.down=false:=by
 unfold Chief.wake;split
 ·exact ⟨h,hd⟩
 rename_i x hx;have hg:=h.ok.get hx;have h1:CF (if x.over=true then c else c.hang id):=by
  split
  ·exact h
  ·rename_i ho;exact h.bells (hang_keys h.ok.bells id) (fun k y _ hy hb=>by
    rcases hang_has hb with hb|rfl
    ·exact h.bell k y trivial hy hb
    ·rw [hx] at hy;obtain rfl:=Option.some.inj hy;simpa using ho)
 have hl1:mget (if x.over=true then c else c.hang id).l id=some x:=by split<;>exact hx
 have hd1:(if x.over=true then c else c.hang id).j.down=false:=by split<;>exact hd
 generalize (if x.over=true then c else c.hang id)=c1 at *;simp only;split
 ·rename_i hc;simp at hc;obtain ⟨h2,h3⟩:=h1.sures hd1 (run1 (.turn id x hl1 hc.2) (asked_ok hg.2.1 hg.2.2 _));refine ⟨⟨h2.ok,h2.room,h2.len,h2.hist,h2.up,fun k y _ hy hb=>?_,h2.two⟩,h3⟩;cases hn:(c1.sures [⟨.turn,id,[]⟩]).1 with
  |false=>exact h2.bell k y ⟨trivial,fun e=>by rw [hn] at e;cases e⟩ hy hb
  |true=>
   by_cases hk:k=id
   ·subst hk;have e:=sures_get1 hn hl1 ⟨by simp,by simp⟩;rw [e] at hy;obtain rfl:=Option.some.inj hy;obtain ⟨m1,m2,m3⟩:=mpt hg.1.may;have hy2:x.f.yes=false∧x.f.turned=false:=undecided hc.2;have ha:x.f.ack0=false:=by
     unfold mayB at m3;rw [hy2.1,hy2.2] at m3;cases hz:x.f.ack0<;>simp [hz] at m3⊢
    unfold Led.over Facts.over Led.facts Facts.ends;simp [ha,hy2.1]
   ·exact h2.bell k y ⟨trivial,fun _ e he=>by rw [List.mem_singleton] at he;subst he;exact hk⟩ hy hb
 ·exact ⟨h1,hd1⟩
theorem CFb.wakes:∀(is:List Int) {c:Chief},CF c→c.j.down=false→CF (is.foldl Chief.wake c)∧(is.foldl Chief.wake c).j.down=false
 | [],_,h,hd=>⟨h,hd⟩
 |i::r,_,h,hd=>CFb.wakes r (h.wakeC hd i).1 (h.wakeC hd i).2
theorem replay_ok:∀(es:List Entry) {c:Chief},c.ok→(∀id x,mget c.l id=some x→x.t≠some (true,true))→c.Hist es→c.used+es.length≤4096→(c.replay es).ok∧(∀id x,mget (c.replay es).l id=some x→x.t≠some (true,true))∧(c.replay es).bells=c.bells∧(c.replay es).room=c.room
 | [],_,h,h2,_,_=>⟨h,h2,rfl,rfl⟩
 |e::r,c,h,h2,hh,hl=>by
  simp only [List.length_cons] at hl;obtain ⟨p1,p2,p3,p4⟩:=cplays_all c e;have:=replay_ok r (h.plays hh.1 (by omega)) (fun id x hx=>by
   by_cases hk:id=e.id
   ·subst hk;exact plays_two (fun y hy=>h2 _ y hy) hx
   ·exact h2 id x (by rw [←hx];exact (plays_other hk).symm)) hh.2 (by rw [p1];omega)
  exact ⟨this.1,this.2.1,this.2.2.1.trans p3,this.2.2.2.trans p4⟩
theorem CFb.histS {P:Int→Prop} {c:Chief} (h:CFb P c):(({c with j:=c.j.recover}:Chief).forget).Hist c.j.es:=hist_alike _ (c:=Chief.nil) (Alike.refl _) h.hist
theorem CFb.startC {c:Chief} (h:CF c):CF c.start:=by
 unfold Chief.start;split
 ·have h0:(({c with j:=c.j.recover}:Chief).forget).ok:=⟨KeysOk.nil,by simp [Chief.forget],KeysOk.nil,h.ok.t0,h.ok.t1,h.ok.r1,by simp [Chief.forget],by simp [Chief.forget]⟩;have hl:=h.len;have hr:=h.room;have hr1:=h.ok.r1;obtain ⟨r1,r2,r3,r4⟩:=replay_ok c.j.es h0 (fun id x hx=>by cases hx) h.histS (by show (0:Int)+_≤_;omega);obtain ⟨u1,u2⟩:=creplay_used c.j.es (({c with j:=c.j.recover}:Chief).forget);have hc1:CF ((({c with j:=c.j.recover}:Chief).forget).replay c.j.es):=by
   refine ⟨r1,?_,?_,?_,fun _=>⟨?_,?_⟩,fun id x _ hx hb=>?_,r2⟩
   ·rw [u2,r4];exact h.room
   ·rw [u2];exact h.len
   ·rw [u2];exact h.hist
   ·rw [u2];exact replay_alike c.j.es (Alike.refl _)
   ·rw [u1,u2];show (0:Int)+_=_;exact Int.zero_add _
   ·rw [r3] at hb;cases hb
  exact (CFb.wakes _ hc1 (by rw [u2];rfl)).1
 ·exact h
end Go.Proofs.YtlnghlamnehfjaaGreatDoor.S
