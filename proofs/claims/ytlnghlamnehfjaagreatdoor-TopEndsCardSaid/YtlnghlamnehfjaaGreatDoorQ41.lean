/- Part Q41. -/
import Derived.Test.YtlnghlamnehfjaaGreatDoorQ38
set_option linter.unusedVariables false
set_option linter.unusedSimpArgs false
set_option maxRecDepth 100000
set_option maxHeartbeats 64000000
namespace Go.Proofs.YtlnghlamnehfjaaGreatDoor.S
open Go.RowKit Go.Maps
structure Qdn (c:Qa) (m:Msg):Prop where
 frm:m.frm=0
 n7:m.kind≠7
 n12:m.kind≠12
 led:∃y,Qc c.l m.id=some y∧(m.kind=10∨m.kind=14→y.f.turned=true)∧(m.kind=9∨m.kind=13→y.f.yes=true)
theorem Qdn.le {c c':Qa} {m:Msg} (h:Qdn c m) (hk:∀id x,Qc c.l id=some x→∃y,Qc c'.l id=some y∧Xc x y):Qdn c' m:=by
 obtain ⟨x,hx,h1,h2⟩:=h.led;obtain ⟨y,hy,h3⟩:=hk _ x hx;exact ⟨h.frm,h.n7,h.n12,y,hy,fun e=>h3.fl 7 (h1 e),fun e=>h3.fl 6 (h2 e)⟩
theorem Qt0 {x:Led} {k:Int} (hx:x.ok k):∀m∈Xa x.o x.f,m.id=x.o.id∧m.frm=0∧(m.kind=10∧x.f.turned=true∨m.kind=9∧x.f.yes=true∨m.kind=4∨m.kind=15∨m.kind=1∨m.kind=6):=by
 intro m hm;have hdec:∀kk,m∈Qu kk x.o x.f→m.id=x.o.id∧m.frm=0∧m.kind=kk:=fun kk hmem=>by
  rcases UW hmem with ⟨rfl,_⟩|⟨rfl,_⟩<;>exact ⟨rfl,rfl,rfl⟩
 rw [Uo hx.may] at hm;split at hm;rename_i ht;rcases List.mem_append.1 hm with h|h;obtain ⟨a,b,d⟩:=hdec 10 h;exact ⟨a,b,.inl ⟨d,ht⟩⟩;obtain ⟨i,s,h1,h2,rfl⟩:=Qdp h;exact ⟨rfl,rfl,by simp⟩;split at hm;rename_i hy;split at hm;obtain ⟨a,b,d⟩:=hdec 9 hm;exact ⟨a,b,.inr (.inl ⟨d,hy⟩)⟩;rcases List.mem_append.1 hm with h|h;obtain ⟨a,b,d⟩:=hdec 9 h;exact ⟨a,b,.inr (.inl ⟨d,hy⟩)⟩;simp at h;subst h;exact ⟨rfl,rfl,by simp⟩;unfold QW at hm;split at hm;split at hm;simp at hm;subst hm;exact ⟨rfl,rfl,by simp⟩;cases hm;simp at hm;rcases hm with rfl|rfl<;>exact ⟨rfl,rfl,by simp⟩
theorem Qs2 {c:Qa} {x:Led} (hc:c.ok) (hx:Qc c.l x.o.id=some x):∀m∈Xa x.o x.f,Qdn c m:=fun m hm=>by
 obtain ⟨h1,h2,h3⟩:=Qt0 (hc.get hx).1 m hm;refine ⟨h2,by omega,by omega,x,by rw [h1];exact hx,fun e=>?_,fun e=>?_⟩;rcases h3 with h|h|h;exact h.2;omega;omega;rcases h3 with h|h|h;omega;exact h.2;omega
section
variable {c:Qa} {P:Int→Prop}
theorem Ky (h:CFb P c) (hd:c.j.down=false) {x:Led} (hx:Qc c.l x.o.id=some x):∀m∈(c.sends x).1,Qdn (c.sends x).2 m:=fun m hm=>by
 have hr:=(Jt h hd hx).keep;refine (Qs2 h.ok hx m ?_).le hr;revert hm;unfold Qa.sends;split;split;exact fun h=>h;intro h;cases h;exact fun h=>h
theorem JH (h:CFb P c) (hd:c.j.down=false) (id:Int):∀m∈(c.goes id).1,Qdn (c.goes id).2 m:=fun m hm=>by
 unfold Qa.goes at hm⊢;split at hm;cases hm;rename_i x hx;have hid:x.o.id=id:=(h.ok.get hx).1.id;unfold Qa.Qcs at hm⊢;split at hm;cases hm;rename_i hov;rw [if_neg hov];exact Ky (h.again x.o.id) hd (by rw [hid];exact hx) m hm
structure COp (c:Qa) (r:List Msg×Qa) (v:Int→Int→Prop):Prop where
 down:r.2.j.down=c.j.down
 keep:∀id x,Qc c.l id=some x→∃y,Qc r.2.l id=some y∧Xc x y
 yes:∀id y,Qc r.2.l id=some y→y.f.yes=true→∃x,Qc c.l id=some x∧(x.f.yes=true∨x.decided=false∧∀i,i=1∨i=2→x.said i=true∨v i id)
 said:∀id y i,Qc r.2.l id=some y→y.said i=true→∃x,Qc c.l id=some x∧(x.said i=true∨v i id)
 sure:Zk c.j→Zk r.2.j
 ms:∀m∈r.1,Qdn r.2 m
 hasB:∀id y,Qc r.2.l id=some y→(∃x,Qc c.l id=some x)∨v 0 id
 Xo:VP c→VP r.2
 gj:GJ c.j.es→GJ r.2.j.es
 room:r.2.room=c.room
theorem Rel.cop {c':Qa} {ms:List Msg} (h:Rel c c') (hm:∀m∈ms,Qdn c' m) (v:Int→Int→Prop):COp c (ms,c') v:=
 ⟨h.down,h.keep,fun id y hy h1=>by obtain ⟨x,hx,h2⟩:=h.yes id y hy h1;exact ⟨x,hx,.inl h2⟩,fun id y i hy h1=>by obtain ⟨x,hx,h2⟩:=h.said id y i hy h1;exact ⟨x,hx,.inl h2⟩,h.sure,hm,fun id y hy=>.inl (h.hasB id y hy),h.Xo,h.gj,h.room⟩
theorem COp.refl (c:Qa) (v:Int→Int→Prop):COp c ([],c) v:=(Rel.refl c).cop (by simp) v
theorem UG (h:CF c) (hd:c.j.down=false) {e:Entry} (hf:c.Fits e) (he:e.ok) {x:Led} (hx:Qc c.l e.id=some x) (hk:e.kd.fact=true) (hs:e.kd.soft=true) (ha:e.kd=.asked→x.f.asked=false) (hn:Qe9 x e) (v:Int→Int→Prop):COp c (c.QM e) v:=by
 have h1:=Qhd h hd hx hk hs ha hn;obtain ⟨h2,h3⟩:=h.notes hd (UQ hf he);unfold Qa.QM;split;exact (h1.trans (VA h2 h3 _)).cop (JH h2 h3 _) v;exact h1.cop (by simp) v
theorem KQ (h:CF c) (hd:c.j.down=false) {e:Entry} (hf:c.Fits e) (he:e.ok) {x:Led} (hx:Qc c.l e.id=some x) (hk:e.kd.fact=true) (hy:e.kd≠ .yes) (ha:e.kd≠ .asked) (hn:Qe9 x e) (v:Int→Int→Prop):COp c (c.QN e) v:=by
 have h1:=Qfr h hd hx hk hy (fun h=>absurd h ha) hn;obtain ⟨h2,h3⟩:=h.Qm hd (UQ hf he);unfold Qa.QN;split;exact (h1.trans (VA h2 h3 _)).cop (JH h2 h3 _) v;exact h1.cop (by simp) v
theorem Tv (c:Qa) (id:Int):((c.turns id).1,(c.turns id).2.2)=c.QN ⟨.turn,id,[]⟩:=by
 unfold Qa.turns Qa.QN;split<;>rfl
theorem FR (h:CF c) (hd:c.j.down=false) {id:Int} {x:Led} (hx:Qc c.l id=some x) (hdec:x.decided=false) (v:Int→Int→Prop):COp c ((c.turns id).1,(c.turns id).2.2) v:=by
 rw [Tv];have hg:=h.ok.get hx;exact KQ h hd (.turn id x hx hdec) (QB hg.2.1 hg.2.2 _) hx rfl (by simp) (by simp) (Fs id hdec) v
theorem Qte (h:CF c) (hd:c.j.down=false) {x:Led} {m:Msg} (hx:Qc c.l m.id=some x) (v:Int→Int→Prop):COp c (c.steps x m) v:=by
 have hg:=h.ok.get hx;have hlen:=hg.1.o.len;unfold Qa.steps;split;exact .refl c v;rename_i hsv;have hst:0≤m.step∧m.step<x.o.steps.length:=by
  unfold Led.service at hsv;simp at hsv;omega
 have hno:QU m.step:=QX hst.1 (by omega);split;rename_i hk;exact FR h hd hx (by simp at hk;exact hk.2) v;split;split;rename_i hk;simp at hk;obtain ⟨k,e⟩:=Int.eq_ofNat_of_zero_le hst.1;rw [e] at hk hno⊢;exact UG h hd (.done m.id k x hx hk.1.1 hk.1.2 hk.2) (QH hg.2.1 hg.2.2 _ hno) hx rfl rfl (by simp) (Qsl m.id hk.2 (by omega)) v;exact .refl c v;split;split;rename_i hk;simp at hk;obtain ⟨k,e⟩:=Int.eq_ofNat_of_zero_le hst.1;rw [e] at hk hno⊢;exact UG h hd (.undone m.id k x hx hk.1 hk.2) (QH hg.2.1 hg.2.2 _ hno) hx rfl rfl (by simp) (Qkq m.id hk.2 (by omega)) v;exact .refl c v;exact .refl c v
theorem Qvm (h:CF c) (hd:c.j.down=false) {x:Led} {m:Msg} (hx:Qc c.l m.id=some x) (hf:m.frm=1∨m.frm=2) (v:Int→Int→Prop):COp c (c.Vt x m) v:=by
 have hg:=h.ok.get hx;have hno:QU m.frm:=QX (by omega) (by omega);have h18:∀c':Qa,(∃y,Qc c'.l m.id=some y)→Qdn c' ⟨18,0,m.frm,m.id,0,0,0⟩:=fun c' ⟨y,hy⟩=>⟨rfl,by simp,by simp,y,hy,fun e=>by simp at e,fun e=>by simp at e⟩;unfold Qa.Vt;split;exact .refl c v;rename_i hdec;have hdec:x.decided=true:=by simpa using hdec
 split;split;exact .refl c v;rename_i hna;exact UG h hd (.ack m.id m.frm x hx hf hdec) (QH hg.2.1 hg.2.2 _ hno) hx rfl rfl (by simp) (Qwg m.id hf (by simpa using hna)) v;split;exact (Rel.refl c).cop (fun m' hm'=>by rw [List.mem_singleton] at hm';subst hm';exact h18 c ⟨x,hx⟩) v;rename_i hnd;have h2:=KQ h hd (.damage m.id m.frm x hx hf hdec) (QH hg.2.1 hg.2.2 .damage hno) hx rfl (by simp) (by simp) (Qk8 m.id hf (by simpa using hnd)) v;unfold Qa.QN at h2;split;rename_i e;rw [if_pos e] at h2;refine ⟨h2.down,h2.keep,h2.yes,h2.said,h2.sure,fun m' hm'=>?_,h2.hasB,h2.Xo,h2.gj,h2.room⟩;rcases List.mem_cons.1 hm' with rfl|hm';obtain ⟨y,hy, -⟩:=h2.keep _ x hx;exact h18 _ ⟨y,hy⟩;exact h2.ms m' hm';rename_i e;rw [if_neg e] at h2;exact h2
theorem Qqj (x:Led) (i:Int):Xc x (x.says i):=by
 have hf:(x.says i).f=x.f∧(x.says i).o=x.o:=by
  unfold Led.says;split<;>exact ⟨rfl,rfl⟩
 refine .of hf.2 ?_ ?_ ?_ ?_ ?_ ?_ ?_ ?_ ?_ ?_ ?_<;>(try rw [hf.1])<;>(try exact fun h=>h)<;>(try exact fun _ h=>h)
 intro j h;right;unfold Led.said at h⊢;unfold Led.says;cases ht:x.t with
 |none=>rw [ht] at h;cases h
 |some p=>
  obtain ⟨a,b⟩:=p;rw [ht] at h;simp only at h⊢;by_cases h1:i=0;rw [if_pos h1];simp only;split<;>simp_all
  rw [if_neg h1];simp only;split<;>simp_all
theorem Qse {x:Led} {i j:Int} (hi:i=1∨i=2) (hj:(x.says (i-1)).said j=true):x.said j=true∨(j=1↔i=1):=by
 unfold Led.said Led.says at hj;unfold Led.said;cases ht:x.t with
 |none=>rw [ht] at hj;simp only at hj;rw [ht] at hj;cases hj
 |some p=>
  obtain ⟨a,b⟩:=p;rw [ht] at hj;simp only at hj⊢;by_cases h1:j=1;rcases hi with rfl|rfl;exact .inr (by simp [h1]);simp [h1] at hj;simp [h1,hj];rcases hi with rfl|rfl;simp [h1] at hj;simp [h1,hj];exact .inr (by simp [h1])
theorem Qud (h:CF c) (hd:c.j.down=false) {x:Led} {m:Msg} (hx:Qc c.l m.id=some x) (hk:m.kind=7∨m.kind=8) (hf:m.frm=1∨m.frm=2):COp c (c.Yo x m) (fun i id=>m.kind=7∧id=m.id∧(i=1↔m.frm=1)):=by
 have hg:=h.ok.get hx;unfold Qa.Yo;split;exact .refl c _;rename_i a b ht;have hta:=hg.1.tally;rw [ht] at hta;simp at hta;split;exact KQ h hd (.turn m.id x hx hta.2) (QB hg.2.1 hg.2.2 _) hx rfl (by simp) (by simp) (Fs m.id hta.2) _;rename_i h8;have h7:m.kind=7:=by omega
 by_cases hc:(if m.frm=1 then b&& !a else a&& !b)=true
 ·rw [if_pos hc];have hall:∀i,i=1∨i=2→x.said i=true∨(m.kind=7∧m.id=m.id∧(i=1↔m.frm=1)):=fun i hi=>by
   by_cases hq:i=1↔m.frm=1;exact .inr ⟨h7,rfl,hq⟩
   ·left;unfold Led.said;rw [ht];simp only;by_cases h1:m.frm=1;simp [h1] at hc;have hi1:¬i=1:=fun e=>hq ⟨fun _=>h1,fun _=>e⟩;simp [hi1,hc.1]
    ·simp [h1] at hc;have hi1:i=1:=by
      rcases hi with e|e;exact e;exact absurd ⟨fun e'=>by omega,fun e'=>absurd e' h1⟩ hq
     simp [hi1,hc.1]
  have hfit:=Qa.Fits.yes m.id x hx hta.1 hta.2;have heo:Entry.ok ⟨.yes,m.id,[]⟩:=QB hg.2.1 hg.2.2 _;have hgj:=(QAh h hd hx hta.2);obtain ⟨h2,h3⟩:=h.Qm hd (UQ hfit heo);unfold Qa.QN;rw [Uv] at h2 h3⊢;by_cases hr:c.room<c.used+1;rw [if_pos hr,if_neg (by simp)];exact .refl c _
  ·rw [if_neg hr] at h2 h3⊢;rw [if_pos rfl];have hg1:=Xl (c:=c) (e:=⟨.yes,m.id,[]⟩) hx rfl;have hr2:=VA h2 h3 m.id;refine ⟨hr2.down.trans ?_,fun id y hy=>?_,fun id y hy h1=>?_,fun id y i hy h1=>?_,fun hs=>hr2.sure (UJ _),JH h2 h3 _,fun id y hy=>?_,fun hb=>hr2.Xo (hgj.1 hb),fun hb=>hr2.gj (hgj.2 hb),hr2.room.trans (UB c _)⟩
   show (c.Qq _).j.down=_
   rw [VO,Ug]
   ·have h3:∃z,Qc ((c.Qq ⟨.yes,m.id,[]⟩).sync).l id=some z∧Xc y z:=by
     show ∃z,Qc (c.Qq _).l id=some z∧_
     rw [hg1];split;rename_i e;have e:m.id=id:=e;subst e;rw [hx] at hy;obtain rfl:=Option.some.inj hy;exact ⟨_,rfl,TK hg.1 (by simp)⟩;exact ⟨y,hy,.refl y⟩
    obtain ⟨z,hz,hl⟩:=h3;obtain ⟨z2,hz2,hl2⟩:=hr2.keep id z hz;exact ⟨z2,hz2,hl.trans hl2⟩
   obtain ⟨z,hz,hz1⟩:=hr2.yes id y hy h1;have hz:Qc (c.Qq ⟨.yes,m.id,[]⟩).l id=some z:=hz;rw [hg1] at hz;split at hz;rename_i e;have e:m.id=id:=e;subst e;exact ⟨x,hx,.inr ⟨hta.2,hall⟩⟩;exact ⟨z,hz,.inl hz1⟩;obtain ⟨z,hz,hz1⟩:=hr2.said id y i hy h1;have hz:Qc (c.Qq ⟨.yes,m.id,[]⟩).l id=some z:=hz;rw [hg1] at hz;split at hz;obtain rfl:=Option.some.inj hz;cases hz1;exact ⟨z,hz,.inl hz1⟩;obtain ⟨z,hz⟩:=hr2.hasB id y hy;have hz:Qc (c.Qq ⟨.yes,m.id,[]⟩).l id=some z:=hz;rw [hg1] at hz;split at hz;rename_i e;have e:m.id=id:=e;subst e;exact .inl ⟨x,hx⟩;exact .inl ⟨z,hz⟩
 ·rw [if_neg hc];have hget:∀id,Qc (Qt c.l m.id (x.says (m.frm-1))) id=if m.id=id then some (x.says (m.frm-1)) else Qc c.l id:=fun id=>QS _ _ _ _
  have hsf:(x.says (m.frm-1)).f=x.f∧(x.says (m.frm-1)).o=x.o:=by
   unfold Led.says;split<;>exact ⟨rfl,rfl⟩
  refine ⟨rfl,fun id y hy=>?_,fun id y hy h1=>?_,fun id y i hy h1=>?_,fun hs=>hs,by simp,fun id y hy=>?_,fun hb id y hy hsh=>?_,fun hs=>hs,rfl⟩;simp only;rw [hget];split;rename_i e;subst e;rw [hx] at hy;obtain rfl:=Option.some.inj hy;exact ⟨_,rfl,Qqj x _⟩;exact ⟨y,hy,.refl y⟩;simp only at hy;rw [hget] at hy;split at hy;rename_i e;subst e;obtain rfl:=Option.some.inj hy;refine ⟨x,hx,.inl ?_⟩;rw [←h1];unfold Led.says;rw [ht];exact ⟨y,hy,.inl h1⟩;simp only at hy;rw [hget] at hy;split at hy;rename_i e;subst e;obtain rfl:=Option.some.inj hy;refine ⟨x,hx,?_⟩;rcases Qse hf h1 with h3|h3;exact .inl h3;exact .inr ⟨h7,rfl,h3⟩;exact ⟨y,hy,.inl h1⟩;simp only at hy;rw [hget] at hy;split at hy;rename_i e;subst e;exact .inl ⟨x,hx⟩;exact .inl ⟨y,hy⟩;simp only at hy;rw [hget] at hy;split at hy;rename_i e;subst e;obtain rfl:=Option.some.inj hy;refine hb _ x hx ?_;cases e':x.shut;rfl;rw [(Qqj x (m.frm-1)).shut e'] at hsh;cases hsh;exact hb _ y hy hsh
theorem Zp (h:CF c) {m:Msg} (hm:m.kind=12∨m.kind=7∨m.kind=8∨m.kind=11∨m.kind=17→m.frm=1∨m.frm=2) (hh:m.kind=12→c.j.down=false→(Qc c.l m.id).isSome=true):COp c (c.handle m) (fun i id=>m.kind=7∧id=m.id∧(i=1↔m.frm=1)):=by
 unfold Qa.handle;split;exact .refl c _;rename_i hd;have hd:c.j.down=false:=by simpa using hd
 split;rename_i h12;refine (Rel.refl c).cop (fun m' hm'=>?_) _;unfold Qa.tells at hm';have hs:=hh h12 hd;split at hm';rename_i hn;rw [hn] at hs;cases hs;rename_i x hx;split at hm';rename_i h1;rw [List.mem_singleton] at hm';subst hm';exact ⟨rfl,by simp,by simp,x,hx,fun _=>h1,fun e=>by simp at e⟩;split at hm';rename_i h1;rw [List.mem_singleton] at hm';subst hm';exact ⟨rfl,by simp,by simp,x,hx,fun e=>by simp at e,fun _=>h1⟩;cases hm';split;exact .refl c _;rename_i x hx;have hg:=h.ok.get hx;split;exact Qte h hd hx _;split;exact Qud h hd hx ‹_› (hm (by omega));split;exact Qvm h hd hx (hm (by omega)) _;split;split;rename_i hc;simp at hc;exact UG h hd (.shipped m.id x hx hc.1.2) (QB hg.2.1 hg.2.2 _) hx rfl rfl (by simp) ⟨10,by omega,by omega,hc.2,rfl⟩ _;exact .refl c _;exact .refl c _
theorem Fz {ms:List Msg} {c2:Qa} {v:Int→Int→Prop} {t:Qy} (ht:∀id,c.Qf.has id=true→t.has id=true) (h:COp ({c with Qf:=t}:Qa) (ms,c2) v):COp c (ms,c2) v:=⟨h.down,h.keep,h.yes,h.said,h.sure,h.ms,h.hasB,fun hb=>h.Xo (Dx ht hb),h.gj,h.room⟩
theorem Zf (h:CF c) (id:Int) (v:Int→Int→Prop):COp c (c.ring id) v:=by
 unfold Qa.ring;split;exact .refl c v;rename_i hd;have hd:c.j.down=false:=by simpa using hd
 have hrh:∀k,c.Qf.has k=true→((c.Qf.ring id).2.2).has k=true:=fun k hk=>by rw [Qg1];exact hk
 have hr:Rel c {c with Qf:=(c.Qf.ring id).2.2}:=.same rfl rfl rfl (Dx hrh);split;exact hr.cop (by simp) v;rename_i x hx;have hid:x.o.id=id:=(h.ok.get hx).1.id;split;exact hr.cop (by simp) v;have hb:=h.Qa8 id;split;split;rename_i hdec;exact Fz hrh (FR hb hd hx hdec v);have hb2:=hb.again id;have h1:=Jt (c:=({c with Qf:=(c.Qf.ring id).2.2}:Qa).again id) hb2 hd (by rw [hid];exact hx);exact Fz (t:=((c.Qf.ring id).2.2).again id) (fun k hk=>by rw [Jo];exact hrh k hk) (h1.cop (Ky hb2 hd (by rw [hid];exact hx)) v);have h1:=Jt (c:= {c with Qf:=(c.Qf.ring id).2.2}) hb hd (by rw [hid];exact hx);exact Fz (t:=(c.Qf.ring id).2.2) hrh (h1.cop (Ky hb hd (by rw [hid];exact hx)) v)
theorem KP (h:CF c) (id:Int) (v:Int→Int→Prop):COp c ((c.cancel id).1,(c.cancel id).2.2) v:=by
 unfold Qa.cancel;split;exact .refl c v;rename_i hd;split;exact .refl c v;rename_i x hx;split;exact .refl c v;rename_i hdec;exact FR h (by simpa using hd) hx (by simpa using hdec) v
theorem Qpe {es:List Entry}:∀{c:Qa} {id:Int},(∀e∈es,e.id≠id)→Qc (es.foldl Qa.Qq c).l id=Qc c.l id:=by
 induction es with
 |nil=>intro c id _;rfl
 |cons e r ih=>
  intro c id h
  show Qc (r.foldl Qa.Qq (c.Qq e)).l id=_
  rw [ih (fun e' he'=>h e' (by simp [he']))];exact ZH (c:=({c with j:=(c.j.add e).2}:Qa)) (Ne.symm (h e (by simp)))
theorem Qei (o:Od) (l:List Sp):(Led.fresh o l).wt=1+l.length:=by
 have hf:∀k,(Led.fresh o l).fl k=false:=fun k=>by
  have hr:∀i,(List.replicate l.length false).getD i false=false:=fun i=>by
   rw [List.getD_eq_getElem?_getD,List.getElem?_replicate];split<;>rfl
  match k with
  |0=>exact hr 0
  |1=>exact hr 1
  |2=>exact hr 2
  |3=>exact hr 0
  |4=>exact hr 1
  |5=>exact hr 2
  |6=>rfl
  |7=>rfl
  |8=>rfl
  |9=>rfl
  |10=>rfl
  |11=>rfl
  |12=>rfl
  |13=>rfl
  |14=>rfl
  |15=>rfl
  |k+16=>rfl
 have hc:(List.range 16).countP (Led.fresh o l).known=0:=by
  rw [List.countP_eq_zero];intro k _;unfold Led.known;rw [hf k];simp
 unfold Led.wt;rw [hc];rfl
theorem Qtj {a b:IM Led} (h:Alike a b) {id:Int} {x:Led} (hx:Qc b id=some x):∃z,Qc a id=some z∧z.base=x.base:=by
 obtain ⟨z,hz,h1,h2,h3⟩:=h.symm.some hx;exact ⟨z,hz,by simp [Led.base,h1,h2,h3]⟩
theorem Qlm {o:Od} (ho:o.ok):∀(r l:List Sp) (P:Int→Prop) (c:Qa),CFb P c→c.j.down=false→l++r=o.steps→Qc c.l o.id=some (Led.fresh o l)→c.Run (YM o.id l.length r)→c.used+r.length≤c.room→GJ c.j.es→GJ ((YM o.id l.length r).foldl Qa.Qq c).j.es
 | [],_,_,_,_,_,_,_,_,_,hg=>hg
 |s::r,l,P,c,h,hd,hl,hx,hrun,hroom,hg=>by
  simp only [List.length_cons] at hroom;obtain ⟨h1,h2,h3,h4⟩:=h.Qq hd hrun.1 (by omega);have hx1:Qc (c.Qq ⟨.step,o.id,[(l.length:Int),s.svc,s.n]⟩).l o.id=some (Led.fresh o (l++ [s])):=by
   show Qc (({c with j:=_}:Qa).Qg _).l o.id=_
   unfold Qa.Qg;simp only [hx];rw [show s=(⟨s.svc,s.n⟩:Sp) from rfl,←UD];exact QJ _ _ _
  have hg1:GJ (c.Qq ⟨.step,o.id,[(l.length:Int),s.svc,s.n]⟩).j.es:=by
   rw [VO];unfold Jrn.add;split;exact hg
   ·refine hg.snoc ?_;obtain ⟨z,hz,hb⟩:=Qtj (h.up hd).1 hx;have hp:Qc ((Qa.nil.Qi c.j.es).Qg ⟨.step,o.id,[(l.length:Int),s.svc,s.n]⟩).l o.id=some (z.more s.svc s.n):=by
     unfold Qa.Qg;simp only [hz];exact QJ _ _ _
    show owt (Qc (Qa.nil.Qi c.j.es).l o.id)+1≤owt (Qc ((Qa.nil.Qi c.j.es).Qg _).l o.id)
    rw [hz,hp]
    show z.wt+1≤(z.more s.svc s.n).wt
    rw [JM hb,JM (Qhh hb s.svc s.n),UD,Qei,Qei];simp;omega
  have:=Qlm ho r (l++ [s]) _ (c.Qq ⟨.step,o.id,[(l.length:Int),s.svc,s.n]⟩) h1 h2 (by simp [hl]) hx1 (by simpa using hrun.2.2) (by rw [h3,h4];omega) hg1;simpa [YM] using this
theorem Qgv (t:Qy) {id:Int} (h0:1≤id) (h1:id≤999):(t.hang id).has id=true:=by
 unfold Qy.hang;split;unfold Qy.has
 show (Qc (Qt t.left id t.tries) id).isSome=true
 rw [QJ];rfl;rename_i h;cases e:t.has id;exact absurd ⟨h0,h1,e⟩ h;rfl
theorem Qaf (t:Qy) (id:Int) {k:Int} (h:t.has k=true):(t.hang id).has k=true:=by
 unfold Qy.hang;split;unfold Qy.has at h⊢
 show (Qc (Qt t.left id t.tries) k).isSome=true
 rw [QS];split;rfl;exact h;exact h
theorem JF (h:CF c) {o:Od} (ho:o.ok):COp c ((c.begin o).1,(c.begin o).2.2) (fun i id=>i=0∧id=o.id):=by
 unfold Qa.begin;split;exact .refl c _;rename_i hd;have hd:c.j.down=false:=by simpa using hd
 split;exact .refl c _;rename_i hn;have hn:Qc c.l o.id=none:=by simpa using hn
 split;exact .refl c _;obtain ⟨hr,hfr⟩:=Uk ho hn;obtain ⟨h1,h2⟩:=h.Qm hd hr;unfold Qa.Qm at h1 h2⊢;rw [YH] at h1 h2⊢;by_cases hroom:c.room<c.used+((QD o).length:Int);rw [if_pos hroom];simp only [Bool.false_eq_true,if_false];exact .refl c _
 ·rw [if_neg hroom] at h1 h2⊢;simp only [if_true] at h1 h2⊢;have hgj:GJ c.j.es→GJ ((QD o).foldl Qa.Qq c).j.es:=fun hg=>by
   have hbl:((QD o).length:Int)=1+o.steps.length:=by unfold QD;rw [List.length_cons,UR];omega
   obtain ⟨n1,n2,n3,n4⟩:=h.Qq hd hr.1 (by omega);refine Qlm ho o.steps [] _ (c.Qq ⟨.begin,o.id,[o.item,o.qty,o.client,o.price]⟩) n1 n2 rfl (QJ _ _ _) hr.2.2 (by rw [n3,n4];omega) ?_;rw [VO];unfold Jrn.add;split;exact hg;refine hg.snoc ?_;have hz:Qc (Qa.nil.Qi c.j.es).l o.id=.none:=(h.up hd).1.symm.none hn;have hp:Qc ((Qa.nil.Qi c.j.es).Qg ⟨.begin,o.id,[o.item,o.qty,o.client,o.price]⟩).l o.id=some (Led.fresh o []):=QJ _ _ _
   show owt (Qc (Qa.nil.Qi c.j.es).l o.id)+1≤owt (Qc ((Qa.nil.Qi c.j.es).Qg _).l o.id)
   rw [hz,hp]
   show 0+1≤(Led.fresh o []).wt
   rw [Qei];simp
  have hoth:∀id,id≠o.id→Qc ((QD o).foldl Qa.Qq c).l id=Qc c.l id:=fun id hne=>Qpe (fun e he=>by rw [JA he];exact Ne.symm hne);have hbl:((QD o).foldl Qa.Qq c).Qf=c.Qf:=by
   have key:∀(es:List Entry) (c:Qa),(es.foldl Qa.Qq c).Qf=c.Qf:=by
    intro es
    induction es with
    |nil=>intro c;rfl
    |cons e r ih=>intro c;exact (ih (c.Qq e)).trans (Ym ({c with j:=(c.j.add e).2}:Qa) e).2.2.2.2
   exact key _ c
  have h3:CFb (fun k=>k≠o.id) ((QD o).foldl Qa.Qq c).sync:=h1.mono (fun k hk=>⟨trivial,fun _ e he=>by rw [JA he];exact hk⟩);have h4:CFb (fun k=>k≠o.id) (((QD o).foldl Qa.Qq c).sync.hang o.id):=
   h3.Qf (YZ h3.ok.Qf o.id) (fun k x hk hx hb=>by
    rcases TP hb with hb|rfl;exact h3.Xo k x hk hx hb;exact absurd rfl hk)
  have hg2:=VA h4 h2 o.id;have hback:∀id z,Qc (((QD o).foldl Qa.Qq c).sync.hang o.id).l id=some z→id=o.id∧z=Led.fresh o o.steps∨id≠o.id∧Qc c.l id=some z:=fun id z hz=>by
   replace hz:Qc ((QD o).foldl Qa.Qq c).l id=some z:=hz;by_cases hne:id=o.id;rw [hne,hfr] at hz;exact .inl ⟨hne,(Option.some.inj hz).symm⟩;rw [hoth id hne] at hz;exact .inr ⟨hne,hz⟩
  refine ⟨hg2.down.trans (ZZ _ c).2.2,fun id x hx=>?_,fun id y hy h5=>?_,fun id y i hy h5=>?_,fun _=>hg2.sure (UJ _),JH h4 h2 o.id,fun id y hy=>?_,fun hb=>hg2.Xo (fun id z hz hsh=>?_),fun hg=>hg2.gj (hgj hg),hg2.room.trans (ZZ _ c).2.1⟩;have hne:id≠o.id:=fun e=>by rw [e,hn] at hx;cases hx
  exact hg2.keep id x (by show Qc ((QD o).foldl Qa.Qq c).l id=_;rw [hoth id hne];exact hx);obtain ⟨z,hz,h6⟩:=hg2.yes id y hy h5;rcases hback id z hz with ⟨-,rfl⟩|⟨-,hz⟩;cases h6;exact ⟨z,hz,.inl h6⟩;obtain ⟨z,hz,h6⟩:=hg2.said id y i hy h5;rcases hback id z hz with ⟨-,rfl⟩|⟨-,hz⟩;cases h6;exact ⟨z,hz,.inl h6⟩;obtain ⟨z,hz⟩:=hg2.hasB id y hy;rcases hback id z hz with ⟨e, -⟩|⟨-,hz⟩;exact .inr ⟨rfl,e⟩;exact .inl ⟨z,hz⟩
  show (((QD o).foldl Qa.Qq c).Qf.hang o.id).has id=true
  rw [hbl];rcases hback id z hz with ⟨e, -⟩|⟨-,hz⟩;rw [e];exact Qgv _ ho.id0 ho.id1;exact Qaf _ _ (hb id z hz hsh)
end
structure View where
 has:Int→Prop
 yes:Int→Prop
 turn:Int→Prop
 said:Int→Int→Prop
def Qa.V (c:Qa):IM Led:=(Qa.nil.Qi c.j.es).l
def Qa.view (c:Qa):View:=⟨fun id=>∃x,Qc c.V id=some x,fun id=>∃x,Qc c.V id=some x∧x.f.yes=true,fun id=>∃x,Qc c.V id=some x∧x.f.turned=true,fun i id=>c.j.down=false∧∃x,Qc c.l id=some x∧x.said i=true⟩
structure VOp (C C':View) (v:Int→Int→Prop):Prop where
 has:∀id,C.has id→C'.has id
 yes:∀id,C.yes id→C'.yes id
 turn:∀id,C.turn id→C'.turn id
 yesB:∀id,C'.yes id→C.yes id∨¬C.turn id∧∀i,i=1∨i=2→C.said i id∨v i id
 saidB:∀id i,C'.said i id→C.said i id∨v i id
 hasB:∀id,C'.has id→C.has id∨v 0 id
theorem VOp.refl (C:View) (v:Int→Int→Prop):VOp C C v:=⟨fun _ h=>h,fun _ h=>h,fun _ h=>h,fun _ h=>.inl h,fun _ _ h=>.inl h,fun _ h=>.inl h⟩
theorem VOp.QEj {C C' C'':View} (h:VOp C C' (fun _ _=>False)) (h':VOp C' C'' (fun _ _=>False)):VOp C C'' (fun _ _=>False):=by
 refine ⟨fun id k=>h'.has id (h.has id k),fun id k=>h'.yes id (h.yes id k),fun id k=>h'.turn id (h.turn id k),fun id k=>?_,fun id i k=>?_,fun id k=>?_⟩;rcases h'.yesB id k with k|⟨k1,k2⟩;exact h.yesB id k;refine .inr ⟨fun e=>k1 (h.turn id e),fun i hi=>?_⟩;rcases k2 i hi with k2|k2;exact h.saidB id i k2;exact k2.elim;rcases h'.saidB id i k with k|k;exact h.saidB id i k;exact k.elim;rcases h'.hasB id k with k|k;exact h.hasB id k;exact k.elim
theorem XD {c:Qa} (h:CF c) (hd:c.j.down=false) (id:Int) {x:Led}:(Qc c.l id=some x→∃y,Qc c.V id=some y∧y.f=x.f∧y.o=x.o)∧(Qc c.V id=some x→∃y,Qc c.l id=some y∧y.f=x.f∧y.o=x.o):=by
 have ha:=(h.up hd).1;refine ⟨fun hx=>?_,fun hx=>?_⟩;obtain ⟨y,hy,h1,h2, -⟩:=ha.symm.some hx;exact ⟨y,hy,h2,h1⟩;obtain ⟨y,hy,h1,h2, -⟩:=ha.some hx;exact ⟨y,hy,h2,h1⟩
theorem V_ok {c:Qa} (h:CF c) {id:Int} {x:Led} (hx:Qc c.V id=some x):∃y:Led,y.ok id∧y.f=x.f∧y.o=x.o:=by
 have h0:(({c with j:=c.j.recover}:Qa).forget).ok:=⟨Ql.nil,by simp [Qa.forget],Ql.nil,h.ok.t0,h.ok.t1,h.ok.r1,by simp [Qa.forget],by simp [Qa.forget]⟩;have hl:=h.len;have hr:=h.room;have hr1:=h.ok.r1;obtain ⟨r1, -⟩:=Jb c.j.es h0 (fun id x hx=>by cases hx) h.Qp7 (by show (0:Int)+_≤_;omega);have ha:Alike c.V ((({c with j:=c.j.recover}:Qa).forget).Qi c.j.es).l:=ZR c.j.es (c:=Qa.nil) (Alike.refl _);obtain ⟨y,hy,h1,h2, -⟩:=ha.some hx;exact ⟨y,(r1.get hy).1,h2,h1⟩
theorem Dc {k:Int} {x:Led} (hx:x.ok k):¬(x.f.yes=true∧x.f.turned=true):=by
 obtain ⟨-, -,h⟩:=mpt hx.may;intro ⟨h1,h2⟩;rw [h1,h2] at h;simp [KG] at h
theorem Qd7 {c:Qa} (h:CF c) (id:Int):¬(c.view.yes id∧c.view.turn id):=by
 rintro ⟨⟨x,hx,h1⟩,⟨y,hy,h2⟩⟩;rw [hx] at hy;obtain rfl:=Option.some.inj hy;obtain ⟨z,hz,h3, -⟩:=V_ok h hx;exact Dc hz (by rw [h3];exact ⟨h1,h2⟩)
theorem COp.view {c:Qa} {r:List Msg×Qa} {v:Int→Int→Prop} (h:COp c r v) (hc:CF c) (hc':CF r.2) (hd:c.j.down=false):VOp c.view r.2.view v:=by
 have hd':r.2.j.down=false:=h.down.trans hd;have fwd:∀(p:Facts→Bool) (id:Int),(∀x y,Xc x y→p x.f=true→p y.f=true)→(∃x,Qc c.V id=some x∧p x.f=true)→∃x,Qc r.2.V id=some x∧p x.f=true:=fun p id hp ⟨x,hx,h1⟩=>by
  obtain ⟨y,hy,h2, -⟩:=(XD hc hd id).2 hx;obtain ⟨z,hz,h3⟩:=h.keep id y hy;obtain ⟨u,hu,h4, -⟩:=(XD hc' hd' id).1 hz;exact ⟨u,hu,by rw [h4];exact hp y z h3 (by rw [h2];exact h1)⟩
 refine ⟨fun id ⟨x,hx⟩=>?_,fun id=>fwd (·.yes) id (fun x y hl=>hl.fl 6),fun id=>fwd (·.turned) id (fun x y hl=>hl.fl 7),fun id ⟨x,hx,h1⟩=>?_,fun id i ⟨_,x,hx,h1⟩=>?_,fun id ⟨x,hx⟩=>?_⟩;obtain ⟨u,hu, -⟩:=fwd (fun _=>true) id (fun _ _ _ _=>rfl) ⟨x,hx,rfl⟩;exact ⟨u,hu⟩;obtain ⟨y,hy,h2, -⟩:=(XD hc' hd' id).2 hx;obtain ⟨z,hz,h3⟩:=h.yes id y hy (by rw [h2];exact h1);obtain ⟨u,hu,h4, -⟩:=(XD hc hd id).1 hz;rcases h3 with h3|⟨h3,h5⟩;exact .inl ⟨u,hu,by rw [h4];exact h3⟩;refine .inr ⟨fun ⟨w,hw,h6⟩=>?_,fun i hi=>(h5 i hi).imp (fun k=>⟨hd,z,hz,k⟩) (fun k=>k)⟩;have hw:Qc c.V id=some w:=hw;rw [hu] at hw;obtain rfl:=Option.some.inj hw;rw [h4] at h6;unfold Led.decided at h3;rw [h6] at h3;simp at h3;obtain ⟨z,hz,h3⟩:=h.said id x i hx h1;exact h3.imp (fun k=>⟨hd,z,hz,k⟩) (fun k=>k);obtain ⟨y,hy, -⟩:=(XD hc' hd' id).2 hx;refine (h.hasB id y hy).imp (fun ⟨z,hz⟩=>?_) (fun k=>k);obtain ⟨u,hu, -⟩:=(XD hc hd id).1 hz;exact ⟨u,hu⟩
theorem Qs6 {c:Qa} {e:Entry} (he:e.kd.soft=true) (id:Int):(Qc (c.Qg e).l id).map (fun x=>(x.f.yes,x.f.turned))=(Qc c.l id).map (fun x=>(x.f.yes,x.f.turned)):=by
 unfold Qa.Qg;split;rename_i h _;rw [h] at he;cases he;rename_i h _;rw [h] at he;cases he;split;rfl;rename_i x hx
 show (Qc (Qt c.l e.id _) id).map _=_
 rw [QS];split;rename_i h;subst h;rw [hx];simp only [Option.map_some,Option.some.injEq];revert he;generalize e.kd=kd;cases kd<;>simp [Kd.soft,Led.facts]<;>split<;>exact ⟨rfl,rfl⟩
 rfl
theorem Qdm:∀(es:List Entry) (c:Qa),(∀e∈es,e.kd.soft=true)→∀id,(Qc (c.Qi es).l id).map (fun x=>(x.f.yes,x.f.turned))=(Qc c.l id).map (fun x=>(x.f.yes,x.f.turned))
 | [],_,_,_=>rfl
 |e::r,c,h,id=>(Qdm r (c.Qg e) (fun e' he'=>h e' (by simp [he'])) id).trans (Qs6 (h e (by simp)) id)
theorem Qyu {j:Jrn} (h:Zk j) (stay:Int):∃r,(j.Qj stay).es++r=j.es∧∀e∈r,e.kd.soft=true:=by
 refine ⟨j.es.drop (j.keep stay).toNat,List.take_append_drop _ _,fun e he=>h.2 e ?_⟩;have hk:j.sure≤(j.keep stay).toNat:=by unfold Jrn.keep;omega
 rw [show (j.keep stay).toNat=j.sure+((j.keep stay).toNat-j.sure) by omega,←List.drop_drop] at he;exact List.mem_of_mem_drop he
theorem Qk4 {j:Jrn} (h:Zk j) (stay:Int):Zk (j.Qj stay):=by
 refine ⟨?_,fun e he=>?_⟩
 show j.sure≤(j.es.take _).length
 have:=h.1;rw [List.length_take];unfold Jrn.keep;omega;have he:e∈(j.es.take (j.keep stay).toNat).drop j.sure:=he;rw [List.drop_take] at he;exact h.2 e (List.mem_of_mem_take he)
theorem Qgn {c c':Qa} (hh:∀id,(Qc c'.V id).map (fun x=>(x.f.yes,x.f.turned))=(Qc c.V id).map (fun x=>(x.f.yes,x.f.turned))) (hs:∀i id,c'.view.said i id→c.view.said i id):VOp c.view c'.view (fun _ _=>False):=by
 have key:∀(a b:Qa),(∀id,(Qc b.V id).map (fun x=>(x.f.yes,x.f.turned))=(Qc a.V id).map (fun x=>(x.f.yes,x.f.turned)))→∀id x,Qc a.V id=some x→∃y,Qc b.V id=some y∧y.f.yes=x.f.yes∧y.f.turned=x.f.turned:=by
  intro a b h id x hx;have:=h id;rw [hx] at this;cases hy:Qc b.V id with
  |none=>rw [hy] at this;cases this
  |some y=>
   rw [hy] at this;simp only [Option.map_some,Option.some.injEq,Prod.mk.injEq] at this;exact ⟨y,rfl,this.1,this.2⟩
 refine ⟨fun id ⟨x,hx⟩=>?_,fun id ⟨x,hx,h1⟩=>?_,fun id ⟨x,hx,h1⟩=>?_,fun id ⟨x,hx,h1⟩=>.inl ?_,fun id i h=>.inl (hs i id h),fun id ⟨x,hx⟩=>.inl ?_⟩;obtain ⟨y,hy, -⟩:=key c c' hh id x hx;exact ⟨y,hy⟩;obtain ⟨y,hy,h2, -⟩:=key c c' hh id x hx;exact ⟨y,hy,by rw [h2];exact h1⟩;obtain ⟨y,hy, -,h2⟩:=key c c' hh id x hx;exact ⟨y,hy,by rw [h2];exact h1⟩;obtain ⟨y,hy,h2, -⟩:=key c' c (fun id=>(hh id).symm) id x hx;exact ⟨y,hy,by rw [h2];exact h1⟩;obtain ⟨y,hy, -⟩:=key c' c (fun id=>(hh id).symm) id x hx;exact ⟨y,hy⟩
theorem Qcw {c:Qa} (h:Zk c.j) (hg:GJ c.j.es) (stay:Int):VOp c.view (c.Qj stay).view (fun _ _=>False)∧Zk (c.Qj stay).j∧GJ (c.Qj stay).j.es:=by
 unfold Qa.Qj;split;exact ⟨.refl _ _,h,hg⟩;obtain ⟨r,hr,hs⟩:=Qyu h stay;refine ⟨Qgn (fun id=>?_) (fun i id ⟨hd,_⟩=>by cases hd),Qk4 h stay,hg.cut _⟩
 show (Qc (Qa.nil.Qi (c.j.Qj stay).es).l id).map _=(Qc (Qa.nil.Qi c.j.es).l id).map _
 rw [←hr];unfold Qa.Qi;rw [List.foldl_append];exact (Qdm r (Qa.nil.Qi (c.j.Qj stay).es) hs id).symm
theorem Qvy {c:Qa} (h:CF c) (hd:c.j.down=false) (id:Int):Rel c (c.wake id):=by
 unfold Qa.wake;split;exact .refl c;rename_i x hx;have hr1:Rel c (if x.over=true then c else c.hang id):=by split;exact .refl c;exact .same rfl rfl rfl (Dx (fun k hk=>Qaf _ _ hk))
 have hok:CFb (fun k=>k≠id) (if x.over=true then c else c.hang id):=by
  split;exact h.mono (fun _ _=>trivial)
  ·exact h.Qf (YZ h.ok.Qf id) (fun k y hk hy hb=>by
    rcases TP hb with hb|rfl;exact h.Xo k y trivial hy hb;exact absurd rfl hk)
 have hl1:Qc (if x.over=true then c else c.hang id).l id=some x:=by split<;>exact hx
 have hd1:(if x.over=true then c else c.hang id).j.down=false:=by split<;>exact hd
 generalize (if x.over=true then c else c.hang id)=c1 at *;simp only;split;rename_i hc;simp at hc;exact hr1.trans (Qfr hok hd1 (e:=⟨.turn,id,[]⟩) hl1 rfl (by simp) (by simp) (Fs id hc.2));exact hr1
theorem Qi5 (c:Qa) (e:Entry):(c.Qm [e]).2.Qf=c.Qf:=by
 rw [Uv];split;rfl;exact (Ym ({c with j:=(c.j.add e).2}:Qa) e).2.2.2.2
theorem Qd4 (c:Qa) (id:Int):(∀k,c.Qf.has k=true→(c.wake id).Qf.has k=true)∧(1≤id→id≤999→∀x,Qc c.l id=some x→x.over=false→(c.wake id).Qf.has id=true):=by
 unfold Qa.wake;split;rename_i hn;exact ⟨fun _ h=>h,fun _ _ x hx=>by rw [hn] at hx;cases hx⟩;rename_i x hx;have key:∀c1:Qa,(if (x.f.asked&& !x.decided)=true then (c1.Qm [⟨.turn,id,[]⟩]).2 else c1).Qf=c1.Qf:=fun c1=>by
  split;exact Qi5 _ _;rfl
 simp only;rw [key];refine ⟨fun k hk=>?_,fun h0 h1 y hy ho=>?_⟩;split;exact hk;exact Qaf _ _ hk;rw [hx] at hy;obtain rfl:=Option.some.inj hy;rw [if_neg (by simp [ho])];exact Qgv _ h0 h1
theorem Qa5:∀(is:List Int) (c:Qa) (k:Int),c.Qf.has k=true→(is.foldl Qa.wake c).Qf.has k=true
 | [],_,_,h=>h
 |i::r,c,k,h=>Qa5 r (c.wake i) k ((Qd4 c i).1 k h)
theorem Fw:∀(is:List Int) {c:Qa},CF c→c.j.down=false→Rel c (is.foldl Qa.wake c)
 | [],c,_,_=>.refl c
 |i::r,c,h,hd=>(Qvy h hd i).trans (Fw r (h.Qhc hd i).1 (h.Qhc hd i).2)
theorem Qb7:∀(is:List Int) {c:Qa},CF c→c.j.down=false→∀id∈is,∀y,Qc (is.foldl Qa.wake c).l id=some y→y.shut=false→(is.foldl Qa.wake c).Qf.has id=true
 | [],_,_,_,id,h,_,_,_=>by cases h
 |i::r,c,hc,hd,id,hi,y,hy,hs=>by
  by_cases hir:id∈r;exact Qb7 r (hc.Qhc hd i).1 (hc.Qhc hd i).2 id hir y hy hs;have e:id=i:=(List.mem_cons.1 hi).resolve_right hir;subst e;have hrel:=Fw (id::r) hc hd;obtain ⟨x,hx⟩:=hrel.hasB id y hy;obtain ⟨y',hy',hl⟩:=hrel.keep id x hx;rw [hy] at hy';obtain rfl:=Option.some.inj hy';have hg:=hc.ok.get hx;refine Qa5 r (c.wake id) id ((Qd4 c id).2 hg.2.1 hg.2.2 x hx ?_);cases e:x.over;rfl;rw [hl.shut (Fj hg.1 e)] at hs;cases hs
theorem Qom (x:Led) (kd:Kd) (n i:Int) (h:x.said i=false):(x.facts kd n).said i=false:=by
 cases kd<;>simp only [Led.facts]<;>(try split)<;>simp_all [Led.said]
theorem Qmt {c:Qa} {e:Entry} {id i:Int} (h:∀x,Qc c.l id=some x→x.said i=false):∀x,Qc (c.Qg e).l id=some x→x.said i=false:=by
 intro x;unfold Qa.Qg;split
 show Qc (Qt c.l e.id _) id=some x→_
 rw [QS];split;intro hx;obtain rfl:=Option.some.inj hx;rfl;exact h x;split;exact h x;rename_i y hy
 show Qc (Qt c.l e.id _) id=some x→_
 rw [QS];split;rename_i e';subst e';intro hx;obtain rfl:=Option.some.inj hx;exact h y hy;exact h x;split;exact h x;rename_i y hy
 show Qc (Qt c.l e.id _) id=some x→_
 rw [QS];split;rename_i e';subst e';intro hx;obtain rfl:=Option.some.inj hx;exact Qom _ _ _ _ (h y hy);exact h x
theorem Qay:∀(es:List Entry) {c:Qa} {id i:Int},(∀x,Qc c.l id=some x→x.said i=false)→∀x,Qc (c.Qi es).l id=some x→x.said i=false
 | [],_,_,_,h=>h
 |e::r,_,_,_,h=>Qay r (Qmt h)
theorem Qck {c:Qa} (h:CF c) (hs:Zk c.j) (hb:c.j.down=false→VP c) (hgj:GJ c.j.es):VOp c.view c.start.view (fun _ _=>False)∧Zk c.start.j∧VP c.start∧GJ c.start.j.es:=by
 have hc':=h.Qoa;revert hc';unfold Qa.start;split
 ·rename_i hdn;have h0:(({c with j:=c.j.recover}:Qa).forget).ok:=⟨Ql.nil,by simp [Qa.forget],Ql.nil,h.ok.t0,h.ok.t1,h.ok.r1,by simp [Qa.forget],by simp [Qa.forget]⟩;have hl:=h.len;have hr:=h.room;have hr1:=h.ok.r1;obtain ⟨r1,r2,r3,r4⟩:=Jb c.j.es h0 (fun id x hx=>by cases hx) h.Qp7 (by show (0:Int)+_≤_;omega);obtain ⟨u1,u2⟩:=Yy c.j.es (({c with j:=c.j.recover}:Qa).forget);have hc1:CF ((({c with j:=c.j.recover}:Qa).forget).Qi c.j.es):=by
   refine ⟨r1,?_,?_,?_,fun _=>⟨?_,?_⟩,fun id x _ hx hb=>?_,r2⟩;rw [u2,r4];exact h.room;rw [u2];exact h.len;rw [u2];exact h.hist;rw [u2];exact ZR c.j.es (Alike.refl _);rw [u1,u2];show (0:Int)+_=_;exact Int.zero_add _;rw [r3] at hb;cases hb
  have hsd:∀id i x,Qc ((({c with j:=c.j.recover}:Qa).forget).Qi c.j.es).l id=some x→x.said i=false:=fun id i=>Qay c.j.es (fun x hx=>by cases hx);intro hc';generalize hg:(({c with j:=c.j.recover}:Qa).forget).Qi c.j.es=c1 at *;have hd1:c1.j.down=false:=by rw [u2];rfl
  have hrel:=Fw c1.ids hc1 hd1;have hv1:VOp c.view c1.view (fun _ _=>False):=Qgn (fun id=>by
   show (Qc (Qa.nil.Qi c1.j.es).l id).map _=(Qc (Qa.nil.Qi c.j.es).l id).map _
   rw [u2];rfl) (fun i id ⟨_,x,hx,h1⟩=>by rw [hsd id i x hx] at h1;cases h1)
  have hv2:=(hrel.cop (ms:= []) (by simp) (fun _ _=>False)).view hc1 hc' hd1;refine ⟨hv1.QEj hv2,hrel.sure ?_,fun id y hy hsh=>?_,hrel.gj ?_⟩;rw [u2];exact UJ c.j;obtain ⟨x,hx⟩:=hrel.hasB id y hy;exact Qb7 c1.ids hc1 hd1 id (List.mem_map.2 ⟨(id,x),Xe hx,rfl⟩) y hy hsh;rw [u2];exact hgj
 rename_i hdn;intro _;exact ⟨.refl _ _,hs,hb (by simpa using hdn),hgj⟩
def Ka (st:IM Int) (e:Entry):IM Int:=match e.kd,e.n with
 |.ready,[_,_]=>Qt st e.id 1
 |.yes,_=>Qt st e.id 2
 |.no,_=>Qt st e.id 3
 |.fyes,_=>Qt st e.id 4
 |.fno,_=>Qt st e.id 5
 |_,_=>st
def kst (es:List Entry):IM Int:=es.foldl Ka []
def Qd.kv (k:Qd) (id:Int):Int:=mgi (kst k.j.es) id
theorem Qk2 (k:Qd) (e:Entry):(k.Qg e).st=Ka k.st e:=by
 unfold Qd.Qg Ka;split<;>simp_all
theorem Qum (es:List Entry):∀k:Qd,(k.Qi es).st=es.foldl Ka k.st:=by
 induction es with
 |nil=>intro k;rfl
 |cons e r ih=>intro k;show ((k.Qg e).Qi r).st=_;rw [ih,Qk2];rfl
def stg (s:Int):Nat:=if s=0 then 0 else if s=1 then 1 else 2
structure KI (k:Qd):Prop where
 st:k.j.down=false→k.st=kst k.j.es
 sure:k.j.sure=k.j.es.length
 cnt:∀id,Tk k.j.es id≤stg (k.kv id)
theorem KI.get {k:Qd} (h:KI k) (hd:k.j.down=false) (id:Int):mgi k.st id=k.kv id:=by rw [h.st hd];rfl
theorem KI.Qj {k:Qd} (h:KI k) (stay:Int):KI (k.Qj stay)∧∀id,(k.Qj stay).kv id=k.kv id:=by
 unfold Qd.Qj;split;exact ⟨h,fun _=>rfl⟩
 ·have he:(k.j.Qj stay).es=k.j.es:=by
   show k.j.es.take _=_
   exact List.take_of_length_le (by rw [←h.sure];unfold Jrn.keep;omega)
  refine ⟨⟨fun hd=>(by cases hd),?_,fun id=>?_⟩,fun id=>?_⟩
  show k.j.sure=((k.j.Qj stay).es).length
  rw [he];exact h.sure
  show Tk (k.j.Qj stay).es id≤stg (mgi (kst (k.j.Qj stay).es) id)
  rw [he];exact h.cnt id
  show mgi (kst (k.j.Qj stay).es) id=_
  rw [he];rfl
theorem KI.start {k:Qd} (h:KI k):KI k.start∧∀id,k.start.kv id=k.kv id:=by
 unfold Qd.start;split;obtain ⟨h1,h2⟩:=Vf k.j.es (({k with j:=k.j.recover}:Qd).forget);refine ⟨⟨fun _=>?_,by rw [h1];rfl,fun id=>?_⟩,fun id=>?_⟩;rw [Qum,h1];rfl;unfold Qd.kv;rw [h1];exact h.cnt id;unfold Qd.kv;rw [h1];rfl;exact ⟨h,fun _=>rfl⟩
theorem Qpr (es:List Entry) (e:Entry):kst (es++ [e])=Ka (kst es) e:=by unfold kst;rw [List.foldl_append];rfl
theorem Qfu {e:Entry} (he:KpE e) (st:IM Int) (id:Int):mgi (Ka st e) id=if e.id=id then FP e.kd else mgi st id:=by
 cases he<;>exact UX _ _ _ _
theorem Qa4 {k:Qd} (h:KI k) {e:Entry} (he:KpE e) (hst:stg (k.kv e.id)+1≤stg (FP e.kd)):
 KI (k.notes e).2∧(k.notes e).2.node=k.node∧(k.notes e).2.j.down=k.j.down∧(((k.notes e).1=true∧(k.notes e).2.j.es=k.j.es++ [e]∧∀id,(k.notes e).2.kv id=if e.id=id then FP e.kd else k.kv id)∨((k.notes e).1=false∧(k.notes e).2=k∧k.j.room≤(k.j.es.length:Int))):=by
 unfold Qd.notes;split;exact ⟨h,rfl,rfl,.inr ⟨rfl,rfl,‹_›⟩⟩
 ·rename_i hr;have hj:(k.j.add e).2= {k.j with es:=k.j.es++ [e]}:=by unfold Jrn.add;rw [if_neg hr]
  obtain ⟨h1,h2⟩:=Jd ({k with j:=(k.j.add e).2.sync}:Qd) e;have hes:(({k with j:=(k.j.add e).2.sync}:Qd).Qg e).j.es=k.j.es++ [e]:=by rw [h1,hj];rfl
  have hkv:∀id,(({k with j:=(k.j.add e).2.sync}:Qd).Qg e).kv id=if e.id=id then FP e.kd else k.kv id:=fun id=>by
   unfold Qd.kv;rw [hes,Qpr,Qfu he]
  refine ⟨⟨fun hd=>?_,?_,fun id=>?_⟩,h2,?_,.inl ⟨rfl,hes,hkv⟩⟩;rw [Qk2,hes,Qpr];have hd':k.j.down=false:=by rw [←hd,h1,hj];rfl
  show Ka k.st e=_
  rw [h.st hd'];rw [h1,hj];rfl;simp only;rw [hkv,hes,Jf];have:=h.cnt id;split;rename_i e';subst e';omega;omega;rw [h1,hj];rfl
theorem Qul {s k:Int} {can:Bool} (h:(Qr s k can).1≠s):stg s+1≤stg (Qr s k can).1:=by
 have key:s=0∧((Qr s k can).1=1∨(Qr s k can).1=3)∨s=1∧((Qr s k can).1=2∨(Qr s k can).1=3):=by
  revert h;unfold Qr TH Zg ZU TY;repeat' split
  all_goals simp_all
  all_goals omega
 rcases key with ⟨e,e'|e'⟩|⟨e,e'|e'⟩<;>rw [e,e'] at* <;>decide
def Qs3 (k:Qd) (m:Msg) (r:Int):List Msg:=if r=0 then [] else [⟨r,k.node,if r=11∨r=17 then 0 else m.frm,m.id,0,0,0⟩]
theorem Uq {n:Int} {k:Qd} (h:KI k) (hd:k.j.down=false) {m:Msg} (h0:1≤m.id) (h1:m.id≤999) (hm:m.kind=6→0≤m.a∧m.a<8∧0<m.b∧m.b≤1000000000):
 ∃s' r,(k.handle m).1=Qs3 k m r∧KI (k.handle m).2∧(k.handle m).2.node=k.node∧(k.handle m).2.j.down=false∧(∀id,(k.handle m).2.kv id=if m.id=id then s' else k.kv id)∧
  ((∃can,s'=(Qr (k.kv m.id) m.kind can).1∧r=(Qr (k.kv m.id) m.kind can).2)∨(s'=k.kv m.id∧r=0∧k.j.room≤(k.j.es.length:Int)))∧
  ((k.handle m).2.j.es=k.j.es∨s'≠k.kv m.id∧∃e,e.id=m.id∧(k.handle m).2.j.es=k.j.es++ [e]):=by
 have hs:=h.get hd m.id;obtain ⟨c1,c2⟩:=KS k m.kind m.id m.a m.b;have c3:(k.can m.kind m.id m.a m.b).2.st=k.st:=(Qdc k m.kind m.id m.a m.b).2.1;have hkv:∀id,(k.can m.kind m.id m.a m.b).2.kv id=k.kv id:=fun id=>by unfold Qd.kv;rw [c1]
 have hc:KI (k.can m.kind m.id m.a m.b).2:=⟨fun hd'=>by rw [c3,c1];exact h.st (by rw [←c1];exact hd'),by rw [c1];exact h.sure,fun id=>by rw [hkv,c1];exact h.cnt id⟩;unfold Qd.handle;rw [if_neg (by simp [hd])];simp only;rw [hs];generalize hcan:(k.can m.kind m.id m.a m.b).1=can at *;have hvn:=Qg8 (k.kv m.id) m.kind can;by_cases hx:(Qr (k.kv m.id) m.kind can).1=k.kv m.id;rw [if_pos hx];refine ⟨k.kv m.id,(Qr (k.kv m.id) m.kind can).2,rfl,hc,c2,by rw [c1];exact hd,fun id=>?_,.inl ⟨can,hx.symm,rfl⟩,.inl (by simp only;rw [c1])⟩;simp only;rw [hkv];split;rename_i e;rw [e];rfl
 ·rw [if_neg hx];have hen:KpE (Kk (Qr (k.kv m.id) m.kind can).1 m.id m.a m.b)∧(Kk (Qr (k.kv m.id) m.kind can).1 m.id m.a m.b).id=m.id∧FP (Kk (Qr (k.kv m.id) m.kind can).1 m.id m.a m.b).kd=(Qr (k.kv m.id) m.kind can).1:=by
   rcases hvn with e|⟨e,e6⟩|e|e;exact absurd e hx;obtain ⟨a0,a1,b0,b1⟩:=hm e6;obtain ⟨a,ea⟩:=Int.eq_ofNat_of_zero_le a0;rw [e];unfold Kk;rw [if_pos rfl,ea];exact ⟨.ready m.id a m.b h0 h1 (by omega) b0 b1,rfl,rfl⟩;rw [e];exact ⟨.yes m.id h0 h1,rfl,rfl⟩;rw [e];exact ⟨.no m.id h0 h1,rfl,rfl⟩
  obtain ⟨he,hid,hst⟩:=hen;obtain ⟨n1,n2,n3,n4⟩:=Qa4 hc he (by rw [hkv,hid,hst];exact Qul hx);generalize Kk (Qr (k.kv m.id) m.kind can).1 m.id m.a m.b=e at *;rcases n4 with ⟨n4,n5,n6⟩|⟨n4,n5,n6⟩;refine ⟨(Qr (k.kv m.id) m.kind can).1,(Qr (k.kv m.id) m.kind can).2,?_,n1,n2.trans c2,by rw [n3,c1];exact hd,fun id=>?_,.inl ⟨can,rfl,rfl⟩,.inr ⟨hx,e,hid,by rw [n5,c1]⟩⟩;rw [if_neg (by simp [n4])];rfl;rw [n6,hid,hst,hkv];refine ⟨k.kv m.id,0,?_,n1,n2.trans c2,by rw [n3,c1];exact hd,fun id=>?_,.inr ⟨rfl,rfl,by rw [c1] at n6;exact n6⟩,.inl (by rw [n5,c1])⟩;rw [if_pos n4];rfl;rw [n5,hkv];split;rename_i e;rw [e];rfl
theorem Qkv {k:Qd} (h:KI k) {id:Int} (h0:1≤id) (h1:id≤999) (yes:Bool):
 KI (k.force id yes).2∧(k.force id yes).2.node=k.node∧(k.force id yes).2.j.down=k.j.down∧((∀i,(k.force id yes).2.kv i=k.kv i)∨k.kv id=1∧∀i,(k.force id yes).2.kv i=if id=i then (if yes=true then 4 else 5) else k.kv i):=by
 unfold Qd.force;split;exact ⟨h,rfl,rfl,.inl fun _=>rfl⟩;rename_i hd;have hd:k.j.down=false:=by simpa using hd
 split
 ·rename_i hs;have he:KpE ⟨if yes=true then .fyes else .fno,id,[]⟩:=by
   cases yes;exact .fno id h0 h1;exact .fyes id h0 h1
  obtain ⟨n1,n2,n3,n4⟩:=Qa4 h he (by show stg (k.kv id)+1≤_;rw [←h.get hd,hs];cases yes<;>exact (by decide:(2:Nat)≤2));refine ⟨n1,n2,n3,?_⟩;rcases n4 with ⟨-, -,n4⟩|⟨-,n4, -⟩;refine .inr ⟨by rw [←h.get hd];exact hs,fun i=>?_⟩;simp only;rw [n4];cases yes<;>rfl
  exact .inl fun i=>by simp only;rw [n4]
 exact ⟨h,rfl,rfl,.inl fun _=>rfl⟩
def Bad (l:List Msg) (C:View) (kv:Int→Int→Int) (id:Int):Prop:=C.turn id∨∃j,(j=1∨j=2)∧kv j id=3∧(∀m∈l,m.kind=7→m.frm=j→m.id≠id)∧¬C.said j id
structure Safe (l:List Msg) (C:View) (kv:Int→Int→Int):Prop where
 m7:∀m∈l,m.kind=7→kv m.frm m.id≠0
 said:∀i id,i=1∨i=2→C.said i id→kv i id≠0
 m14:∀m∈l,m.kind=14→Bad l C kv m.id
 k3:∀i id,i=1∨i=2→kv i id=3→Bad l C kv id
 m10:∀m∈l,m.kind=10→C.turn m.id
 m12:∀m∈l,m.kind=12∨m.kind=6→C.has m.id
 k1:∀i id,i=1∨i=2→kv i id=1→C.has id
 yes:∀i id,i=1∨i=2→C.yes id→kv i id≠0∧kv i id≠3
 m9:∀m∈l,m.kind=9∨m.kind=13→C.yes m.id
 k2:∀i id,i=1∨i=2→kv i id=2→C.yes id
structure MsgV (C:View) (m:Msg):Prop where
 n7:m.kind≠7
 n12:m.kind≠12
 has:C.has m.id
 turn:m.kind=10∨m.kind=14→C.turn m.id
 yes:m.kind=9∨m.kind=13→C.yes m.id
theorem Safe.sub {l l':List Msg} {C:View} {kv:Int→Int→Int} (h:Safe l C kv) (hl:∀m∈l',m∈l∨m.kind=2∨m.kind=3∨m.kind=5∨m.kind=16∨m.kind=12∧C.has m.id):Safe l' C kv:=by
 have hb:∀id,Bad l C kv id→Bad l' C kv id:=fun id hb=>hb.imp (fun x=>x) (fun ⟨j,hj,h1,h2,h3⟩=>⟨j,hj,h1,fun m hm h7=>by
  rcases hl m hm with k|k;exact h2 m k h7;omega,h3⟩)
 have key:∀m∈l',m.kind≠2∧m.kind≠3∧m.kind≠5∧m.kind≠16∧m.kind≠12→m∈l:=fun m hm hk=>(hl m hm).elim (fun x=>x) (fun x=>by omega);refine ⟨fun m hm hk=>h.m7 m (key m hm (by omega)) hk,h.said,fun m hm hk=>hb _ (h.m14 m (key m hm (by omega)) hk),fun i id hi hk=>hb _ (h.k3 i id hi hk),fun m hm hk=>h.m10 m (key m hm (by omega)) hk,fun m hm hk=>?_,h.k1,h.yes,fun m hm hk=>h.m9 m (key m hm (by omega)) hk,h.k2⟩;rcases hl m hm with k|k;exact h.m12 m k hk;rcases k with k|k|k|k|k;omega;omega;omega;omega;exact k.2
theorem Safe.Xu {l l':List Msg} {C C':View} {kv:Int→Int→Int} {v:Int→Int→Prop} (h:Safe l C kv) (hx:∀id,¬(C'.yes id∧C'.turn id)) (hv:VOp C C' v) (hvo:∀i id,i=1∨i=2→v i id→∃m∈l,m.kind=7∧m.frm=i∧m.id=id) (hl:∀m∈l',m∈l∨MsgV C' m):Safe l' C' kv:=by
 have hb:∀id,Bad l C kv id→Bad l' C' kv id:=fun id hb=>hb.imp (hv.turn id) (fun ⟨j,hj,h1,h2,h3⟩=>⟨j,hj,h1,fun m hm h7=>by
  rcases hl m hm with k|k;exact h2 m k h7
  ·exact absurd h7 k.n7,fun hs=>by
  rcases hv.saidB id j hs with k|k;exact h3 k;obtain ⟨m,hm,e1,e2,e3⟩:=hvo j id hj k;exact h2 m hm e1 e2 e3⟩)
 refine ⟨fun m hm hk=>?_,fun i id hi hs=>?_,fun m hm hk=>?_,fun i id hi hk=>hb _ (h.k3 i id hi hk),fun m hm hk=>?_,fun m hm hk=>?_,fun i id hi hk=>hv.has _ (h.k1 i id hi hk),fun i id hi hy=>?_,fun m hm hk=>?_,fun i id hi hk=>hv.yes _ (h.k2 i id hi hk)⟩;rcases hl m hm with k|k;exact h.m7 m k hk;exact absurd hk k.n7;rcases hv.saidB id i hs with k|k;exact h.said i id hi k;obtain ⟨m,hm,e1,e2,e3⟩:=hvo i id hi k;have:=h.m7 m hm e1
 rwa [e2,e3] at this
 rcases hl m hm with k|k;exact hb _ (h.m14 m k hk);exact .inl (k.turn (.inr hk));rcases hl m hm with k|k;exact hv.turn _ (h.m10 m k hk);exact k.turn (.inl hk);rcases hl m hm with k|k;exact hv.has _ (h.m12 m k hk);exact k.has
 ·rcases hv.yesB id hy with k|⟨k1,k2⟩;exact h.yes i id hi k
  ·have hz:∀i,i=1∨i=2→kv i id≠0:=fun i hi=>by
    rcases k2 i hi with k|k;exact h.said i id hi k;obtain ⟨m,hm,e1,e2,e3⟩:=hvo i id hi k;have:=h.m7 m hm e1
    rwa [e2,e3] at this
   refine ⟨hz i hi,fun h3=>?_⟩;rcases h.k3 i id hi h3 with k|⟨j,hj,h1,h2,h4⟩;exact k1 k;rcases k2 j hj with k|k;exact h4 k;obtain ⟨m,hm,e1,e2,e3⟩:=hvo j id hj k;exact h2 m hm e1 e2 e3
 rcases hl m hm with k|k;exact hv.yes _ (h.m9 m k hk);exact k.yes hk
theorem Qfi (s k:Int) (can:Bool):(Qr s k can=(s,0))∨(k=6∧(s=0∧(Qr s k can=(1,7)∨Qr s k can=(3,8))∨(s=1∨s=4)∧Qr s k can=(s,7)∨(s=3∨s=5)∧Qr s k can=(s,8)))∨
 ((k=9∨k=13)∧((s=1∨s=2)∧Qr s k can=(2,11)∨s=4∧Qr s k can=(s,11)∨s=5∧Qr s k can=(s,17)))∨
 ((k=10∨k=14)∧((s=0∨s=1∨s=3)∧Qr s k can=(3,11)∨s=5∧Qr s k can=(s,11)∨s=4∧Qr s k can=(s,17)))∨
 (k=12∧((s=0∨s=3)∧Qr s k can=(3,14)∨s=2∧Qr s k can=(s,13))):=by
 unfold Qr;split;unfold TH;split;split<;>simp_all
 split
 simp_all
 split<;>simp_all
 split;unfold Zg;split
 simp_all
 split
 simp_all
 split<;>simp_all
 split;unfold ZU;split
 simp_all
 split
 simp_all
 split<;>simp_all
 split;unfold TY;split
 simp_all
 split<;>simp_all
 simp_all
structure Qxz (s k s' r:Int):Prop where
 z:s≠0→s'≠0
 t3:s=3→s'=3∧r≠7
 n3:s'=3→s=3∨k=10∨k=14∨s=0∧r≠7
 a7:r=7→s'≠0
 a14:r=14→s'=3
 no:r≠10∧r≠12∧r≠6∧r≠9
 n1:s'=1→s=1∨k=6
 a13:r=13→s=2
 n2:s'=2→s=2∨k=9∨k=13
theorem Qux {s k s' r:Int} (hs:(∃can,s'=(Qr s k can).1∧r=(Qr s k can).2)∨s'=s∧r=0):Qxz s k s' r:=by
 rcases hs with ⟨can,e1,e2⟩|⟨e1,e2⟩
 ·rcases Qfi s k can with e|⟨e0,⟨a,e|e⟩|⟨a,e⟩|⟨a,e⟩⟩|⟨e0,⟨a,e⟩|⟨a,e⟩|⟨a,e⟩⟩|⟨e0,⟨a,e⟩|⟨a,e⟩|⟨a,e⟩⟩|⟨e0,⟨a,e⟩|⟨a,e⟩⟩;all_goals
   rw [e] at e1 e2;simp only at e1 e2;constructor<;>omega
 constructor<;>omega
theorem Safe.keeper {l l':List Msg} {C:View} {kv kv':Int→Int→Int} (h:Safe l C kv) (hx:∀id,¬(C.yes id∧C.turn id)) {m:Msg} (hm:m∈l) {i:Int} (hi:i=1∨i=2) {s' r:Int}
 (hk:∀j id,j=1∨j=2→kv' j id=if j=i∧id=m.id then s' else kv j id) (hs:(∃can,s'=(Qr (kv i m.id) m.kind can).1∧r=(Qr (kv i m.id) m.kind can).2)∨s'=kv i m.id∧r=0)
 (hl:∀x∈l',x∈l∨r≠0∧x.kind=r∧x.frm=i∧x.id=m.id) (h7:∀x∈l',x.kind=7→x.frm=1∨x.frm=2) (h7b:∀x∈l,x.kind=7→x.frm=1∨x.frm=2):Safe l' C kv':=by
 generalize hse:kv i m.id=s at *;obtain ⟨z1,z2,z3,z4,z5,z6,z7,z8,z9⟩:=Qux hs;clear hs;have hkm:kv' i m.id=s':=by rw [hk i m.id hi,if_pos ⟨rfl,rfl⟩]
 have hko:∀j id,j=1∨j=2→¬(j=i∧id=m.id)→kv' j id=kv j id:=fun j id hj hn=>by rw [hk j id hj,if_neg hn]
 have hb:∀id,Bad l C kv id→Bad l' C kv' id:=fun id hb=>hb.imp (fun x=>x) (fun ⟨j,hj,h1,h2,h3⟩=>by
  refine ⟨j,hj,?_,fun x hx2 hx7 hxf=>?_,h3⟩;by_cases hc:j=i∧id=m.id;obtain ⟨rfl,rfl⟩:=hc;rw [hkm];rw [hse] at h1;exact (z2 h1).1;rw [hko j id hj hc];exact h1;rcases hl x hx2 with k|⟨k0,k1,k2,k3⟩;exact h2 x k hx7 hxf;intro e;have:j=i:=by omega
  subst this;have e2:id=m.id:=by omega
  subst e2;rw [hse] at h1;exact (z2 h1).2 (by omega))
 have hbad:s'=3→Bad l' C kv' m.id:=fun h3=>by
  by_cases hs3:s=3;exact hb _ (h.k3 i m.id hi (by rw [hse];exact hs3));by_cases ht:m.kind=10;exact .inl (h.m10 m hm ht);by_cases ht4:m.kind=14;exact hb _ (h.m14 m hm ht4);have hs0:s=0∧r≠7:=by have:=z3 h3;omega
  refine .inr ⟨i,hi,by rw [hkm];exact h3,fun x hx2 hx7 hxf e=>?_,fun hsd=>?_⟩;rcases hl x hx2 with k|⟨k0,k1,k2,k3⟩;have:=h.m7 x k hx7;rw [hxf,e,hse] at this;exact this hs0.1;exact hs0.2 (by omega);have:=h.said i m.id hi hsd;rw [hse] at this;exact this hs0.1
 have hnz:∀j id,j=1∨j=2→kv j id≠0→kv' j id≠0:=fun j id hj h0=>by
  by_cases hc:j=i∧id=m.id;obtain ⟨rfl,rfl⟩:=hc;rw [hkm];rw [hse] at h0;exact z1 h0;rw [hko j id hj hc];exact h0
 refine ⟨fun x hx2 hk7=>?_,fun j id hj hs=>hnz j id hj (h.said j id hj hs),fun x hx2 hk14=>?_,fun j id hj h3=>?_,fun x hx2 hk10=>?_,fun x hx2 hk12=>?_,fun j id hj h1=>?_,fun j id hj hy=>?_,fun x hx2 hk9=>?_,fun j id hj h2=>?_⟩;rcases hl x hx2 with k|⟨k0,k1,k2,k3⟩;exact hnz _ _ (h7 x hx2 hk7) (h.m7 x k hk7);rw [k2,k3,hkm];exact z4 (by omega);rcases hl x hx2 with k|⟨k0,k1,k2,k3⟩;exact hb _ (h.m14 x k hk14);rw [k3];exact hbad (z5 (by omega));by_cases hc:j=i∧id=m.id;obtain ⟨rfl,rfl⟩:=hc;exact hbad (by rw [hkm] at h3;exact h3);rw [hko j id hj hc] at h3;exact hb _ (h.k3 j id hj h3);rcases hl x hx2 with k|⟨k0,k1,k2,k3⟩;exact h.m10 x k hk10;omega;rcases hl x hx2 with k|⟨k0,k1,k2,k3⟩;exact h.m12 x k hk12;omega;by_cases hc:j=i∧id=m.id;obtain ⟨rfl,rfl⟩:=hc;rw [hkm] at h1;by_cases hs1:s=1;exact h.k1 j m.id hj (by rw [hse];exact hs1);exact h.m12 m hm (.inr ((z7 h1).resolve_left hs1));rw [hko j id hj hc] at h1;exact h.k1 j id hj h1;obtain ⟨y0,y3⟩:=h.yes j id hj hy;refine ⟨hnz j id hj y0,fun h3=>?_⟩;by_cases hc:j=i∧id=m.id;obtain ⟨rfl,rfl⟩:=hc;rw [hkm] at h3;rw [hse] at y0 y3;by_cases ht:m.kind=10;exact hx _ ⟨hy,h.m10 m hm ht⟩;by_cases ht4:m.kind=14;rcases h.m14 m hm ht4 with k|⟨j2,hj2,k, -⟩;exact hx _ ⟨hy,k⟩;exact (h.yes j2 m.id hj2 hy).2 k;rcases z3 h3 with k|k|k|k;exact y3 k;exact ht k;exact ht4 k;exact y0 k.1;rw [hko j id hj hc] at h3;exact y3 h3;rcases hl x hx2 with k|⟨k0,k1,k2,k3⟩;exact h.m9 x k hk9;rw [k3];exact h.k2 i m.id hi (by rw [hse];exact z8 (by omega));by_cases hc:j=i∧id=m.id;obtain ⟨rfl,rfl⟩:=hc;rw [hkm] at h2;by_cases hs2:s=2;exact h.k2 j m.id hj (by rw [hse];exact hs2);exact h.m9 m hm ((z9 h2).resolve_left hs2);rw [hko j id hj hc] at h2;exact h.k2 j id hj h2
theorem Safe.forced {l:List Msg} {C:View} {kv kv':Int→Int→Int} (h:Safe l C kv) {i id:Int} (hi:i=1∨i=2) {s':Int} (h1:kv i id=1) (hs:s'=4∨s'=5)
 (hk:∀j k,j=1∨j=2→kv' j k=if j=i∧k=id then s' else kv j k) (h7:∀x∈l,x.kind=7→x.frm=1∨x.frm=2):Safe l C kv':=by
 have key:∀j k,j=1∨j=2→kv' j k=kv j k∨kv j k=1∧(kv' j k=4∨kv' j k=5):=fun j k hj=>by
  rw [hk j k hj];split;rename_i e;obtain ⟨rfl,rfl⟩:=e;exact .inr ⟨h1,hs⟩;exact .inl rfl
 have hb:∀k,Bad l C kv k→Bad l C kv' k:=fun k hb=>hb.imp (fun x=>x) (fun ⟨j,hj,a,b,d⟩=>⟨j,hj,by have:=key j k hj;omega,b,d⟩);refine ⟨fun m hm h7k=>?_,fun j k hj hs=>?_,fun m hm hk14=>hb _ (h.m14 m hm hk14),fun j k hj h3=>hb _ (h.k3 j k hj ?_),h.m10,h.m12,fun j k hj e=>h.k1 j k hj ?_,fun j k hj hy=>?_,h.m9,fun j k hj e=>h.k2 j k hj ?_⟩;have:=h.m7 m hm h7k;have:=key m.frm m.id (h7 m hm h7k);omega;have:=h.said j k hj hs;have:=key j k hj;omega;have:=key j k hj;omega;have:=key j k hj;omega;have:=h.yes j k hj hy;have:=key j k hj;omega;have:=key j k hj;omega
theorem QCr {P:Prop} (h:P:=by
 intro hf;exact h.other rfl rfl rfl (fun x hx=>(hpm _ x hx).imp (hl x) (fun y=>by have:=ZF y;omega)) (fun x hx=>(hpm _ x hx).elim (fun y=>h.ids x (hl x y)) (fun y=>by rw [Km y];exact h.ids m hm)) hf):P:=h
theorem zTe52 {P:Prop} (h:P:=by
 exact h.other rfl rfl rfl (fun x hx=>(hpm _ x hx).imp (fun y=>y) (fun y=>.inr (.inr (.inr (.inr (hkr x y)))))) (fun x hx=>(hpm _ x hx).elim (h.ids x) (fun y=>h.six _ (hkr x y).2)) hf):P:=h
theorem zTe53 {P:Prop} (h:P:=by
 unfold Qh.handle at h;split at h;cases h;simp only at h;split at h;rw [List.mem_singleton] at h;subst h;rfl;cases h):P:=h
def Qb.kv (H:Qb) (i id:Int):Int:=(H.kn i).kv id
structure HS (H:Qb):Prop where
 fine:Qz H
 safe:Safe H.p.l H.c.view H.kv
 sure:Zk H.c.j
 k0:KI H.k0
 k1:KI H.k1
 fr:∀m∈H.p.l,m.kind=7→m.frm=1∨m.frm=2
 Xo:H.c.j.down=false→VP H.c
 gj:GJ H.c.j.es
 ids:∀m∈H.p.l,1≤m.id∧m.id≤6
 six:∀id,H.c.view.has id→1≤id∧id≤6
theorem Qdn.view {c:Qa} (hc:CF c) (hd:c.j.down=false) {m:Msg} (h:Qdn c m):MsgV c.view m:=by
 obtain ⟨y,hy,h1,h2⟩:=h.led;obtain ⟨z,hz,h3, -⟩:=(XD hc hd m.id).1 hy;exact ⟨h.n7,h.n12,⟨z,hz⟩,fun e=>⟨z,hz,by rw [h3];exact h1 e⟩,fun e=>⟨z,hz,by rw [h3];exact h2 e⟩⟩
section
variable {H:Qb}
theorem HS.xor (h:HS H):∀id,¬(H.c.view.yes id∧H.c.view.turn id):=Qd7 h.fine.c
theorem HS.Xu (h:HS H) (hd:H.c.j.down=false) {c':Qa} {ms:List Msg} {v:Int→Int→Prop} (hop:COp H.c (ms,c') v) (hvo:∀i id,i=1∨i=2→v i id→∃m∈H.p.l,m.kind=7∧m.frm=i∧m.id=id)
 (hv0:∀id,v 0 id→1≤id∧id≤6) {p':Post} (hp:∀m∈p'.l,m∈H.p.l∨m∈ms) (hf:Qz {H with c:=c',p:=p'}):HS {H with c:=c',p:=p'}:=by
 have hc':CF c':=hf.c;have hd':c'.j.down=false:=hop.down.trans hd;have hv:=hop.view h.fine.c hc' hd;have hsix:∀id,c'.view.has id→1≤id∧id≤6:=fun id hh=>(hv.hasB id hh).elim (h.six id) (hv0 id);refine ⟨hf,?_,hop.sure h.sure,h.k0,h.k1,fun m hm hk=>?_,fun _=>hop.Xo (h.Xo hd),hop.gj h.gj,fun m hm=>(hp m hm).elim (h.ids m) (fun x=>hsix _ ((hop.ms m x).view hc' hd').has),hsix⟩;refine Safe.Xu (l:=H.p.l) (C:=H.c.view) (kv:=H.kv) h.safe (Qd7 hc') hv hvo (fun m hm=>?_);exact (hp m hm).imp (fun x=>x) (fun x=>(hop.ms m x).view hc' hd');rcases hp m hm with x|x;exact h.fr m x hk;exact absurd hk (hop.ms m x).n7
theorem HS.other (h:HS H) {H':Qb} (hc:H'.c=H.c) (h0:H'.k0=H.k0) (h1:H'.k1=H.k1) (hp:∀m∈H'.p.l,m∈H.p.l∨m.kind=2∨m.kind=3∨m.kind=5∨m.kind=16∨m.kind=12∧H.c.view.has m.id) (hi:∀m∈H'.p.l,1≤m.id∧m.id≤6) (hf:Qz H'):HS H':=by
 have hkv:H'.kv=H.kv:=by funext i id;unfold Qb.kv Qb.kn;rw [h0,h1]
 refine ⟨hf,?_,by rw [hc];exact h.sure,by rw [h0];exact h.k0,by rw [h1];exact h.k1,fun m hm hk=>?_,by rw [hc];exact h.Xo,by rw [hc];exact h.gj,hi,by rw [hc];exact h.six⟩;rw [hkv,hc];exact h.safe.sub hp;rcases hp m hm with x|x;exact h.fr m x hk;omega
def Qb.Yh (H:Qb) (i:Int) (k:Qd):Qb:=if i=1 then {H with k0:=k} else {H with k1:=k}
theorem Qh8 (H:Qb) {i j:Int} (k:Qd) (hi:i=1∨i=2) (hj:j=1∨j=2):(H.Yh i k).kn j=if j=i then k else H.kn j:=by
 unfold Qb.Yh Qb.kn;rcases hi with rfl|rfl<;>rcases hj with rfl|rfl<;>rfl
theorem HS.kn (h:HS H) (i:Int):KI (H.kn i):=by unfold Qb.kn;split;exact h.k0;exact h.k1
theorem Qzk (h:Qz H) {i:Int} (hi:i=1∨i=2):(H.kn i).node=i:=by
 unfold Qb.kn;rcases hi with rfl|rfl;rw [if_pos rfl];exact h.k0.node;rw [if_neg (by decide)];exact h.k1.node
theorem HS.Yh (h:HS H) {i:Int} (hi:i=1∨i=2) {k:Qd} (hk:KI k) (he:∀id,k.kv id=H.kv i id) (hf:Qz (H.Yh i k)):HS (H.Yh i k):=by
 have hc:(H.Yh i k).c=H.c∧(H.Yh i k).p=H.p:=by unfold Qb.Yh;split<;>exact ⟨rfl,rfl⟩
 have hkv:∀j id,j=1∨j=2→(H.Yh i k).kv j id=H.kv j id:=fun j id hj=>by
  unfold Qb.kv;rw [Qh8 H k hi hj];split;rename_i e;rw [he,e];rfl;rfl
 have s:=h.safe;have hb:∀id,Bad H.p.l H.c.view H.kv id→Bad H.p.l H.c.view (H.Yh i k).kv id:=fun id hb=>hb.imp (fun x=>x) (fun ⟨j,hj,a,b,d⟩=>⟨j,hj,by rw [hkv j id hj];exact a,b,d⟩);refine ⟨hf,?_,by rw [hc.1];exact h.sure,?_,?_,by rw [hc.2];exact h.fr,by rw [hc.1];exact h.Xo,by rw [hc.1];exact h.gj,by rw [hc.2];exact h.ids,by rw [hc.1];exact h.six⟩
 ·rw [hc.1,hc.2];refine ⟨fun m hm h7=>by rw [hkv _ _ (h.fr m hm h7)];exact s.m7 m hm h7,fun j id hj hs=>by rw [hkv j id hj];exact s.said j id hj hs,fun m hm hk=>hb _ (s.m14 m hm hk),fun j id hj e=>hb _ (s.k3 j id hj (by rw [←hkv j id hj];exact e)),s.m10,s.m12,
   fun j id hj e=>s.k1 j id hj (by rw [←hkv j id hj];exact e),fun j id hj e=>by rw [hkv j id hj];exact s.yes j id hj e,s.m9,fun j id hj e=>s.k2 j id hj (by rw [←hkv j id hj];exact e)⟩
 unfold Qb.Yh;split;exact hk;exact h.k0;unfold Qb.Yh;split;exact h.k1;exact hk
theorem put_sub {p:Post} {m x:Msg} (h:x∈(p.put m).l):x∈p.l∨x=m:=put_mem h
theorem HS.keeper (h:HS H) {i:Int} (hi:i=1∨i=2) {m:Msg} (hm:m∈H.p.l) (hto:m.to=i) {l0:List Msg} (hl:∀x∈l0,x∈H.p.l) {p':Post} (hp:∀x∈p'.l,x∈l0∨x∈((H.kn i).handle m).1)
 (hf:Qz {H.Yh i ((H.kn i).handle m).2 with p:=p'}):HS {H.Yh i ((H.kn i).handle m).2 with p:=p'}:=by
 have hmo:=h.fine.ms m hm;have hki:=h.kn i;have hc:({H.Yh i ((H.kn i).handle m).2 with p:=p'}:Qb).c=H.c:=by unfold Qb.Yh;split<;>rfl
 cases hd:(H.kn i).j.down with
 |true=>
  have he:(H.kn i).handle m=([],H.kn i):=by unfold Qd.handle;rw [if_pos hd]
  rw [he] at hp hf⊢;have hs:H.Yh i (H.kn i)=H:=by
   unfold Qb.Yh Qb.kn;rcases hi with rfl|rfl<;>rfl
  simp only [hs] at hf⊢;have hsub:∀x∈p'.l,x∈H.p.l:=fun x hx=>by
   rcases hp x hx with y|y;exact hl x y;cases y
  exact h.other rfl rfl rfl (fun x hx=>.inl (hsub x hx)) (fun x hx=>h.ids x (hsub x hx)) hf
 |false=>
  obtain ⟨s',r,e1,e2,e3,e4,e5,e6, -⟩:=Uq (n:=i) hki hd hmo.id0 hmo.id1 (hmo.k (by omega)).2;have hnode:=Qzk h.fine hi;have hfr:∀x∈p'.l,x∈H.p.l∨r≠0∧x.kind=r∧x.frm=i∧x.id=m.id:=fun x hx=>by
   rcases hp x hx with y|y;exact .inl (hl x y);rw [e1] at y;unfold Qs3 at y;split at y;cases y;rename_i hr;rw [List.mem_singleton] at y;subst y;exact .inr ⟨hr,rfl,hnode,rfl⟩
  have h7:∀x∈p'.l,x.kind=7→x.frm=1∨x.frm=2:=fun x hx hk=>by
   rcases hfr x hx with y|y;exact h.fr x y hk;rw [y.2.2.1];exact hi
  refine ⟨hf,?_,by rw [hc];exact h.sure,?_,?_,h7,by rw [hc];exact h.Xo,by rw [hc];exact h.gj,fun x hx=>(hfr x hx).elim (h.ids x) (fun y=>by rw [y.2.2.2];exact h.ids m hm),by rw [hc];exact h.six⟩;rw [hc];refine Safe.keeper (l:=H.p.l) (C:=H.c.view) (kv:=H.kv) h.safe h.xor hm hi (s':=s') (r:=r) (fun j id hj=>?_) ?_ hfr h7 h.fr
  show ((H.Yh i ((H.kn i).handle m).2).kn j).kv id=_
  rw [Qh8 H _ hi hj];by_cases hji:j=i;subst hji;rw [if_pos rfl,e5];by_cases hid:m.id=id;rw [if_pos hid,if_pos ⟨rfl,hid.symm⟩];rw [if_neg hid,if_neg (fun e=>hid e.2.symm)];rfl;rw [if_neg hji,if_neg (fun e=>hji e.1)];rfl;rcases e6 with e6|⟨a,b, -⟩;exact .inl e6;exact .inr ⟨a,b⟩
  show KI (H.Yh i _).k0
  unfold Qb.Yh;split;exact e2;exact h.k0
  show KI (H.Yh i _).k1
  unfold Qb.Yh;split;exact h.k1;exact e2
theorem Km {s:Qe} {m x:Msg} (h:x∈(s.handle m).1):x.id=m.id:=by
 unfold Qe.handle at h;split at h;cases h;simp only at h;split at h;cases h;rw [List.mem_singleton] at h;subst h;rfl
theorem Qot {s:Qh} {m x:Msg} (h:x∈(s.handle m).1):x.id=m.id:=by
 exact zTe53
theorem ZF {s:Qe} {m x:Msg} (h:x∈(s.handle m).1):x.kind=2∨x.kind=3∨x.kind=5:=by
 unfold Qe.handle at h;split at h;cases h;simp only at h;split at h;cases h;rename_i hz;rw [List.mem_singleton] at h;subst h;simp only;unfold Qe.asked at hz⊢;by_cases h1:m.kind=1;rw [if_pos h1] at hz⊢;have:=Qeb s m.id m.a;omega;rw [if_neg h1] at hz⊢;have:=DY s m.id;omega
theorem JW {s:Qh} {m x:Msg} (h:x∈(s.handle m).1):x.kind=16:=by
 exact zTe53
theorem HS.gives (h:HS H) {l0:List Msg} (hl:∀x∈l0,x∈H.p.l) {m:Msg} (hm:m∈H.p.l):HS (({H with p:= {H.p with l:=l0}}:Qb).gives m):=by
 have hmo:=h.fine.ms m hm;have hf0:Qz ({H with p:= {H.p with l:=l0}}:Qb):=⟨h.fine.c,h.fine.k0,h.fine.k1,h.fine.s,h.fine.v0,h.fine.v1,h.fine.v2,fun x hx=>h.fine.ms x (hl x hx)⟩;have hf:=hf0.gives hmo;have hpm:∀(r:List Msg) (x:Msg),x∈(({H.p with l:=l0}:Post).puts r).l→x∈l0∨x∈r:=fun r x hx=>Vz hx;revert hf;unfold Qb.gives;simp only;split
 ·rename_i ht;intro hf;cases hd:H.c.j.down with
  |true=>
   have he:H.c.handle m=([],H.c):=by unfold Qa.handle;rw [if_pos hd]
   rw [he] at hf⊢;exact h.other rfl rfl rfl (fun x hx=>.inl ((hpm _ x hx).elim (hl x) (fun y=>by cases y))) (fun x hx=>h.ids x ((hpm _ x hx).elim (hl x) (fun y=>by cases y))) hf
  |false=>
   have h12:m.kind=12→H.c.j.down=false→(Qc H.c.l m.id).isSome=true:=fun hk _=>by
    obtain ⟨x,hx⟩:=h.safe.m12 m hm (.inl hk);obtain ⟨y,hy, -⟩:=(XD h.fine.c hd m.id).2 hx;rw [hy];rfl
   refine h.Xu hd (Zp h.fine.c (hmo.c ht) h12) (fun i id hi ⟨k7,e,hif⟩=>⟨m,hm,k7,?_,e.symm⟩) (fun id ⟨_,e,_⟩=>by rw [e];exact h.ids m hm) (fun x hx=>(hpm _ x hx).imp (hl x) (fun y=>y)) hf;have:=hmo.c ht (by omega);omega
 split;rename_i ht;intro hf;exact h.keeper (i:=1) (.inl rfl) hm ht hl (fun x hx=>hpm _ x hx) hf;split;rename_i ht;intro hf;exact h.keeper (i:=2) (.inr rfl) hm ht hl (fun x hx=>hpm _ x hx) hf;split;intro hf;exact h.other rfl rfl rfl (fun x hx=>(hpm _ x hx).imp (hl x) (fun y=>by have:=JW y;omega)) (fun x hx=>(hpm _ x hx).elim (fun y=>h.ids x (hl x y)) (fun y=>by rw [Qot y];exact h.ids m hm)) hf;split;exact QCr;split;exact QCr;exact QCr
theorem HS.take (h:HS H) (kind i:Int):HS (H.take kind i).2:=by
 have hf:=h.fine.take kind i;revert hf;unfold Qb.take;split;intro _;exact h;split;intro _;exact h;rename_i m hm;have hmem:=List.mem_of_getElem? hm;split;intro hf;exact h.other rfl rfl rfl (fun x hx=>.inl ((put_mem hx).elim (fun y=>y) (fun e=>e▸hmem))) (fun x hx=>h.ids x ((put_mem hx).elim (fun y=>y) (fun e=>e▸hmem))) hf;split;intro _;exact h.gives (fun x hx=>List.mem_of_mem_eraseIdx hx) hmem;intro hf;exact h.other rfl rfl rfl (fun x hx=>.inl (List.mem_of_mem_eraseIdx hx)) (fun x hx=>h.ids x (List.mem_of_mem_eraseIdx hx)) hf
theorem Qcx {k:Qd} {id:Int} {x:Msg} (h:x∈k.ring id):x.kind=12∧x.id=id∧k.j.down=false∧mgi k.st id=1:=by
 unfold Qd.ring at h;split at h;cases h;rename_i hd;split at h;rename_i h1;have hd:k.j.down=false:=by simpa using hd
 simp at h;rcases h with rfl|rfl<;>exact ⟨rfl,rfl,hd,h1⟩;cases h
theorem HS.Qo (h:HS H) (i:Int) {id:Int} (h0:1≤id) (h1:id≤999):HS (H.Qo i id).2:=by
 have hf:=h.fine.Qo i h0 h1;have hpm:∀(r:List Msg) (x:Msg),x∈(H.p.puts r).l→x∈H.p.l∨x∈r:=fun r x hx=>Vz hx;revert hf;unfold Qb.Qo;split;intro _;exact h;rename_i hdn;split;rename_i h0;intro hf;have hd:H.c.j.down=false:=by rw [h0] at hdn;simpa [Qb.Qv] using hdn
 exact h.Xu hd (Zf h.fine.c id (fun _ _=>False)) (fun _ _ _ x=>x.elim) (fun _ x=>x.elim) (fun x hx=>hpm _ x hx) hf;split
 ·intro hf;have hkr:∀x∈H.k0.ring id,x.kind=12∧H.c.view.has x.id:=fun x y=>by
   obtain ⟨a,b,d,e⟩:=Qcx y;rw [h.k0.get d] at e;exact ⟨a,by rw [b];exact h.safe.k1 1 id (.inl rfl) e⟩
  exact zTe52
 ·intro hf;have hkr:∀x∈H.k1.ring id,x.kind=12∧H.c.view.has x.id:=fun x y=>by
   obtain ⟨a,b,d,e⟩:=Qcx y;rw [h.k1.get d] at e;exact ⟨a,by rw [b];exact h.safe.k1 2 id (.inr rfl) e⟩
  exact zTe52
theorem HS.Qxy (h:HS H) {c':Qa} (hv:VOp H.c.view c'.view (fun _ _=>False)) (hs:Zk c'.j) (hb:c'.j.down=false→VP c') (hg:GJ c'.j.es) (hf:Qz {H with c:=c'}):HS {H with c:=c'}:=
 ⟨hf,Safe.Xu (l:=H.p.l) (C:=H.c.view) (kv:=H.kv) h.safe (Qd7 hf.c) hv (fun _ _ _ x=>x.elim) (fun m hm=>.inl hm),hs,h.k0,h.k1,h.fr,hb,hg,h.ids,fun id hh=>(hv.hasB id hh).elim (h.six id) (fun x=>x.elim)⟩
theorem HS.starts (h:HS H) (i:Int):HS (H.starts i):=by
 have hf:=h.fine.starts i;revert hf;unfold Qb.starts;split;intro hf;obtain ⟨a,b,d,e⟩:=Qck h.fine.c h.sure h.Xo h.gj;exact h.Qxy a b (fun _=>d) e hf;split;intro hf;exact h.Yh (i:=1) (.inl rfl) h.k0.start.1 h.k0.start.2 hf;split;intro hf;exact h.Yh (i:=2) (.inr rfl) h.k1.start.1 h.k1.start.2 hf;repeat' split
 all_goals intro hf;exact h.other rfl rfl rfl (fun x hx=>.inl hx) h.ids hf
theorem HS.Qj (h:HS H) (i stay:Int):HS (H.Qj i stay):=by
 have hf:=h.fine.Qj i stay;revert hf;unfold Qb.Qj;split;intro hf;obtain ⟨a,b,d⟩:=Qcw h.sure h.gj stay;refine h.Qxy a b (fun hd=>?_) d hf;unfold Qa.Qj at hd⊢;split at hd;rename_i hdn;rw [hdn] at hd;cases hd;cases hd;split;intro hf;exact h.Yh (i:=1) (.inl rfl) (h.k0.Qj stay).1 (h.k0.Qj stay).2 hf;split;intro hf;exact h.Yh (i:=2) (.inr rfl) (h.k1.Qj stay).1 (h.k1.Qj stay).2 hf;repeat' split
 all_goals intro hf;exact h.other rfl rfl rfl (fun x hx=>.inl hx) h.ids hf
theorem HS.Ye (h:HS H) (kind node i:Int):HS (H.Ye kind node i).2:=by
 unfold Qb.Ye;split;exact h;split;exact h.starts _;exact h.Qj _ _
theorem HS.XQ (h:HS H) {o:Od} (ho:o.ok) (h6:1≤o.id∧o.id≤6):HS (H.XQ o).2:=by
 have hf:=h.fine.XQ ho;cases hd:H.c.j.down with
 |true=>
  have he:H.c.begin o=([],10,H.c):=by unfold Qa.begin;rw [if_pos hd]
  revert hf;unfold Qb.XQ;rw [he];intro hf;exact h.other rfl rfl rfl (fun x hx=>.inl hx) h.ids hf
 |false=>exact h.Xu hd (JF h.fine.c ho) (fun i _ hi x=>by omega) (fun id x=>by rw [x.2];exact h6) (fun x hx=>Vz hx) hf
theorem HS.cancel (h:HS H) (id:Int):HS (H.cancel id).2:=by
 have hf:=h.fine.cancel id;cases hd:H.c.j.down with
 |true=>
  have he:H.c.cancel id=([],10,H.c):=by unfold Qa.cancel;rw [if_pos hd]
  revert hf;unfold Qb.cancel;rw [he];intro hf;exact h.other rfl rfl rfl (fun x hx=>.inl hx) h.ids hf
 |false=>exact h.Xu hd (KP h.fine.c id (fun _ _=>False)) (fun _ _ _ x=>x.elim) (fun _ x=>x.elim) (fun x hx=>Vz hx) hf
theorem Qoo (H:Qb) {node:Int} (hn:node=1∨node=2) (id:Int) (yes:Bool):(H.force node id yes).2=H.Yh node ((H.kn node).force id yes).2:=by
 unfold Qb.force Qb.Yh Qb.kn;rcases hn with rfl|rfl<;>rfl
theorem HS.force (h:HS H) {node:Int} (hn:node=1∨node=2) {id:Int} (h0:1≤id) (h1:id≤999) (yes:Bool):HS (H.force node id yes).2:=by
 have hf:=h.fine.force node h0 h1 yes;rw [Qoo H hn] at hf⊢;obtain ⟨a,b,d,e⟩:=Qkv (h.kn node) h0 h1 yes;rcases e with e|⟨e1,e⟩;exact h.Yh hn a e hf;have hc:(H.Yh node ((H.kn node).force id yes).2).c=H.c∧(H.Yh node ((H.kn node).force id yes).2).p=H.p:=by unfold Qb.Yh;split<;>exact ⟨rfl,rfl⟩
 refine ⟨hf,?_,by rw [hc.1];exact h.sure,?_,?_,by rw [hc.2];exact h.fr,by rw [hc.1];exact h.Xo,by rw [hc.1];exact h.gj,by rw [hc.2];exact h.ids,by rw [hc.1];exact h.six⟩;rw [hc.1,hc.2];refine h.safe.forced hn (id:=id) (s':=if yes=true then 4 else 5) e1 (by split;exact .inl rfl;exact .inr rfl) (fun j k hj=>?_) h.fr
 show ((H.Yh node _).kn j).kv k=_
 rw [Qh8 H _ hn hj];by_cases hji:j=node;subst hji;rw [if_pos rfl,e];by_cases hid:id=k;subst hid;simp;rw [if_neg hid,if_neg (fun e=>hid e.2.symm)];rfl;rw [if_neg hji,if_neg (fun e=>hji e.1)];rfl;unfold Qb.Yh;split;exact a;exact h.k0;unfold Qb.Yh;split;exact h.k1;exact a
theorem HS.act (h:HS H) {c:Cmd} (hc:c.ok) (h6:c.kind=1→1≤c.o.id∧c.o.id≤6):HS (H.act c).2:=by
 have hk:=hc.kind;unfold Qb.act Qb.asks;split
 ·split
  ·rename_i k1;exact h.XQ (by rcases hk with hk|hk|hk|hk|hk|hk<;>first|exact hk.2|omega) (h6 k1)
  split;exact h.cancel _;exact h.force (by omega) (by omega) (by omega) _
 split;exact h.take _ _;split;exact h.Qo _ (by omega) (by omega);exact h.Ye _ _ _
end
theorem Qtw {tries:Int} (h0:1≤tries) (h1:tries≤20):HS (Qb.init tries):=by
 have hv:∀id:Int,Qc (Qb.init tries).c.V id=none:=fun id=>rfl;have hk:∀i id:Int,(Qb.init tries).kv i id=0:=fun i id=>by
  unfold Qb.kv Qb.kn;split<;>rfl
 refine ⟨FY h0 h1,⟨by simp [Qb.init],fun i id _ ⟨_,x,hx,_⟩=>(by cases hx),by simp [Qb.init],fun i id _ e=>(by rw [hk] at e;omega),by simp [Qb.init],by simp [Qb.init],fun i id _ e=>(by rw [hk] at e;omega),fun i id _ ⟨x,hx,_⟩=>(by cases hx),by simp [Qb.init],fun i id _ e=>(by rw [hk] at e;omega)⟩,⟨Nat.le_refl _,by simp [Qb.init]⟩,⟨fun _=>rfl,rfl,fun id=>Nat.zero_le _⟩,⟨fun _=>rfl,rfl,fun id=>Nat.zero_le _⟩,by simp [Qb.init],fun _ id x hx=>(by cases hx),fun n id=>?_,by simp [Qb.init],fun id ⟨x,hx⟩=>(by cases hx)⟩
 show Tk (List.take n []) id≤_
 rw [List.take_nil];exact Nat.zero_le _
theorem zTe61 {P:Prop} (h:P:=by
 by_cases h3:l=3;subst h3;exact ⟨Nat.zero_le _,Nat.le_refl _⟩;rw [if_neg h3];exact ⟨by simp only [cl];omega,Nat.le_refl _⟩):P:=h
def lev (k:Int):Nat:=if k=12 then 4 else if k=9∨k=10∨k=13∨k=14 then 3 else if k=1∨k=4∨k=6∨k=15∨k=17 then 2 else 1
def one (l:Nat) (m:Msg):Nat:=if l≤lev m.kind then 1 else 0
def cl (l:Nat):List Msg→Nat
 | []=>0
 |m::q=>one l m+cl l q
theorem Qem (l:Nat) (a b:List Msg):cl l (a++b)=cl l a+cl l b:=by
 induction a with
 |nil=>simp [cl]
 |cons m r ih=>simp only [List.cons_append,cl,ih];omega
theorem Qn9 (l:Nat) (m:Msg):one (l+1) m≤one l m:=by unfold one;split<;>split<;>omega
theorem cl_le (l:Nat) (q:List Msg):cl (l+1) q≤cl l q:=by
 induction q with
 |nil=>exact Nat.le_refl _
 |cons m r ih=>have:=Qn9 l m;simp only [cl];omega
theorem Qzx (k:Int):1≤lev k:=by
 unfold lev;split;omega;split;omega;split<;>omega
theorem Qam (q:List Msg):cl 1 q=q.length:=by
 induction q with
 |nil=>rfl
 |cons m r ih=>simp only [cl,one,if_pos (Qzx m.kind),ih,List.length_cons];omega
def phi (l:Nat):Nat→List Msg→Nat
 |_,[]=>0
 |0,m::q=>one l m+phi l 0 q
 |r+1,m::q=>one (l+1) m+phi l r q
theorem Tp (l:Nat) (q:List Msg):phi l 0 q=cl l q:=by
 induction q with
 |nil=>rfl
 |cons m r ih=>simp only [phi,cl,ih]
theorem Qbl (l:Nat):∀(q:List Msg) (r:Nat),q.length≤r→phi l r q=cl (l+1) q
 | [],r,_=>by cases r<;>rfl
 |m::q,0,h=>by simp at h
 |m::q,r+1,h=>by
  simp only [List.length_cons] at h;simp only [phi,cl,Qbl l q r (by omega)]
theorem phi_mono (l:Nat):∀(q:List Msg) (r:Nat),phi l (r+1) q≤phi l r q
 | [],r=>by cases r<;>exact Nat.le_refl _
 |m::q,0=>by
  have:=Qn9 l m;simp only [phi];omega
 |m::q,r+1=>by
  have:=phi_mono l q r;simp only [phi];omega
theorem Qbu (l:Nat) (m:Msg):∀(q:List Msg) (r:Nat),phi l r (q++ [m])≤phi l r q+one l m
 | [],0=>by simp [phi]
 | [],r+1=>by
  have:=Qn9 l m;have h0:phi l r []=0:=by cases r<;>rfl
  simp only [List.nil_append,phi,h0];omega
 |a::q,0=>by
  have:=Qbu l m q 0;simp only [List.cons_append,phi];omega
 |a::q,r+1=>by
  have:=Qbu l m q r;simp only [List.cons_append,phi];omega
theorem Qvq (l:Nat):∀(q:List Msg) (r:Nat),phi l r (q.drop 1)≤phi l r q
 | [],r=>Nat.le_refl _
 |m::q,0=>by simp only [List.drop_succ_cons,List.drop_zero,phi];omega
 |m::q,r+1=>by
  have:=phi_mono l q r;simp only [List.drop_succ_cons,List.drop_zero,phi];omega
theorem QA0 (l:Nat) (p:Post) (m:Msg) (r:Nat):phi l r (p.put m).l≤phi l r p.l+one l m:=by
 unfold Post.put;split;exact Qbu l m p.l r;exact Nat.le_trans (Qvq l _ r) (Qbu l m p.l r)
theorem Dy (l:Nat) (r:Nat):∀(ms:List Msg) (p:Post),phi l r (p.puts ms).l≤phi l r p.l+cl l ms
 | [],p=>Nat.le_refl _
 |m::ms,p=>by
  have h1:=Dy l r ms (p.put m);have h2:=QA0 l p m r;simp only [cl]
  show phi l r ((p.put m).puts ms).l≤_
  omega
def tbl:List Nat:= [2,2,2,1,1,0,1,0,1,1,0,0,0,0,0,0,6,5,5,3,4,2,3,1,4,3,2,1,2,1,1,0,9,8,8,6,6,4,5,3,6,5,4,3,3,2,2,1,12,11,11,9,8,6,7,5,8,7,6,5,4,3,3,2]
def bit (b:Bool) (n:Nat):Nat:=if b=true then n else 0
def tb (w:Nat) (a0 a1 d0 d1:Bool):Nat:=tbl.getD (w*16+bit a0 8+bit a1 4+bit d0 2+bit d1 1) 0
def nmx (w:Nat) (a0 a1:Bool):Nat:=bit (!a0) 1+bit (!a1) 1+(if w=0 then 0 else 1)
theorem tb_w:∀w,w<3→∀a0 a1 d0 d1,nmx w a0 a1+tb w a0 a1 d0 d1≤tb (w+1) a0 a1 d0 d1:=by decide
theorem tb_a0:∀w,w<4→∀a1 d0 d1,nmx w true a1+tb w true a1 d0 d1≤tb w false a1 d0 d1:=by decide
theorem tb_a1:∀w,w<4→∀a0 d0 d1,nmx w a0 true+tb w a0 true d0 d1≤tb w a0 false d0 d1:=by decide
theorem tb_d0:∀w,w<4→∀a0 a1 d1,nmx w true a1+tb w true a1 true d1≤tb w a0 a1 false d1:=by decide
theorem tb_d1:∀w,w<4→∀a0 a1 d0,nmx w a0 true+tb w a0 true d0 true≤tb w a0 a1 d0 false:=by decide
theorem Qwd:∀w,w<4→nmx w false false+tb w false false false false≤15:=by decide
theorem QEl:∀w,w<4→∀a0 a1 d0 d1,tb w a0 a1 d0 d1≤12:=by decide
theorem QEv:∀d0 d1,tb 0 true true d0 d1=0:=by decide
def nf (l:List Bool):Nat:=l.countP (fun b=>!b)
def Led.w (x:Led):Nat:=if x.f.turned=true then nf x.f.undone else if x.f.shipped=true then 0 else 1
def Led.ga (x:Led):Nat:=if x.decided=true then tb x.w x.f.ack0 x.f.ack1 x.f.dam0 x.f.dam1 else 15
def Led.be (x:Led):Nat:=if x.decided=true then x.ga else 15+(if nf x.f.done=0 then 0 else nf x.f.done+1)
def Led.pot (l:Nat) (x:Led):Nat:=if l=3 then x.ga else x.be
def Led.nb (l:Nat) (x:Led):Nat:=if x.decided=true then nmx x.w x.f.ack0 x.f.ack1 else if l=3 then 0 else if nf x.f.done=0 then 2 else 1
theorem Qx3 {l:List Bool} {k:Nat} (hk:k<l.length) (h:l.getD k false=false):nf (l.set k true)+1=nf l:=by
 induction l generalizing k with
 |nil=>simp at hk
 |cons a r ih=>
  cases k with
  |zero=>
   have:a=false:=by simpa using h
   subst this;simp [nf]
  |succ k=>
   have:=ih (k:=k) (by simpa using hk) (by simpa using h);unfold nf at this⊢;simp only [List.set_cons_succ,List.countP_cons];omega
theorem Qw2 (l:List Bool):nf l≤l.length:=List.countP_le_length
theorem Qbk {l:List Bool}:nf l=0↔l.contains false=false:=by
 unfold nf;rw [List.countP_eq_zero,List.contains_eq_mem,decide_eq_false_iff_not];refine ⟨fun h hm=>by have:=h false hm;simp at this,fun h b hb=>?_⟩;cases b;exact absurd hb h;simp
theorem Qr3 {x:Led} {k:Int} (hx:x.ok k):x.w<4:=by
 obtain ⟨m1,m2, -⟩:=mpt hx.may;have:=Qw2 x.f.undone;have:=hx.o.len;unfold Led.w;split;omega;split<;>omega
theorem Qhz (l:Nat) (k:Int) (o:Od) (f:Facts):cl l (Qu k o f)≤bit (!f.ack0) 1+bit (!f.ack1) 1:=by
 have h1:∀m,one l m≤1:=fun m=>by unfold one;split<;>omega
 unfold Qu;rw [Qem];have a:=h1 (QO k 1 o);have b:=h1 (QO k 2 o);cases f.ack0<;>cases f.ack1<;>simp [cl,bit]<;>omega
theorem Qqd (l:Nat) {o:Od} {f:Facts}:cl l (XX o f)≤(if nf f.undone=0 then 0 else 1)∧(l=3→cl l (XX o f)=0):=by
 have h1:∀m,one l m≤1:=fun m=>by unfold one;split<;>omega
 unfold XX;split;exact ⟨Nat.zero_le _,fun _=>rfl⟩
 ·rename_i i hi;have hne:nf f.undone≠0:=fun h=>by
   rw [Qbk,List.contains_eq_mem,decide_eq_false_iff_not] at h;obtain ⟨hlt,hp, -⟩:=List.findIdx?_eq_some_iff_getElem.1 hi;have hm:=List.getElem_mem hlt;have:f.undone.reverse[i]=false:=by simpa using hp
   rw [this] at hm;exact h (by simpa using hm)
  rw [if_neg hne];split;exact ⟨Nat.zero_le _,fun _=>rfl⟩;rename_i s _;refine ⟨by simp only [cl];have:=h1 ⟨4,0,s.svc,o.id,((f.undone.length-1-i:Nat):Int),0,0⟩;omega,fun e=>?_⟩;subst e;rfl
theorem Qp4 {x:Led} {k:Int} (hx:x.ok k) (l:Nat) (hl:1≤l∧l≤3):cl l (Xa x.o x.f)≤x.nb l∧cl 3 (Xa x.o x.f)≤(if x.decided=true then 2 else 0):=by
 have hb2:∀b,bit b 1≤1:=by decide
 rw [Uo hx.may];unfold Led.nb;cases ht:x.f.turned with
 |true=>
  have hd:x.decided=true:=by unfold Led.decided;rw [ht];simp
  rw [if_pos rfl,Qem,Qem,if_pos hd,if_pos hd];have h1:=Qhz l 10 x.o x.f;have h2:=(Qqd l (o:=x.o) (f:=x.f)).1;have h3:=Qhz 3 10 x.o x.f;have h4:=(Qqd 3 (o:=x.o) (f:=x.f)).2 rfl;have:=hb2 (!x.f.ack0);have:=hb2 (!x.f.ack1);unfold nmx Led.w;rw [ht,if_pos rfl];exact ⟨by omega,by omega⟩
 |false=>
  rw [if_neg (by decide)];cases hy:x.f.yes with
  |true=>
   have hd:x.decided=true:=by unfold Led.decided;rw [hy];rfl
   rw [if_pos rfl,if_pos hd,if_pos hd];have h1:=Qhz l 9 x.o x.f;have h3:=Qhz 3 9 x.o x.f;have:=hb2 (!x.f.ack0);have:=hb2 (!x.f.ack1);unfold nmx Led.w;rw [ht];by_cases hs:x.f.shipped=true;simp only [hs,if_true,Bool.false_eq_true,if_false];exact ⟨by omega,by omega⟩;simp only [hs,Bool.false_eq_true,if_false];rw [Qem,Qem];have h5:cl l [⟨15,0,3,x.o.id,0,x.o.item,x.o.qty⟩]≤1:=by simp only [cl,one];split<;>omega
   have h6:cl 3 [⟨15,0,3,x.o.id,0,x.o.item,x.o.qty⟩]=0:=rfl;have h7:(if 1=0 then 0 else 1)=1:=rfl;exact ⟨by omega,by omega⟩
  |false=>
   have hd:x.decided=false:=by unfold Led.decided;rw [hy,ht];rfl
   have h1:∀m,one l m≤1:=fun m=>by unfold one;split<;>omega
   simp only [hd,Bool.false_eq_true,if_false];unfold QW;split
   ·rename_i i hi;have hne:nf x.f.done≠0:=fun h=>by
     rw [Qbk,List.contains_eq_mem,decide_eq_false_iff_not] at h;obtain ⟨hlt,hp, -⟩:=List.findIdx?_eq_some_iff_getElem.1 hi;have hm:=List.getElem_mem hlt;have:x.f.done[i]=false:=by simpa using hp
     rw [this] at hm;exact h hm
    rw [if_neg hne];split;rename_i s hs;have h2:=h1 ⟨1,0,s.svc,x.o.id,(i:Int),s.n,0⟩;exact zTe61;exact ⟨Nat.zero_le _,Nat.le_refl _⟩
   ·rename_i hi;have hz:nf x.f.done=0:=by
     rw [Qbk,List.contains_eq_mem,decide_eq_false_iff_not];intro hm;have:=List.findIdx?_eq_none_iff.1 hi false hm;simp at this
    rw [hz];simp only [if_true];have h2:=h1 ⟨6,0,1,x.o.id,0,x.o.item,x.o.qty⟩;have h4:=h1 ⟨6,0,2,x.o.id,0,x.o.client,x.o.price⟩;exact zTe61
theorem QBs {P:Prop} (h:P:=by
 by_cases hr:c.room<c.used+1;rw [if_pos hr,if_neg (by simp)];exact Xv c 0;rw [if_neg hr] at h1⊢;rw [if_pos rfl];exact QAx h hd hx hk h6 hl h1 rfl hev):P:=h
theorem Qc8 {x:Led} {k:Int} (hx:x.ok k) (hd:x.decided=false):x.f.ack0=false∧x.f.ack1=false∧x.f.dam0=false∧x.f.dam1=false:=by
 obtain ⟨-, -,h⟩:=mpt hx.may;obtain ⟨hy,ht⟩:=undecided hd;rw [hy,ht] at h;revert h;unfold KG;generalize x.f.ack0=a,x.f.ack1=b,x.f.dam0=c,x.f.dam1=d,x.f.asked=e,x.f.done.contains false=f,x.f.undone.contains true=g,x.f.shipped=i,Xg x.f.done=j,Yz x.f.undone=m;revert a b c d e f g i j m;decide
theorem QA2 {x:Led} {id:Int} {k:Nat} (hx:x.ok id) (hd:x.decided=false) (hk:XY x.f.done false=k) (l:Nat):(x.facts .done k).nb l+(x.facts .done k).pot l≤x.pot l:=by
 obtain ⟨h1,h2, -⟩:=VZ hk;have hn:nf (x.facts .done k).f.done+1=nf x.f.done:=Qx3 h1 h2;have hd':(x.facts .done k).decided=false:=hd;unfold Led.nb Led.pot Led.be Led.ga;simp only [hd,hd',Bool.false_eq_true,if_false];by_cases h3:l=3;simp only [h3,if_true];omega;simp only [h3,if_false];by_cases hz:nf (x.facts .done k).f.done=0;simp only [hz,if_true];rw [if_neg (by omega)];omega;simp only [hz,if_false];rw [if_neg (by omega)];omega
theorem XZ {x:Led} (hd:x.decided=true) (l:Nat):x.pot l=tb x.w x.f.ack0 x.f.ack1 x.f.dam0 x.f.dam1:=by
 unfold Led.pot Led.be Led.ga;simp only [hd,if_true];split<;>rfl
theorem TV {x:Led} (hd:x.decided=true) (l:Nat):x.nb l=nmx x.w x.f.ack0 x.f.ack1:=by
 unfold Led.nb;simp only [hd,if_true]
theorem Qt1 {x:Led} {id:Int} {k:Nat} (hx:x.ok id) (ht:x.f.turned=true) (hk:QF x.f.undone=k) (l:Nat):(x.facts .undone k).nb l+(x.facts .undone k).pot l≤x.pot l:=by
 obtain ⟨h1,h2⟩:=KD hk;have hd:x.decided=true:=by unfold Led.decided;rw [ht];simp
 have hd':(x.facts .undone k).decided=true:=hd;have hw:(x.facts .undone k).w+1=x.w:=by
  unfold Led.w;have ht':(x.facts .undone k).f.turned=true:=ht;rw [if_pos ht,if_pos ht'];exact Qx3 h1 h2
 rw [TV hd',XZ hd',XZ hd,←hw];have:=Qr3 hx;exact tb_w _ (by omega) _ _ _ _
theorem Qmr {x:Led} {id:Int} {n:Int} (hx:x.ok id) (hy:x.f.yes=true) (hs:x.f.shipped=false) (l:Nat):(x.facts .shipped n).nb l+(x.facts .shipped n).pot l≤x.pot l:=by
 have ht:x.f.turned=false:=by
  cases e:x.f.turned;rfl;exact absurd ⟨hy,e⟩ (Dc hx)
 have hd:x.decided=true:=by unfold Led.decided;rw [hy];rfl
 have hd':(x.facts .shipped n).decided=true:=hd;have hw:x.w=1:=by unfold Led.w;rw [ht,hs];rfl
 have hw':(x.facts .shipped n).w=0:=by
  unfold Led.w;have ht':(x.facts .shipped n).f.turned=false:=ht;have hs':(x.facts .shipped n).f.shipped=true:=rfl;rw [ht',hs'];rfl
 rw [TV hd',XZ hd',XZ hd,hw,hw'];exact tb_w 0 (by omega) _ _ _ _
theorem Qqf {x:Led} (hd:x.decided=false) (l:Nat):15≤x.pot l:=by
 unfold Led.pot Led.be Led.ga;simp only [hd,Bool.false_eq_true,if_false];split<;>omega
theorem Qp9 {x:Led} {id:Int} {n:Int} (hx:x.ok id) (hx':(x.facts .turn n).ok id) (hd:x.decided=false) (l:Nat):(x.facts .turn n).nb l+(x.facts .turn n).pot l≤x.pot l:=by
 obtain ⟨a,b,c,d⟩:=Qc8 hx hd;have hd':(x.facts .turn n).decided=true:=by unfold Led.decided Led.facts;simp
 rw [TV hd',XZ hd']
 show nmx (x.facts .turn n).w x.f.ack0 x.f.ack1+tb (x.facts .turn n).w x.f.ack0 x.f.ack1 x.f.dam0 x.f.dam1≤_
 rw [a,b,c,d];exact Nat.le_trans (Qwd _ (Qr3 hx')) (Qqf hd l)
theorem QD1 {x:Led} {id:Int} {n:Int} (hx:x.ok id) (hx':(x.facts .yes n).ok id) (hd:x.decided=false) (l:Nat):(x.facts .yes n).nb l+(x.facts .yes n).pot l≤x.pot l:=by
 obtain ⟨a,b,c,d⟩:=Qc8 hx hd;have hd':(x.facts .yes n).decided=true:=by unfold Led.decided Led.facts;simp
 rw [TV hd',XZ hd']
 show nmx (x.facts .yes n).w x.f.ack0 x.f.ack1+tb (x.facts .yes n).w x.f.ack0 x.f.ack1 x.f.dam0 x.f.dam1≤_
 rw [a,b,c,d];exact Nat.le_trans (Qwd _ (Qr3 hx')) (Qqf hd l)
theorem QEw {x:Led} {id:Int} {n:Int} (hx:x.ok id) (hd:x.decided=true) (hn:n=1∨n=2) (ha:x.Tf n=false) (l:Nat):(x.facts .ack n).nb l+(x.facts .ack n).pot l≤x.pot l:=by
 have hw:=Qr3 hx;rcases hn with rfl|rfl;have hd':(x.facts .ack 1).decided=true:=hd;have ha:x.f.ack0=false:=ha;rw [TV hd',XZ hd',XZ hd,ha];exact tb_a0 _ hw _ _ _;have hd':(x.facts .ack 2).decided=true:=hd;have ha:x.f.ack1=false:=ha;rw [TV hd',XZ hd',XZ hd,ha];exact tb_a1 _ hw _ _ _
theorem Qus {x:Led} {id:Int} {n:Int} (hx:x.ok id) (hd:x.decided=true) (hn:n=1∨n=2) (ha:x.De n=false) (l:Nat):(x.facts .damage n).nb l+(x.facts .damage n).pot l≤x.pot l:=by
 have hw:=Qr3 hx;rcases hn with rfl|rfl;have hd':(x.facts .damage 1).decided=true:=hd;have ha:x.f.dam0=false:=ha;rw [TV hd',XZ hd',XZ hd,ha];exact tb_d0 _ hw _ _ _;have hd':(x.facts .damage 2).decided=true:=hd;have ha:x.f.dam1=false:=ha;rw [TV hd',XZ hd',XZ hd,ha];exact tb_d1 _ hw _ _ _
theorem Qyt (x:Led) (n:Int) (l:Nat):(x.facts .asked n).pot l=x.pot l:=rfl
theorem Qyb (x:Led) (i:Int) (l:Nat):(x.says i).pot l=x.pot l:=by
 unfold Led.says;split<;>rfl
def opt (f:Led→Nat):Option Led→Nat
 |none=>0
 |some x=>f x
def Qa.g (f:Led→Nat) (c:Qa) (id:Int):Nat:=opt f (Qc c.l id)
def QP (f:Led→Nat) (c:Qa):Nat:=c.g f 1+c.g f 2+c.g f 3+c.g f 4+c.g f 5+c.g f 6
theorem Qk6 {f:Led→Nat} {c c':Qa} {k:Int} (hk:1≤k∧k≤6) (ho:∀id,id≠k→Qc c'.l id=Qc c.l id) {n e:Nat} (h:c'.g f k+n≤c.g f k+e):QP f c'+n≤QP f c+e:=by
 have hq:∀id,id≠k→c'.g f id=c.g f id:=fun id hne=>by unfold Qa.g;rw [ho id hne]
 unfold QP;have hcs:k=1∨k=2∨k=3∨k=4∨k=5∨k=6:=by omega
 rcases hcs with rfl|rfl|rfl|rfl|rfl|rfl;have:=hq 2 (by decide);have:=hq 3 (by decide);have:=hq 4 (by decide);have:=hq 5 (by decide);have:=hq 6 (by decide);omega;have:=hq 1 (by decide);have:=hq 3 (by decide);have:=hq 4 (by decide);have:=hq 5 (by decide);have:=hq 6 (by decide);omega;have:=hq 1 (by decide);have:=hq 2 (by decide);have:=hq 4 (by decide);have:=hq 5 (by decide);have:=hq 6 (by decide);omega;have:=hq 1 (by decide);have:=hq 2 (by decide);have:=hq 3 (by decide);have:=hq 5 (by decide);have:=hq 6 (by decide);omega;have:=hq 1 (by decide);have:=hq 2 (by decide);have:=hq 3 (by decide);have:=hq 4 (by decide);have:=hq 6 (by decide);omega;have:=hq 1 (by decide);have:=hq 2 (by decide);have:=hq 3 (by decide);have:=hq 4 (by decide);have:=hq 5 (by decide);omega
theorem Um {f:Led→Nat} {c c':Qa} (h:∀id,c'.g f id=c.g f id):QP f c'=QP f c:=by unfold QP;rw [h,h,h,h,h,h]
section
variable {c:Qa} {P:Int→Prop} {l:Nat}
theorem Qvu {f:Led→Nat} {id:Int} {x:Led} (h:Qc c.l id=some x):c.g f id=f x:=by unfold Qa.g;rw [h];rfl
theorem Qev (h:CFb P c) {x:Led} (hx:Qc c.l x.o.id=some x):cl l (c.sends x).1≤cl l (Xa x.o x.f)∧∀k,(c.sends x).2.g (Led.pot l) k=c.g (Led.pot l) k:=by
 unfold Qa.sends;split;rw [UO];split;exact ⟨Nat.zero_le _,fun _=>rfl⟩;refine ⟨Nat.le_refl _,fun k=>?_⟩;unfold Qa.g;simp only [if_true];rw [Xl (e:=⟨.asked,x.o.id,[]⟩) hx rfl];split;rename_i e;have e:x.o.id=k:=e;subst e;rw [hx];exact Qyt x _ l;rfl;exact ⟨Nat.le_refl _,fun _=>rfl⟩
theorem Qzt (h:CFb P c) (hl:1≤l∧l≤3) {id:Int} {x:Led} (hx:Qc c.l id=some x):cl l (c.goes id).1≤x.nb l∧∀k,(c.goes id).2.g (Led.pot l) k=c.g (Led.pot l) k:=by
 have hg:=h.ok.get hx;rw [Dl hx hg.1.id];split;exact ⟨Nat.zero_le _,fun _=>rfl⟩;obtain ⟨a,b⟩:=Qev (l:=l) (h.again id) (x:=x) (by rw [hg.1.id];exact hx);exact ⟨Nat.le_trans a (Qp4 hg.1 l hl).1,b⟩
theorem Xv (c:Qa) (e:Nat):cl l []+QP (Led.pot l) c≤QP (Led.pot l) c+e:=by show 0+_≤_;omega
theorem QAx (h:CF c) (hd:c.j.down=false) {e:Entry} {x:Led} (hx:Qc c.l e.id=some x) (hk:e.kd.fact=true) (h6:1≤e.id∧e.id≤6) (hl:1≤l∧l≤3) {c1:Qa} {Q:Int→Prop} (h1:CFb Q c1) (hc1:c1.l=(c.Qq e).l)
 (hev:(x.facts e.kd (e.n.headD 0)).ok e.id→(x.facts e.kd (e.n.headD 0)).nb l+(x.facts e.kd (e.n.headD 0)).pot l≤x.pot l):cl l (c1.goes e.id).1+QP (Led.pot l) (c1.goes e.id).2≤QP (Led.pot l) c:=by
 have hg:=Xl hx hk;have hx1:Qc c1.l e.id=some (x.facts e.kd (e.n.headD 0)):=by rw [hc1,hg,if_pos rfl]
 obtain ⟨a,b⟩:=Qzt h1 hl hx1;have hev:=hev (h1.ok.get hx1).1;rw [Um b];have:=Qk6 (f:=Led.pot l) (c:=c) (c':=c1) h6 (fun id hne=>by rw [hc1,hg,if_neg (Ne.symm hne)]) (n:=(x.facts e.kd (e.n.headD 0)).nb l) (e:=0) (by rw [Qvu hx1,Qvu hx];omega);omega
theorem Ju (h:CF c) (hd:c.j.down=false) {e:Entry} (hf:c.Fits e) (he:e.ok) {x:Led} (hx:Qc c.l e.id=some x) (hk:e.kd.fact=true) (h6:1≤e.id∧e.id≤6) (hl:1≤l∧l≤3)
 (hev:(x.facts e.kd (e.n.headD 0)).ok e.id→(x.facts e.kd (e.n.headD 0)).nb l+(x.facts e.kd (e.n.headD 0)).pot l≤x.pot l):cl l (c.QM e).1+QP (Led.pot l) (c.QM e).2≤QP (Led.pot l) c:=by
 obtain ⟨h1, -⟩:=h.notes hd (UQ hf he);unfold Qa.QM;rw [UO] at h1⊢;exact QBs
theorem Jl (h:CF c) (hd:c.j.down=false) {e:Entry} (hf:c.Fits e) (he:e.ok) {x:Led} (hx:Qc c.l e.id=some x) (hk:e.kd.fact=true) (h6:1≤e.id∧e.id≤6) (hl:1≤l∧l≤3)
 (hev:(x.facts e.kd (e.n.headD 0)).ok e.id→(x.facts e.kd (e.n.headD 0)).nb l+(x.facts e.kd (e.n.headD 0)).pot l≤x.pot l):cl l (c.QN e).1+QP (Led.pot l) (c.QN e).2≤QP (Led.pot l) c:=by
 obtain ⟨h1, -⟩:=h.Qm hd (UQ hf he);unfold Qa.QN;rw [Uv] at h1⊢;exact QBs
theorem Qch (h:CF c) (hd:c.j.down=false) {id:Int} {x:Led} (hx:Qc c.l id=some x) (hdec:x.decided=false) (h6:1≤id∧id≤6) (hl:1≤l∧l≤3):cl l (c.turns id).1+QP (Led.pot l) (c.turns id).2.2≤QP (Led.pot l) c:=by
 have hg:=h.ok.get hx;have:=Jl (l:=l) h hd (.turn id x hx hdec) (QB hg.2.1 hg.2.2 _) hx rfl h6 hl (fun hx'=>Qp9 hg.1 hx' hdec l);rw [←Tv] at this;exact this
theorem Qyq (h:CF c) (hd:c.j.down=false) {x:Led} {m:Msg} (hx:Qc c.l m.id=some x) (h6:1≤m.id∧m.id≤6) (hl:1≤l∧l≤3):cl l (c.steps x m).1+QP (Led.pot l) (c.steps x m).2≤QP (Led.pot l) c:=by
 have hg:=h.ok.get hx;have hlen:=hg.1.o.len;unfold Qa.steps;split;exact Xv c 0;rename_i hsv;have hst:0≤m.step∧m.step<x.o.steps.length:=by
  unfold Led.service at hsv;simp at hsv;omega
 have hno:QU m.step:=QX hst.1 (by omega);split;rename_i hk;exact Qch h hd hx (by simp at hk;exact hk.2) h6 hl;split;split;rename_i hk;simp at hk;obtain ⟨k,e⟩:=Int.eq_ofNat_of_zero_le hst.1;rw [e] at hk hno⊢;exact Ju h hd (.done m.id k x hx hk.1.1 hk.1.2 hk.2) (QH hg.2.1 hg.2.2 _ hno) hx rfl h6 hl (fun _=>QA2 hg.1 hk.1.2 hk.2 l);exact Xv c 0;split;split;rename_i hk;simp at hk;obtain ⟨k,e⟩:=Int.eq_ofNat_of_zero_le hst.1;rw [e] at hk hno⊢;exact Ju h hd (.undone m.id k x hx hk.1 hk.2) (QH hg.2.1 hg.2.2 _ hno) hx rfl h6 hl (fun _=>Qt1 hg.1 hk.1 hk.2 l);exact Xv c 0;exact Xv c 0
theorem Qy9 (h:CF c) (hd:c.j.down=false) {x:Led} {m:Msg} (hx:Qc c.l m.id=some x) (h6:1≤m.id∧m.id≤6) (hl:1≤l∧l≤3):cl l (c.Yo x m).1+QP (Led.pot l) (c.Yo x m).2≤QP (Led.pot l) c:=by
 have hg:=h.ok.get hx;unfold Qa.Yo;split;exact Xv c 0;rename_i a b ht;have hta:=hg.1.tally;rw [ht] at hta;simp at hta;split;exact Jl h hd (.turn m.id x hx hta.2) (QB hg.2.1 hg.2.2 _) hx rfl h6 hl (fun hx'=>Qp9 hg.1 hx' hta.2 l);by_cases hc:(if m.frm=1 then b&& !a else a&& !b)=true;rw [if_pos hc];exact Jl h hd (.yes m.id x hx hta.1 hta.2) (QB hg.2.1 hg.2.2 _) hx rfl h6 hl (fun hx'=>QD1 hg.1 hx' hta.2 l)
 ·rw [if_neg hc]
  show 0+_≤_
  have:∀k,({c with l:=Qt c.l m.id (x.says (m.frm-1))}:Qa).g (Led.pot l) k=c.g (Led.pot l) k:=fun k=>by
   unfold Qa.g;simp only;rw [QS];split;rename_i e;subst e;rw [hx];exact Qyb x _ l;rfl
  rw [Um this];omega
theorem QA4 (h:CF c) (hd:c.j.down=false) {x:Led} {m:Msg} (hx:Qc c.l m.id=some x) (hf:m.frm=1∨m.frm=2) (hk:m.kind=11∨m.kind=17) (h6:1≤m.id∧m.id≤6) (hl:1≤l∧l≤3):cl l (c.Vt x m).1+QP (Led.pot l) (c.Vt x m).2≤QP (Led.pot l) c+one (l+1) m:=by
 have hg:=h.ok.get hx;have hno:QU m.frm:=QX (by omega) (by omega);unfold Qa.Vt;split;exact Xv c _;rename_i hdec;have hdec:x.decided=true:=by simpa using hdec
 split;split;exact Xv c _;rename_i hna;have:=Ju (l:=l) h hd (.ack m.id m.frm x hx hf hdec) (QH hg.2.1 hg.2.2 _ hno) hx rfl h6 hl (fun _=>QEw hg.1 hdec hf (by simpa using hna) l);omega;rename_i h11;have h17:m.kind=17:=by omega
 have h18:one l ⟨18,0,m.frm,m.id,0,0,0⟩≤one (l+1) m:=by
  have:one l ⟨18,0,m.frm,m.id,0,0,0⟩=if l≤1 then 1 else 0:=rfl
  unfold one at this⊢;rw [this,h17]
  show _≤if l+1≤2 then 1 else 0
  split<;>split<;>omega
 split
 show one l _+0+QP _ c≤_
 omega;rename_i hnd;have h2:=Jl (l:=l) h hd (.damage m.id m.frm x hx hf hdec) (QH hg.2.1 hg.2.2 .damage hno) hx rfl h6 hl (fun _=>Qus hg.1 hdec hf (by simpa using hnd) l);unfold Qa.QN at h2;split;rename_i e;rw [if_pos e] at h2;simp only [cl];simp only at h2;omega;rename_i e;rw [if_neg e] at h2;have h2:0+_≤_:=h2
 show 0+_≤_
 omega
theorem Qga (h:CF c) {m:Msg} (hm:m.kind=12∨m.kind=7∨m.kind=8∨m.kind=11∨m.kind=17→m.frm=1∨m.frm=2) (h6:1≤m.id∧m.id≤6) (hl:1≤l∧l≤3):cl l (c.handle m).1+QP (Led.pot l) (c.handle m).2≤QP (Led.pot l) c+one (l+1) m:=by
 unfold Qa.handle;split;exact Xv c _;rename_i hd;have hd:c.j.down=false:=by simpa using hd
 split
 ·rename_i h12;have h4:one (l+1) m=1:=by unfold one;rw [h12];exact if_pos (by show l+1≤4;omega)
  have h1:cl l (c.tells m)≤1:=by
   have ho:∀x,one l x≤1:=fun x=>by unfold one;split<;>omega
   have a:=ho ⟨14,0,m.frm,m.id,0,0,0⟩;have b:=ho ⟨13,0,m.frm,m.id,0,0,0⟩;unfold Qa.tells;split;simp only [cl];omega;split;simp only [cl];omega;split;simp only [cl];omega;exact Nat.zero_le _
  show cl l (c.tells m)+QP (Led.pot l) c≤_
  omega
 split;exact Xv c _;rename_i x hx;have hg:=h.ok.get hx;split;have:=Qyq (l:=l) h hd hx h6 hl;omega;split;have:=Qy9 (l:=l) h hd hx h6 hl;omega;split;exact QA4 h hd hx (hm (by omega)) ‹_› h6 hl;split;split;rename_i hc;simp at hc;have:=Ju (l:=l) h hd (.shipped m.id x hx hc.1.2) (QB hg.2.1 hg.2.2 _) hx rfl h6 hl (fun _=>Qmr hg.1 hc.1.2 hc.2 l);omega;exact Xv c _;exact Xv c _
def Qa.dec (c:Qa) (id:Int):Nat:=match Qc c.l id with
 |none=>0
 |some x=>if x.decided=true then 1 else 0
theorem Qp8 (h:CF c) {id:Int} (h6:1≤id∧id≤6):(1≤l∧l≤2→cl l (c.ring id).1+QP (Led.pot l) (c.ring id).2≤QP (Led.pot l) c+3)∧cl 3 (c.ring id).1+QP (Led.pot 3) (c.ring id).2≤QP (Led.pot 3) c+2*(c.ring id).2.dec id:=by
 unfold Qa.ring;split;exact ⟨fun _=>Xv c 3,Xv c _⟩;rename_i hd;have hd:c.j.down=false:=by simpa using hd
 split;exact ⟨fun _=>Xv c 3,Xv c _⟩;rename_i x hx;have hg:=(h.ok.get hx).1;have hid:=hg.id;split;exact ⟨fun _=>Xv c 3,Xv c _⟩;have hb:=h.Qa8 id;have hsend:∀c2:Qa,CF c2→c2.l=c.l→(1≤l∧l≤2→cl l (c2.sends x).1+QP (Led.pot l) (c2.sends x).2≤QP (Led.pot l) c+3)∧cl 3 (c2.sends x).1+QP (Led.pot 3) (c2.sends x).2≤QP (Led.pot 3) c+2*(c2.sends x).2.dec id:=by
  intro c2 h2 hl2;have hx2:Qc c2.l x.o.id=some x:=by rw [hl2,hid];exact hx
  obtain ⟨a1,b1⟩:=Qev (l:=l) h2 hx2;obtain ⟨a3,b3⟩:=Qev (l:=3) h2 hx2;have hs:∀f:Led→Nat,QP f c2=QP f c:=fun f=>Um (fun k=>by unfold Qa.g;rw [hl2]);rw [Um b1,Um b3,hs,hs];have hn3:=(Qp4 hg 3 (by omega)).2;refine ⟨fun hl=>?_,?_⟩
  ·have:cl l (Xa x.o x.f)≤(Xa x.o x.f).length:=by
    rw [←Qam];rcases (show l=1∨l=2 by omega) with rfl|rfl;exact Nat.le_refl _;exact cl_le 1 _
   have:=DF x.o x.f;omega
  ·have hdec:(c2.sends x).2.dec id=if x.decided=true then 1 else 0:=by
    unfold Qa.sends;split;rw [UO];split
    show Qa.dec c2 id=_
    unfold Qa.dec;rw [hl2,hx]
    show Qa.dec (c2.Qq _) id=_
    unfold Qa.dec;rw [Xl (e:=⟨.asked,x.o.id,[]⟩) hx2 rfl,if_pos hid];rfl
    show Qa.dec c2 id=_
    unfold Qa.dec;rw [hl2,hx]
   rw [hdec];split;rename_i e;rw [if_pos e] at hn3;omega;rename_i e;rw [if_neg e] at hn3;omega
 split;split;rename_i hdec;have e1:∀f:Led→Nat,QP f ({c with Qf:=(c.Qf.ring id).2.2}:Qa)=QP f c:=fun f=>rfl;refine ⟨fun hl=>?_,?_⟩;have:=Qch (l:=l) hb hd hx hdec h6 (by omega);rw [e1] at this;exact Nat.le_trans this (Nat.le_add_right _ _);have:=Qch (l:=3) hb hd hx hdec h6 (by omega);rw [e1] at this;exact Nat.le_trans this (Nat.le_add_right _ _);exact hsend _ (hb.again id) rfl;exact hsend _ hb rfl
end
end Go.Proofs.YtlnghlamnehfjaaGreatDoor.S
