/- Part Q42. -/
import Derived.Test.YtlnghlamnehfjaaGreatDoorQ41
set_option linter.unusedVariables false
set_option linter.unusedSimpArgs false
set_option maxRecDepth 100000
set_option maxHeartbeats 64000000
namespace Go.Proofs.YtlnghlamnehfjaaGreatDoor.S
open Go.RowKit Go.Maps
def Qb.ZP (H:Qb) (q:List Msg):Qb:= {H with p:=⟨H.p.most,q,H.p.lost⟩}
structure Up (H:Qb):Prop where
 c:H.c.j.down=false
 k0:H.k0.j.down=false
 k1:H.k1.j.down=false
 s:H.s.j.down=false
 v0:H.v0.j.down=false
 v1:H.v1.j.down=false
 v2:H.v2.j.down=false
theorem KL (s:Qe) (m:Msg):(s.handle m).2.j.down=s.j.down:=by
 have hn:∀(t:Qe) (e:Entry),(t.notes e).2.j.down=t.j.down:=fun t e=>by
  unfold Qe.notes;split;rfl;rw [(DN _ e).1]
  show (t.j.add e).2.down=_
  exact Ug _ _
 unfold Qe.handle;split;rfl;simp only;unfold Qe.asked Qe.does Qe.XN;repeat' split
 all_goals first|rfl|exact hn _ _
theorem Qo6 (s:Qh) (m:Msg):(s.handle m).2.j.down=s.j.down:=by
 unfold Qh.handle;split;rfl;simp only;unfold Qh.Kc;split;rfl;split;rfl;rw [(Df _ _).1]
 show (s.j.add _).2.down=_
 exact Ug _ _
theorem Qcb (k:Qd) (m:Msg):(k.handle m).2.j.down=k.j.down:=by
 unfold Qd.handle;split;rfl;simp only;split;rw [(KS _ _ _ _ _).1];rw [(TU _ _).2.2.1,(KS _ _ _ _ _).1]
section
variable {H:Qb} {l:Nat}
theorem Up.gives (h:Up H) (hs:HS H) {l0:List Msg} {m:Msg} (hm:m∈H.p.l):Up ((H.ZP l0).gives m):=by
 have hmo:=hs.fine.ms m hm;unfold Qb.gives Qb.ZP;split
 ·rename_i ht;have h12:m.kind=12→H.c.j.down=false→(Qc H.c.l m.id).isSome=true:=fun hk _=>by
   obtain ⟨x,hx⟩:=hs.safe.m12 m hm (.inl hk);obtain ⟨y,hy, -⟩:=(XD hs.fine.c h.c m.id).2 hx;rw [hy];rfl
  exact ⟨(Zp hs.fine.c (hmo.c ht) h12).down.trans h.c,h.k0,h.k1,h.s,h.v0,h.v1,h.v2⟩
 split;exact ⟨h.c,(Qcb _ _).trans h.k0,h.k1,h.s,h.v0,h.v1,h.v2⟩;split;exact ⟨h.c,h.k0,(Qcb _ _).trans h.k1,h.s,h.v0,h.v1,h.v2⟩;split;exact ⟨h.c,h.k0,h.k1,(Qo6 _ _).trans h.s,h.v0,h.v1,h.v2⟩;split;exact ⟨h.c,h.k0,h.k1,h.s,(KL _ _).trans h.v0,h.v1,h.v2⟩;split;exact ⟨h.c,h.k0,h.k1,h.s,h.v0,(KL _ _).trans h.v1,h.v2⟩;exact ⟨h.c,h.k0,h.k1,h.s,h.v0,h.v1,(KL _ _).trans h.v2⟩
theorem Up.Qo (h:Up H) (hs:HS H) (i id:Int):Up (H.Qo i id).2:=by
 unfold Qb.Qo;split;exact h;split;exact ⟨(Zf hs.fine.c id (fun _ _=>False)).down.trans h.c,h.k0,h.k1,h.s,h.v0,h.v1,h.v2⟩;split<;>exact ⟨h.c,h.k0,h.k1,h.s,h.v0,h.v1,h.v2⟩
theorem take_nil (h:H.p.l= []):(H.take 5 0).2=H:=by
 have:H.p.has 0=false:=by unfold Post.has;rw [h];rfl
 unfold Qb.take;rw [if_pos this]
theorem XR {m:Msg} {q:List Msg} (h:H.p.l=m::q):(H.take 5 0).2=(H.ZP q).gives m:=by
 have h1:H.p.has 0=true:=by unfold Post.has;rw [h];simp
 have h2:H.p.l[(0:Int).toNat]? =some m:=by rw [h];rfl
 unfold Qb.take;rw [if_neg (by simp [h1]),h2];simp only [Int.reduceEq,if_false,if_true];unfold Qb.without Qb.ZP;rw [show (0:Int).toNat=0 from rfl,h];rfl
theorem HS.take1 (h:HS H):HS (H.take 5 0).2:=h.take 5 0
theorem Up.take1 (h:Up H) (hs:HS H):Up (H.take 5 0).2:=by
 cases hq:H.p.l with
 |nil=>rw [take_nil hq];exact h
 |cons m q=>rw [XR hq];exact h.gives hs (by rw [hq];simp)
theorem HS.takes:∀(n:Nat) {H:Qb},HS H→HS (Qb.takes n H)
 |0,_,h=>h
 |n+1,_,h=>HS.takes n h.take1
theorem Up.takes:∀(n:Nat) {H:Qb},Up H→HS H→Up (Qb.takes n H)
 |0,_,h,_=>h
 |n+1,_,h,hs=>Up.takes n (h.take1 hs) hs.take1
theorem HS.rings:∀(ids:List Int) {H:Qb} (i:Int),HS H→(∀id∈ids,1≤id∧id≤999)→HS (H.rings i ids)
 | [],_,_,h,_=>h
 |id::r,_,i,h,hi=>HS.rings r i (h.Qo i (hi id (by simp)).1 (hi id (by simp)).2) (fun k hk=>hi k (by simp [hk]))
theorem Up.rings:∀(ids:List Int) {H:Qb} (i:Int),Up H→HS H→(∀id∈ids,1≤id∧id≤999)→Up (H.rings i ids)
 | [],_,_,h,_,_=>h
 |id::r,_,i,h,hs,hi=>Up.rings r i (h.Qo hs i id) (hs.Qo i (hi id (by simp)).1 (hi id (by simp)).2) (fun k hk=>hi k (by simp [hk]))
theorem one_one (l:Nat) (m:Msg):one l m≤1:=by unfold one;split<;>omega
theorem Zw (k:Qd) (m:Msg):cl l (k.handle m).1≤one (l+1) m:=by
 have key:∀x:Msg,lev x.kind+1≤lev m.kind→one l x≤one (l+1) m:=fun x hx=>by
  unfold one;split<;>split<;>omega
 unfold Qd.handle;split;exact Nat.zero_le _;simp only;generalize (if (Qr (mgi k.st m.id) m.kind (k.can m.kind m.id m.a m.b).1).1=mgi k.st m.id then (true,(k.can m.kind m.id m.a m.b).2) else (k.can m.kind m.id m.a m.b).2.notes (Kk (Qr (mgi k.st m.id) m.kind (k.can m.kind m.id m.a m.b).1).1 m.id m.a m.b)).1=ok;split;exact Nat.zero_le _;split;exact Nat.zero_le _;rename_i hz;have hl:lev (Qr (mgi k.st m.id) m.kind (k.can m.kind m.id m.a m.b).1).2+1≤lev m.kind:=by
  rcases Qfi (mgi k.st m.id) m.kind (k.can m.kind m.id m.a m.b).1 with e|⟨e0,⟨a,e|e⟩|⟨a,e⟩|⟨a,e⟩⟩|⟨e0,⟨a,e⟩|⟨a,e⟩|⟨a,e⟩⟩|⟨e0,⟨a,e⟩|⟨a,e⟩|⟨a,e⟩⟩|⟨e0,⟨a,e⟩|⟨a,e⟩⟩;rw [e] at hz;exact absurd rfl hz;all_goals
   rw [e];simp only;first
    |(rw [e0];decide)
    |(rcases e0 with e0|e0<;>rw [e0]<;>decide)
 have:=key ⟨(Qr (mgi k.st m.id) m.kind (k.can m.kind m.id m.a m.b).1).2,k.node,if (Qr (mgi k.st m.id) m.kind (k.can m.kind m.id m.a m.b).1).2=11∨(Qr (mgi k.st m.id) m.kind (k.can m.kind m.id m.a m.b).1).2=17 then 0 else m.frm,m.id,0,0,0⟩ hl;simp only [cl];omega
theorem Yb (s:Qe) {m:Msg} (hk:m.kind=1∨m.kind=4):cl l (s.handle m).1≤one (l+1) m:=by
 have hlen:(s.handle m).1.length≤1:=by
  unfold Qe.handle;split;exact Nat.zero_le _;simp only;split<;>simp
 cases hq:(s.handle m).1 with
 |nil=>exact Nat.zero_le _
 |cons x r=>
  have hx:=ZF (s:=s) (m:=m) (x:=x) (by rw [hq];simp);rw [hq] at hlen;have:r= []:=List.eq_nil_of_length_eq_zero (by simp at hlen;simpa using hlen);subst this;have h1:lev x.kind=1:=by rcases hx with e|e|e<;>rw [e]<;>rfl
  have h2:lev m.kind=2:=by rcases hk with e|e<;>rw [e]<;>rfl
  simp only [cl,one,h1,h2];split<;>split<;>omega
theorem Kr (s:Qh) {m:Msg} (hk:m.kind=15):cl l (s.handle m).1≤one (l+1) m:=by
 have hlen:(s.handle m).1.length≤1:=by
  unfold Qh.handle;split;exact Nat.zero_le _;simp only;split<;>simp
 cases hq:(s.handle m).1 with
 |nil=>exact Nat.zero_le _
 |cons x r=>
  have hx:=JW (s:=s) (m:=m) (x:=x) (by rw [hq];simp);rw [hq] at hlen;have:r= []:=List.eq_nil_of_length_eq_zero (by simp at hlen;simpa using hlen);subst this;have h1:lev x.kind=1:=by rw [hx];rfl
  have h2:lev m.kind=2:=by rw [hk];rfl
  simp only [cl,one,h1,h2];split<;>split<;>omega
theorem Qro (hs:HS H) {l0:List Msg} {m:Msg} (hm:m∈H.p.l) (hl:1≤l∧l≤3) (r:Nat):
 phi l r ((H.ZP l0).gives m).p.l+QP (Led.pot l) ((H.ZP l0).gives m).c≤phi l r l0+QP (Led.pot l) H.c+one (l+1) m:=by
 have hmo:=hs.fine.ms m hm;have h6:=hs.ids m hm;have hp:∀ms:List Msg,phi l r ((⟨H.p.most,l0,H.p.lost⟩:Post).puts ms).l≤phi l r l0+cl l ms:=fun ms=>Dy l r ms _;unfold Qb.gives Qb.ZP;split;rename_i ht;have h1:=Qga (l:=l) hs.fine.c (hmo.c ht) h6 hl;have h2:=hp (H.c.handle m).1;simp only;omega;split;have h1:=Zw (l:=l) H.k0 m;have h2:=hp (H.k0.handle m).1;simp only;omega;split;have h1:=Zw (l:=l) H.k1 m;have h2:=hp (H.k1.handle m).1;simp only;omega;split;have h1:=Kr (l:=l) H.s (hmo.s ‹_›).1;have h2:=hp (H.s.handle m).1;simp only;omega;have hto:=hmo.dst;have hv:=(hmo.v (by omega)).2.2.1;split;have h1:=Yb (l:=l) H.v0 hv;have h2:=hp (H.v0.handle m).1;simp only;omega;split;have h1:=Yb (l:=l) H.v1 hv;have h2:=hp (H.v1.handle m).1;simp only;omega;have h1:=Yb (l:=l) H.v2 hv;have h2:=hp (H.v2.handle m).1;simp only;omega
theorem Qhj (hl:1≤l∧l≤3):∀(n:Nat) {H:Qb},HS H→phi l 0 (Qb.takes n H).p.l+QP (Led.pot l) (Qb.takes n H).c≤phi l n H.p.l+QP (Led.pot l) H.c
 |0,_,_=>Nat.le_refl _
 |n+1,H,hs=>by
  have h1:=Qhj hl n hs.take1;refine Nat.le_trans h1 ?_;cases hq:H.p.l with
  |nil=>
   rw [take_nil hq,hq];cases n<;>exact Nat.le_refl _
  |cons m q=>
   rw [XR hq];have:=Qro hs (l0:=q) (m:=m) (by rw [hq];simp) hl n;simp only [phi];omega
theorem Qda (hl:1≤l∧l≤3) (hs:HS H):cl l (Qb.takes H.p.l.length H).p.l+QP (Led.pot l) (Qb.takes H.p.l.length H).c≤cl (l+1) H.p.l+QP (Led.pot l) H.c:=by
 have:=Qhj hl H.p.l.length hs;rw [Tp,Qbl l _ _ (Nat.le_refl _)] at this;exact this
theorem Dw (p:Post) (ms:List Msg):cl l (p.puts ms).l≤cl l p.l+cl l ms:=by
 have:=Dy l 0 ms p;rw [Tp,Tp] at this;exact this
theorem Qj9 (h:HS H) (hu:Up H) {id:Int} (h6:1≤id∧id≤6):(1≤l∧l≤2→cl l (H.Qo 0 id).2.p.l+QP (Led.pot l) (H.Qo 0 id).2.c≤cl l H.p.l+QP (Led.pot l) H.c+3)∧
 cl 3 (H.Qo 0 id).2.p.l+QP (Led.pot 3) (H.Qo 0 id).2.c≤cl 3 H.p.l+QP (Led.pot 3) H.c+2*(H.Qo 0 id).2.c.dec id:=by
 have he:(H.Qo 0 id).2= {H with c:=(H.c.ring id).2,p:=H.p.puts (H.c.ring id).1}:=by
  unfold Qb.Qo;rw [if_neg (by unfold Qb.Qv;simp [hu.c]),if_pos rfl]
 obtain ⟨a,b⟩:=Qp8 (l:=l) h.fine.c h6;rw [he];simp only;refine ⟨fun hl=>?_,?_⟩;have:=a hl;have:=Dw (l:=l) H.p (H.c.ring id).1;omega;have:=Dw (l:=3) H.p (H.c.ring id).1;omega
theorem Qf5 (hl:1≤l∧l≤2):∀(ids:List Int) {H:Qb},HS H→Up H→(∀id∈ids,1≤id∧id≤6)→cl l (H.rings 0 ids).p.l+QP (Led.pot l) (H.rings 0 ids).c≤cl l H.p.l+QP (Led.pot l) H.c+3*ids.length
 | [],_,_,_,_=>Nat.le_refl _
 |id::r,H,hs,hu,hi=>by
  have h6:=hi id (by simp);have h1:=(Qj9 (l:=l) hs hu h6).1 hl;have h2:=Qf5 hl r (hs.Qo 0 h6.1 (by omega)) (hu.Qo hs 0 id) (fun k hk=>hi k (by simp [hk]))
  show cl l ((H.Qo 0 id).2.rings 0 r).p.l+QP (Led.pot l) ((H.Qo 0 id).2.rings 0 r).c≤_
  simp only [List.length_cons];omega
theorem Qxj {c c':Qa} (hk:∀id x,Qc c.l id=some x→∃y,Qc c'.l id=some y∧Xc x y) (id:Int):c.dec id≤c'.dec id:=by
 unfold Qa.dec;cases hx:Qc c.l id with
 |none=>exact Nat.zero_le _
 |some x=>
  obtain ⟨y,hy,hl⟩:=hk id x hx;rw [hy];simp only;split
  ·rename_i hd;have:y.decided=true:=by
    unfold Led.decided at hd⊢;simp only [Bool.or_eq_true] at hd⊢;exact hd.imp (hl.fl 6) (hl.fl 7)
   rw [if_pos this];omega
  exact Nat.zero_le _
theorem Qdf (hs:HS H) (i id:Int):∀k x,Qc H.c.l k=some x→∃y,Qc (H.Qo i id).2.c.l k=some y∧Xc x y:=by
 unfold Qb.Qo;split;exact (Rel.refl _).keep;split;exact (Zf hs.fine.c id (fun _ _=>False)).keep;split<;>exact (Rel.refl _).keep
theorem KR:∀(ids:List Int) {H:Qb} (i:Int),HS H→(∀id∈ids,1≤id∧id≤999)→∀k x,Qc H.c.l k=some x→∃y,Qc (H.rings i ids).c.l k=some y∧Xc x y
 | [],_,_,_,_=>(Rel.refl _).keep
 |id::r,H,i,hs,hi=>fun k x hx=>by
  obtain ⟨y,hy,h1⟩:=Qdf hs i id k x hx;obtain ⟨z,hz,h2⟩:=KR r i (hs.Qo i (hi id (by simp)).1 (hi id (by simp)).2) (fun k hk=>hi k (by simp [hk])) k y hy;exact ⟨z,hz,h1.trans h2⟩
def Qmu (c:Qa):List Int→Nat
 | []=>0
 |id::r=>c.dec id+Qmu c r
theorem Qeg:∀(ids:List Int) {H:Qb},HS H→Up H→(∀id∈ids,1≤id∧id≤6)→cl 3 (H.rings 0 ids).p.l+QP (Led.pot 3) (H.rings 0 ids).c≤cl 3 H.p.l+QP (Led.pot 3) H.c+2*Qmu (H.rings 0 ids).c ids
 | [],_,_,_,_=>Nat.le_refl _
 |id::r,H,hs,hu,hi=>by
  have h6:=hi id (by simp);have h1:=(Qj9 (l:=1) hs hu h6).2;have hs':=hs.Qo 0 h6.1 (show id≤999 by omega);have hi':∀k∈r,1≤k∧k≤6:=fun k hk=>hi k (by simp [hk]);have h2:=Qeg r hs' (hu.Qo hs 0 id) hi';have h3:=Qxj (KR r 0 hs' (fun k hk=>⟨(hi' k hk).1,by have:=(hi' k hk).2;omega⟩)) id
  show cl 3 ((H.Qo 0 id).2.rings 0 r).p.l+QP (Led.pot 3) ((H.Qo 0 id).2.rings 0 r).c≤_
  show _≤_+2*(((H.Qo 0 id).2.rings 0 r).c.dec id+Qmu ((H.Qo 0 id).2.rings 0 r).c r)
  omega
theorem Qy8 (i:Int) (hi:i=1∨i=2) (id:Int):cl l (H.Qo i id).2.p.l≤cl l H.p.l+2∧(H.Qo i id).2.c=H.c∧(H.Qo i id).2.k0=H.k0∧(H.Qo i id).2.k1=H.k1:=by
 have hk:∀k:Qd,cl l (k.ring id)≤2:=fun k=>by
  have h1:∀q:List Msg,cl l q≤q.length:=fun q=>by
   induction q with
   |nil=>exact Nat.le_refl _
   |cons m r ih=>have:=one_one l m;simp only [cl,List.length_cons];omega
  exact Nat.le_trans (h1 _) (Uf k id)
 unfold Qb.Qo;split;exact ⟨Nat.le_add_right _ _,rfl,rfl,rfl⟩;split;omega;split;have:=Dw (l:=l) H.p (H.k0.ring id);have:=hk H.k0;exact ⟨by simp only;omega,rfl,rfl,rfl⟩;have:=Dw (l:=l) H.p (H.k1.ring id);have:=hk H.k1;exact ⟨by simp only;omega,rfl,rfl,rfl⟩
theorem Ub (i:Int) (hi:i=1∨i=2):∀(ids:List Int) {H:Qb},cl l (H.rings i ids).p.l≤cl l H.p.l+2*ids.length∧(H.rings i ids).c=H.c∧(H.rings i ids).k0=H.k0∧(H.rings i ids).k1=H.k1
 | [],_=>⟨Nat.le_refl _,rfl,rfl,rfl⟩
 |id::r,H=>by
  obtain ⟨a,b,c,d⟩:=Qy8 (l:=l) (H:=H) i hi id;obtain ⟨a',b',c',d'⟩:=Ub i hi r (H:=(H.Qo i id).2);simp only [List.length_cons];exact ⟨by show cl l ((H.Qo i id).2.rings i r).p.l≤_;omega,b'.trans b,c'.trans c,d'.trans d⟩
end
def S6 (f:Int→Nat):Nat→Nat
 |0=>0
 |n+1=>f (6-n)+S6 f n
def Qov (f:Int→Nat):List Int→Nat
 | []=>0
 |x::r=>f x+Qov f r
theorem sum6 (f:Int→Nat):∀(n:Nat) (l:List Int),l.Pairwise (· < ·)→(∀x∈l,7-(n:Int)≤x∧x≤6)→Qov f l≤S6 f n
 |0,[],_,_=>Nat.le_refl _
 |0,x::r,_,h=>by have:=h x (by simp);omega
 |n+1,[],_,_=>Nat.zero_le _
 |n+1,x::r,hp,h=>by
  have hp':=List.pairwise_cons.1 hp;have hx:=h x (by simp);by_cases e:x=6-(n:Int);subst e;have:=sum6 f n r hp'.2 (fun y hy=>by have:=hp'.1 y hy;have:=h y (by simp [hy]);omega);simp only [Qov,S6];omega
  ·have:=sum6 f n (x::r) hp (fun y hy=>by
    rcases List.mem_cons.1 hy with rfl|hy;omega;have:=hp'.1 y hy;have:=h y (by simp [hy]);omega)
   simp only [S6];omega
theorem len6 {l:List Int} (hp:l.Pairwise (· < ·)) (h:∀x∈l,1≤x∧x≤6):l.length≤6:=by
 have h1:=sum6 (fun _=>1) 6 l hp (fun x hx=>by have:=h x hx;omega);have h2:∀l:List Int,Qov (fun _=>1) l=l.length:=fun l=>by
  induction l with
  |nil=>rfl
  |cons a r ih=>simp only [Qov,ih,List.length_cons];omega
 rw [h2] at h1;exact h1
theorem Qzs {c:Qa} (h:c.ok):c.ids.Pairwise (· < ·):=by
 unfold Qa.ids;rw [List.pairwise_map];exact h.keys.1
theorem Qu8 {es:List Entry} (h:∀e∈es,KpE e):Ql (kst es):=by
 unfold kst;have key:∀(es:List Entry) (st:IM Int),Ql st→(∀e∈es,KpE e)→Ql (es.foldl Ka st):=by
  intro es
  induction es with
  |nil=>intro st h _;exact h
  |cons e r ih=>
   intro st hs he;refine ih _ ?_ (fun x hx=>he x (by simp [hx]));have:=he e (by simp);cases this with
   |ready id a q h0 h1 ha hq0 hq1=>exact hs.put _ h0 h1
   |yes id h0 h1=>exact hs.put _ h0 h1
   |no id h0 h1=>exact hs.put _ h0 h1
   |fyes id h0 h1=>exact hs.put _ h0 h1
   |fno id h0 h1=>exact hs.put _ h0 h1
 exact key es [] Ql.nil h
theorem Qyi {m:IM Int} (hk:Ql m) {p:Int×Int} (hp:p∈m):mgi m p.1=p.2:=by
 have h1:=hk.1;unfold mgi
 suffices h:Qc m p.1=some p.2 by rw [h];rfl
 clear hk
 induction m with
 |nil=>cases hp
 |cons a r ih=>
  have h2:=List.pairwise_cons.1 h1;unfold Qc;rcases List.mem_cons.1 hp with rfl|hp;simp;have hne:¬a.1=p.1:=by have:=h2.1 p hp;omega
  rw [List.find?_cons_of_neg (by simpa using hne)];exact ih hp h2.2
theorem Qsw {k:Qd} (h:KI k) (hk:∀e∈k.j.es,KpE e) (hd:k.j.down=false):(∀id,id∈k.waits↔k.kv id=1)∧k.waits.Pairwise (· < ·):=by
 have hs:=h.st hd;have hkk:=Qu8 hk;rw [←hs] at hkk;refine ⟨fun id=>?_,?_⟩
 ·rw [←h.get hd];unfold Qd.waits;refine ⟨fun hm=>?_,fun hm=>?_⟩;obtain ⟨p,hp,rfl⟩:=List.mem_map.1 hm;rw [List.mem_filter] at hp;rw [Qyi hkk hp.1];simpa using hp.2
  ·unfold mgi at hm;cases e:Qc k.st id with
   |none=>rw [e] at hm;cases hm
   |some v=>
    rw [e] at hm;have hv:v=1:=hm;subst hv;exact List.mem_map.2 ⟨(id,1),List.mem_filter.2 ⟨Xe e,by simp⟩,rfl⟩
 unfold Qd.waits;rw [List.pairwise_map];exact List.Pairwise.sublist (List.filter_sublist) hkk.1
theorem QBy {P:Prop} (h:P:=by
 have hs:∀s,stg s≤2:=fun s=>by unfold stg;split;omega;split<;>omega
 refine Qjb 999 2 _ (fun e he=>?_) (fun id=>Nat.le_trans (h.cnt id) (hs _));have:=hf.es e he;cases this<;>exact ⟨‹_›,‹_›⟩):P:=h
theorem Qjb:∀(N:Nat) (K:Nat) (es:List Entry),(∀e∈es,1≤e.id∧e.id≤(N:Int))→(∀id,Tk es id≤K)→es.length≤N*K
 |0,K,es,h,_=>by
  cases es with
  |nil=>exact Nat.zero_le _
  |cons e r=>have:=h e (by simp);omega
 |N+1,K,es,h,hc=>by
  have h1:=Qjb N K (es.filter fun e:Entry=>!decide (e.id=(N:Int)+1)) (fun e he=>by
   rw [List.mem_filter] at he;have:=h e he.1;have h2:¬e.id=(N:Int)+1:=by simpa using he.2
   omega) (fun id=>by
   refine Nat.le_trans ?_ (hc id);unfold Tk;exact List.Sublist.countP_le List.filter_sublist)
  have h2:es.length=Tk es ((N:Int)+1)+(es.filter fun e:Entry=>!decide (e.id=(N:Int)+1)).length:=by
   unfold Tk;rw [←List.countP_eq_length_filter];rw [List.length_eq_countP_add_countP (p:=fun e:Entry=>decide (e.id=(N:Int)+1))];simp
  have:=hc ((N:Int)+1);rw [Nat.succ_mul];omega
theorem Qto {H:Qb} (h:HS H):H.c.j.es.length≤120:=by
 have hw:∀id,owt (Qc H.c.V id)≤20:=fun id=>by
  cases hx:Qc H.c.V id with
  |none=>exact Nat.zero_le _
  |some x=>
   obtain ⟨y,hy,h1,h2⟩:=V_ok h.fine.c hx;have:=hy.o.len;rw [h2] at this;have h3:(List.range 16).countP x.known≤16:=by
    have:=List.countP_le_length (p:=x.known) (l:=List.range 16);simpa using this
   show x.wt≤20
   unfold Led.wt;omega
 refine Qjb 6 20 _ (fun e he=>?_) (fun id=>Nat.le_trans (h.gj.all id) (hw id));have h1:1≤Tk H.c.j.es e.id:=by
  unfold Tk;exact List.countP_pos_iff.2 ⟨e,he,by simp⟩
 have h2:=h.gj.all e.id;cases hx:Qc (Qa.nil.Qi H.c.j.es).l e.id with
 |none=>rw [hx] at h2;have:owt none=0:=rfl;omega
 |some x=>
  have:=h.six e.id ⟨x,hx⟩;omega
theorem Qc7 {n:Int} {k:Qd} (h:KI k) (hf:KF n k):k.j.es.length≤1998:=by
 exact QBy
def Qek (st:IM Int) (e:Entry):IM Int:=match e.kd with
 |.did=>Qt st e.id 1
 |.cant=>Qt st e.id 2
 |.undid=>Qt st e.id 3
 |_=>st
def vst (es:List Entry):IM Int:=es.foldl Qek []
theorem Qgu (s:Qe) (e:Entry):(s.Qg e).st=Qek s.st e:=by
 unfold Qe.Qg Qek;split<;>simp_all
theorem Qo1 (es:List Entry):∀s:Qe,(s.Qi es).st=es.foldl Qek s.st:=by
 induction es with
 |nil=>intro s;rfl
 |cons e r ih=>intro s;show ((s.Qg e).Qi r).st=_;rw [ih,Qgu];rfl
structure SvI (s:Qe):Prop where
 st:s.j.down=false→s.st=vst s.j.es
 sure:s.j.sure=s.j.es.length
 cnt:∀id,Tk s.j.es id≤stg (mgi (vst s.j.es) id)
 room:s.j.room=4096
theorem Qp1 (es:List Entry) (e:Entry):vst (es++ [e])=Qek (vst es) e:=by unfold vst;rw [List.foldl_append];rfl
theorem SvI.book {s:Qe} (h:SvI s) (t:Xj):SvI {s with book:=t}:=⟨h.st,h.sure,h.cnt,h.room⟩
theorem SvI.notes {s:Qe} (h:SvI s) (hd:s.j.down=false) {e:Entry} {v:Int} (hv:∀st id,mgi (Qek st e) id=if e.id=id then v else mgi st id) (hs:stg (mgi s.st e.id)+1≤stg v):SvI (s.notes e).2∧(s.j.es.length<4096→(s.notes e).1=true):=by
 unfold Qe.notes;split;rename_i hr;exact ⟨h,fun hl=>by rw [h.room] at hr;omega⟩;rename_i hr;have hj:(s.j.add e).2= {s.j with es:=s.j.es++ [e]}:=by unfold Jrn.add;rw [if_neg hr]
 obtain ⟨h1,h2⟩:=DN ({s with j:=(s.j.add e).2.sync}:Qe) e;have hes:(({s with j:=(s.j.add e).2.sync}:Qe).Qg e).j.es=s.j.es++ [e]:=by rw [h1,hj];rfl
 refine ⟨⟨fun hd'=>?_,?_,fun id=>?_,?_⟩,fun _=>rfl⟩;rw [Qgu,hes,Qp1]
 show Qek s.st e=_
 rw [h.st hd];rw [h1,hj];rfl;simp only;rw [hes,Jf,Qp1,hv];have:=h.cnt id;rw [h.st hd] at hs;split;rename_i e';subst e';omega;omega;rw [h1,hj];exact h.room
theorem SvI.Qj {s:Qe} (h:SvI s) (stay:Int):SvI (s.Qj stay):=by
 unfold Qe.Qj;split;exact h
 ·have he:(s.j.Qj stay).es=s.j.es:=by
   show s.j.es.take _=_
   exact List.take_of_length_le (by rw [←h.sure];unfold Jrn.keep;omega)
  refine ⟨fun hd=>(by cases hd),?_,fun id=>?_,h.room⟩
  show s.j.sure=((s.j.Qj stay).es).length
  rw [he];exact h.sure
  show Tk (s.j.Qj stay).es id≤stg (mgi (vst (s.j.Qj stay).es) id)
  rw [he];exact h.cnt id
theorem SvI.start {s:Qe} (h:SvI s):SvI s.start:=by
 unfold Qe.start;split;obtain ⟨h1,h2⟩:=Ki s.j.es (({s with j:=s.j.recover}:Qe).forget);refine ⟨fun _=>?_,by rw [h1];rfl,fun id=>?_,by rw [h1];exact h.room⟩;rw [Qo1,h1];rfl;rw [h1];exact h.cnt id;exact h
theorem SvI.asked {s:Qe} (h:SvI s) (hd:s.j.down=false) {m:Msg}:SvI (s.asked m).2:=by
 have h3:∀v,stg v≤2:=fun v=>by unfold stg;split;omega;split<;>omega
 unfold Qe.asked;split;unfold Qe.does;split;exact h;split;rename_i h0;split;exact ((h.book ((s.book.take m.id m.a).2.back m.id).2).notes hd (e:=⟨.did,m.id,[m.a]⟩) (v:=1) (fun st id=>UX _ _ _ _) (by show stg (mgi s.st m.id)+1≤_;rw [h0];decide)).1;exact ((h.book (s.book.take m.id m.a).2).notes hd (e:=⟨.cant,m.id,[]⟩) (v:=2) (fun st id=>UX _ _ _ _) (by show stg (mgi s.st m.id)+1≤_;rw [h0];decide)).1;exact h;unfold Qe.XN;split;rename_i h0;refine (h.notes hd (e:=⟨.undid,m.id,[]⟩) (v:=3) (fun st id=>UX _ _ _ _) ?_).1
 show stg (mgi s.st m.id)+1≤_
 rcases h0 with h0|h0<;>rw [h0]<;>decide;exact h
theorem SvI.handle {s:Qe} (h:SvI s) (m:Msg):SvI (s.handle m).2:=by
 unfold Qe.handle;split;exact h;rename_i hd;exact h.asked (by simpa using hd)
theorem Ql2 {n:Int} {s:Qe} (h:SvI s) (hf:SvF n s):s.j.es.length≤1998:=by
 exact QBy
theorem UE {n:Int} {s:Qe} (h:SvI s) (hf:SvF n s) (hd:s.j.down=false) (m:Msg):(m.kind=1→∃k,(k=2∨k=3)∧(s.handle m).1= [⟨k,n,0,m.id,m.step,0,0⟩])∧(m.kind=4→(s.handle m).1= [⟨5,n,0,m.id,m.step,0,0⟩]):=by
 have hl:=Ql2 h hf;unfold Qe.handle;rw [if_neg (by simp [hd]),hf.node];unfold Qe.asked;refine ⟨fun hk=>?_,fun hk=>?_⟩
 ·rw [hk];simp only [if_true];have:(s.does m.id m.a).1=2∨(s.does m.id m.a).1=3:=by
   unfold Qe.does;split;exact .inl rfl;split;rename_i h0;split;rw [((h.book ((s.book.take m.id m.a).2.back m.id).2).notes hd (e:=⟨.did,m.id,[m.a]⟩) (v:=1) (fun st id=>UX _ _ _ _) (by show stg (mgi s.st m.id)+1≤_;rw [h0];decide)).2 (by show s.j.es.length<4096;omega)];exact .inl rfl;rw [((h.book (s.book.take m.id m.a).2).notes hd (e:=⟨.cant,m.id,[]⟩) (v:=2) (fun st id=>UX _ _ _ _) (by show stg (mgi s.st m.id)+1≤_;rw [h0];decide)).2 (by show s.j.es.length<4096;omega)];exact .inr rfl;exact .inr rfl
  refine ⟨(s.does m.id m.a).1,this,?_⟩;rw [if_neg (by omega)]
 ·rw [hk];simp only [Int.reduceEq,if_false];have:(s.XN m.id).1=5:=by
   unfold Qe.XN;split;rename_i h0;rw [(h.notes hd (e:=⟨.undid,m.id,[]⟩) (v:=3) (fun st id=>UX _ _ _ _) (by show stg (mgi s.st m.id)+1≤_;rcases h0 with h0|h0<;>rw [h0]<;>decide)).2 (by omega)];rfl;rfl
  rw [this];rfl
def Qp5 (l:List Pc) (e:Entry):List Pc:=match e.kd,e.n with
 |.sent,[a,q]=>(Yc l e.id a.toNat q).2
 |_,_=>l
def shl (es:List Entry):List Pc:=es.foldl Qp5 []
theorem Qj8 (s:Qh) (e:Entry):(s.Qg e).l=Qp5 s.l e:=by
 unfold Qh.Qg Qp5;split<;>simp_all
theorem Qtc (es:List Entry):∀s:Qh,(s.Qi es).l=es.foldl Qp5 s.l:=by
 induction es with
 |nil=>intro s;rfl
 |cons e r ih=>intro s;show ((s.Qg e).Qi r).l=_;rw [ih,Qj8];rfl
structure ShI (s:Qh):Prop where
 l:s.j.down=false→s.l=shl s.j.es
 sure:s.j.sure=s.j.es.length
 cnt:∀id,Tk s.j.es id≤if VU (shl s.j.es) id=true then 1 else 0
 room:s.j.room=4096
theorem Qki (l:List Pc) (id:Int):VU l id=true↔∃p∈l,p.id=id:=by
 unfold VU ZQ;simp only [decide_eq_true_eq];split;rename_i i hi;obtain ⟨hl,hp, -⟩:=List.findIdx?_eq_some_iff_getElem.1 hi;exact ⟨fun _=>⟨l[i],List.getElem_mem hl,by simpa using hp⟩,fun _=>by omega⟩;rename_i hi;refine ⟨fun h=>by omega,fun ⟨p,hp,e⟩=>?_⟩;have:=List.findIdx?_eq_none_iff.1 hi p hp;simp [e] at this
theorem Qut (l:List Pc) (id:Int) (a:Nat) (q:Int) (k:Int):VU l k=true→VU (Yc l id a q).2 k=true:=by
 intro h;unfold Yc;split;exact h;split;exact h;rw [Qki] at h⊢;obtain ⟨p,hp,e⟩:=h;exact ⟨p,by simp [hp],e⟩
theorem Qnx (l:List Pc) (id:Int) (a:Nat) (q:Int) (h0:0<q) (h1:q≤1000000000):VU (Yc l id a q).2 id=true:=by
 unfold Yc;have hm:(decide (q=0)|| !may q)=false:=by simp [may];omega
 rw [if_neg (by simp [hm])];split;assumption;rw [Qki];exact ⟨⟨id,a,q⟩,by simp,rfl⟩
theorem ShI.handle {s:Qh} (h:ShI s) {m:Msg} (hq0:0<m.b) (hq1:m.b≤1000000000):ShI (s.handle m).2:=by
 unfold Qh.handle;split;exact h;rename_i hd;have hd:s.j.down=false:=by simpa using hd
 simp only;unfold Qh.Kc;split;exact h;rename_i hph;split;exact h;rename_i hr;have hj:(s.j.add ⟨.sent,m.id,[m.a,m.b]⟩).2= {s.j with es:=s.j.es++ [⟨.sent,m.id,[m.a,m.b]⟩]}:=by unfold Jrn.add;rw [if_neg hr]
 have h1:=(Df ({s with j:=(s.j.add ⟨.sent,m.id,[m.a,m.b]⟩).2.sync}:Qh) ⟨.sent,m.id,[m.a,m.b]⟩).1;have hes:(({s with j:=(s.j.add ⟨.sent,m.id,[m.a,m.b]⟩).2.sync}:Qh).Qg ⟨.sent,m.id,[m.a,m.b]⟩).j.es=s.j.es++ [⟨.sent,m.id,[m.a,m.b]⟩]:=by rw [h1,hj];rfl
 have happ:shl (s.j.es++ [⟨.sent,m.id,[m.a,m.b]⟩])=(Yc (shl s.j.es) m.id m.a.toNat m.b).2:=by unfold shl;rw [List.foldl_append];rfl
 refine ⟨fun hd'=>?_,?_,fun id=>?_,?_⟩;rw [Qj8,hes,happ]
 show (Yc s.l m.id m.a.toNat m.b).2=_
 rw [h.l hd];rw [h1,hj];rfl;simp only;rw [hes,Jf,happ];have h2:=h.cnt id;by_cases e:m.id=id;subst e;rw [h.l hd] at hph;rw [if_neg hph] at h2;rw [if_pos rfl,if_pos (Qnx _ _ _ _ hq0 hq1)];omega;rw [if_neg e];split at h2;rename_i hp;rw [if_pos (Qut _ _ _ _ _ hp)];omega;omega;rw [h1,hj];exact h.room
theorem ShI.Qj {s:Qh} (h:ShI s) (stay:Int):ShI (s.Qj stay):=by
 unfold Qh.Qj;split;exact h
 ·have he:(s.j.Qj stay).es=s.j.es:=by
   show s.j.es.take _=_
   exact List.take_of_length_le (by rw [←h.sure];unfold Jrn.keep;omega)
  refine ⟨fun hd=>(by cases hd),?_,fun id=>?_,h.room⟩
  show s.j.sure=((s.j.Qj stay).es).length
  rw [he];exact h.sure
  show Tk (s.j.Qj stay).es id≤if VU (shl (s.j.Qj stay).es) id=true then 1 else 0
  rw [he];exact h.cnt id
theorem ShI.start {s:Qh} (h:ShI s):ShI s.start:=by
 unfold Qh.start;split;have h1:=(KU s.j.es ⟨s.j.recover,[]⟩).1;refine ⟨fun _=>?_,by rw [h1];rfl,fun id=>?_,by rw [h1];exact h.room⟩;rw [Qtc,h1];rfl;rw [h1];exact h.cnt id;exact h
theorem Qjn {s:Qh} (h:ShI s) (hf:ShF s):s.j.es.length≤999:=by
 refine Qjb 999 1 _ (fun e he=>?_) (fun id=>Nat.le_trans (h.cnt id) (by split<;>omega));obtain ⟨id,a,q,rfl,h0,h1, -⟩:=hf.es e he;exact ⟨h0,h1⟩
theorem Da {s:Qh} (h:ShI s) (hf:ShF s) (hd:s.j.down=false) (m:Msg):(s.handle m).1= [⟨16,3,0,m.id,0,0,0⟩]:=by
 have hl:=Qjn h hf;have hr:¬s.j.room≤(s.j.es.length:Int):=by rw [h.room];omega
 unfold Qh.handle;rw [if_neg (by simp [hd])];simp only;unfold Qh.Kc;split;rfl
 ·first|rfl|(rw [if_neg hr];rfl)
structure HC (H:Qb):Prop where
 most:H.p.most=256
 c:H.c.room=4096
 k0:H.k0.j.room=4096
 k1:H.k1.j.room=4096
 s:ShI H.s
 v0:SvI H.v0
 v1:SvI H.v1
 v2:SvI H.v2
theorem Qb5 (p:Post) (m:Msg):(p.put m).most=p.most:=by unfold Post.put;split<;>rfl
theorem Va:∀(ms:List Msg) (p:Post),(p.puts ms).most=p.most
 | [],_=>rfl
 |m::ms,p=>(Va ms (p.put m)).trans (Qb5 p m)
theorem DT (k:Qd) (m:Msg):(k.handle m).2.j.room=k.j.room:=by
 unfold Qd.handle;split;rfl;simp only;split;rw [(KS _ _ _ _ _).1];rw [(TU _ _).2.1,(KS _ _ _ _ _).1]
section
variable {H:Qb}
theorem HC.gives (h:HC H) (hs:HS H) {l0:List Msg} {m:Msg} (hm:m∈H.p.l):HC ((H.ZP l0).gives m):=by
 have hmo:=hs.fine.ms m hm;have hp:∀ms,((⟨H.p.most,l0,H.p.lost⟩:Post).puts ms).most=256:=fun ms=>(Va ms _).trans h.most;unfold Qb.gives Qb.ZP;split
 ·rename_i ht;refine ⟨hp _,?_,h.k0,h.k1,h.s,h.v0,h.v1,h.v2⟩;cases hd:H.c.j.down with
  |true=>
   show (H.c.handle m).2.room=_
   unfold Qa.handle;rw [if_pos hd];exact h.c
  |false=>
   have h12:m.kind=12→H.c.j.down=false→(Qc H.c.l m.id).isSome=true:=fun hk _=>by
    obtain ⟨x,hx⟩:=hs.safe.m12 m hm (.inl hk);obtain ⟨y,hy, -⟩:=(XD hs.fine.c hd m.id).2 hx;rw [hy];rfl
   exact (Zp hs.fine.c (hmo.c ht) h12).room.trans h.c
 split;exact ⟨hp _,h.c,(DT _ _).trans h.k0,h.k1,h.s,h.v0,h.v1,h.v2⟩;split;exact ⟨hp _,h.c,h.k0,(DT _ _).trans h.k1,h.s,h.v0,h.v1,h.v2⟩;split;have:=hmo.s ‹_›;exact ⟨hp _,h.c,h.k0,h.k1,h.s.handle this.2.2.2.2.1 this.2.2.2.2.2,h.v0,h.v1,h.v2⟩;split;exact ⟨hp _,h.c,h.k0,h.k1,h.s,h.v0.handle m,h.v1,h.v2⟩;split;exact ⟨hp _,h.c,h.k0,h.k1,h.s,h.v0,h.v1.handle m,h.v2⟩;exact ⟨hp _,h.c,h.k0,h.k1,h.s,h.v0,h.v1,h.v2.handle m⟩
theorem HC.take (h:HC H) (hs:HS H) (kind i:Int):HC (H.take kind i).2:=by
 unfold Qb.take;split;exact h;split;exact h;rename_i m hm;split;exact ⟨(Qb5 _ _).trans h.most,h.c,h.k0,h.k1,h.s,h.v0,h.v1,h.v2⟩;split;exact h.gives hs (List.mem_of_getElem? hm);exact ⟨h.most,h.c,h.k0,h.k1,h.s,h.v0,h.v1,h.v2⟩
theorem HC.Qo (h:HC H) (hs:HS H) (i id:Int):HC (H.Qo i id).2:=by
 unfold Qb.Qo;split;exact h;split;exact ⟨(Va _ _).trans h.most,(Zf hs.fine.c id (fun _ _=>False)).room.trans h.c,h.k0,h.k1,h.s,h.v0,h.v1,h.v2⟩;split<;>exact ⟨(Va _ _).trans h.most,h.c,h.k0,h.k1,h.s,h.v0,h.v1,h.v2⟩
theorem Qnw {c:Qa} (h:CF c):c.start.room=c.room:=by
 have hc':=h.Qoa;have h1:=hc'.room;rw [h1,h.room];have key:∀(is:List Int) (c:Qa),(is.foldl Qa.wake c).j.room=c.j.room:=by
  intro is
  induction is with
  |nil=>intro c;rfl
  |cons i r ih=>
   intro c;refine (ih (c.wake i)).trans ?_;unfold Qa.wake;split;rfl;simp only;have hh:∀c1:Qa,(c1.Qm [⟨.turn,i,[]⟩]).2.j.room=c1.j.room:=fun c1=>by
    rw [Uv];split;rfl
    show (c1.Qq _).j.room=_
    rw [VO];unfold Jrn.add;split<;>rfl
   split;rw [hh];split<;>rfl
   split<;>rfl
 unfold Qa.start;split;rw [key,(Yy _ _).2];rfl;rfl
theorem HC.starts (h:HC H) (hs:HS H) (i:Int):HC (H.starts i):=by
 have hk:∀k:Qd,k.start.j.room=k.j.room:=fun k=>by
  unfold Qd.start;split;rw [(Vf _ _).1];rfl;rfl
 unfold Qb.starts;split;exact ⟨h.most,(Qnw hs.fine.c).trans h.c,h.k0,h.k1,h.s,h.v0,h.v1,h.v2⟩;split;exact ⟨h.most,h.c,(hk _).trans h.k0,h.k1,h.s,h.v0,h.v1,h.v2⟩;split;exact ⟨h.most,h.c,h.k0,(hk _).trans h.k1,h.s,h.v0,h.v1,h.v2⟩;split;exact ⟨h.most,h.c,h.k0,h.k1,h.s.start,h.v0,h.v1,h.v2⟩;split;exact ⟨h.most,h.c,h.k0,h.k1,h.s,h.v0.start,h.v1,h.v2⟩;split;exact ⟨h.most,h.c,h.k0,h.k1,h.s,h.v0,h.v1.start,h.v2⟩;exact ⟨h.most,h.c,h.k0,h.k1,h.s,h.v0,h.v1,h.v2.start⟩
theorem HC.Qj (h:HC H) (i stay:Int):HC (H.Qj i stay):=by
 have hk:∀k:Qd,(k.Qj stay).j.room=k.j.room:=fun k=>by unfold Qd.Qj;split<;>rfl
 have hcr:(H.c.Qj stay).room=H.c.room:=by unfold Qa.Qj;split<;>rfl
 unfold Qb.Qj;split;exact ⟨h.most,hcr.trans h.c,h.k0,h.k1,h.s,h.v0,h.v1,h.v2⟩;split;exact ⟨h.most,h.c,(hk _).trans h.k0,h.k1,h.s,h.v0,h.v1,h.v2⟩;split;exact ⟨h.most,h.c,h.k0,(hk _).trans h.k1,h.s,h.v0,h.v1,h.v2⟩;split;exact ⟨h.most,h.c,h.k0,h.k1,h.s.Qj stay,h.v0,h.v1,h.v2⟩;split;exact ⟨h.most,h.c,h.k0,h.k1,h.s,h.v0.Qj stay,h.v1,h.v2⟩;split;exact ⟨h.most,h.c,h.k0,h.k1,h.s,h.v0,h.v1.Qj stay,h.v2⟩;exact ⟨h.most,h.c,h.k0,h.k1,h.s,h.v0,h.v1,h.v2.Qj stay⟩
theorem HC.act (h:HC H) (hs:HS H) {c:Cmd} (hc:c.ok):HC (H.act c).2:=by
 have hk:=hc.kind;unfold Qb.act Qb.asks;split
 ·split
  ·refine ⟨(Va _ _).trans h.most,?_,h.k0,h.k1,h.s,h.v0,h.v1,h.v2⟩;have ho:c.o.ok:=by rcases hk with hk|hk|hk|hk|hk|hk<;>first|exact hk.2|omega
   exact (JF hs.fine.c ho).room.trans h.c
  split;exact ⟨(Va _ _).trans h.most,(KP hs.fine.c c.id (fun _ _=>False)).room.trans h.c,h.k0,h.k1,h.s,h.v0,h.v1,h.v2⟩
  ·have hkf:∀k:Qd,(k.force c.id c.yes).2.j.room=k.j.room:=fun k=>by
    unfold Qd.force;split;rfl;split;exact (TU _ _).2.1;rfl
   unfold Qb.force;split;exact ⟨h.most,h.c,(hkf _).trans h.k0,h.k1,h.s,h.v0,h.v1,h.v2⟩;exact ⟨h.most,h.c,h.k0,(hkf _).trans h.k1,h.s,h.v0,h.v1,h.v2⟩
 split;exact h.take hs _ _;split;exact h.Qo hs _ _;unfold Qb.Ye;split;exact h;split;exact h.starts hs _;exact h.Qj _ _
end
theorem Qzw (tries:Int):HC (Qb.init tries):=
 ⟨rfl,rfl,rfl,rfl,⟨fun _=>rfl,rfl,fun _=>Nat.zero_le _,rfl⟩,⟨fun _=>rfl,rfl,fun _=>Nat.zero_le _,rfl⟩,⟨fun _=>rfl,rfl,fun _=>Nat.zero_le _,rfl⟩,⟨fun _=>rfl,rfl,fun _=>Nat.zero_le _,rfl⟩⟩
section
variable {H:Qb}
theorem Qry (h:Up H) (i:Nat) (hi:i<7):H.Qv i=false:=by
 have hcs:i=0∨i=1∨i=2∨i=3∨i=4∨i=5∨i=6:=by omega
 unfold Qb.Qv;rcases hcs with rfl|rfl|rfl|rfl|rfl|rfl|rfl<;>simp [h.c,h.k0,h.k1,h.s,h.v0,h.v1,h.v2]
theorem Qc6 (h:Up H):H.Yg=H:=by
 have key:∀l:List Nat,(∀i∈l,i<7)→l.foldl (fun (H:Qb) (i:Nat)=>if H.Qv i=true then H.starts i else H) H=H:=by
  intro l
  induction l with
  |nil=>intro _;rfl
  |cons i r ih=>
   intro hl;rw [List.foldl_cons,Qry h i (hl i (by simp))];exact ih (fun k hk=>hl k (by simp [hk]))
 exact key _ (fun i hi=>by simpa using hi)
def Qb.ph1 (H:Qb):Qb:=Qb.takes H.p.l.length H
def Qb.ph2 (H:Qb):Qb:=H.ph1.rings 0 H.ph1.c.ids
def Qb.ph3 (H:Qb):Qb:=H.ph2.rings 1 H.ph2.k0.waits
def Qb.ph4 (H:Qb):Qb:=H.ph3.rings 2 H.ph3.k1.waits
theorem XB (h:Up H):H.round=H.ph4:=by
 unfold Qb.round;rw [Qc6 h];rfl
theorem HC.takes:∀(n:Nat) {H:Qb},HC H→HS H→HC (Qb.takes n H)
 |0,_,h,_=>h
 |n+1,_,h,hs=>HC.takes n (h.take hs 5 0) hs.take1
theorem HC.rings:∀(ids:List Int) {H:Qb} (i:Int),HC H→HS H→(∀id∈ids,1≤id∧id≤999)→HC (H.rings i ids)
 | [],_,_,h,_,_=>h
 |id::r,_,i,h,hs,hi=>HC.rings r i (h.Qo hs i id) (hs.Qo i (hi id (by simp)).1 (hi id (by simp)).2) (fun k hk=>hi k (by simp [hk]))
end
structure Qw (H:Qb):Prop where
 hs:HS H
 up:Up H
 hc:HC H
section
variable {H:Qb} {l:Nat}
theorem Qw.take1 (h:Qw H):Qw (H.take 5 0).2:=⟨h.hs.take1,h.up.take1 h.hs,h.hc.take h.hs 5 0⟩
theorem Qw.takes (h:Qw H) (n:Nat):Qw (Qb.takes n H):=⟨h.hs.takes n,h.up.takes n h.hs,h.hc.takes n h.hs⟩
theorem Qw.Qo (h:Qw H) (i:Int) {id:Int} (h0:1≤id∧id≤999):Qw (H.Qo i id).2:=⟨h.hs.Qo i h0.1 h0.2,h.up.Qo h.hs i id,h.hc.Qo h.hs i id⟩
theorem Qw.rings (h:Qw H) (i:Int) {ids:List Int} (hi:∀id∈ids,1≤id∧id≤999):Qw (H.rings i ids):=⟨h.hs.rings ids i hi,h.up.rings ids i h.hs hi,h.hc.rings ids i h.hs hi⟩
theorem Qaa {V:Type} {m:IM V} (hk:m.Pairwise (fun a b=>a.1<b.1)) {p:Int×V} (hp:p∈m):Qc m p.1=some p.2:=by
 induction m with
 |nil=>cases hp
 |cons a r ih=>
  have h2:=List.pairwise_cons.1 hk;unfold Qc;rcases List.mem_cons.1 hp with rfl|hp;simp;have hne:¬a.1=p.1:=by have:=h2.1 p hp;omega
  rw [List.find?_cons_of_neg (by simpa using hne)];exact ih h2.2 hp
theorem Qw.DC (h:Qw H):(∀id∈H.c.ids,1≤id∧id≤6)∧H.c.ids.Pairwise (· < ·):=by
 refine ⟨fun id hi=>?_,Qzs h.hs.fine.c.ok⟩;obtain ⟨p,hp,rfl⟩:=List.mem_map.1 hi;have hg:Qc H.c.l p.1=some p.2:=Qaa h.hs.fine.c.ok.keys.1 hp;obtain ⟨y,hy, -⟩:=(XD h.hs.fine.c h.up.c p.1).1 hg;exact h.hs.six p.1 ⟨y,hy⟩
theorem Qw.kn (h:Qw H) {i:Int} (hi:i=1∨i=2):(∀id,id∈(H.kn i).waits↔H.kv i id=1)∧(H.kn i).waits.Pairwise (· < ·)∧(∀id∈(H.kn i).waits,1≤id∧id≤6):=by
 have hk:(∀e∈(H.kn i).j.es,KpE e)∧(H.kn i).j.down=false:=by
  unfold Qb.kn;rcases hi with rfl|rfl;exact ⟨h.hs.fine.k0.es,h.up.k0⟩;exact ⟨h.hs.fine.k1.es,h.up.k1⟩
 obtain ⟨a,b⟩:=Qsw (h.hs.kn i) hk.1 hk.2;exact ⟨a,b,fun id hm=>h.hs.six id (h.hs.safe.k1 i id hi ((a id).1 hm))⟩
theorem VF {ids:List Int} (h:∀id∈ids,1≤id∧id≤6):∀id∈ids,1≤id∧id≤999:=fun id hi=>by have:=h id hi;omega
theorem Qw.ph1 (h:Qw H):Qw H.ph1:=h.takes _
theorem Qw.ph2 (h:Qw H):Qw H.ph2:=h.ph1.rings 0 (VF h.ph1.DC.1)
theorem Qw.ph3 (h:Qw H):Qw H.ph3:=h.ph2.rings 1 (VF (h.ph2.kn (.inl rfl)).2.2)
theorem Qw.ph4 (h:Qw H):Qw H.ph4:=h.ph3.rings 2 (VF (h.ph3.kn (.inr rfl)).2.2)
theorem Qw.round (h:Qw H):Qw H.round:=by rw [XB h.up];exact h.ph4
theorem Qw.len (h:Qw H):H.ph1.c.ids.length≤6∧H.ph2.k0.waits.length≤6∧H.ph3.k1.waits.length≤6:=
 ⟨len6 h.ph1.DC.2 h.ph1.DC.1,len6 (h.ph2.kn (.inl rfl)).2.1 (h.ph2.kn (.inl rfl)).2.2,len6 (h.ph3.kn (.inr rfl)).2.1 (h.ph3.kn (.inr rfl)).2.2⟩
theorem Qlk (H:Qb):H.ph4.c=H.ph2.c∧H.ph3.c=H.ph2.c∧cl l H.ph4.p.l≤cl l H.ph2.p.l+2*H.ph2.k0.waits.length+2*H.ph3.k1.waits.length:=by
 have a:=Ub (l:=l) 1 (.inl rfl) H.ph2.k0.waits (H:=H.ph2);have b:=Ub (l:=l) 2 (.inr rfl) H.ph3.k1.waits (H:=H.ph3);refine ⟨b.2.1.trans a.2.1,a.2.1,?_⟩;have a1:cl l H.ph3.p.l≤cl l H.ph2.p.l+2*H.ph2.k0.waits.length:=a.1;have b1:cl l H.ph4.p.l≤cl l H.ph3.p.l+2*H.ph3.k1.waits.length:=b.1;omega
theorem one5 (m:Msg):one 5 m=0:=by
 unfold one lev;repeat' split
 all_goals omega
theorem cl5 (q:List Msg):cl 5 q=0:=by
 induction q with
 |nil=>rfl
 |cons m r ih=>simp only [cl,one5,ih]
theorem Qjd {q:List Msg} (h:∀m∈q,m.kind≠12):cl 4 q=0:=by
 induction q with
 |nil=>rfl
 |cons m r ih=>
  have h1:one 4 m=0:=by
   have:=h m (by simp);unfold one lev;rw [if_neg this];repeat' split
   all_goals omega
  simp only [cl,h1,ih (fun x hx=>h x (by simp [hx]))]
def Qb.XK (H:Qb) (m:Msg):List Msg:=
 if m.to=0 then (H.c.handle m).1 else
 if m.to=1 then (H.k0.handle m).1 else
 if m.to=2 then (H.k1.handle m).1 else
 if m.to=3 then (H.s.handle m).1 else
 if m.to=4 then (H.v0.handle m).1 else
 if m.to=5 then (H.v1.handle m).1 else (H.v2.handle m).1
def Qb.Vy (H:Qb) (m:Msg):Qa:=if m.to=0 then (H.c.handle m).2 else H.c
theorem Ze (H:Qb) (q:List Msg) (m:Msg):((H.ZP q).gives m).p=(⟨H.p.most,q,H.p.lost⟩:Post).puts (H.XK m)∧((H.ZP q).gives m).c=H.Vy m:=by
 unfold Qb.gives Qb.ZP Qb.XK Qb.Vy;simp only;split;exact ⟨rfl,rfl⟩;split;exact ⟨rfl,rfl⟩;split;exact ⟨rfl,rfl⟩;split;exact ⟨rfl,rfl⟩;split;exact ⟨rfl,rfl⟩;split<;>exact ⟨rfl,rfl⟩
theorem Qwn (hs:HS H) {m:Msg} (hm:m∈H.p.l) (hl:1≤l∧l≤3):cl l (H.XK m)+QP (Led.pot l) (H.Vy m)≤QP (Led.pot l) H.c+one (l+1) m:=by
 have hmo:=hs.fine.ms m hm;unfold Qb.XK Qb.Vy;split;exact Qga hs.fine.c (hmo.c ‹_›) (hs.ids m hm) hl;split;have:=Zw (l:=l) H.k0 m;omega;split;have:=Zw (l:=l) H.k1 m;omega;split;have:=Kr (l:=l) H.s (hmo.s ‹_›).1;omega;have hto:=hmo.dst;have hv:=(hmo.v (by omega)).2.2.1;split;have:=Yb (l:=l) H.v0 hv;omega;split;have:=Yb (l:=l) H.v1 hv;omega;have:=Yb (l:=l) H.v2 hv;omega
theorem QEm (h:Qw H) {m:Msg} (hm:m∈H.p.l):cl 4 (H.XK m)=0:=by
 have hmo:=h.hs.fine.ms m hm;have h5:one (4+1) m=0:=one5 m;unfold Qb.XK;split
 ·rename_i ht;have h12:m.kind=12→H.c.j.down=false→(Qc H.c.l m.id).isSome=true:=fun hk _=>by
   obtain ⟨x,hx⟩:=h.hs.safe.m12 m hm (.inl hk);obtain ⟨y,hy, -⟩:=(XD h.hs.fine.c h.up.c m.id).2 hx;rw [hy];rfl
  exact Qjd (fun x hx=>((Zp h.hs.fine.c (hmo.c ht) h12).ms x hx).n12)
 split;have:=Zw (l:=4) H.k0 m;omega;split;have:=Zw (l:=4) H.k1 m;omega;split;have:=Kr (l:=4) H.s (hmo.s ‹_›).1;omega;have hto:=hmo.dst;have hv:=(hmo.v (by omega)).2.2.1;split;have:=Yb (l:=4) H.v0 hv;omega;split;have:=Yb (l:=4) H.v1 hv;omega;have:=Yb (l:=4) H.v2 hv;omega
theorem Qm2:∀(n:Nat) {H:Qb},Qw H→phi 4 0 (Qb.takes n H).p.l≤phi 4 n H.p.l
 |0,_,_=>Nat.le_refl _
 |n+1,H,h=>by
  refine Nat.le_trans (Qm2 n h.take1) ?_;cases hq:H.p.l with
  |nil=>
   rw [take_nil hq,hq];cases n<;>exact Nat.le_refl _
  |cons m q=>
   rw [XR hq,(Ze H q m).1];have h1:=Dy 4 n (H.XK m) ⟨H.p.most,q,H.p.lost⟩;rw [QEm h (m:=m) (by rw [hq];simp)] at h1;simp only [phi];simp only at h1;omega
theorem ring4 (h:Qw H) (id:Int):cl 4 (H.Qo 0 id).2.p.l≤cl 4 H.p.l:=by
 have he:(H.Qo 0 id).2= {H with c:=(H.c.ring id).2,p:=H.p.puts (H.c.ring id).1}:=by
  unfold Qb.Qo;rw [if_neg (by unfold Qb.Qv;simp [h.up.c]),if_pos rfl]
 rw [he];have h1:=Dw (l:=4) H.p (H.c.ring id).1;have h2:=Qjd (q:=(H.c.ring id).1) (fun x hx=>((Zf h.hs.fine.c id (fun _ _=>False)).ms x hx).n12);simp only;omega
theorem Qv6:∀(ids:List Int) {H:Qb},Qw H→(∀id∈ids,1≤id∧id≤999)→cl 4 (H.rings 0 ids).p.l≤cl 4 H.p.l
 | [],_,_,_=>Nat.le_refl _
 |id::r,H,h,hi=>Nat.le_trans (Qv6 r (h.Qo 0 (hi id (by simp))) (fun k hk=>hi k (by simp [hk]))) (ring4 h id)
abbrev Qa.be (c:Qa):Nat:=QP Led.be c
theorem Qh7 (hl:l=1∨l=2):Led.pot l=Led.be:=by
 funext x;unfold Led.pot;rw [if_neg (by omega)]
theorem pot_3:Led.pot 3=Led.ga:=by
 funext x;rfl
theorem Qef (h:Qw H):cl 4 H.round.p.l≤24:=by
 rw [XB h.up];have a:=(Qlk (l:=4) H).2.2;have b:cl 4 H.ph2.p.l≤cl 4 H.ph1.p.l:=Qv6 _ h.ph1 (VF h.ph1.DC.1);have c:phi 4 0 H.ph1.p.l≤phi 4 H.p.l.length H.p.l:=Qm2 _ h;rw [Tp,Qbl 4 _ _ (Nat.le_refl _),cl5] at c;have d:=h.len;omega
theorem Qys (h:Qw H) (hl:l=1∨l=2):cl l H.ph1.p.l+H.ph1.c.be≤cl (l+1) H.p.l+H.c.be:=by
 have:=Qda (l:=l) (by omega) h.hs;rw [Qh7 hl] at this;exact this
theorem KW (h:Qw H) (hl:l=1∨l=2):cl l H.round.p.l+H.round.c.be≤cl (l+1) H.p.l+H.c.be+42:=by
 rw [XB h.up];obtain ⟨a1, -,a⟩:=Qlk (l:=l) H;have b:=Qf5 (l:=l) (by omega) H.ph1.c.ids h.ph1.hs h.ph1.up h.ph1.DC.1;rw [Qh7 hl] at b;have b:cl l H.ph2.p.l+H.ph2.c.be≤cl l H.ph1.p.l+H.ph1.c.be+3*H.ph1.c.ids.length:=b;have c:=Qys h hl;have d:=h.len;rw [a1];omega
theorem Qjt (c:Qa):∀ids:List Int,Qmu c ids=Qov c.dec ids
 | []=>rfl
 |id::r=>by simp only [Qmu,Qov,Qjt c r]
theorem QD4 (f:Int→Nat):S6 f 6=f 1+f 2+f 3+f 4+f 5+f 6:=by
 have e:S6 f 6=f 1+(f 2+(f 3+(f 4+(f 5+(f 6+0))))):=rfl;omega
theorem QBv {c:Qa} (h:c.ok):c.be+2*S6 c.dec 6≤QP Led.ga c+24∧QP Led.ga c≤90:=by
 have ho:∀id,c.g Led.be id+2*c.dec id≤c.g Led.ga id+4∧c.g Led.ga id≤15:=fun id=>by
  unfold Qa.g Qa.dec;cases hx:Qc c.l id with
  |none=>exact ⟨Nat.zero_le _,Nat.zero_le _⟩
  |some x=>
   show x.be+2*(if x.decided=true then 1 else 0)≤x.ga+4∧x.ga≤15
   have hk:=(h.get hx).1;have h0:=QEl x.w (Qr3 hk) x.f.ack0 x.f.ack1 x.f.dam0 x.f.dam1;have hl:=hk.o.len;have h1:=Qw2 x.f.done;have h2:=(mpt hk.may).1;unfold Led.be Led.ga;by_cases hd:x.decided=true;simp only [hd,if_true];omega;simp only [hd,Bool.false_eq_true,if_false];split<;>omega
 rw [QD4];have:=ho 1;have:=ho 2;have:=ho 3;have:=ho 4;have:=ho 5;have:=ho 6;unfold Qa.be QP;omega
theorem Qib (h:Qw H):cl 3 H.round.p.l+H.round.c.be≤cl 4 H.p.l+138:=by
 rw [XB h.up];obtain ⟨a1, -,a⟩:=Qlk (l:=3) H;have b:cl 3 H.ph2.p.l+QP (Led.pot 3) H.ph2.c≤cl 3 H.ph1.p.l+QP (Led.pot 3) H.ph1.c+2*Qmu H.ph2.c H.ph1.c.ids:=Qeg H.ph1.c.ids h.ph1.hs h.ph1.up h.ph1.DC.1;have c:cl 3 H.ph1.p.l+QP (Led.pot 3) H.ph1.c≤cl 4 H.p.l+QP (Led.pot 3) H.c:=Qda (l:=3) (by omega) h.hs;have d:=h.len;have e:=QBv h.hs.fine.c.ok;have f:=QBv h.ph2.hs.fine.c.ok;have g:Qmu H.ph2.c H.ph1.c.ids≤S6 H.ph2.c.dec 6:=by
  rw [Qjt];exact sum6 _ 6 _ h.ph1.DC.2 (fun x hx=>by have:=h.ph1.DC.1 x hx;omega)
 rw [pot_3] at b c;rw [a1];omega
theorem Qcc:∀(ms:List Msg) (p:Post),p.most=256→p.l.length+ms.length≤256→(p.puts ms).l=p.l++ms
 | [],p,_,_=>by simp [Post.puts]
 |m::ms,p,hm,hl=>by
  simp only [List.length_cons] at hl;have hp:p.put m= {p with l:=p.l++ [m]}:=by unfold Post.put;rw [if_pos (by rw [hm];omega)]
  show ((p.put m).puts ms).l=_
  rw [Qcc ms (p.put m) ((Qb5 p m).trans hm) (by rw [hp];simp;omega),hp];simp
def Qb.bal (H:Qb):Nat:=H.p.l.length+H.c.be
theorem Qds (h:Qw H) {m:Msg} {q:List Msg} (hq:H.p.l=m::q) (hb:H.bal≤256):(H.take 5 0).2.p.l=q++H.XK m∧(H.take 5 0).2.bal≤H.bal∧(H.take 5 0).2.c=H.Vy m:=by
 have hr:=Qwn (l:=1) h.hs (m:=m) (by rw [hq];simp) (by omega);rw [Qh7 (.inl rfl),Qam] at hr;have h1:=one_one 2 m;have hr:(H.XK m).length+QP Led.be (H.Vy m)≤QP Led.be H.c+one 2 m:=hr;unfold Qb.bal Qa.be at hb⊢;rw [hq] at hb⊢;simp only [List.length_cons] at hb⊢;rw [XR hq,(Ze H q m).1,(Ze H q m).2,Qcc (H.XK m) ⟨H.p.most,q,H.p.lost⟩ h.hc.most (by simp only;omega)];refine ⟨rfl,?_,rfl⟩;simp only [List.length_append];omega
theorem FD:∀(a b:Nat) (H:Qb),Qb.takes (a+b) H=Qb.takes b (Qb.takes a H)
 |0,b,H=>by rw [Nat.zero_add];rfl
 |a+1,b,H=>by
  rw [show a+1+b=(a+b)+1 by omega];exact FD a b (H.take 5 0).2
theorem Ty:∀(n:Nat) {H:Qb},Qw H→H.bal≤256→n≤H.p.l.length→∃N,(Qb.takes n H).p.l=H.p.l.drop n++N∧(Qb.takes n H).bal≤H.bal
 |0,H,_,_,_=>⟨[],by simp [Qb.takes],Nat.le_refl _⟩
 |n+1,H,h,hb,hn=>by
  cases hq:H.p.l with
  |nil=>rw [hq] at hn;simp at hn
  |cons m q=>
   obtain ⟨e1,e2, -⟩:=Qds h hq hb;rw [hq] at hn;simp only [List.length_cons] at hn;obtain ⟨N,e3,e4⟩:=Ty n h.take1 (by omega) (by rw [e1,List.length_append];omega);refine ⟨H.XK m++N,?_,Nat.le_trans e4 e2⟩
   show (Qb.takes n (H.take 5 0).2).p.l=_
   rw [e3,e1,List.drop_append_of_le_length (by omega)];simp
theorem Qbo (h:Qw H) (hb:H.bal≤256) {m:Msg} (hm:m∈H.p.l):∃i q,i<H.p.l.length∧(Qb.takes i H).p.l=m::q∧(Qb.takes i H).bal≤H.bal∧(∀x∈(Qb.takes i H).XK m,x∈H.ph1.p.l)∧H.ph1=Qb.takes (H.p.l.length-(i+1)) ((Qb.takes i H).take 5 0).2:=by
 obtain ⟨i,hi,he⟩:=List.getElem_of_mem hm;obtain ⟨N,e1,e2⟩:=Ty i h hb (by omega);have hd:H.p.l.drop i=m::H.p.l.drop (i+1):=by rw [List.drop_eq_getElem_cons hi,he]
 rw [hd] at e1;have e3:(Qb.takes i H).p.l=m::(H.p.l.drop (i+1)++N):=by rw [e1];rfl
 obtain ⟨e4,e5, -⟩:=Qds (h.takes i) e3 (by omega);have hsplit:H.ph1=Qb.takes (H.p.l.length-(i+1)) ((Qb.takes i H).take 5 0).2:=by
  unfold Qb.ph1;have:H.p.l.length=i+(1+(H.p.l.length-(i+1))):=by omega
  rw [this,FD,FD];congr 1;first|done|omega
 refine ⟨i,_,hi,e3,e2,fun x hx=>?_,hsplit⟩;obtain ⟨N2,e6, -⟩:=Ty (H.p.l.length-(i+1)) (h.takes i).take1 (by omega) (by rw [e4];simp);rw [hsplit,e6,e4,List.append_assoc,List.drop_append_of_le_length (by simp)];simp [hx]
def Qb.Qbg (H:Qb) (i id:Int):List Msg:=if i=0 then (H.c.ring id).1 else if i=1 then H.k0.ring id else H.k1.ring id
theorem Ut (h:Qw H) {i:Int} (hi:i=0∨i=1∨i=2) (id:Int):(H.Qo i id).2.p=H.p.puts (H.Qbg i id)∧(H.Qo i id).2.c=(if i=0 then (H.c.ring id).2 else H.c):=by
 have hd:H.Qv i=false:=by rcases hi with rfl|rfl|rfl<;>simp [Qb.Qv,h.up.c,h.up.k0,h.up.k1]
 unfold Qb.Qo Qb.Qbg;rw [hd];rcases hi with rfl|rfl|rfl<;>exact ⟨rfl,rfl⟩
theorem Kh (h:Qw H) {i:Int} (hi:i=0∨i=1∨i=2) {id:Int} (h6:1≤id∧id≤6) (hb:H.bal+(if i=0 then 3 else 2)≤256):(H.Qo i id).2.p.l=H.p.l++H.Qbg i id∧(H.Qo i id).2.bal≤H.bal+(if i=0 then 3 else 2):=by
 obtain ⟨e1,e2⟩:=Ut h hi id;have hlen:(H.Qbg i id).length+(H.Qo i id).2.c.be≤H.c.be+(if i=0 then 3 else 2):=by
  rw [e2];unfold Qb.Qbg;by_cases h0:i=0;have:=(Qp8 (l:=1) h.hs.fine.c h6).1 (by omega);rw [Qh7 (.inl rfl),Qam] at this;simp only [h0,if_true];exact this;simp only [h0,if_false];have a:=Uf H.k0 id;have b:=Uf H.k1 id;split<;>omega
 unfold Qb.bal at hb⊢;have e3:=Qcc (H.Qbg i id) H.p h.hc.most (by omega);rw [e1] at *;rw [e3,List.length_append];exact ⟨rfl,by omega⟩
theorem Xz (i:Int) (hi:i=0∨i=1∨i=2) {w:Nat} (hw:(if i=0 then 3 else 2)=w):∀(ids:List Int) {H:Qb},Qw H→(∀id∈ids,1≤id∧id≤6)→H.bal+w*ids.length≤256→
 (∃N,(H.rings i ids).p.l=H.p.l++N)∧(H.rings i ids).bal≤H.bal+w*ids.length
 | [],H,_,_,_=>⟨⟨[],by simp [Qb.rings]⟩,Nat.le_add_right _ _⟩
 |id::r,H,h,h6,hb=>by
  have hid:=h6 id (by simp);simp only [List.length_cons,Nat.mul_add,Nat.mul_one] at hb⊢;obtain ⟨a,b⟩:=Kh h hi hid (by rw [hw];omega);rw [hw] at b;obtain ⟨⟨N,c⟩,d⟩:=Xz i hi hw r (h.Qo i (id:=id) (by omega)) (fun k hk=>h6 k (by simp [hk])) (by omega);refine ⟨⟨H.Qbg i id++N,?_⟩,?_⟩
  show ((H.Qo i id).2.rings i r).p.l=_
  rw [c,a,List.append_assoc]
  show ((H.Qo i id).2.rings i r).bal≤_
  omega
end
section
variable {c:Qa}
theorem TZ {x:Led} (hx:Qc c.l x.o.id=some x) {k:Int} (hk:k≠x.o.id):Qc (c.sends x).2.l k=Qc c.l k:=by
 unfold Qa.sends;split;rw [UO];split;rfl
 show Qc (c.Qq _).l k=_
 rw [Xl (e:=⟨.asked,x.o.id,[]⟩) hx rfl,if_neg (Ne.symm hk)];rfl
theorem Qm9 (h:c.ok) {id k:Int} (hk:k≠id):Qc (c.goes id).2.l k=Qc c.l k:=by
 cases hx:Qc c.l id with
 |none=>unfold Qa.goes;rw [hx]
 |some x=>
  have hid:=(h.get hx).1.id;rw [Dl hx hid];split;rfl;exact TZ (c:=c.again id) (by rw [hid];exact hx) (by rw [hid];exact hk)
theorem Qi4 (h:CF c) (hd:c.j.down=false) {e:Entry} (hf:c.Fits e) (he:e.ok) {x:Led} (hx:Qc c.l e.id=some x) (hk:e.kd.fact=true) {k:Int} (hne:k≠e.id):Qc (c.QN e).2.l k=Qc c.l k:=by
 obtain ⟨h1, -⟩:=h.Qm hd (UQ hf he);unfold Qa.QN;rw [Uv] at h1⊢;by_cases hr:c.room<c.used+1;rw [if_pos hr,if_neg (by simp)];rw [if_neg hr] at h1⊢;rw [if_pos rfl]
 show Qc ((c.Qq e).sync.goes e.id).2.l k=_
 rw [Qm9 h1.ok hne]
 show Qc (c.Qq e).l k=_
 rw [Xl hx hk,if_neg (Ne.symm hne)]
theorem Qpi (h:CF c) {id k:Int} (hk:k≠id):Qc (c.ring id).2.l k=Qc c.l k:=by
 unfold Qa.ring;split;rfl;rename_i hd;have hd:c.j.down=false:=by simpa using hd
 split;rfl;rename_i x hx;have hg:=h.ok.get hx;have hid:=hg.1.id;split;rfl;have hb:=h.Qa8 id;split;split;rename_i hdec;have:=Qi4 hb hd (.turn id x hx hdec) (QB hg.2.1 hg.2.2 _) hx rfl hk;rw [←Tv] at this;exact this;exact TZ (c:=({c with Qf:=(c.Qf.ring id).2.2}:Qa).again id) (by rw [hid];exact hx) (by rw [hid];exact hk);exact TZ (c:=({c with Qf:=(c.Qf.ring id).2.2}:Qa)) (by rw [hid];exact hx) (by rw [hid];exact hk)
end
theorem Qod {x:Led} {k n:Int} (hx:x.ok k) (hx':(x.facts .asked n).ok k):Xa (x.facts .asked n).o (x.facts .asked n).f=Xa x.o x.f:=by
 rw [Uo hx.may,Uo hx'.may];rfl
theorem Ud {x:Led} {k:Int} (hx:x.ok k) (h:x.shut=true):x.over=true:=by
 obtain ⟨m1,m2, -⟩:=mpt hx.may;have hlen:=hx.o.len;have hu:(List.range x.o.steps.length).all (fun k=>x.fl (3+k))=true→x.f.undone.contains false=false:=fun ha=>by
  rw [List.contains_eq_mem,decide_eq_false_iff_not];intro hm;obtain ⟨i,hi,he⟩:=List.getElem_of_mem hm;have h1:=List.all_eq_true.1 ha i (by simp;omega);have h2:x.f.undone.getD i false=false:=by rw [List.getD_eq_getElem?_getD,List.getElem?_eq_getElem hi,he];rfl
  have hq:i=0∨i=1∨i=2:=by omega
  rcases hq with rfl|rfl|rfl<;>exact Bool.false_ne_true (h2.symm.trans h1)
 have hxo:=Dc hx;unfold Led.over Facts.over Facts.ends;unfold Led.shut at h;rw [hx.may];generalize (List.range x.o.steps.length).all (fun k=>x.fl (3+k))=al at *;generalize x.f.undone.contains false=uc at *;cases ht:x.f.turned<;>cases hy:x.f.yes<;>cases ha:x.f.ack0<;>cases hb:x.f.ack1<;>cases hs:x.f.shipped<;>simp [ht,hy,ha,hb,hs] at h hxo⊢ <;>simp [hu h]
theorem Qw.roomy {H:Qb} (h:Qw H):¬H.c.room<H.c.used+1:=by
 have h1:=Qto h.hs;have h2:=(h.hs.fine.c.up h.up.c).2;rw [h.hc.c,h2];omega
theorem Qmv {H:Qb} (h:Qw H) {id:Int} {x0:Led} (hx:Qc H.c.l id=some x0) (ho:x0.shut=false):
 ∃x,Qc (H.c.ring id).2.l id=some x∧(x.shut=false→(∀m∈Xa x.o x.f,m∈(H.c.ring id).1)∧(x.decided=false→x.f.done.contains false=false→x.f.asked=true)):=by
 have hcf:=h.hs.fine.c;have hd:=h.up.c;have hroom:=h.roomy;have hg:=hcf.ok.get hx;have hid:=hg.1.id;have hbell:=h.hs.Xo hd id x0 hx ho;have hr1:(H.c.Qf.ring id).1=true:=by
  unfold Qy.ring;rw [if_neg (by simp [hbell])];split<;>rfl
 have hsend:∀c2:Qa,CF c2→c2.l=H.c.l→c2.room=H.c.room→c2.used=H.c.used→∃x,Qc (c2.sends x0).2.l id=some x∧(x.shut=false→(∀m∈Xa x.o x.f,m∈(c2.sends x0).1)∧(x.decided=false→x.f.done.contains false=false→x.f.asked=true)):=by
  intro c2 h2 hl2 hro hus;have hx2:Qc c2.l x0.o.id=some x0:=by rw [hl2,hid];exact hx
  unfold Qa.sends;split;rename_i hp;obtain ⟨p1,p2,p3⟩:=Qbp (by simp at hp;exact hp.1);have hdec:x0.decided=false:=by unfold Led.decided;rw [p1,p2];rfl
  have hn1:c2.notes [⟨.asked,x0.o.id,[]⟩]=(true,c2.Qq ⟨.asked,x0.o.id,[]⟩):=by rw [UO,if_neg (by rw [hro,hus];exact hroom)]
  rw [hn1];simp only [if_true];refine ⟨x0.facts .asked 0,?_,fun _=>⟨fun m hm=>?_,fun _ _=>rfl⟩⟩;rw [Xl (e:=⟨.asked,x0.o.id,[]⟩) hx2 rfl,if_pos hid];rfl;rw [Qod hg.1 (Qmn hg.1 hdec p3)] at hm;exact hm
  ·rename_i hp;refine ⟨x0,by rw [hl2];exact hx,fun _=>⟨fun m hm=>hm,fun hdec hdone=>?_⟩⟩;cases ha:x0.f.asked
   ·exfalso;apply hp;have hn:Xa x0.o x0.f= [⟨6,0,1,x0.o.id,0,x0.o.item,x0.o.qty⟩,⟨6,0,2,x0.o.id,0,x0.o.client,x0.o.price⟩]:=by
     obtain ⟨hy,ht⟩:=undecided hdec;rw [Uo hg.1.may,ht,hy,if_neg (by decide),if_neg (by decide)];unfold QW;have:x0.f.done.findIdx? (fun b=>!b)=none:=by
      rw [List.findIdx?_eq_none_iff];intro b hb;rw [List.contains_eq_mem,decide_eq_false_iff_not] at hdone;cases b;exact absurd hb hdone;rfl
     rw [this]
    rw [hn,ha];rfl
   rfl
 unfold Qa.ring;rw [if_neg (by simp [hd])];simp only [hx];rw [if_neg (by simp [hr1])];have hb:=hcf.Qa8 id;split
 ·split
  ·rename_i hdec;have e:=Tv ({H.c with Qf:=(H.c.Qf.ring id).2.2}:Qa) id;have hfit:=Qa.Fits.turn (c:=({H.c with Qf:=(H.c.Qf.ring id).2.2}:Qa)) id x0 hx hdec;obtain ⟨h1, -⟩:=hb.Qm hd (UQ hfit (QB hg.2.1 hg.2.2 _));rw [e];unfold Qa.QN;rw [Uv,if_neg hroom] at h1⊢;rw [if_pos rfl];have hx1:Qc (({H.c with Qf:=(H.c.Qf.ring id).2.2}:Qa).Qq ⟨.turn,id,[]⟩).sync.l id=some (x0.facts .turn 0):=by
    have:=Xl (c:=({H.c with Qf:=(H.c.Qf.ring id).2.2}:Qa)) (e:=⟨.turn,id,[]⟩) hx rfl id;rw [if_pos rfl] at this;exact this
   have hg1:=(h1.ok.get hx1).1;have hdec1:(x0.facts .turn 0).decided=true:=by unfold Led.decided Led.facts;simp
   show ∃x,Qc ((({H.c with Qf:=(H.c.Qf.ring id).2.2}:Qa).Qq ⟨.turn,id,[]⟩).sync.goes id).2.l id=some x∧(x.shut=false→(∀m∈Xa x.o x.f,m∈((({H.c with Qf:=(H.c.Qf.ring id).2.2}:Qa).Qq ⟨.turn,id,[]⟩).sync.goes id).1)∧_)
   rw [Dl hx1 hg1.id];split;rename_i hov;refine ⟨x0.facts .turn 0,hx1,fun hs=>?_⟩;rw [Fj hg1 hov] at hs;cases hs
   ·unfold Qa.sends;have hp:(Zn (Xa (x0.facts .turn 0).o (x0.facts .turn 0).f)&& !(x0.facts .turn 0).f.asked)=false:=by
     cases hq:Zn (Xa (x0.facts .turn 0).o (x0.facts .turn 0).f);rfl;have:=(Qbp hq).1;exact absurd this (by simp [Led.facts])
    rw [if_neg (by simp [hp])];exact ⟨x0.facts .turn 0,hx1,fun _=>⟨fun m hm=>hm,fun hdc=>by rw [hdec1] at hdc;cases hdc⟩⟩
  exact hsend _ (hb.again id) rfl rfl rfl
 exact hsend _ hb rfl rfl rfl
theorem zTe121 {P:Prop} (h:P:=by
 obtain ⟨w,hw,hlw⟩:=TE h (.turn m.id y hy hyd) (QB hg.2.1 hg.2.2 _) hy rfl;exact ⟨w,hw,(Fv hd (by unfold Led.decided Led.facts;simp)).le hlw⟩):P:=h
def Dk (x:Led):Prop:=(x.f.dam0=true→x.f.ack0=true)∧(x.f.dam1=true→x.f.ack1=true)
theorem Qr2 {x:Led} (h:Dk x) (kd:Kd) (n:Int):Dk (x.facts kd n):=by
 obtain ⟨a,b⟩:=h;cases kd<;>simp only [Led.facts]<;>(try split)<;>simp_all [Dk]
theorem Qsc {c:Qa} {e:Entry} (h:∀id x,Qc c.l id=some x→Dk x):∀id x,Qc (c.Qg e).l id=some x→Dk x:=by
 intro id x;unfold Qa.Qg;split
 show Qc (Qt c.l e.id _) id=some x→_
 rw [QS];split;intro hx;obtain rfl:=Option.some.inj hx;exact ⟨fun h=>(by cases h),fun h=>(by cases h)⟩;exact h id x;split;exact h id x;rename_i y hy
 show Qc (Qt c.l e.id _) id=some x→_
 rw [QS];split;intro hx;obtain rfl:=Option.some.inj hx;exact h _ y hy;exact h id x;split;exact h id x;rename_i y hy
 show Qc (Qt c.l e.id _) id=some x→_
 rw [QS];split;intro hx;obtain rfl:=Option.some.inj hx;exact Qr2 (h _ y hy) _ _;exact h id x
theorem Qc5:∀(es:List Entry) {c:Qa},(∀id x,Qc c.l id=some x→Dk x)→∀id x,Qc (c.Qi es).l id=some x→Dk x
 | [],_,h=>h
 |e::r,_,h=>Qc5 r (Qsc h)
section
variable {H:Qb}
theorem Qw.dam (h:Qw H) {id:Int} {x:Led} (hx:Qc H.c.l id=some x):Dk x:=by
 obtain ⟨y,hy,h1, -⟩:=(XD h.hs.fine.c h.up.c id).1 hx;have:=Qc5 H.c.j.es (c:=Qa.nil) (fun id x hx=>by cases hx) id y hy;unfold Dk at this⊢;rw [h1] at this;exact this
theorem Jv (h:Qw H) {e:Entry} (hf:H.c.Fits e) (he:e.ok) {x:Led} (hx:Qc H.c.l e.id=some x) (hk:e.kd.fact=true):∃y,Qc (H.c.QM e).2.l e.id=some y∧Xc (x.facts e.kd (e.n.headD 0)) y:=by
 obtain ⟨h1,h2⟩:=h.hs.fine.c.notes h.up.c (UQ hf he);unfold Qa.QM;rw [UO,if_neg h.roomy] at h1 h2⊢;rw [if_pos rfl];have hg:=Xl hx hk e.id;rw [if_pos rfl] at hg;exact (VA h1 h2 e.id).keep e.id _ hg
theorem Qg6 (h:Qw H) {e:Entry} (hf:H.c.Fits e) (he:e.ok) {x:Led} (hx:Qc H.c.l e.id=some x) (hk:e.kd.fact=true):(H.c.Qm [e]).1=true∧∃y,Qc ((H.c.Qm [e]).2.goes e.id).2.l e.id=some y∧Xc (x.facts e.kd (e.n.headD 0)) y:=by
 obtain ⟨h1,h2⟩:=h.hs.fine.c.Qm h.up.c (UQ hf he);rw [Uv,if_neg h.roomy] at h1 h2⊢;have hg:=Xl hx hk e.id;rw [if_pos rfl] at hg;exact ⟨rfl,(VA h1 h2 e.id).keep e.id _ hg⟩
theorem TE (h:Qw H) {e:Entry} (hf:H.c.Fits e) (he:e.ok) {x:Led} (hx:Qc H.c.l e.id=some x) (hk:e.kd.fact=true):∃y,Qc (H.c.QN e).2.l e.id=some y∧Xc (x.facts e.kd (e.n.headD 0)) y:=by
 obtain ⟨h1,h2⟩:=Qg6 h hf he hx hk;unfold Qa.QN;rw [if_pos h1];exact h2
def On (x y:Led):Prop:=∃k,k<13∧x.fl k=false∧y.fl k=true
theorem On.le {x y z:Led} (h:On x y) (hl:Xc y z):On x z:=by
 obtain ⟨k,a,b,c⟩:=h;exact ⟨k,a,b,hl.fl k c⟩
theorem Qw.cop (h:Qw H) {m:Msg} (hm:m∈H.p.l) (ht:m.to=0):COp H.c (H.c.handle m) (fun i id=>m.kind=7∧id=m.id∧(i=1↔m.frm=1)):=by
 have hmo:=h.hs.fine.ms m hm;refine Zp h.hs.fine.c (hmo.c ht) (fun hk _=>?_);obtain ⟨x,hx⟩:=h.hs.safe.m12 m hm (.inl hk);obtain ⟨y,hy, -⟩:=(XD h.hs.fine.c h.up.c m.id).2 hx;rw [hy];rfl
theorem QEg {x y:Led} (h:Xc x y) (hd:x.decided=true):y.decided=true:=by
 unfold Led.decided at hd⊢;simp only [Bool.or_eq_true] at hd⊢;exact hd.imp (h.fl 6) (h.fl 7)
theorem Fv {x y:Led} (hd:x.decided=false) (hd':y.decided=true):On x y:=by
 obtain ⟨a,b⟩:=undecided hd;unfold Led.decided at hd';simp only [Bool.or_eq_true] at hd';rcases hd' with e|e;exact ⟨6,by omega,a,e⟩;exact ⟨7,by omega,b,e⟩
def ackK (i:Int):Nat:=if i=1 then 8 else 9
theorem Qvd (x:Led) {i:Int} (hi:i=1∨i=2):x.fl (ackK i)=x.Tf i:=by
 rcases hi with rfl|rfl<;>rfl
theorem QEt (h:Qw H) {m:Msg} (hm:m∈H.p.l) (ht:m.to=0) (hk:m.kind=11∨m.kind=17) {x y:Led} (hy:Qc H.c.l m.id=some y) (hl:Xc x y) (hd:x.decided=true) (hi:m.frm=1∨m.frm=2) (ha:x.Tf m.frm=false):
 ∃z,Qc (H.c.handle m).2.l m.id=some z∧On x z:=by
 obtain ⟨z,hz,hlz⟩:=(h.cop hm ht).keep m.id y hy;have hcf:=h.hs.fine.c;have hg:=hcf.ok.get hy;have hk9:ackK m.frm<13:=by unfold ackK;split<;>omega
 have hon:∀w:Led,w.Tf m.frm=true→On x w:=fun w hw=>⟨ackK m.frm,hk9,(Qvd x hi).trans ha,(Qvd w hi).trans hw⟩;cases hya:y.Tf m.frm with
 |true=>exact ⟨z,hz,(hon y hya).le hlz⟩
 |false=>
  have hdy:=QEg hl hd;have hno:QU m.frm:=QX (by omega) (by omega);have hh:H.c.handle m=H.c.Vt y m:=by
   unfold Qa.handle;rw [if_neg (by simp [h.up.c]),if_neg (by omega)];simp only [hy];rw [if_neg (by omega),if_neg (by omega),if_pos hk]
  rw [hh];unfold Qa.Vt;rw [if_neg (by simp [hdy])];by_cases h11:m.kind=11;rw [if_pos h11,if_neg (by simp [hya])];obtain ⟨w,hw,hlw⟩:=Jv h (.ack m.id m.frm y hy hi hdy) (QH hg.2.1 hg.2.2 _ hno) hy rfl;refine ⟨w,hw,(hon _ ?_).le hlw⟩;rcases hi with e|e<;>rw [e]<;>rfl
  ·rw [if_neg h11];have hdm:y.De m.frm=false:=by
    have hdd:=h.dam hy;cases e:y.De m.frm;rfl;exfalso;unfold Led.De at e;unfold Led.Tf at hya;rcases hi with e1|e1;rw [if_pos e1] at e hya;rw [hdd.1 e] at hya;cases hya;rw [if_neg (by omega)] at e hya;rw [hdd.2 e] at hya;cases hya
   rw [if_neg (by simp [hdm])];obtain ⟨hs,w,hw,hlw⟩:=Qg6 h (.damage m.id m.frm y hy hi hdy) (QH hg.2.1 hg.2.2 .damage hno) hy rfl;rw [if_pos hs];refine ⟨w,hw,(hon _ ?_).le hlw⟩;rcases hi with e|e<;>rw [e]<;>rfl
theorem Qz9 (h:Qw H) {m:Msg} (hm:m∈H.p.l) (ht:m.to=0) (hk:m.kind=16) (hf:m.frm=3) {x y:Led} (hy:Qc H.c.l m.id=some y) (hl:Xc x y) (hd:x.f.yes=true) (ha:x.f.shipped=false):
 ∃z,Qc (H.c.handle m).2.l m.id=some z∧On x z:=by
 obtain ⟨z,hz,hlz⟩:=(h.cop hm ht).keep m.id y hy;have hg:=h.hs.fine.c.ok.get hy;have hon:∀w:Led,w.f.shipped=true→On x w:=fun w hw=>⟨10,by omega,ha,hw⟩;cases hys:y.f.shipped with
 |true=>exact ⟨z,hz,(hon y hys).le hlz⟩
 |false=>
  have hyy:y.f.yes=true:=hl.fl 6 hd;have hh:H.c.handle m=H.c.QM ⟨.shipped,m.id,[]⟩:=by
   unfold Qa.handle;rw [if_neg (by simp [h.up.c]),if_neg (by omega)];simp only [hy];rw [if_neg (by omega),if_neg (by omega),if_neg (by omega),if_pos hk,if_pos (by simp [hf,hyy,hys])]
  rw [hh];obtain ⟨w,hw,hlw⟩:=Jv h (.shipped m.id y hy hyy) (QB hg.2.1 hg.2.2 _) hy rfl;exact ⟨w,hw,(hon _ rfl).le hlw⟩
theorem QAl (h:Qw H) {m:Msg} (hm:m∈H.p.l) (ht:m.to=0) (hk:m.kind=7∨m.kind=8) {x y:Led} (hy:Qc H.c.l m.id=some y) (hl:Xc x y) (hd:x.decided=false) (ha:x.f.asked=true) (hi:m.frm=1∨m.frm=2) (hs:x.said m.frm=false):
 ∃z,Qc (H.c.handle m).2.l m.id=some z∧On x z:=by
 obtain ⟨z,hz,hlz⟩:=(h.cop hm ht).keep m.id y hy;have hcf:=h.hs.fine.c;have hg:=hcf.ok.get hy;cases hyd:y.decided with
 |true=>exact ⟨z,hz,(Fv hd hyd).le hlz⟩
 |false=>
  have hya:y.f.asked=true:=hl.fl 13 ha;have hyt:=hg.1.tally;rw [hya,hyd] at hyt;have hh:H.c.handle m=H.c.Yo y m:=by
   unfold Qa.handle;rw [if_neg (by simp [h.up.c]),if_neg (by omega)];simp only [hy];rw [if_neg (by omega),if_pos hk]
  rw [hh];unfold Qa.Yo;split;rename_i e;rw [e] at hyt;simp at hyt
  ·rename_i a b hab;split;exact zTe121
   ·by_cases hc:(if m.frm=1 then b&& !a else a&& !b)=true;rw [if_pos hc];obtain ⟨w,hw,hlw⟩:=TE h (.yes m.id y hy hya hyd) (QB hg.2.1 hg.2.2 _) hy rfl;exact ⟨w,hw,(Fv hd (by unfold Led.decided Led.facts;simp)).le hlw⟩
    ·rw [if_neg hc];refine ⟨y.says (m.frm-1),QJ _ _ _,?_⟩;have hsd:(y.says (m.frm-1)).said m.frm=true:=by
      unfold Led.said Led.says;rw [hab];rcases hi with e|e<;>rw [e]<;>rfl
     rcases hi with e|e;rw [e] at hs hsd;exact ⟨11,by omega,by show (x.decided||x.said 1)=false;rw [hd,hs];rfl,by show ((y.says _).decided||(y.says _).said 1)=true;rw [e,hsd];simp⟩;rw [e] at hs hsd;exact ⟨12,by omega,by show (x.decided||x.said 2)=false;rw [hd,hs];rfl,by show ((y.says _).decided||(y.says _).said 2)=true;rw [e,hsd];simp⟩
theorem Jz (x:Led) {k:Nat} (hk:k<3):x.fl k=x.f.done.getD k false:=by
 have hq:k=0∨k=1∨k=2:=by omega
 rcases hq with rfl|rfl|rfl<;>rfl
theorem Zm (x:Led) {k:Nat} (hk:k<3):x.fl (3+k)=x.f.undone.getD k false:=by
 have hq:k=0∨k=1∨k=2:=by omega
 rcases hq with rfl|rfl|rfl<;>rfl
theorem Qk0 {l:List Bool} {k:Nat} (hk:k<l.length) (h0:l.getD k false=false) (h1:∀j,j<k→l.getD j false=true):XY l false=k:=by
 unfold XY;have:l.findIdx? (fun x=>x==false)=some k:=by
  rw [List.findIdx?_eq_some_iff_getElem];refine ⟨hk,?_,fun j hj=>?_⟩;rw [List.getD_eq_getElem?_getD,List.getElem?_eq_getElem hk] at h0;simpa using h0;have:=h1 j hj;rw [List.getD_eq_getElem?_getD,List.getElem?_eq_getElem (by omega)] at this;simpa using this
 rw [this]
theorem Qcm {x y:Led} (hl:y.o=x.o) {m:Msg} {k:Nat} {s:Sp} (hs:x.o.steps[k]? =some s) (hst:m.step=(k:Int)) (hf:m.frm=s.svc):y.service m.step m.frm=true:=by
 obtain ⟨hk,he⟩:=List.getElem?_eq_some_iff.1 hs;unfold Led.service;rw [hl,hst,hf];simp only [Bool.and_eq_true,decide_eq_true_eq];refine ⟨⟨by omega,by omega⟩,?_⟩;rw [Int.toNat_natCast,List.getD_eq_getElem?_getD,List.getElem?_map,hs];rfl
theorem Qz0 (h:Qw H) {m:Msg} (hm:m∈H.p.l) (ht:m.to=0) (hk:m.kind=2∨m.kind=3) {x y:Led} (hx:x.ok m.id) (hy:Qc H.c.l m.id=some y) (hl:Xc x y) (hd:x.decided=false) {k:Nat} {s:Sp} (hs:x.o.steps[k]? =some s) (hst:m.step=(k:Int)) (hf:m.frm=s.svc) (hb:XY x.f.done false=k):
 ∃z,Qc (H.c.handle m).2.l m.id=some z∧On x z:=by
 obtain ⟨z,hz,hlz⟩:=(h.cop hm ht).keep m.id y hy;have hg:=h.hs.fine.c.ok.get hy;obtain ⟨b1,b2,b3⟩:=VZ hb;have hlen:=hx.o.len;have hk3:k<3:=by have:=(List.getElem?_eq_some_iff.1 hs).1;omega
 cases hyd:y.decided with
 |true=>exact ⟨z,hz,(Fv hd hyd).le hlz⟩
 |false=>
  have hsv:=Qcm hl.o hs hst hf;have hh:H.c.handle m=H.c.steps y m:=by
   unfold Qa.handle;rw [if_neg (by simp [h.up.c]),if_neg (by omega)];simp only [hy];rw [if_pos (by omega)]
  cases hyk:y.f.done.getD k false with
  |true=>exact ⟨z,hz,On.le ⟨k,by omega,(Jz x hk3).trans b2,(Jz y hk3).trans hyk⟩ hlz⟩
  |false=>
   rw [hh];unfold Qa.steps;rw [if_neg (by simp [hsv])];by_cases h3:m.kind=3;rw [if_pos (by simp [h3,hyd]),Tv];exact zTe121
   ·have h2:m.kind=2:=by omega
    have hyl:y.f.done.length=x.f.done.length:=by rw [(mpt hg.1.may).1,(mpt hx.may).1,hl.o]
    have hbf:XY y.f.done false=(k:Int):=Qk0 (by omega) hyk (fun j hj=>by
     have:=b3 j hj;rw [←Jz x (by omega)] at this;rw [←Jz y (by omega)];exact hl.fl _ this)
    have hya:y.f.asked=false:=by
     cases e:y.f.asked;rfl;have:=hg.1.full e;rw [List.contains_eq_mem,decide_eq_false_iff_not] at this;rw [List.getD_eq_getElem?_getD,List.getElem?_eq_getElem (by omega)] at hyk;simp only [Option.getD_some] at hyk;exact absurd (hyk▸List.getElem_mem (by omega)) this
    have hno:QU (k:Int):=QX (by omega) (by omega);rw [if_neg (by simp [h3]),if_pos h2,if_pos (by simp [hya,hyd,hbf,hst]),hst];obtain ⟨w,hw,hlw⟩:=Jv h (.done m.id k y hy hya hyd hbf) (QH hg.2.1 hg.2.2 _ hno) hy rfl;refine ⟨w,hw,On.le ⟨k,by omega,(Jz x hk3).trans b2,?_⟩ hlw⟩;rw [Jz _ hk3];exact ZC (l:=y.f.done) (k:=k) (by omega)
theorem Qqg {l:List Bool} {k:Nat} (hk:k<l.length) (h0:l.getD k false=false) (h1:∀j,k<j→j<l.length→l.getD j false=true):QF l=k:=by
 unfold QF;have:l.reverse.findIdx? (fun b=>!b)=some (l.length-1-k):=by
  rw [List.findIdx?_eq_some_iff_getElem];refine ⟨by simp;omega,?_,fun j hj=>?_⟩;rw [List.getElem_reverse];rw [List.getD_eq_getElem?_getD,List.getElem?_eq_getElem hk] at h0;simp only [Option.getD_some] at h0;have e:l.length-1-(l.length-1-k)=k:=by omega
  simp only [e,h0];rfl;rw [List.getElem_reverse];have:=h1 (l.length-1-j) (by omega) (by omega);rw [List.getD_eq_getElem?_getD,List.getElem?_eq_getElem (by omega)] at this;simp only [Option.getD_some] at this;simp [this]
 rw [this];simp only;omega
theorem Qs9 (h:Qw H) {m:Msg} (hm:m∈H.p.l) (ht:m.to=0) (hk:m.kind=5) {x y:Led} (hx:x.ok m.id) (hy:Qc H.c.l m.id=some y) (hl:Xc x y) (hd:x.f.turned=true) {k:Nat} {s:Sp} (hs:x.o.steps[k]? =some s) (hst:m.step=(k:Int)) (hf:m.frm=s.svc) (hb:QF x.f.undone=k) (hlast:∀j,k<j→j<x.f.undone.length→x.f.undone.getD j false=true):
 ∃z,Qc (H.c.handle m).2.l m.id=some z∧On x z:=by
 obtain ⟨z,hz,hlz⟩:=(h.cop hm ht).keep m.id y hy;have hg:=h.hs.fine.c.ok.get hy;obtain ⟨b1,b2⟩:=KD hb;have hlen:=hx.o.len;have hk3:k<3:=by have:=(List.getElem?_eq_some_iff.1 hs).1;omega
 have hsv:=Qcm hl.o hs hst hf;have hyt:y.f.turned=true:=hl.fl 7 hd;have hh:H.c.handle m=H.c.steps y m:=by
  unfold Qa.handle;rw [if_neg (by simp [h.up.c]),if_neg (by omega)];simp only [hy];rw [if_pos (by omega)]
 cases hyk:y.f.undone.getD k false with
 |true=>exact ⟨z,hz,On.le ⟨3+k,by omega,(Zm x hk3).trans b2,(Zm y hk3).trans hyk⟩ hlz⟩
 |false=>
  rw [hh];unfold Qa.steps;have hyl:y.f.undone.length=x.f.undone.length:=by rw [(mpt hg.1.may).2.1,(mpt hx.may).2.1,hl.o]
  have hxl:x.f.undone.length≤3:=by rw [(mpt hx.may).2.1];exact hlen
  have hbf:QF y.f.undone=(k:Int):=Qqg (by omega) hyk (fun j hj hj2=>by
   have:=hlast j hj (by omega);rw [←Zm x (by omega)] at this;rw [←Zm y (by omega)];exact hl.fl _ this)
  have hno:QU (k:Int):=QX (by omega) (by omega);rw [if_neg (by simp [hsv]),if_neg (by simp [hk]),if_neg (by omega),if_pos hk,if_pos (by simp [hyt,hbf,hst]),hst];obtain ⟨w,hw,hlw⟩:=Jv h (.undone m.id k y hy hyt hbf) (QH hg.2.1 hg.2.2 _ hno) hy rfl;refine ⟨w,hw,On.le ⟨3+k,by omega,(Zm x hk3).trans b2,?_⟩ hlw⟩;rw [Zm _ hk3];exact ZC (l:=y.f.undone) (k:=k) (by omega)
end
theorem QAi {es:List Entry} (h:∀e∈es,KpE e) (id:Int):0≤mgi (kst es) id∧mgi (kst es) id≤5:=by
 unfold kst;have key:∀(es:List Entry) (st:IM Int),(∀id,0≤mgi st id∧mgi st id≤5)→(∀e∈es,KpE e)→∀id,0≤mgi (es.foldl Ka st) id∧mgi (es.foldl Ka st) id≤5:=by
  intro es
  induction es with
  |nil=>intro st h _;exact h
  |cons e r ih=>
   intro st hs he;refine ih _ (fun id=>?_) (fun x hx=>he x (by simp [hx]));rw [Qfu (he e (by simp))];split;exact Qet _;exact hs id
 exact key es [] (fun id=>⟨by show (0:Int)≤0;omega,by show (0:Int)≤5;omega⟩) h id
section
variable {H:Qb}
theorem Qw.Qnj (h:Qw H) {i:Int} (hi:i=1∨i=2) (id:Int):0≤H.kv i id∧H.kv i id≤5:=by
 have hk:∀e∈(H.kn i).j.es,KpE e:=by
  unfold Qb.kn;rcases hi with rfl|rfl;exact h.hs.fine.k0.es;exact h.hs.fine.k1.es
 exact QAi hk id
theorem Tx (h:Qw H) {i:Int} (hi:i=1∨i=2) {m:Msg} (hm:m∈H.p.l) (hto:m.to=i):∃can,H.XK m=Qs3 (H.kn i) m (Qr (H.kv i m.id) m.kind can).2∧(H.kn i).node=i:=by
 have hmo:=h.hs.fine.ms m hm;have hk:(H.kn i).j.down=false∧(H.kn i).j.room=4096∧KF i (H.kn i):=by
  unfold Qb.kn;rcases hi with rfl|rfl;exact ⟨h.up.k0,h.hc.k0,h.hs.fine.k0⟩;exact ⟨h.up.k1,h.hc.k1,h.hs.fine.k1⟩
 have hr:H.XK m=((H.kn i).handle m).1:=by
  unfold Qb.XK Qb.kn;rw [hto];rcases hi with rfl|rfl<;>rfl
 obtain ⟨s',r,e1, -, -, -, -,e6, -⟩:=Uq (n:=i) (h.hs.kn i) hk.1 hmo.id0 hmo.id1 (hmo.k (by omega)).2;have hlen:=Qc7 (h.hs.kn i) hk.2.2;rcases e6 with ⟨can, -,e7⟩|⟨-, -,e7⟩;exact ⟨can,by rw [hr,e1,e7];rfl,hk.2.2.node⟩;rw [hk.2.1] at e7;omega
theorem Qfd (h:Qw H) {i:Int} (hi:i=1∨i=2) {m:Msg} (hm:m∈H.p.l) (hto:m.to=i) (hk:m.kind=9∨m.kind=10):∃r,(r=11∨r=17)∧H.XK m= [⟨r,i,0,m.id,0,0,0⟩]:=by
 obtain ⟨can,e,hn⟩:=Tx h hi hm hto;have hs:=h.Qnj hi m.id;have hr:(Qr (H.kv i m.id) m.kind can).2=11∨(Qr (H.kv i m.id) m.kind can).2=17:=by
  have hsafe:=h.hs.safe;rcases hk with hk|hk;have hy:=hsafe.m9 m hm (.inl hk);obtain ⟨h0,h3⟩:=hsafe.yes i m.id hi hy;generalize H.kv i m.id=s at *;rw [hk];rcases (show s=1∨s=2∨s=4∨s=5 by omega) with rfl|rfl|rfl|rfl;exact .inl rfl;exact .inl rfl;exact .inl rfl;exact .inr rfl;have ht:=hsafe.m10 m hm hk;have h2:H.kv i m.id≠2:=fun e2=>h.hs.xor m.id ⟨hsafe.k2 i m.id hi e2,ht⟩;generalize H.kv i m.id=s at *;rw [hk];rcases (show s=0∨s=1∨s=3∨s=4∨s=5 by omega) with rfl|rfl|rfl|rfl|rfl;exact .inl rfl;exact .inl rfl;exact .inl rfl;exact .inr rfl;exact .inl rfl
 refine ⟨_,hr,?_⟩;rw [e];unfold Qs3;rw [if_neg (by omega),if_pos hr,hn]
theorem Qh9 (h:Qw H) {i:Int} (hi:i=1∨i=2) {m:Msg} (hm:m∈H.p.l) (hto:m.to=i) (hk:m.kind=6) (hf:m.frm=0):H.c.view.yes m.id∨∃r,(r=7∨r=8)∧H.XK m= [⟨r,i,0,m.id,0,0,0⟩]:=by
 obtain ⟨can,e,hn⟩:=Tx h hi hm hto;have hs:=h.Qnj hi m.id;by_cases h2:H.kv i m.id=2;exact .inl (h.hs.safe.k2 i m.id hi h2);have hr:(Qr (H.kv i m.id) m.kind can).2=7∨(Qr (H.kv i m.id) m.kind can).2=8:=by
  generalize H.kv i m.id=s at *;rw [hk];rcases (show s=0∨s=1∨s=3∨s=4∨s=5 by omega) with rfl|rfl|rfl|rfl|rfl;cases can;exact .inr rfl;exact .inl rfl;exact .inl rfl;exact .inr rfl;exact .inl rfl;exact .inr rfl
 refine .inr ⟨_,hr,?_⟩;rw [e];unfold Qs3;rw [if_neg (by omega),if_neg (by omega),hn,hf]
def Key (x:Led) (m:Msg):Prop:=∀G:Qb,Qw G→m∈G.p.l→∀xg,Qc G.c.l m.id=some xg→Xc x xg→On x xg∨∃a∈G.XK m,a.id=m.id∧a.to=0∧∀G2:Qb,Qw G2→a∈G2.p.l→∀y,Qc G2.c.l a.id=some y→Xc x y→∃z,Qc (G2.c.handle a).2.l a.id=some z∧On x z
theorem ZW {x:Led} {id:Int} (hx:x.ok id) {k i:Int} (hk:k=9∨k=10) (hi:i=1∨i=2) (hd:x.decided=true) (ha:x.Tf i=false):Key x (QO k i x.o):=by
 intro G hG hm xg hxg hl;obtain ⟨r,hr,e⟩:=Qfd hG hi hm rfl hk;refine .inr ⟨⟨r,i,0,x.o.id,0,0,0⟩,by rw [e];exact List.mem_singleton.2 rfl,rfl,rfl,fun G2 hG2 ha2 y hy hly=>?_⟩;exact QEt hG2 ha2 rfl hr hy hly hd hi ha
theorem Qar {x:Led} {id:Int} (hx:x.ok id) {i a b:Int} (hi:i=1∨i=2) (hd:x.decided=false) (has:x.f.asked=true) (hs:x.said i=false):Key x ⟨6,0,i,x.o.id,0,a,b⟩:=by
 intro G hG hm xg hxg hl;rcases Qh9 hG hi hm rfl rfl rfl with ⟨v,hv,hy⟩|⟨r,hr,e⟩;obtain ⟨w,hw,h1, -⟩:=(XD hG.hs.fine.c hG.up.c x.o.id).2 hv;have hxg:Qc G.c.l x.o.id=some xg:=hxg;rw [hxg] at hw;obtain rfl:=Option.some.inj hw;exact .inl (Fv hd (by unfold Led.decided;rw [h1,hy];rfl));refine .inr ⟨⟨r,i,0,x.o.id,0,0,0⟩,by rw [e];exact List.mem_singleton.2 rfl,rfl,rfl,fun G2 hG2 ha2 y hy hly=>?_⟩;exact QAl hG2 ha2 rfl hr hy hly hd has hi hs
theorem KT (h:Qw H) {m:Msg} (hm:m∈H.p.l) (ht:4≤m.to):(m.kind=1→∃k,(k=2∨k=3)∧H.XK m= [⟨k,m.to,0,m.id,m.step,0,0⟩])∧(m.kind=4→H.XK m= [⟨5,m.to,0,m.id,m.step,0,0⟩]):=by
 have hd:=(h.hs.fine.ms m hm).dst;unfold Qb.XK;rw [if_neg (by omega),if_neg (by omega),if_neg (by omega),if_neg (by omega)];by_cases h4:m.to=4;rw [if_pos h4,h4];exact UE h.hc.v0 h.hs.fine.v0 h.up.v0 m;rw [if_neg h4];by_cases h5:m.to=5;rw [if_pos h5,h5];exact UE h.hc.v1 h.hs.fine.v1 h.up.v1 m;rw [if_neg h5,show m.to=6 by omega];exact UE h.hc.v2 h.hs.fine.v2 h.up.v2 m
theorem Qwi {x:Led} {id:Int} (hx:x.ok id) (hd:x.decided=false) {k:Nat} {s:Sp} (hs:x.o.steps[k]? =some s) (hb:XY x.f.done false=k):Key x ⟨1,0,s.svc,x.o.id,(k:Int),s.n,0⟩:=by
 intro G hG hm xg hxg hl;have hsv:=hx.o.svc s (List.mem_of_getElem? hs);obtain ⟨r,hr,e⟩:=(KT hG hm (by show 4≤s.svc;omega)).1 rfl;refine .inr ⟨⟨r,s.svc,0,x.o.id,(k:Int),0,0⟩,by rw [e];exact List.mem_singleton.2 rfl,rfl,rfl,fun G2 hG2 ha2 y hy hly=>?_⟩;exact Qz0 hG2 ha2 rfl hr (by rw [hx.id];exact hx) hy hly hd hs rfl rfl hb
theorem Qxx {x:Led} {id:Int} (hx:x.ok id) (hd:x.f.turned=true) {k:Nat} {s:Sp} (hs:x.o.steps[k]? =some s) (hb:QF x.f.undone=k) (hlast:∀j,k<j→j<x.f.undone.length→x.f.undone.getD j false=true):Key x ⟨4,0,s.svc,x.o.id,(k:Int),0,0⟩:=by
 intro G hG hm xg hxg hl;have hsv:=hx.o.svc s (List.mem_of_getElem? hs);have e:=(KT hG hm (by show 4≤s.svc;omega)).2 rfl;refine .inr ⟨⟨5,s.svc,0,x.o.id,(k:Int),0,0⟩,by rw [e];exact List.mem_singleton.2 rfl,rfl,rfl,fun G2 hG2 ha2 y hy hly=>?_⟩;exact Qs9 hG2 ha2 rfl rfl (by rw [hx.id];exact hx) hy hly hd hs rfl rfl hb hlast
theorem Qw0 {x:Led} {id:Int} (hx:x.ok id) (hd:x.f.yes=true) (ha:x.f.shipped=false) (a b:Int):Key x ⟨15,0,3,x.o.id,0,a,b⟩:=by
 intro G hG hm xg hxg hl;have e:G.XK ⟨15,0,3,x.o.id,0,a,b⟩= [⟨16,3,0,x.o.id,0,0,0⟩]:=Da hG.hc.s hG.hs.fine.s hG.up.s _;refine .inr ⟨⟨16,3,0,x.o.id,0,0,0⟩,by rw [e];exact List.mem_singleton.2 rfl,rfl,rfl,fun G2 hG2 ha2 y hy hly=>?_⟩;exact Qz9 hG2 ha2 rfl rfl rfl hy hly hd ha
def Qrd (H:Qb):Prop:=∀id x,Qc H.c.l id=some x→x.shut=false→(∀m∈Xa x.o x.f,m∈H.p.l)∧(x.decided=false→x.f.done.contains false=false→x.f.asked=true)
theorem Qwy {l:List Bool} {i:Nat} (h:l.reverse.findIdx? (fun b=>!b)=some i):i<l.length∧l.getD (l.length-1-i) false=false∧∀j,l.length-1-i<j→j<l.length→l.getD j false=true:=by
 obtain ⟨hl,hp,hq⟩:=List.findIdx?_eq_some_iff_getElem.1 h;have hl:i<l.length:=by simpa using hl
 refine ⟨hl,?_,fun j hj hj2=>?_⟩;rw [List.getElem_reverse] at hp;rw [List.getD_eq_getElem?_getD,List.getElem?_eq_getElem (by omega)];simp only [Option.getD_some];simpa using hp;have:=hq (l.length-1-j) (by omega);rw [List.getElem_reverse] at this;rw [List.getD_eq_getElem?_getD,List.getElem?_eq_getElem hj2];simp only [Option.getD_some];have e:l.length-1-(l.length-1-j)=j:=by omega
 simp only [e] at this;simpa using this
theorem Qnu (h:Qw H) (hF:Qrd H) {id:Int} {x:Led} (hx:Qc H.c.l id=some x) (ho:x.shut=false):∃m∈H.p.l,m.id=id∧Key x m:=by
 have hg:=(h.hs.fine.c.ok.get hx).1;have hid:=hg.id;obtain ⟨hF1,hF2⟩:=hF id x hx ho;have hlen:=hg.o.len;obtain ⟨m1,m2, -⟩:=mpt hg.may;rw [Uo hg.may] at hF1;cases ht:x.f.turned with
 |true=>
  have hd:x.decided=true:=by unfold Led.decided;rw [ht];simp
  rw [if_pos ht] at hF1;cases ha0:x.f.ack0 with
  |false=>exact ⟨QO 10 1 x.o,hF1 _ (List.mem_append_left _ (by unfold Qu;rw [ha0];simp)),hid,ZW hg (.inr rfl) (.inl rfl) hd ha0⟩
  |true=>
  cases ha1:x.f.ack1 with
  |false=>exact ⟨QO 10 2 x.o,hF1 _ (List.mem_append_left _ (by unfold Qu;rw [ha1];simp)),hid,ZW hg (.inr rfl) (.inr rfl) hd ha1⟩
  |true=>
  cases hq:x.f.undone.reverse.findIdx? (fun b=>!b) with
  |none=>
   exfalso;have hall:(List.range x.o.steps.length).all (fun k=>x.fl (3+k))=true:=by
    rw [List.all_eq_true];intro j hj;have hj:j<x.o.steps.length:=by simpa using hj
    rw [Zm x (by omega),List.getD_eq_getElem?_getD,List.getElem?_eq_getElem (by omega)];have:=List.findIdx?_eq_none_iff.1 hq x.f.undone[j] (by simp);simpa using this
   unfold Led.shut at ho;rw [ha0,ha1,ht,hall] at ho;simp at ho
  |some i=>
   obtain ⟨q1,q2,q3⟩:=Qwy hq;have hlt:x.f.undone.length-1-i<x.o.steps.length:=by omega
   have hs:x.o.steps[x.f.undone.length-1-i]? =some x.o.steps[x.f.undone.length-1-i]:=List.getElem?_eq_getElem hlt;have hu:XX x.o x.f= [⟨4,0,(x.o.steps[x.f.undone.length-1-i]).svc,x.o.id,((x.f.undone.length-1-i:Nat):Int),0,0⟩]:=by
    unfold XX;rw [hq];simp only;rw [hs]
   refine ⟨_,hF1 _ (List.mem_append_right _ (by rw [hu];exact List.mem_singleton.2 rfl)),hid,Qxx hg ht hs ?_ q3⟩;exact Qqg (by omega) q2 q3
 |false=>
  rw [if_neg (by simp [ht])] at hF1;cases hy:x.f.yes with
  |true=>
   have hd:x.decided=true:=by unfold Led.decided;rw [hy];rfl
   rw [if_pos hy] at hF1;have hsub:∀m∈Qu 9 x.o x.f,m∈H.p.l:=fun m hm=>hF1 m (by split;exact hm;exact List.mem_append_left _ hm);cases ha0:x.f.ack0 with
   |false=>exact ⟨QO 9 1 x.o,hsub _ (by unfold Qu;rw [ha0];simp),hid,ZW hg (.inl rfl) (.inl rfl) hd ha0⟩
   |true=>
   cases ha1:x.f.ack1 with
   |false=>exact ⟨QO 9 2 x.o,hsub _ (by unfold Qu;rw [ha1];simp),hid,ZW hg (.inl rfl) (.inr rfl) hd ha1⟩
   |true=>
   cases hsh:x.f.shipped with
   |true=>
    unfold Led.shut at ho;rw [ha0,ha1,hy,hsh] at ho;simp at ho
   |false=>
    rw [if_neg (by simp [hsh])] at hF1;exact ⟨_,hF1 _ (List.mem_append_right _ (List.mem_singleton.2 rfl)),hid,Qw0 hg hy hsh _ _⟩
  |false=>
   have hd:x.decided=false:=by unfold Led.decided;rw [hy,ht];rfl
   rw [if_neg (by simp [hy])] at hF1;unfold QW at hF1;cases hq:x.f.done.findIdx? (fun b=>!b) with
   |some i=>
    rw [hq] at hF1;obtain ⟨hl,hp,hr⟩:=List.findIdx?_eq_some_iff_getElem.1 hq;have hs:x.o.steps[i]? =some x.o.steps[i]:=List.getElem?_eq_getElem (by omega);simp only [hs] at hF1;refine ⟨_,hF1 _ (List.mem_singleton.2 rfl),hid,Qwi hg hd hs ?_⟩;refine Qk0 hl ?_ (fun j hj=>?_);rw [List.getD_eq_getElem?_getD,List.getElem?_eq_getElem hl];simpa using hp;have:=hr j hj;rw [List.getD_eq_getElem?_getD,List.getElem?_eq_getElem (by omega)];simpa using this
   |none=>
    rw [hq] at hF1;simp only at hF1;have hfull:x.f.done.contains false=false:=by
     rw [List.contains_eq_mem,decide_eq_false_iff_not];intro hm;have:=List.findIdx?_eq_none_iff.1 hq false hm;simp at this
    have has:=hF2 hd hfull;have hns:x.said 1=false∨x.said 2=false:=by
     have h2:=h.hs.fine.c.two id x hx;unfold Led.said;cases htt:x.t with
     |none=>exact .inl rfl
     |some p=>
      obtain ⟨a,b⟩:=p;rw [htt] at h2;cases a;exact .inl rfl;cases b;exact .inr rfl;exact absurd rfl h2
    rcases hns with hn|hn;exact ⟨⟨6,0,1,x.o.id,0,x.o.item,x.o.qty⟩,hF1 _ (by simp),hid,Qar hg (.inl rfl) hd has hn⟩;exact ⟨⟨6,0,2,x.o.id,0,x.o.client,x.o.price⟩,hF1 _ (by simp),hid,Qar hg (.inr rfl) hd has hn⟩
end
section
variable {H:Qb}
def Tm (c c':Qa):Prop:=∀id x,Qc c.l id=some x→∃y,Qc c'.l id=some y∧Xc x y
theorem Tm.trans {a b c:Qa} (h:Tm a b) (h':Tm b c):Tm a c:=fun id x hx=>by
 obtain ⟨y,hy,h1⟩:=h id x hx;obtain ⟨z,hz,h2⟩:=h' id y hy;exact ⟨z,hz,h1.trans h2⟩
theorem Tm.refl (c:Qa):Tm c c:=fun id x hx=>⟨x,hx,.refl x⟩
theorem Qjp (h:Qw H) {m:Msg} (hm:m∈H.p.l):Tm H.c (H.Vy m):=by
 unfold Qb.Vy;split;exact (h.cop hm ‹_›).keep;exact .refl _
theorem Fh (h:Qw H):Tm H.c (H.take 5 0).2.c:=by
 cases hq:H.p.l with
 |nil=>rw [take_nil hq];exact .refl _
 |cons m q=>rw [XR hq,(Ze H q m).2];exact Qjp h (by rw [hq];simp)
theorem Zr:∀(n:Nat) {H:Qb},Qw H→Tm H.c (Qb.takes n H).c
 |0,_,_=>.refl _
 |n+1,_,h=>(Fh h).trans (Zr n h.take1)
theorem Ql3 (h:Qw H) (i:Int) {ids:List Int} (hi:∀id∈ids,1≤id∧id≤999):Tm H.c (H.rings i ids).c:=KR ids i h.hs hi
theorem Quz (h:Qw H):Tm H.c H.ph1.c:=Zr _ h
theorem Qd1 (h:Qw H):Tm H.ph1.c H.ph2.c:=Ql3 h.ph1 0 (VF h.ph1.DC.1)
theorem Qb3 (h:Qw H):Tm H.c H.round.c:=by
 rw [XB h.up,(Qlk (l:=0) H).1];exact (Quz h).trans (Qd1 h)
theorem VN:∀(ids:List Int) {H:Qb} {k:Int},Qw H→(∀id∈ids,1≤id∧id≤999)→k∉ids→Qc (H.rings 0 ids).c.l k=Qc H.c.l k
 | [],_,_,_,_,_=>rfl
 |id::r,H,k,h,hi,hk=>by
  have h1:Qc (H.Qo 0 id).2.c.l k=Qc H.c.l k:=by
   rw [(Ut h (.inl rfl) id).2,if_pos rfl];exact Qpi h.hs.fine.c (fun e=>hk (by simp [e]))
  show Qc ((H.Qo 0 id).2.rings 0 r).c.l k=_
  rw [VN r (h.Qo 0 (hi id (by simp))) (fun x hx=>hi x (by simp [hx])) (fun e=>hk (by simp [e])),h1]
theorem Qj2 (H:Qb) (i:Int) (a b:List Int):H.rings i (a++b)=(H.rings i a).rings i b:=by
 unfold Qb.rings;rw [List.foldl_append]
structure Few (H:Qb):Prop where
 well:Qw H
 c3:cl 3 H.p.l+H.c.be≤162
 c2:cl 2 H.p.l+H.c.be≤204
 c1:cl 1 H.p.l+H.c.be≤246
 c4:cl 4 H.p.l≤24
theorem Few.round (h:Few H):Few H.round:=by
 have a:=Qef h.well;have b:=Qib h.well;have c:cl 2 H.round.p.l+H.round.c.be≤cl 3 H.p.l+H.c.be+42:=KW (l:=2) h.well (.inr rfl);have d:cl 1 H.round.p.l+H.round.c.be≤cl 2 H.p.l+H.c.be+42:=KW (l:=1) h.well (.inl rfl);have h1:=h.c1;have h2:=h.c2;have h3:=h.c3;have h4:=h.c4;exact ⟨h.well.round,by omega,by omega,by omega,a⟩
theorem Few.bal (h:Few H):H.bal≤246:=by
 have:=h.c1;unfold Qb.bal;rw [←Qam];exact this
theorem Few.bal1 (h:Few H):H.ph1.bal≤204:=by
 have:cl 1 H.ph1.p.l+H.ph1.c.be≤cl 2 H.p.l+H.c.be:=Qys (l:=1) h.well (.inl rfl);have:=h.c2;unfold Qb.bal;rw [←Qam];omega
theorem Few.grow (h:Few H):(∃N,H.ph2.p.l=H.ph1.p.l++N)∧H.ph2.bal≤222∧(∃N,H.round.p.l=H.ph2.p.l++N):=by
 have hb:=h.bal1;obtain ⟨l0,l1,l2⟩:=h.well.len;obtain ⟨a1,a2⟩:=Xz 0 (.inl rfl) (w:=3) rfl H.ph1.c.ids h.well.ph1 h.well.ph1.DC.1 (by omega);have a2:H.ph2.bal≤H.ph1.bal+3*H.ph1.c.ids.length:=a2;obtain ⟨⟨N1,b1⟩,b2⟩:=Xz 1 (.inr (.inl rfl)) (w:=2) rfl H.ph2.k0.waits h.well.ph2 (h.well.ph2.kn (.inl rfl)).2.2 (by omega);have b2:H.ph3.bal≤H.ph2.bal+2*H.ph2.k0.waits.length:=b2;obtain ⟨⟨N2,c1⟩,c2⟩:=Xz 2 (.inr (.inr rfl)) (w:=2) rfl H.ph3.k1.waits h.well.ph3 (h.well.ph3.kn (.inr rfl)).2.2 (by omega);refine ⟨a1,by omega,N1++N2,?_⟩;rw [XB h.well.up];have b1:H.ph3.p.l=H.ph2.p.l++N1:=b1
 show (H.ph3.rings 2 H.ph3.k1.waits).p.l=_
 rw [c1,b1,List.append_assoc]
theorem Few.stays (h:Few H):∀m∈H.ph1.p.l,m∈H.round.p.l:=fun m hm=>by
 obtain ⟨⟨N,a⟩, -,N2,b⟩:=h.grow;rw [b,a];simp [hm]
theorem Few.fresh (h:Few H):Qrd H.round:=by
 intro id x hx ho;have hc:H.round.c=H.ph2.c:=by rw [XB h.well.up];exact (Qlk (l:=0) H).1
 rw [hc] at hx;have hw:=h.well.ph1;obtain ⟨hi6,hpw⟩:=hw.DC;have hi9:=VF hi6;have hb:=h.bal1;obtain ⟨l0, -, -⟩:=h.well.len;have hin:id∈H.ph1.c.ids:=by
  by_cases hmem:id∈H.ph1.c.ids;exact hmem;have:Qc H.ph2.c.l id=Qc H.ph1.c.l id:=VN _ hw hi9 hmem;rw [this] at hx;exact List.mem_map.2 ⟨(id,x),Xe hx,rfl⟩
 obtain ⟨pre,post,hsp⟩:=List.append_of_mem hin;have hnd:id∉pre∧id∉post:=by
  rw [hsp,List.pairwise_append] at hpw;refine ⟨fun hm=>?_,fun hm=>?_⟩;have:=hpw.2.2 id hm id (by simp);omega;have:=(List.pairwise_cons.1 hpw.2.1).1 id hm;omega
 have hlen:pre.length+(1+post.length)≤6:=by rw [hsp] at l0;simp at l0;omega
 have h6p:∀k∈pre,1≤k∧k≤6:=fun k hk=>hi6 k (by rw [hsp];simp [hk]);have h6q:∀k∈post,1≤k∧k≤6:=fun k hk=>hi6 k (by rw [hsp];simp [hk]);have h6i:=hi6 id hin;have hph2:H.ph2=(((H.ph1.rings 0 pre).Qo 0 id).2).rings 0 post:=by
  show H.ph1.rings 0 H.ph1.c.ids=_
  rw [hsp,Qj2];rfl
 have hwG:=hw.rings 0 (VF h6p);obtain ⟨-,g2⟩:=Xz 0 (.inl rfl) (w:=3) rfl pre hw h6p (by omega);generalize hG:H.ph1.rings 0 pre=G at *;have hwG2:=hwG.Qo 0 (id:=id) (by omega);have hgx:Qc G.c.l id=Qc H.ph1.c.l id:=by rw [←hG];exact VN pre hw (VF h6p) hnd.1
 obtain ⟨p,hp,hpe⟩:=List.mem_map.1 hin;have hx0:Qc G.c.l id=some p.2:=by rw [hgx,←hpe];exact Qaa hw.hs.fine.c.ok.keys.1 hp
 obtain ⟨r1,r2⟩:=Ut hwG (.inl rfl) id;rw [if_pos rfl] at r2;obtain ⟨e1,e2⟩:=Kh hwG (.inl rfl) (id:=id) h6i (by rw [if_pos rfl];omega);rw [if_pos rfl] at e2;have hxG:Qc (G.c.ring id).2.l id=some x:=by
  rw [hph2,VN post hwG2 (VF h6q) hnd.2,r2] at hx;exact hx
 have ho0:p.2.shut=false:=by
  obtain ⟨y,hy,hl⟩:=Qdf hwG.hs 0 id id p.2 hx0;rw [r2,hxG] at hy;obtain rfl:=Option.some.inj hy;cases e:p.2.shut;rfl;rw [hl.shut e] at ho;cases ho
 obtain ⟨x1,hx1,hf⟩:=Qmv hwG hx0 ho0;rw [hxG] at hx1;obtain rfl:=Option.some.inj hx1;obtain ⟨f1,f2⟩:=hf ho;refine ⟨fun m hm=>?_,f2⟩;have hm1:m∈(G.Qo 0 id).2.p.l:=by
  rw [e1];exact List.mem_append_right _ (by unfold Qb.Qbg;rw [if_pos rfl];exact f1 m hm)
 obtain ⟨⟨N,n1⟩, -⟩:=Xz 0 (.inl rfl) (w:=3) rfl post hwG2 h6q (by omega);obtain ⟨-, -,N2,n2⟩:=h.grow;rw [n2,hph2,n1];simp [hm1]
theorem Few.on (h:Few H) (hF:Qrd H) {id:Int} {x:Led} (hx:Qc H.c.l id=some x) (ho:x.shut=false):∃z,Qc H.round.round.c.l id=some z∧Xc x z∧On x z:=by
 have hR:=h.round;have hRR:=hR.round;obtain ⟨m,hm,hmid,hkey⟩:=Qnu h.well hF hx ho;subst hmid;have hb:=h.bal;obtain ⟨i,q,hi,hq, -,hrep,hph⟩:=Qbo h.well (by omega) hm;have hwG:=h.well.takes i;obtain ⟨xg,hxg,hlg⟩:=Zr i h.well m.id x hx;have hmG:m∈(Qb.takes i H).p.l:=by rw [hq];simp
 have hend1:Tm (Qb.takes i H).c H.round.c:=by
  rw [XB h.well.up,(Qlk (l:=0) H).1];refine Tm.trans ?_ (Qd1 h.well);rw [hph];exact (Fh hwG).trans (Zr _ hwG.take1)
 rcases hkey _ hwG hmG xg hxg hlg with hon|⟨a,ha,haid,hato,hstep⟩;obtain ⟨z,hz,hlz⟩:=(hend1.trans (Qb3 hR.well)) m.id xg hxg;exact ⟨z,hz,hlg.trans hlz,hon.le hlz⟩
 ·have haR:a∈H.round.p.l:=h.stays a (hrep a ha);have hbR:=hR.bal;obtain ⟨i2,q2,hi2,hq2, -, -,hph2⟩:=Qbo hR.well (by omega) haR;have hwG2:=hR.well.takes i2;have haG2:a∈(Qb.takes i2 H.round).p.l:=by rw [hq2];simp
  obtain ⟨y0,hy0,hly0⟩:=hend1 m.id xg hxg;obtain ⟨y,hy,hly⟩:=Zr i2 hR.well m.id y0 hy0;have hxy:Xc x y:=hlg.trans (hly0.trans hly);obtain ⟨z,hz,hon⟩:=hstep _ hwG2 haG2 y (by rw [haid];exact hy) hxy;obtain ⟨z',hz',hlz'⟩:=(hwG2.cop haG2 hato).keep a.id y (by rw [haid];exact hy);rw [hz] at hz';obtain rfl:=Option.some.inj hz';have hca:((Qb.takes i2 H.round).take 5 0).2.c=((Qb.takes i2 H.round).c.handle a).2:=by
   rw [XR hq2,(Ze _ q2 a).2];unfold Qb.Vy;rw [if_pos hato]
  have hend2:Tm ((Qb.takes i2 H.round).take 5 0).2.c H.round.round.c:=by
   rw [XB hR.well.up,(Qlk (l:=0) H.round).1];refine Tm.trans ?_ (Qd1 hR.well);rw [hph2];exact Zr _ hwG2.take1
  rw [haid] at hz;obtain ⟨w,hw,hlw⟩:=hend2 m.id z (by rw [hca];exact hz);exact ⟨w,hw,hxy.trans (hlz'.trans hlw),hon.le hlw⟩
end
structure Sq (f:Nat→Qb):Prop where
 w:Qw (f 0)
 s:∀n,f (n+1)=(f n).round
section
variable {H:Qb} {f:Nat→Qb}
theorem Sq.well (h:Sq f) (n:Nat):Qw (f n):=by
 induction n with
 |zero=>exact h.w
 |succ n ih=>rw [h.s];exact ih.round
theorem few4 (h:Qw H):Few H.round.round.round.round:=by
 have w1:=h.round;have w2:=w1.round;have w3:=w2.round;have a1:=Qef h;have a2:=Qef w1;have a3:=Qef w2;have a4:=Qef w3;have b2:=Qib w1;have b3:=Qib w2;have b4:=Qib w3;have c3:cl 2 H.round.round.round.p.l+H.round.round.round.c.be≤cl 3 H.round.round.p.l+H.round.round.c.be+42:=KW (l:=2) w2 (.inr rfl);have c4:cl 2 H.round.round.round.round.p.l+H.round.round.round.round.c.be≤cl 3 H.round.round.round.p.l+H.round.round.round.c.be+42:=KW (l:=2) w3 (.inr rfl);have d4:cl 1 H.round.round.round.round.p.l+H.round.round.round.round.c.be≤cl 2 H.round.round.round.p.l+H.round.round.round.c.be+42:=KW (l:=1) w3 (.inl rfl);have w4:=w3.round;generalize H.round.round.round.round=R4 at *;generalize H.round.round.round=R3 at *;generalize H.round.round=R2 at *;generalize H.round=R1 at *;exact ⟨w4,by omega,by omega,by omega,a4⟩
theorem Qcr (h:Sq f) (n:Nat):Few (f (4+n)):=by
 induction n with
 |zero=>
  have:=few4 h.w;rw [←h.s 0,←h.s 1,←h.s 2,←h.s 3] at this;exact this
 |succ n ih=>rw [←Nat.add_assoc,h.s];exact ih.round
theorem Qpd (h:Sq f) (n:Nat):Qrd (f (5+n)):=by
 have:=(Qcr h n).fresh;rw [←h.s,show 4+n+1=5+n by omega] at this;exact this
def Led.phi (x:Led):Nat:=(List.range 13).countP x.fl
theorem QEn {x z:Led} (hl:Xc x z) (ho:On x z):x.phi+1≤z.phi:=by
 obtain ⟨k,k1,k2,k3⟩:=ho;exact FL (List.range 13) (fun j _ hj=>hl.fl j hj) ⟨k,by simpa using k1,k2,k3⟩
theorem Qzj {x:Led} {k:Int} (hx:x.ok k):x.phi≤12:=by
 have hxo:=Dc hx;have h7:x.fl 6=false∨x.fl 7=false:=by
  show x.f.yes=false∨x.f.turned=false
  cases hy:x.f.yes;exact .inl rfl;cases ht:x.f.turned;exact .inr rfl;exact absurd ⟨hy,ht⟩ hxo
 unfold Led.phi;have e:=List.length_eq_countP_add_countP (p:=x.fl) (l:=List.range 13);have:1≤(List.range 13).countP (fun a=>decide ¬x.fl a=true):=by
  rw [Nat.succ_le_iff,List.countP_pos_iff];rcases h7 with h7|h7;exact ⟨6,by simp,by simp [h7]⟩;exact ⟨7,by simp,by simp [h7]⟩
 simp only [List.length_range] at e;omega
theorem Qoy (h:Qw H):∀id y,Qc H.round.c.l id=some y→∃x,Qc H.c.l id=some x:=by
 have hring:∀(ids:List Int) {G:Qb},Qw G→(∀k∈ids,1≤k∧k≤999)→∀id y,Qc (G.rings 0 ids).c.l id=some y→∃x,Qc G.c.l id=some x:=by
  intro ids
  induction ids with
  |nil=>intro G _ _ id y hy;exact ⟨y,hy⟩
  |cons k r ih=>
   intro G hG hi id y hy;obtain ⟨x,hx⟩:=ih (hG.Qo 0 (hi k (by simp))) (fun j hj=>hi j (by simp [hj])) id y hy;rw [(Ut hG (.inl rfl) k).2,if_pos rfl] at hx;rcases (Zf hG.hs.fine.c k (fun _ _=>False)).hasB id x hx with h1|h1;exact h1;exact h1.elim
 have htake:∀(n:Nat) {G:Qb},Qw G→∀id y,Qc (Qb.takes n G).c.l id=some y→∃x,Qc G.c.l id=some x:=by
  intro n
  induction n with
  |zero=>intro G _ id y hy;exact ⟨y,hy⟩
  |succ n ih=>
   intro G hG id y hy;obtain ⟨x,hx⟩:=ih hG.take1 id y hy;cases hq:G.p.l with
   |nil=>rw [take_nil hq] at hx;exact ⟨x,hx⟩
   |cons m q=>
    rw [XR hq,(Ze G q m).2] at hx;unfold Qb.Vy at hx;split at hx
    ·rename_i hto;rcases (hG.cop (m:=m) (by rw [hq];simp) hto).hasB id x hx with h1|⟨-,h2, -⟩;exact h1
     ·subst h2;cases e:Qc G.c.l m.id with
      |some w=>exact ⟨w,rfl⟩
      |none=>
       exfalso;have hh:(G.c.handle m).2=G.c:=by
        unfold Qa.handle;split;rfl;split;rfl;rw [e]
       rw [hh,e] at hx;cases hx
    exact ⟨x,hx⟩
 intro id y hy;rw [XB h.up,(Qlk (l:=0) H).1] at hy;obtain ⟨x,hx⟩:=hring _ h.ph1 (VF h.ph1.DC.1) id y hy;exact htake _ h id x hx
theorem Qlt (h:Sq f) (n m:Nat):∀id y,Qc (f (n+m)).c.l id=some y→∃x,Qc (f n).c.l id=some x:=by
 induction m with
 |zero=>intro id y hy;exact ⟨y,hy⟩
 |succ m ih=>
  intro id y hy;rw [←Nat.add_assoc,h.s] at hy;obtain ⟨x,hx⟩:=Qoy (h.well (n+m)) id y hy;exact ih id x hx
theorem Qb2 (h:Sq f) (n m:Nat):Tm (f n).c (f (n+m)).c:=by
 induction m with
 |zero=>exact .refl _
 |succ m ih=>
  rw [←Nat.add_assoc,h.s];exact ih.trans (Qb3 (h.well (n+m)))
theorem Qwo (h:Sq f) (j:Nat):∀(id:Int) (z:Led),Qc (f (5+2*j)).c.l id=some z→z.shut=false→j≤z.phi:=by
 induction j with
 |zero=>intro _ _ _ _;exact Nat.zero_le _
 |succ j ih0=>
  intro id z hz ho;rw [show 5+2*(j+1)=5+2*j+2 by omega] at hz;obtain ⟨x,hx⟩:=Qlt h (5+2*j) 2 id z hz;obtain ⟨z',hz',hl⟩:=Qb2 h (5+2*j) 2 id x hx;rw [hz] at hz';obtain rfl:=Option.some.inj hz';have hox:x.shut=false:=by
   cases e:x.shut;rfl;rw [hl.shut e] at ho;cases ho
  have ih:=ih0 id x hx hox;have hF:=Qpd h (2*j);have hfew:Few (f (5+2*j)):=by
   have:=Qcr h (2*j+1)
   rwa [show 4+(2*j+1)=5+2*j by omega] at this
  obtain ⟨w,hw,hlw,hon⟩:=hfew.on hF hx hox;rw [←h.s,←h.s] at hw;rw [show 5+2*j+1+1=5+2*j+2 by omega,hz] at hw;obtain rfl:=Option.some.inj hw;have:=QEn hlw hon;omega
theorem Qyx (h:Sq f) (m:Nat) (id:Int) (z:Led) (hz:Qc (f (31+m)).c.l id=some z):z.shut=true:=by
 obtain ⟨x,hx⟩:=Qlt h 31 m id z hz;obtain ⟨z',hz',hl⟩:=Qb2 h 31 m id x hx;rw [hz] at hz';obtain rfl:=Option.some.inj hz';refine hl.shut ?_;cases e:x.shut;have h1:=Qwo h 13 id x hx e;have h2:=Qzj ((h.well 31).hs.fine.c.ok.get hx).1;omega;rfl
end
def Shut (H:Qb):Prop:=∀id x,Qc H.c.l id=some x→x.shut=true
section
variable {H:Qb}
theorem Qc9 {x:Led} {k:Int} (hx:x.ok k) (hs:x.shut=true):x.decided=true:=Dv (Ud hx hs)
theorem Qgs {c:Qa} (h:c.ok) {id:Int} {x:Led} (hx:Qc c.l id=some x) (hs:x.shut=true):(c.goes id).1= []:=by
 have hg:=(h.get hx).1;rw [Dl hx hg.id,if_pos (Ud hg hs)]
theorem Quj (h:Qw H) (hs:Shut H) {m:Msg} (hm:m∈H.p.l) (ht:m.to=0):∀x∈(H.c.handle m).1,x.kind=13∨x.kind=14∨x.kind=18:=by
 have hcf:=h.hs.fine.c;have hmo:=h.hs.fine.ms m hm;unfold Qa.handle;split;simp;split;intro x hx;simp only at hx;unfold Qa.tells at hx;split at hx;simp at hx;subst hx;exact .inr (.inl rfl);split at hx;simp at hx;subst hx;exact .inr (.inl rfl);split at hx;simp at hx;subst hx;exact .inl rfl;cases hx;split;simp;rename_i y hy;have hg:=hcf.ok.get hy;have hsy:=hs m.id y hy;have hdy:=Qc9 hg.1 hsy;have hnote:∀{e:Entry},H.c.Fits e→e.ok→Qc H.c.l e.id=some y→e.kd.fact=true→(e.kd=.asked→y.f.asked=false)→(H.c.QM e).1= []:=fun {e} hf he hye hk ha=>by
  obtain ⟨h1, -⟩:=hcf.notes h.up.c (UQ hf he);unfold Qa.QM;rw [UO,if_neg h.roomy] at h1⊢;rw [if_pos rfl];have hg1:=Xl hye hk (c:=H.c);have:=hg1 e.id;rw [if_pos rfl] at this;exact Qgs h1.ok this ((TK (hcf.ok.get hye).1 ha).shut hsy)
 split
 ·unfold Qa.steps;split;simp;rename_i hsv;have hlen:=hg.1.o.len;have hst:0≤m.step∧m.step<y.o.steps.length:=by
   unfold Led.service at hsv;simp at hsv;omega
  have hno:QU m.step:=QX hst.1 (by omega);split;rename_i hk;simp [hdy] at hk;split;split;rename_i hk;simp [hdy] at hk;simp;split;split;rename_i hk;simp at hk;obtain ⟨k,e⟩:=Int.eq_ofNat_of_zero_le hst.1;rw [e] at hk hno⊢;rw [hnote (.undone m.id k y hy hk.1 hk.2) (QH hg.2.1 hg.2.2 _ hno) hy rfl (by simp)];simp;simp;simp
 split;unfold Qa.Yo;split;simp;rename_i a b hab;have:=hg.1.tally;rw [hab,hdy] at this;simp at this;split;rename_i hk;have hf:=hmo.c ht (by omega);have hno:QU m.frm:=QX (by omega) (by omega);unfold Qa.Vt;rw [if_neg (by simp [hdy])];split;split;simp;rw [hnote (.ack m.id m.frm y hy hf hdy) (QH hg.2.1 hg.2.2 _ hno) hy rfl (by simp)];simp;split;simp;obtain ⟨h1, -⟩:=hcf.Qm h.up.c (UQ (.damage m.id m.frm y hy hf hdy) (QH hg.2.1 hg.2.2 .damage hno));rw [Uv,if_neg h.roomy] at h1⊢;rw [if_pos rfl];have hg1:=Xl (c:=H.c) (e:=⟨.damage,m.id,[m.frm]⟩) hy rfl m.id;rw [if_pos rfl] at hg1;have:=Qgs (c:=(H.c.Qq ⟨.damage,m.id,[m.frm]⟩).sync) h1.ok hg1 ((TK hg.1 (by simp)).shut hsy);intro x hx;simp only at hx;rw [this] at hx;simp at hx;subst hx;exact .inr (.inr rfl);split;split;rename_i hc;simp at hc;rw [hnote (.shipped m.id y hy hc.1.2) (QB hg.2.1 hg.2.2 _) hy rfl (by simp)];simp;simp;simp
theorem Quq (h:Qw H) (hs:Shut H) (id:Int):(H.c.ring id).1= []:=by
 have hcf:=h.hs.fine.c;unfold Qa.ring;split;rfl;split;rfl;rename_i x hx;have hno:H.c.Qf.has id=false:=by
  cases e:H.c.Qf.has id;rfl;have:=hcf.Xo id x trivial hx e;rw [Ud (hcf.ok.get hx).1 (hs id x hx)] at this;cases this
 have hr:(H.c.Qf.ring id).1=false:=by unfold Qy.ring;rw [if_pos hno]
 rw [if_pos hr]
end
section
variable {H:Qb} {l:Nat}
theorem Qtm (h:Qw H) (id:Int) (y:Led) (hy:Qc (H.take 5 0).2.c.l id=some y):∃x,Qc H.c.l id=some x:=by
 cases hq:H.p.l with
 |nil=>rw [take_nil hq] at hy;exact ⟨y,hy⟩
 |cons m q=>
  rw [XR hq,(Ze H q m).2] at hy;unfold Qb.Vy at hy;split at hy
  ·rename_i hto;rcases (h.cop (m:=m) (by rw [hq];simp) hto).hasB id y hy with h1|⟨-,h2, -⟩;exact h1
   ·subst h2;cases e:Qc H.c.l m.id with
    |some w=>exact ⟨w,rfl⟩
    |none=>
     exfalso;have hh:(H.c.handle m).2=H.c:=by
      unfold Qa.handle;split;rfl;split;rfl;rw [e]
     rw [hh,e] at hy;cases hy
  exact ⟨y,hy⟩
theorem Shut.take1 (h:Qw H) (hs:Shut H):Shut (H.take 5 0).2:=fun id y hy=>by
 obtain ⟨x,hx⟩:=Qtm h id y hy;obtain ⟨z,hz,hl⟩:=Fh h id x hx;rw [hy] at hz;obtain rfl:=Option.some.inj hz;exact hl.shut (hs id x hx)
theorem Shut.takes:∀(n:Nat) {H:Qb},Qw H→Shut H→Shut (Qb.takes n H)
 |0,_,_,hs=>hs
 |n+1,_,h,hs=>Shut.takes n h.take1 (hs.take1 h)
theorem Shut.ring0 (h:Qw H) (hs:Shut H) (id:Int):Shut (H.Qo 0 id).2:=fun k y hy=>by
 rw [(Ut h (.inl rfl) id).2,if_pos rfl] at hy;rcases (Zf h.hs.fine.c id (fun _ _=>False)).hasB k y hy with ⟨x,hx⟩|h1;obtain ⟨z,hz,hl⟩:=(Zf h.hs.fine.c id (fun _ _=>False)).keep k x hx;rw [hy] at hz;obtain rfl:=Option.some.inj hz;exact hl.shut (hs k x hx);exact h1.elim
theorem Shut.Qo9:∀(ids:List Int) {H:Qb},Qw H→Shut H→(∀id∈ids,1≤id∧id≤999)→Shut (H.rings 0 ids)∧(H.rings 0 ids).p=H.p
 | [],_,_,hs,_=>⟨hs,rfl⟩
 |id::r,H,h,hs,hi=>by
  obtain ⟨a,b⟩:=Shut.Qo9 r (h.Qo 0 (id:=id) (hi id (by simp))) (hs.ring0 h id) (fun k hk=>hi k (by simp [hk]));refine ⟨a,?_⟩
  show ((H.Qo 0 id).2.rings 0 r).p=H.p
  rw [b,(Ut h (.inl rfl) id).1]
  show H.p.puts (if (0:Int)=0 then (H.c.ring id).1 else _)=H.p
  rw [if_pos rfl,Quq h hs id];rfl
theorem Qvn (h:Qw H) (hs:Shut H) (l:Nat):QP (Led.pot l) H.c=0:=by
 have key:∀id,H.c.g (Led.pot l) id=0:=fun id=>by
  unfold Qa.g;cases e:Qc H.c.l id with
  |none=>rfl
  |some x=>
   have hg:=(h.hs.fine.c.ok.get e).1;have hx:=hs id x e;have hd:=Qc9 hg hx
   show x.pot l=0
   rw [XZ hd];have hov:=Ud hg hx;have hxo:=Dc hg;unfold Led.shut at hx;have hu:(List.range x.o.steps.length).all (fun k=>x.fl (3+k))=true→nf x.f.undone=0:=fun ha=>by
    rw [Qbk,List.contains_eq_mem,decide_eq_false_iff_not];intro hm;obtain ⟨m1,m2, -⟩:=mpt hg.may;have hlen:=hg.o.len;obtain ⟨i,hi,he⟩:=List.getElem_of_mem hm;have h1:=List.all_eq_true.1 ha i (by simp;omega);have h2:x.f.undone.getD i false=false:=by rw [List.getD_eq_getElem?_getD,List.getElem?_eq_getElem hi,he];rfl
    have hq:i=0∨i=1∨i=2:=by omega
    rcases hq with rfl|rfl|rfl<;>exact Bool.false_ne_true (h2.symm.trans h1)
   have hw:x.w=0:=by
    unfold Led.w;cases ht:x.f.turned;rw [if_neg (by simp)];simp [ht] at hx;rw [if_pos hx.2.2];rw [if_pos rfl];cases hy:x.f.yes;simp [ht,hy] at hx;exact hu (List.all_eq_true.2 fun k hk=>hx.2 k (by simpa using hk));exact absurd ⟨hy,ht⟩ hxo
   simp only [Bool.and_eq_true] at hx;rw [hw,hx.1.1,hx.1.2];exact QEv _ _
 unfold QP;rw [key,key,key,key,key,key]
theorem Qeo (h:Qw H) (hs:Shut H) (hl:1≤l∧l≤3):cl l H.ph1.p.l≤cl (l+1) H.p.l:=by
 have:=Qda (l:=l) hl h.hs;rw [Qvn h hs] at this;exact Nat.le_trans (Nat.le_add_right _ _) this
theorem QD0 (h:Qw H):cl 4 H.ph1.p.l=0:=by
 have c:phi 4 0 H.ph1.p.l≤phi 4 H.p.l.length H.p.l:=Qm2 _ h;rw [Tp,Qbl 4 _ _ (Nat.le_refl _),cl5] at c;omega
theorem Qne (h:Qw H) (hs:Shut H) (h0:H.round.k0.waits= []) (h1:H.round.k1.waits= []):H.round.p=H.ph1.p:=by
 rw [XB h.up] at h0 h1⊢;obtain ⟨-, -,a1,a2⟩:=Ub (l:=0) 2 (.inr rfl) H.ph3.k1.waits (H:=H.ph3);obtain ⟨-, -,b1,b2⟩:=Ub (l:=0) 1 (.inl rfl) H.ph2.k0.waits (H:=H.ph2);have e0:H.ph2.k0.waits= []:=by
  have:H.ph4.k0=H.ph2.k0:=a1.trans b1;rw [←this];exact h0
 have e1:H.ph3.k1.waits= []:=by
  have:H.ph4.k1=H.ph3.k1:=a2;rw [←this];exact h1
 show (H.ph3.rings 2 H.ph3.k1.waits).p=_
 rw [e1]
 show (H.ph2.rings 1 H.ph2.k0.waits).p=_
 rw [e0]
 show (H.ph1.rings 0 H.ph1.c.ids).p=_
 exact (Shut.Qo9 _ h.ph1 (hs.takes _ h) (VF h.ph1.DC.1)).2
theorem Qpn (h:Qw H) {m:Msg} {q:List Msg} (hq:H.p.l=m::q) {i:Int} (hi:i=1∨i=2):
 (m.to=i→∃can,∀id,(H.take 5 0).2.kv i id=if m.id=id then (Qr (H.kv i m.id) m.kind can).1 else H.kv i id)∧(m.to≠i→∀id,(H.take 5 0).2.kv i id=H.kv i id):=by
 have hm:m∈H.p.l:=by rw [hq];simp
 have hmo:=h.hs.fine.ms m hm;have hk:(H.kn i).j.down=false∧(H.kn i).j.room=4096∧KF i (H.kn i):=by
  unfold Qb.kn;rcases hi with rfl|rfl;exact ⟨h.up.k0,h.hc.k0,h.hs.fine.k0⟩;exact ⟨h.up.k1,h.hc.k1,h.hs.fine.k1⟩
 have hkn:(m.to=i→(H.take 5 0).2.kn i=((H.kn i).handle m).2)∧(m.to≠i→(H.take 5 0).2.kn i=H.kn i):=by
  rw [XR hq];rcases hi with rfl|rfl
  ·refine ⟨fun e=>by simp [Qb.gives,Qb.ZP,Qb.kn,e],fun e=>?_⟩;unfold Qb.gives Qb.ZP Qb.kn;simp only [if_neg e,if_true];repeat' split
   all_goals rfl
  ·refine ⟨fun e=>by simp [Qb.gives,Qb.ZP,Qb.kn,e],fun e=>?_⟩;unfold Qb.gives Qb.ZP Qb.kn;simp only [if_neg e,show ¬(2:Int)=1 by decide,if_false];repeat' split
   all_goals rfl
 refine ⟨fun e=>?_,fun e id=>by unfold Qb.kv;rw [hkn.2 e]⟩;obtain ⟨s',r, -, -, -, -,e5,e6, -⟩:=Uq (n:=i) (h.hs.kn i) hk.1 hmo.id0 hmo.id1 (hmo.k (by omega)).2;have hlen:=Qc7 (h.hs.kn i) hk.2.2;rcases e6 with ⟨can,e7, -⟩|⟨-, -,e7⟩;refine ⟨can,fun id=>?_⟩;unfold Qb.kv;rw [hkn.1 e,e5 id,e7];rw [hk.2.1] at e7;omega
theorem QEs (h:Qw H) (h6:∀x∈H.p.l,x.kind≠6) {i:Int} (hi:i=1∨i=2) (id:Int) (h1:(H.take 5 0).2.kv i id=1):H.kv i id=1:=by
 cases hq:H.p.l with
 |nil=>rw [take_nil hq] at h1;exact h1
 |cons m q=>
  obtain ⟨a,b⟩:=Qpn h hq hi;by_cases hto:m.to=i;obtain ⟨can,e⟩:=a hto;rw [e id] at h1;split at h1;rename_i e2;subst e2;rcases (Qux (.inl ⟨can,rfl,rfl⟩):Qxz (H.kv i m.id) m.kind _ _).n1 h1 with h2|h2;exact h2;exact absurd h2 (h6 m (by rw [hq];simp));exact h1;rw [b hto id] at h1;exact h1
theorem Qf7 (h:Qw H) (hs:Shut H) {m:Msg} (hm:m∈H.p.l):∀x∈H.XK m,x.kind≠6:=by
 have hmo:=h.hs.fine.ms m hm;have hto:=hmo.dst;intro x hx;have hkn:∀i,i=1∨i=2→m.to=i→x.kind≠6:=fun i hi e=>by
  obtain ⟨can,e1, -⟩:=Tx h hi hm e;rw [e1] at hx;unfold Qs3 at hx;split at hx;cases hx;simp at hx;subst hx;exact (Qux (.inl ⟨can,rfl,rfl⟩):Qxz (H.kv i m.id) m.kind _ _).no.2.2.1
 by_cases h0:m.to=0;unfold Qb.XK at hx;rw [if_pos h0] at hx;have:=Quj h hs hm h0 x hx;omega;by_cases h1:m.to=1;exact hkn 1 (.inl rfl) h1;by_cases h2:m.to=2;exact hkn 2 (.inr rfl) h2;by_cases h3:m.to=3;unfold Qb.XK at hx;rw [if_neg h0,if_neg h1,if_neg h2,if_pos h3,Da h.hc.s h.hs.fine.s h.up.s m] at hx;simp at hx;subst hx;simp;have hv:=(hmo.v (by omega)).2.2.1;obtain ⟨a,b⟩:=KT h hm (by omega);rcases hv with hk|hk;obtain ⟨k,hk2,e⟩:=a hk;rw [e] at hx;simp at hx;subst hx
 show ¬k=6
 clear e a b;omega;rw [b hk] at hx;simp at hx;subst hx;simp
structure Late (H:Qb):Prop where
 well:Qw H
 shut:Shut H
 six:∀x∈H.p.l,x.kind≠6
theorem Qvb {m:Msg} {q:List Msg} (hq:H.p.l=m::q) {x:Msg} (hx:x∈(H.take 5 0).2.p.l):x∈q∨x∈H.XK m:=by
 rw [XR hq,(Ze H q m).1] at hx;exact Vz hx
theorem Late.take1 (h:Late H):Late (H.take 5 0).2:=by
 refine ⟨h.well.take1,h.shut.take1 h.well,fun x hx=>?_⟩;cases hq:H.p.l with
 |nil=>rw [take_nil hq] at hx;exact h.six x hx
 |cons m q=>
  rcases Qvb hq hx with hx|hx;exact h.six x (by rw [hq];simp [hx]);exact Qf7 h.well h.shut (by rw [hq];simp) x hx
theorem Late.takes:∀(n:Nat) {H:Qb},Late H→Late (Qb.takes n H)
 |0,_,h=>h
 |n+1,_,h=>Late.takes n h.take1
theorem Qdk {i:Int} (hi:i=1∨i=2) (id:Int):∀(n:Nat) {H:Qb},Late H→(Qb.takes n H).kv i id=1→H.kv i id=1
 |0,_,_,h1=>h1
 |n+1,H,h,h1=>QEs h.well h.six hi id (Qdk hi id n h.take1 h1)
theorem Vi (j:Int) (hj:j=0∨j=1∨j=2) (i id:Int):∀(ids:List Int) {H:Qb},(H.rings j ids).kv i id=H.kv i id
 | [],_=>rfl
 |k::r,H=>by
  show ((H.Qo j k).2.rings j r).kv i id=_
  rw [Vi j hj i id r];unfold Qb.Qo;repeat' split
  all_goals rfl
theorem Qen (h:Qw H) (i id:Int):H.round.kv i id=H.ph1.kv i id:=by
 rw [XB h.up]
 show (((H.ph1.rings 0 _).rings 1 _).rings 2 _).kv i id=_
 rw [Vi 2 (.inr (.inr rfl)),Vi 1 (.inr (.inl rfl)),Vi 0 (.inl rfl)]
theorem Qgi:∀(n:Nat) {H:Qb},Qw H→Shut H→∀x∈(Qb.takes n H).p.l,x∈H.p.l.drop n∨x.kind≠6
 |0,_,_,_,x,hx=>.inl hx
 |n+1,H,h,hs,x,hx=>by
  rcases Qgi n h.take1 (hs.take1 h) x hx with h1|h1
  ·cases hq:H.p.l with
   |nil=>rw [take_nil hq,hq] at h1;simp at h1
   |cons m q=>
    rw [XR hq,(Ze H q m).1] at h1;have key:∀(ms:List Msg) (p:Post),(∀y∈ms,y.kind≠6)→x∈(p.puts ms).l.drop n→x∈p.l.drop n∨x.kind≠6:=by
     intro ms
     induction ms with
     |nil=>intro p _ hx;exact .inl hx
     |cons y r ih=>
      intro p hy hx;rcases ih (p.put y) (fun z hz=>hy z (by simp [hz])) hx with h2|h2;unfold Post.put at h2;split at h2;simp only [List.drop_append] at h2;rcases List.mem_append.1 h2 with h2|h2;exact .inl h2;have:=List.mem_of_mem_drop h2;rw [List.mem_singleton] at this;exact .inr (by rw [this];exact hy y (by simp));simp only [List.drop_drop] at h2;rw [List.drop_append] at h2;rcases List.mem_append.1 h2 with h2|h2;refine .inl ?_;rw [show 1+n=n+1 by omega,←List.drop_drop] at h2;exact List.mem_of_mem_drop h2;have:=List.mem_of_mem_drop h2;rw [List.mem_singleton] at this;exact .inr (by rw [this];exact hy y (by simp));exact .inr h2
    rcases key _ _ (Qf7 h hs (by rw [hq];simp)) h1 with h2|h2;exact .inl h2;exact .inr h2
  exact .inr h1
theorem QD8 (h:Qw H) {i:Int} (hi:i=1∨i=2) (id:Int):∀x∈H.Qbg i id,x.kind=12:=by
 intro x hx;have:∀k:Qd,x∈k.ring id→x.kind=12:=fun k hk=>by
  unfold Qd.ring at hk;split at hk;cases hk;split at hk;simp at hk;rcases hk with rfl|rfl<;>rfl;cases hk
 unfold Qb.Qbg at hx;rcases hi with rfl|rfl;exact this _ hx;exact this _ hx
theorem Qi9 {i:Int} (hi:i=1∨i=2):∀(ids:List Int) {H:Qb},Qw H→(∀id∈ids,1≤id∧id≤999)→∀x∈(H.rings i ids).p.l,x∈H.p.l∨x.kind=12
 | [],_,_,_,x,hx=>.inl hx
 |id::r,H,h,hids,x,hx=>by
  rcases Qi9 hi r (h.Qo i (id:=id) (hids id (by simp))) (fun k hk=>hids k (by simp [hk])) x hx with h1|h1;rw [(Ut h (.inr hi) id).1] at h1;rcases Vz h1 with h1|h1;exact .inl h1;exact .inr (QD8 h hi id x h1);exact .inr h1
theorem Qny (h:Qw H) (hs:Shut H) (hs2:Shut H.round):Late H.round:=by
 refine ⟨h.round,hs2,fun x hx=>?_⟩;rw [XB h.up] at hx;rcases Qi9 (.inr rfl) _ h.ph3 (VF (h.ph3.kn (.inr rfl)).2.2) x hx with hx|hx;rcases Qi9 (.inl rfl) _ h.ph2 (VF (h.ph2.kn (.inl rfl)).2.2) x hx with hx|hx;have e:H.ph2.p=H.ph1.p:=(Shut.Qo9 _ h.ph1 (hs.takes _ h) (VF h.ph1.DC.1)).2;rw [e] at hx;rcases Qgi _ h hs x hx with h1|h1;simp at h1;exact h1;omega;omega
theorem Fx (h:Late H) {i:Int} (hi:i=1∨i=2) (id:Int) (h1:H.round.kv i id=1):H.kv i id=1:=by
 rw [Qen h.well] at h1;exact Qdk hi id _ h h1
theorem Qab {i:Int} (hi:i=1∨i=2):∀(ids:List Int) {H:Qb},Qw H→(∀id∈ids,1≤id∧id≤6)→H.bal+2*ids.length≤256→∀id∈ids,H.kv i id=1→(⟨12,i,0,id,0,0,0⟩:Msg)∈(H.rings i ids).p.l
 | [],_,_,_,_,id,hid,_=>by cases hid
 |k::r,H,h,h6,hb,id,hid,h1=>by
  have hk:=h6 k (by simp);simp only [List.length_cons] at hb;obtain ⟨a,b⟩:=Kh h (.inr hi) hk (by rw [if_neg (by omega)];omega);rw [if_neg (by omega)] at b;have hw:=h.Qo i (id:=k) (by omega);have h6r:∀z∈r,1≤z∧z≤6:=fun z hz=>h6 z (by simp [hz]);obtain ⟨⟨N,e⟩, -⟩:=Xz i (.inr hi) (w:=2) (by rw [if_neg (by omega)]) r hw h6r (by omega)
  show _∈((H.Qo i k).2.rings i r).p.l
  rcases List.mem_cons.1 hid with rfl|hid
  ·rw [e,a];have hm:(⟨12,i,0,id,0,0,0⟩:Msg)∈H.Qbg i id:=by
    have hkn:∀kk:Qd,kk.node=i→kk.j.down=false→mgi kk.st id=1→(⟨12,i,0,id,0,0,0⟩:Msg)∈kk.ring id:=fun kk e1 e2 e3=>by
     unfold Qd.ring;rw [if_neg (by simp [e2]),if_pos e3,e1];simp
    have hg:=(h.hs.kn i);unfold Qb.Qbg;rcases hi with rfl|rfl;exact hkn H.k0 h.hs.fine.k0.node h.up.k0 ((hg.get h.up.k0 id).trans h1);exact hkn H.k1 h.hs.fine.k1.node h.up.k1 ((hg.get h.up.k1 id).trans h1)
   simp [hm]
  refine Qab hi r hw h6r (by omega) id hid ?_;have:=Vi i (.inr hi) i id [k] (H:=H);exact this.trans h1
theorem Qtr (h:Few H) {i:Int} (hi:i=1∨i=2) {id:Int} (h1:H.round.kv i id=1):(⟨12,i,0,id,0,0,0⟩:Msg)∈H.round.p.l:=by
 have hw:=h.well;have hk:=Qen hw i id;rw [hk] at h1;have hb:=h.bal1;obtain ⟨l0,l1,l2⟩:=hw.len;obtain ⟨-,g2, -⟩:=h.grow;obtain ⟨-,b2⟩:=Xz 1 (.inr (.inl rfl)) (w:=2) rfl H.ph2.k0.waits hw.ph2 (hw.ph2.kn (.inl rfl)).2.2 (by omega);have b2:H.ph3.bal≤H.ph2.bal+2*H.ph2.k0.waits.length:=b2;have e2:H.ph2.kv i id=1:=(Vi 0 (.inl rfl) i id _).trans h1;have e3:H.ph3.kv i id=1:=(Vi 1 (.inr (.inl rfl)) i id _).trans e2;rw [XB hw.up];rcases hi with rfl|rfl;have a:=Qab (.inl rfl) H.ph2.k0.waits hw.ph2 (hw.ph2.kn (.inl rfl)).2.2 (by omega) id (((hw.ph2.kn (.inl rfl)).1 id).2 e2) e2;obtain ⟨⟨N,e⟩, -⟩:=Xz 2 (.inr (.inr rfl)) (w:=2) rfl H.ph3.k1.waits hw.ph3 (hw.ph3.kn (.inr rfl)).2.2 (by omega)
 show _∈(H.ph3.rings 2 H.ph3.k1.waits).p.l
 rw [e];exact List.mem_append_left _ a;exact Qab (.inr rfl) H.ph3.k1.waits hw.ph3 (hw.ph3.kn (.inr rfl)).2.2 (by omega) id (((hw.ph3.kn (.inr rfl)).1 id).2 e3) e3
theorem Qsz (h:Few H) (hs:Shut H) {i:Int} (hi:i=1∨i=2) {id:Int} (hm:(⟨12,i,0,id,0,0,0⟩:Msg)∈H.p.l):∃m∈H.round.p.l,m.to=i∧m.id=id∧(m.kind=13∨m.kind=14):=by
 obtain ⟨n,q, -,e1, -,e3, -⟩:=Qbo h.well (Nat.le_trans h.bal (by omega)) hm;have hw:=h.well.takes n;have hsh:=hs.takes n h.well;have hin:(⟨12,i,0,id,0,0,0⟩:Msg)∈(Qb.takes n H).p.l:=by rw [e1];simp
 obtain ⟨x,hx⟩:=hw.hs.safe.m12 _ hin (.inl rfl);obtain ⟨y,hy, -⟩:=(XD hw.hs.fine.c hw.up.c id).2 hx;have hdec:=Qc9 (hw.hs.fine.c.ok.get hy).1 (hsh id y hy);have hr:∃m∈(Qb.takes n H).XK ⟨12,i,0,id,0,0,0⟩,m.to=i∧m.id=id∧(m.kind=13∨m.kind=14):=by
  unfold Qb.XK;rw [if_pos rfl];unfold Qa.handle;rw [if_neg (by simp [hw.up.c])];rw [if_pos rfl];unfold Qa.tells;simp only [hy];unfold Led.decided at hdec;cases ht:y.f.turned;simp [ht] at hdec;rw [hdec];simp;simp
 obtain ⟨m,m1,m2⟩:=hr;exact ⟨m,h.stays m (e3 m m1),m2⟩
theorem Qt5 (h:Few H) (hL:Late H) {i:Int} (hi:i=1∨i=2) {m:Msg} (hm:m∈H.p.l) (hto:m.to=i) (hk:m.kind=13∨m.kind=14):H.round.kv i m.id≠1:=by
 rw [Qen h.well];obtain ⟨n,q, -,e1, -, -,e4⟩:=Qbo h.well (Nat.le_trans h.bal (by omega)) hm;have hLn:=hL.takes n;intro h1;rw [e4] at h1;have h2:=Qdk hi m.id _ hLn.take1 h1;obtain ⟨can,e⟩:=(Qpn hLn.well e1 hi).1 hto;rw [e m.id,if_pos rfl] at h2;have hs:=hLn.well.Qnj hi m.id;generalize (Qb.takes n H).kv i m.id=s at *;rcases (show s=0∨s=1∨s=2∨s=3∨s=4∨s=5 by omega) with rfl|rfl|rfl|rfl|rfl|rfl<;>rcases hk with hk|hk<;>rw [hk] at h2<;>simp [Qr,Zg,ZU] at h2
end
section
variable {f:Nat→Qb}
theorem Qni (h:Sq f) {n:Nat} (hn:4≤n):Few (f n):=by
 have:=Qcr h (n-4)
 rwa [show 4+(n-4)=n by omega] at this
theorem VH (h:Sq f) {n:Nat} (hn:31≤n):Shut (f n):=by
 have:=Qyx h (n-31);rw [show 31+(n-31)=n by omega] at this;exact this
theorem Qb1 (h:Sq f) {n:Nat} (hn:32≤n):Late (f n):=by
 obtain ⟨k,rfl⟩:∃k,n=k+1:=⟨n-1,by omega⟩;have:=Qny (h.well k) (VH h (by omega)) (by rw [←h.s];exact VH h (by omega));rw [h.s];exact this
theorem Kz (h:Sq f) {i:Int} (hi:i=1∨i=2) (id:Int):∀k,(f (35+k)).kv i id≠1
 |0=>fun h35=>by
  have h34:(f 34).kv i id=1:=by
   have:=h35;rw [show 35+0=34+1 by rfl,h.s] at this;exact Fx (Qb1 h (by omega)) hi id this
  have h33:(f 33).kv i id=1:=by
   have:=h34;rw [show 34=33+1 by rfl,h.s] at this;exact Fx (Qb1 h (by omega)) hi id this
  have a:(⟨12,i,0,id,0,0,0⟩:Msg)∈(f 33).p.l:=by
   rw [show 33=32+1 by rfl,h.s] at h33⊢;exact Qtr (Qni h (by omega)) hi h33
  obtain ⟨m,m1,m2,m3,m4⟩:=Qsz (Qni h (by omega)) (VH h (by omega)) hi a;rw [←h.s] at m1;have:=Qt5 (Qni h (by omega)) (Qb1 h (by omega)) hi m1 m2 m4;rw [←h.s,m3] at this;exact this h35
 |k+1=>fun h1=>by
  rw [←Nat.add_assoc,h.s] at h1;exact Kz h hi id k (Fx (Qb1 h (by omega)) hi id h1)
theorem Qjf (h:Sq f) {n:Nat} (hn:35≤n):(f n).k0.waits= []∧(f n).k1.waits= []:=by
 obtain ⟨k,rfl⟩:∃k,n=35+k:=⟨n-35,by omega⟩;have w:=h.well (35+k);refine ⟨List.eq_nil_iff_forall_not_mem.2 fun id hid=>?_,List.eq_nil_iff_forall_not_mem.2 fun id hid=>?_⟩;exact Kz h (.inl rfl) id k (((w.kn (.inl rfl)).1 id).1 hid);exact Kz h (.inr rfl) id k (((w.kn (.inr rfl)).1 id).1 hid)
theorem Jh (h:Sq f) {n:Nat} (hn:34≤n):(f (n+1)).p=(f n).ph1.p:=by
 obtain ⟨a,b⟩:=Qjf h (n:=n+1) (by omega);rw [h.s] at a b⊢;exact Qne (h.well n) (VH h (by omega)) a b
theorem QEa (h:Sq f):(f 38).calm=true:=by
 have e35:cl 4 (f 35).p.l=0:=by rw [show 35=34+1 by rfl,Jh h (by omega)];exact QD0 (h.well 34)
 have e36:cl 3 (f 36).p.l=0:=by
  have:cl 3 (f 35).ph1.p.l≤cl 4 (f 35).p.l:=Qeo (l:=3) (h.well 35) (VH h (by omega)) (by omega);rw [show 36=35+1 by rfl,Jh h (by omega)];omega
 have e37:cl 2 (f 37).p.l=0:=by
  have:cl 2 (f 36).ph1.p.l≤cl 3 (f 36).p.l:=Qeo (l:=2) (h.well 36) (VH h (by omega)) (by omega);rw [show 37=36+1 by rfl,Jh h (by omega)];omega
 have e38:cl 1 (f 38).p.l=0:=by
  have:cl 1 (f 37).ph1.p.l≤cl 2 (f 37).p.l:=Qeo (l:=1) (h.well 37) (VH h (by omega)) (by omega);rw [show 38=37+1 by rfl,Jh h (by omega)];omega
 rw [Qam] at e38;obtain ⟨a,b⟩:=Qjf h (n:=38) (by omega);have w:=h.well 38;have ho:(f 38).opens=0:=by
  unfold Qb.opens;rw [List.length_eq_zero_iff,List.filter_eq_nil_iff];intro p hp;have hg:=Qaa w.hs.fine.c.ok.keys.1 hp;have:=Ud (w.hs.fine.c.ok.get hg).1 (VH h (n:=38) (by omega) p.1 p.2 hg);simp [this]
 have hu:=w.up;unfold Qb.calm Qb.ZG;rw [e38,ho,a,b,hu.c,hu.k0,hu.k1,hu.s,hu.v0,hu.v1,hu.v2];rfl
end
end Go.Proofs.YtlnghlamnehfjaaGreatDoor.S
