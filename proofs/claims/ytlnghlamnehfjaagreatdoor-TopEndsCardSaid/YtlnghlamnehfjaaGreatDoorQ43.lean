/- Part Q43. -/
import Derived.Test.YtlnghlamnehfjaaGreatDoorQ40
import Derived.Test.YtlnghlamnehfjaaGreatDoorQ42
set_option linter.unusedVariables false
set_option linter.unusedSimpArgs false
set_option maxRecDepth 100000
set_option maxHeartbeats 64000000
namespace Go.Proofs.YtlnghlamnehfjaaGreatDoor.S
open Go.RowKit Go.Maps
theorem Qc1:∀(L:List (Od×Value)) (k:Nat) (hk:k<L.length),(Yj L)[k*6+0]? =some (.int .i64 L[k].1.id)∧(Yj L)[k*6+1]? =some (.int .i64 L[k].1.item)∧(Yj L)[k*6+2]? =some (.int .i64 L[k].1.qty)∧(Yj L)[k*6+3]? =some (.int .i64 L[k].1.client)∧(Yj L)[k*6+4]? =some (.int .i64 L[k].1.price)∧(Yj L)[k*6+5]? =some L[k].2
 |p::l,0,_=>⟨rfl,rfl,rfl,rfl,rfl,rfl⟩
 |p::l,k+1,hk=>by
  have ih:=Qc1 l k (by simpa using hk);have e:∀j,(Yj (p::l))[(k+1)*6+j]? =(Yj l)[k*6+j]?:=fun j=>by
   show ([.int .i64 p.1.id,.int .i64 p.1.item,.int .i64 p.1.qty,.int .i64 p.1.client,.int .i64 p.1.price,p.2]++Yj l)[(k+1)*6+j]? =_
   rw [List.getElem?_append_right (by simp;omega)];congr 1;simp;omega
  rw [e,e,e,e,e,e];simpa using ih
theorem Qxv {w0 W:World} {l:List SA} {vp:Option Addr} {vk:Nat} {L:List (Od×Value)} (h:Heap w0 l W) (i:Nat) (e:l[i]? =some (.slc (.slice vp L.length vk) 32 6 L.length (Yj L))) (hs:∀p∈L,∃sp n sk,p.2=.slice sp n sk) {k:Nat} (hk:k<L.length):
 ∃g sp n sk,vp=some ⟨g,0,none⟩∧g<W.heap.size∧W.cell? ⟨g,k*6,none⟩=some (.int .i64 L[k].1.id)∧W.cell? ⟨g,k*6+1,none⟩=some (.int .i64 L[k].1.item)∧W.cell? ⟨g,k*6+2,none⟩=some (.int .i64 L[k].1.qty)∧W.cell? ⟨g,k*6+3,none⟩=some (.int .i64 L[k].1.client)∧W.cell? ⟨g,k*6+4,none⟩=some (.int .i64 L[k].1.price)∧W.cell? ⟨g,k*6+5,none⟩=some (.slice sp n sk):=by
 obtain ⟨sp,n,sk,he⟩:=hs L[k] (List.getElem_mem hk);rcases h.shp i e with ⟨-,hz, -⟩|⟨g,cap',hv, -, -,hc⟩;omega;cases hv;obtain ⟨a0,a1,a2,a3,a4,a5⟩:=Qc1 L k hk;rw [he] at a5;have c0:=hc (k*6+0) _ a0;exact ⟨g,sp,n,sk,rfl,World.block_lt_of_cell? W _ c0,c0,hc _ _ a1,hc _ _ a2,hc _ _ a3,hc _ _ a4,hc _ _ a5⟩
def Qb.Has (H:Qb) (id:Int):Prop:=H.c.view.has id
section
variable {H:Qb}
theorem Jj (h:HS H) (hd:H.c.j.down=false) {r:List Msg×Qa} {v:Int→Int→Prop} (hop:COp H.c r v) (hc:CF r.2) {id:Int} (hh:H.Has id):r.2.view.has id:=(hop.view h.fine.c hc hd).has id hh
theorem Que (h:HS H) {l0:List Msg} (hl:∀x∈l0,x∈H.p.l) {m:Msg} (hm:m∈H.p.l) {id:Int} (hh:H.Has id):(({H with p:= {H.p with l:=l0}}:Qb).gives m).Has id:=by
 have hf:=(h.gives hl hm).fine.c;have hmo:=h.fine.ms m hm;revert hf;unfold Qb.gives;split
 ·rename_i ht;intro hf;cases hd:H.c.j.down
  ·have h12:m.kind=12→H.c.j.down=false→(Qc H.c.l m.id).isSome=true:=fun hk _=>by
    obtain ⟨x,hx⟩:=h.safe.m12 m hm (.inl hk);obtain ⟨y,hy, -⟩:=(XD h.fine.c hd m.id).2 hx;rw [hy];rfl
   exact Jj h hd (Zp h.fine.c (hmo.c ht) h12) hf hh
  have e:(H.c.handle m).2=H.c:=by unfold Qa.handle;rw [if_pos hd]
  show (H.c.handle m).2.view.has id
  rw [e];exact hh
 ·intro _;repeat' split
  all_goals exact hh
theorem Qye (h:HS H) (kind i:Int) {id:Int} (hh:H.Has id):(H.take kind i).2.Has id:=by
 unfold Qb.take;split;exact hh;split;exact hh;rename_i m hm;have hmem:m∈H.p.l:=by obtain ⟨a,b⟩:=List.getElem?_eq_some_iff.1 hm;rw [←b];exact List.getElem_mem _
 split;exact hh;split;exact Que h (fun x hx=>List.mem_of_mem_eraseIdx hx) hmem hh;exact hh
theorem Qs5 (h:HS H) (i:Int) {k:Int} (h0:1≤k) (h1:k≤999) {id:Int} (hh:H.Has id):(H.Qo i k).2.Has id:=by
 have hf:=(h.Qo i h0 h1).fine.c;revert hf;unfold Qb.Qo;split;intro _;exact hh;rename_i hdn;split;rename_i h0;intro hf;have hd:H.c.j.down=false:=by rw [h0] at hdn;simpa [Qb.Qv] using hdn
 exact Jj h hd (Zf h.fine.c k (fun _ _=>False)) hf hh;intro _;split<;>exact hh
theorem Qdg (h:HS H) (i:Int) {id:Int} (hh:H.Has id):(H.starts i).Has id:=by
 unfold Qb.starts;split;exact (Qck h.fine.c h.sure h.Xo h.gj).1.has id hh
 ·repeat' split
  all_goals exact hh
theorem Qr5 (h:HS H) (i stay:Int) {id:Int} (hh:H.Has id):(H.Qj i stay).Has id:=by
 unfold Qb.Qj;split;exact (Qcw h.sure h.gj stay).1.has id hh
 ·repeat' split
  all_goals exact hh
theorem Qra (h:HS H) {c:Cmd} (hc:c.ok) {id:Int} (hh:H.Has id):(H.act c).2.Has id:=by
 have hk:=hc.kind;unfold Qb.act Qb.asks;split
 ·split
  ·rename_i e;have ho:c.o.ok:=by
    rcases hk with h|h;exact h.2;exfalso;omega
   unfold Qb.XQ;cases hd:H.c.j.down;exact Jj h hd (JF h.fine.c ho) (h.fine.c.Qm0 ho) hh;have e:(H.c.begin c.o).2.2=H.c:=by unfold Qa.begin;rw [if_pos hd]
   show (H.c.begin c.o).2.2.view.has id
   rw [e];exact hh
  split;unfold Qb.cancel;cases hd:H.c.j.down;exact Jj h hd (KP h.fine.c c.id (fun _ _=>False)) (h.fine.c.Qrf c.id) hh;have e:(H.c.cancel c.id).2.2=H.c:=by unfold Qa.cancel;rw [if_pos hd]
  show (H.c.cancel c.id).2.2.view.has id
  rw [e];exact hh;unfold Qb.force;split<;>exact hh
 split;exact Qye h _ _ hh;split;exact Qs5 h _ (by omega) (by omega) hh;unfold Qb.Ye;split;exact hh;split;exact Qdg h _ hh;exact Qr5 h _ _ hh
theorem Qtk {c:Qa} (h:CF c) {o:Od} (ho:o.ok) (h0:(c.begin o).2.1=0):c.j.down=false∧∃x,Qc (c.begin o).2.2.l o.id=some x:=by
 revert h0;unfold Qa.begin;split;intro e;simp at e;rename_i hd;have hd:c.j.down=false:=by simpa using hd
 split;intro e;simp at e;rename_i hn;have hn:Qc c.l o.id=none:=by simpa using hn
 split;intro e;simp at e;obtain ⟨hr,hfr⟩:=Uk ho hn;obtain ⟨h1,h2⟩:=h.Qm hd hr;unfold Qa.Qm at h1 h2⊢;rw [YH] at h1 h2⊢;by_cases hroom:c.room<c.used+((QD o).length:Int);rw [if_pos hroom];simp
 ·rw [if_neg hroom] at h1 h2⊢;simp only [if_true] at h1 h2⊢;intro _;have h3:CFb (fun k=>k≠o.id) ((QD o).foldl Qa.Qq c).sync:=h1.mono (fun k hk=>⟨trivial,fun _ e he=>by rw [JA he];exact hk⟩);have h4:CFb (fun k=>k≠o.id) (((QD o).foldl Qa.Qq c).sync.hang o.id):=
   h3.Qf (YZ h3.ok.Qf o.id) (fun k x hk hx hb=>by
    rcases TP hb with hb|rfl;exact h3.Xo k x hk hx hb;exact absurd rfl hk)
  have hg2:=VA h4 h2 o.id;obtain ⟨y,hy, -⟩:=hg2.keep o.id _ hfr;exact ⟨hd,y,hy⟩
theorem Qsq (h:HS H) {c:Cmd} (hc:c.ok) (hk:c.kind=1) (h0:(H.act c).1=0):(H.act c).2.Has c.o.id:=by
 have hk2:=hc.kind;have ho:c.o.ok:=by
  rcases hk2 with h|h;exact h.2;exfalso;omega
 have e:H.act c=H.XQ c.o:=by unfold Qb.act Qb.asks;rw [if_pos (.inl hk),if_pos hk]
 rw [e] at h0⊢;obtain ⟨hd,x,hx⟩:=Qtk h.fine.c ho h0;have hd2:(H.c.begin c.o).2.2.j.down=false:=(JF h.fine.c ho).down.trans hd;obtain ⟨y,hy, -⟩:=(XD (h.fine.c.Qm0 ho) hd2 c.o.id).1 hx;exact ⟨y,hy⟩
theorem QD9 (H:Qb) (d:XT) (force:Bool) (h:(H.cmd d force).kind=1):1≤(H.cmd d force).o.id∧(H.cmd d force).o.id≤6:=by
 revert h;unfold Qb.cmd;repeat' split
 all_goals first|(intro _;exact Qix _)|(intro h;simp at h)
structure Ran (x:Qb×List Od):Prop where
 hs:HS x.1
 hc:HC x.1
 has:∀o∈x.2,x.1.Has o.id
 six:∀o∈x.2,1≤o.id∧o.id≤6
theorem Ran.step {x:Qb×List Od} (h:Ran x) (force:Bool) (d:XT):Ran (Qb.Ul force x d):=by
 have hok:=Qxw x.1 d force;have h6:=QD9 x.1 d force;refine ⟨h.hs.act hok h6,h.hc.act h.hs hok,fun o ho=>?_,fun o ho=>?_⟩;unfold Qb.Ul at ho⊢;simp only at ho⊢;split at ho;rename_i hk;rcases List.mem_append.1 ho with ho|ho;exact Qra h.hs hok (h.has o ho);rw [List.mem_singleton.1 ho];exact Qsq h.hs hok hk.2 hk.1;exact Qra h.hs hok (h.has o ho);unfold Qb.Ul at ho;simp only at ho;split at ho;rename_i hk;rcases List.mem_append.1 ho with ho|ho;exact h.six o ho;rw [List.mem_singleton.1 ho];exact h6 hk.2;exact h.six o ho
theorem Qyz {tries:Int} (h0:1≤tries) (h1:tries≤20) (force:Bool) (ds:List XT):Ran ((Qb.init tries).JX force ds):=by
 unfold Qb.JX;have key:∀(l:List XT) (x:Qb×List Od),Ran x→Ran (l.foldl (Qb.Ul force) x):=by
  intro l
  induction l with
  |nil=>intro x hx;exact hx
  |cons d r ih=>intro x hx;exact ih _ (hx.step force d)
 exact key ds _ ⟨Qtw h0 h1,Qzw tries,by simp,by simp⟩
theorem cup (c:Qa):c.start.j.down=false:=by
 unfold Qa.start;split;simp only;rw [Qcy,(Yy _ _).2];rfl;rename_i hd;simpa using hd
theorem kup (k:Qd):k.start.j.down=false:=by
 unfold Qd.start;split;rw [(Vf _ _).1];rfl;rename_i hd;simpa using hd
theorem sup (s:Qh):s.start.j.down=false:=by
 unfold Qh.start;split;rw [(KU _ _).1];rfl;rename_i hd;simpa using hd
theorem vup (s:Qe):s.start.j.down=false:=by
 unfold Qe.start;split;rw [(Ki _ _).1];rfl;rename_i hd;simpa using hd
theorem Qs0 (H:Qb) (i j:Nat) (hi:i<7) (hj:j<7) (h:i=j∨H.Qv j=false):(H.starts i).Qv j=false:=by
 obtain rfl|rfl|rfl|rfl|rfl|rfl|rfl:i=0∨i=1∨i=2∨i=3∨i=4∨i=5∨i=6:=by omega
 all_goals
  obtain rfl|rfl|rfl|rfl|rfl|rfl|rfl:j=0∨j=1∨j=2∨j=3∨j=4∨j=5∨j=6:=by omega
  all_goals first|exact cup _|exact kup _|exact sup _|exact vup _|exact h.elim (fun h=>absurd h (by omega)) (fun h=>h)
theorem Qnp (H:Qb):Up H.Yg:=by
 have key:∀(l:List Nat) (G:Qb),(∀i∈l,i<7)→∀j,j<7→(j∈l∨G.Qv j=false)→(l.foldl (fun (H:Qb) (i:Nat)=>if H.Qv i=true then H.starts i else H) G).Qv j=false:=by
  intro l
  induction l with
  |nil=>intro G _ j _ h;exact h.elim (fun h=>by cases h) (fun h=>h)
  |cons i r ih=>
   intro G hl j hj h;simp only [List.foldl_cons];refine ih _ (fun k hk=>hl k (by simp [hk])) j hj ?_;by_cases hr:j∈r;exact .inl hr;refine .inr ?_;by_cases hd:G.Qv i=true;rw [if_pos hd];refine Qs0 G i j (hl i (by simp)) hj ?_;rcases h with h|h;rcases List.mem_cons.1 h with h|h;exact .inl h.symm;exact absurd h hr;exact .inr h;rw [if_neg hd];rcases h with h|h;rcases List.mem_cons.1 h with h|h;subst h;simpa using hd;exact absurd h hr;exact h
 have hk:∀j:Nat,j<7→H.Yg.Qv j=false:=fun j hj=>key (List.range 7) H (fun i hi=>by simpa using hi) j hj (.inl (by simpa using hj));exact ⟨hk 0 (by omega),hk 1 (by omega),hk 2 (by omega),hk 3 (by omega),hk 4 (by omega),hk 5 (by omega),hk 6 (by omega)⟩
theorem Qvr {H:Qb} (hs:HS H) (hc:HC H):Qw H.Yg∧∀id,H.Has id→H.Yg.Has id:=by
 have key:∀(l:List Nat) {G:Qb},HS G→HC G→HS (l.foldl (fun (H:Qb) (i:Nat)=>if H.Qv i=true then H.starts i else H) G)∧HC (l.foldl (fun (H:Qb) (i:Nat)=>if H.Qv i=true then H.starts i else H) G)∧∀id,G.Has id→(l.foldl (fun (H:Qb) (i:Nat)=>if H.Qv i=true then H.starts i else H) G).Has id:=by
  intro l
  induction l with
  |nil=>intro G a b;exact ⟨a,b,fun _ h=>h⟩
  |cons i r ih=>
   intro G a b;simp only [List.foldl_cons];by_cases hd:G.Qv i=true;rw [if_pos hd];obtain ⟨x,y,z⟩:=ih (a.starts i) (b.starts a i);exact ⟨x,y,fun id hh=>z id (Qdg a i hh)⟩;rw [if_neg hd];exact ih a b
 obtain ⟨a,b,c⟩:=key (List.range 7) hs hc;refine ⟨⟨a,?_,b⟩,c⟩;exact Qnp H
def Yn (H:Qb):Nat→Qb
 |0=>H
 |n+1=>(Yn H n).round
theorem UY (H:Qb):∀n,Yn H (n+1)=Yn H.round n
 |0=>by simp only [Yn]
 |n+1=>by
  have e1:Yn H (n+1+1)=(Yn H (n+1)).round:=by simp only [Yn]
  have e2:Yn H.round (n+1)=(Yn H.round n).round:=by simp only [Yn]
  rw [e1,e2,UY H n]
theorem Qba:∀(k N:Nat) (H:Qb),k<N→(Yn H k).calm=true→∃j,j≤k∧Qb.settle N H=(j,Yn H j)∧(Yn H j).calm=true
 |k,0,_,h,_=>absurd h (Nat.not_lt_zero _)
 |k,N+1,H,h,hc=>by
  by_cases h0:H.calm=true;exact ⟨0,Nat.zero_le _,by unfold Qb.settle;rw [if_pos h0];rfl,h0⟩
  ·cases k with
   |zero=>exact absurd hc h0
   |succ k=>
    rw [UY] at hc;obtain ⟨j,h1,h2,h3⟩:=Qba k N H.round (by omega) hc;refine ⟨j+1,by omega,?_,by rw [UY];exact h3⟩;unfold Qb.settle;rw [if_neg h0,h2,UY]
def sqH (H:Qb):Nat→Qb
 |0=>H.Yg
 |n+1=>(sqH H n).round
theorem Qnz {H:Qb} (hu:Up H.Yg):H.Yg.round=H.round:=by
 unfold Qb.round;rw [Qc6 hu]
theorem Qiv {H:Qb} (hu:Up H.Yg):∀n,sqH H (n+1)=Yn H (n+1)
 |0=>by simp only [sqH,Yn];exact Qnz hu
 |n+1=>by
  have e1:Yn H (n+1+1)=(Yn H (n+1)).round:=by simp only [Yn]
  have e2:sqH H (n+1+1)=(sqH H (n+1)).round:=by simp only [sqH]
  rw [e1,e2,Qiv hu n]
theorem Qrn {G:Qb} (h:HS G) (hc:G.calm=true) {id:Int} (hh:G.Has id):G.c.state id=5∨G.c.state id=6∨G.c.state id=7:=by
 unfold Qb.calm Qb.ZG at hc;simp at hc;have hd:G.c.j.down=false:=by simp [hc]
 obtain ⟨x,hx⟩:=hh;obtain ⟨y,hy, -⟩:=(XD h.fine.c hd id).2 hx;have hov:y.over=true:=by
  cases e:y.over;have ho:G.opens=0:=hc.1.2;unfold Qb.opens at ho;rw [List.length_eq_zero_iff,List.filter_eq_nil_iff] at ho;have:=ho (id,y) (Xe hy);simp [e] at this;rfl
 unfold Qa.state;rw [hy];simp only;unfold Led.over Facts.over at hov;unfold Facts.state;simp at hov;rw [if_neg (by simp [hov.1])];split;exact .inr (.inr rfl);rcases hov.2 with e|e;exact .inl e;exact .inr (.inl e)
theorem Qza {H:Qb} (hs:HS H) (hc:HC H) {N:Nat} (hN:38<N):∃j,j≤38∧(Qb.settle N H).1=j∧(Qb.settle N H).2.calm=true∧HS (Qb.settle N H).2∧∀id,H.Has id→(Qb.settle N H).2.Has id:=by
 obtain ⟨w,hw⟩:=Qvr hs hc;have hsq:Sq (sqH H):=⟨by simp only [sqH];exact w,fun n=>by simp only [sqH]⟩;obtain ⟨k,hk⟩:∃k,k+1=38:=⟨37,by omega⟩;have c38:(Yn H (k+1)).calm=true:=by
  rw [←Qiv w.up k,hk];exact QEa hsq
 obtain ⟨j,h1,h2,h3⟩:=Qba (k+1) N H (by omega) c38;have key:HS (Yn H j)∧∀id,H.Has id→(Yn H j).Has id:=by
  cases j with
  |zero=>simp only [Yn];exact ⟨hs,fun _ h=>h⟩
  |succ n=>
   rw [←Qiv w.up n];have wn:=hsq.well (n+1);refine ⟨wn.hs,fun id hh=>?_⟩;obtain ⟨x,hx⟩:=hw id hh;obtain ⟨y,hy, -⟩:=(XD w.hs.fine.c w.up.c id).2 hx;have e0:sqH H 0=H.Yg:=by simp only [sqH]
   obtain ⟨z,hz, -⟩:=Qb2 hsq 0 (n+1) id y (by rw [e0];exact hy);rw [Nat.zero_add] at hz;obtain ⟨u,hu, -⟩:=(XD wn.hs.fine.c wn.up.c id).1 hz;exact ⟨u,hu⟩
 rw [h2];generalize Yn H j=G at *;exact ⟨j,by omega,rfl,h3,key⟩
end
theorem Qn5 {G:Qb} (h:G.calm=true):G.c.opens=0∧G.p.l.length=0:=by
 unfold Qb.calm at h;simp at h;exact ⟨h.1.2,by simp [h.1.1.2]⟩
section
variable {w0 w:World} {R:List SA}
theorem topends_ok {a:Option Addr} {cap:Nat} {ds:List XT} (hd:Us w0 a cap ds) (h:Heap w0 R w) (t:Int):
 Calls Tryz.prog 3 #[.int .i64 t,.slice a ds.length cap] w fun e w'=>e=.returned (.bool true)∧Below w0.heap.size w0 w':=by
 have HD:=zk hd;have H0:=zk h;have h0:1≤2+u64 t%5:=by omega
 have h1:2+u64 t%5≤20:=by omega
 have HFI:=zk (FY h0 h1);have HRN:=zk (Qyz h0 h1 true ds);clear h hd h0 h1;go_enter Tryz.func3,Tryz.ntmps3;go_wp2_with (first
  |(go_at_call 6;refine (Qzq H0.1 t).mono ?_;rintro e w2 ⟨q,rfl,h2⟩;have H2:=zk h2;clear h2)
  |(go_at_call 7;refine (Qy1 HD.1 H2.1).mono ?_;rintro e w3 ⟨b,rfl,h3,hl⟩;have H3:=zk h3;have HL:=zk hl;clear h3 hl;cases b))
 ·go_wp2_with (first
   |(go_at_call 8;refine (Qjy H3.1).m1 fun w4 H4=>?_))
  go_ret;exact ⟨rfl,H4.1.bel⟩
 ·generalize Qb.init (2+u64 t%5)=HI at *;have HLI:=zk (HL.1 (by simp));have HPL:=zk (Qzi HD.1 HFI.1 H3.1 true HLI.1.1);have HNO:As ((HI.JX true ds).2.length≤150):=⟨by
   have h1:=Qso HI true ds ds.length;have h2:=HLI.1.1;unfold Qb.VL at h1;rw [List.take_length] at h1;omega⟩
  generalize HI.JX true ds=X0 at *;obtain ⟨G0,os⟩:=X0;have HG0:As (HS G0∧HC G0∧∀o∈os,G0.Has o.id∧1≤o.id∧o.id≤6):=⟨HRN.1.hs,HRN.1.hc,fun o ho=>⟨HRN.1.has o ho,HRN.1.six o ho⟩⟩;have HEN:=zk (Qza HG0.1.1 HG0.1.2.1 (N:=500) (by decide));have HST:As (∀Q W,Heap w0 (G0.on q Q) W→Calls Tryz.prog 10 #[q.b,.int .i64 (500:Nat)] W fun e w'=>e=.returned (.int .i64 (Qb.settle 500 G0).1)∧Heap w0 ((Qb.settle 500 G0).2.on q Q) w'∧Qz (Qb.settle 500 G0).2):=⟨fun Q W hW=>Qgl HG0.1.1.fine hW 500 (by decide)⟩;generalize Qb.settle 500 G0=Y at *;obtain ⟨n,G⟩:=Y;obtain ⟨j,hj,hj2,hcalm,hHS,hhas⟩:=HEN.1;simp only at hj2 hcalm hHS hhas HST;subst hj2;have HOS:As (∀o∈os,(1≤o.id∧o.id≤999)∧(G.c.state o.id=5∨G.c.state o.id=6∨G.c.state o.id=7)):=⟨fun o ho=>⟨by have:=(HG0.1.2.2 o ho).2;omega,Qrn hHS hcalm (hhas _ (HG0.1.2.2 o ho).1)⟩⟩;have HCP:=zk (Qn5 hcalm);have HFG:=zk hHS.fine;have hn40:decide ((40:Int)<(n:Int))=false:=by simp;omega
  clear HL HRN HEN hcalm hHS hhas hj HG0;go_wp2_with (first
   |(go_at_call 9;refine HPL.1.mono ?_;rintro e w4 ⟨v,L,rfl,hL1,hL2,h4⟩;obtain ⟨vp,vk,rfl⟩:=vS2 (h4.row 0 rfl);have HLS:=zk (And.intro hL1 hL2);have H4:As (Heap w0 (G0.on q (.slc (.slice vp L.length vk) 32 6 L.length (Yj L)::R)) w4):=⟨h4.sel (p:= [_,_,_,_,_,_,_,_,_,_,_,_,_,_]) [1,2,3,4,5,6,7,8,9,10,11,12,13,0] 14 rfl (by decide)⟩;clear h4 hL1 hL2)
   |(go_at_call 10;refine (HST.1 _ _ H4.1).mono ?_;rintro e w5 ⟨rfl,h5, -⟩;have H5:=zk h5;clear h5))
  go_loopg [9,10,34] L.length (fun gk a9 a10 u wr=>∃k:Nat,u=.int .i64 k∧k≤L.length∧As (gk+k=L.length)∧As (Heap w0 (G.on q (.slc (.slice vp L.length vk) 32 6 L.length (Yj L)::R)) wr))
  case atStart=>exact ⟨0,rfl,Nat.zero_le _,⟨rfl⟩,H5⟩
  case round=>
   obtain ⟨k,rfl,hk,HG,HR⟩:=hrel;have hl150:L.length≤150:=by have h1:=HNO.1;rw [←HLS.1.1,List.length_map] at h1;exact h1
   clear H4 H5 HST HPL;by_cases hlt:k<L.length
   ·have hk1:(k:Int)<(L.length:Int):=by omega
    obtain ⟨g,sp,sn,sk,hv,hgl,c0,c1,c2,c3,c4,c5⟩:=Qxv HR.1 13 rfl HLS.1.2 hlt;have HOI:=zk (HOS.1 (L[k]'hlt).1 (by rw [←HLS.1.1];exact List.mem_map.2 ⟨_,List.getElem_mem hlt,rfl⟩));generalize (L[k]'hlt).1=o at *;obtain ⟨HO6,hs⟩:=HOI.1;have HO9:=zk HO6;have HN:=zk (HR.1.new (.cells #[o.id,o.item,o.qty,o.client,o.price,.slice sp sn sk] 32));subst hv;clear HOI HO6;rcases hs with hs|hs|hs;all_goals
     have HSV:=zk hs;clear hs;go_wp2_with fail;generalize hW:World.alloc _ _=W1 at *;clear hW;generalize wr.heap.size=n0 at *;have HN2:As (Heap w0 (G.on q (.slc (.slice (some ⟨g,0,none⟩) L.length vk) 32 6 L.length (Yj L)::.pts n0 (.cells #[o.id,o.item,o.qty,o.client,o.price,.slice sp sn sk] 32)::R)) W1):=⟨HN.1.sel (p:= [_,_,_,_,_,_,_,_,_,_,_,_,_,_,_]) [1,2,3,4,5,6,7,8,9,10,11,12,13,14,0] 15 rfl (by decide)⟩;have y0:=HN2.1.cell 14 0 rfl rfl;have hly:=HN2.1.lt 14 rfl;clear c0 c1 c2 c3 c4 c5 HN;refine wro (fun W=>W.cell? ⟨n0,0,none⟩=some (.int .i64 o.id)) [(0,.f),(2,.f),(3,.f),(1,.e),(4,.e),(5,.f)] y0 ?_;repeat (first
      |refine vR ?_
      |(refine ve rfl rfl ?_;go_wp2_with (go_at_call 11;refine (Qby HN2.1.drew).m0 ?_);refine ⟨y0,?_⟩;go_simp)
      |(refine ve rfl rfl ?_;go_wp2_with (go_at_call 12;refine (Qgd HN2.1.drew o.id HO9.1.1 HO9.1.2 (by rw [HSV.1];decide)).mono ?_;rintro e w6 ⟨rfl,h6⟩;rw [HSV.1];have H6:=zk h6;clear h6);refine ⟨H6.1.cell 14 0 rfl rfl,?_⟩;go_simp))
     refine vn ?_;go_simp;go_wp2_with fail;go_roundg (L.length-(k+1))
     case measure=>have:=HG.1;omega
     case rel=>exact ⟨k+1,by go_num,by omega,⟨by omega⟩,⟨H6.1.sel (p:= [_,_,_,_,_,_,_,_,_,_,_,_,_,_,_]) [0,1,2,3,4,5,6,7,8,9,10,11,12,13] 15 rfl (by decide)⟩⟩
   ·obtain rfl:k=L.length:=by omega
    have HOP:As (CH 13 #[q.bd] wr (.int .i64 0) w0 (G.on q (.slc (.slice vp L.length vk) 32 6 L.length (Yj L)::R))):=⟨by
     have:=Qqi HFG.1 HR.1;rw [HCP.1.1] at this;exact this⟩
    go_wp2_with (first
     |(go_at_call 11;refine (Qby HR.1).m0 ?_)
     |(go_at_call 13;refine HOP.1.m1 fun w6 H6=>?_)
     |(go_at_call 14;refine (Qmq H6.1).m0 ?_)
     |(go_at_call 15;refine (Qif H6.1).m0 ?_;rw [HCP.1.2])
     |(go_at_call 8;refine (Qjy H6.1).m1 fun w7 H7=>?_))
    go_ret;exact ⟨rfl,H7.1.bel⟩
end
end Go.Proofs.YtlnghlamnehfjaaGreatDoor.S
