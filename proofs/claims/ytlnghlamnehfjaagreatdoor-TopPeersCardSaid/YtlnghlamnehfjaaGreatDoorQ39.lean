/- Part Q39. -/
import Derived.Test.YtlnghlamnehfjaaGreatDoorQ38
set_option linter.unusedVariables false
set_option linter.unusedSimpArgs false
set_option maxRecDepth 100000
set_option maxHeartbeats 64000000
namespace Go.Proofs.YtlnghlamnehfjaaGreatDoor.S
open Go.RowKit Go.Maps
attribute [local go_sem] Oper.semAt_some
section
variable {w0 w:World} {q:HA} {H:Qb} {R:List SA}
theorem Qnm (h:Heap w0 (H.on q R) w):Calls Tryz.prog 30 #[q.bc] w (Qx0 w0 H.c.ids (H.on q R)):=by
 obtain ⟨bj,A,h2⟩:=(h.frt 2 rfl).VD;refine (Qpz h2).mono ?_;rintro e w' ⟨bx,v,rfl,h3⟩;have h4:=Heap.Xy (bj:=bj) (A:=A) (h3.sel (p:= [_,_,_,_]) [2,3,0,1] 4 rfl (by decide));exact ⟨bx,v,rfl,h4.sel (p:= [_,_,_,_,_,_,_,_,_,_,_,_,_,_,_]) [1,2,3,4,0,5,6,7,8,9,10,11,12,13,14] 15 rfl (by decide)⟩
theorem Qp3 {c:Qa} (h:c.ok):∀i∈c.ids,1≤i∧i≤999:=fun i hi=>by
 obtain ⟨p,hp,rfl⟩:=List.mem_map.1 hi;exact h.keys.2 p hp
theorem Qd3 {c:Qa} (h:c.ok):c.ids.length≤100000:=by
 have:=h.keys.len;simp only [Qa.ids,List.length_map];omega
theorem Qdo (hDE:Dt w0 q) (hf:Qz H) (h:Heap w0 (H.on q R) w) (i:Int) (h0:0≤i) (h1:i<7):
 CH 49 #[q.b,.int .i64 i] w (.tuple #[]) w0 ((H.starts i).on q R):=by
 obtain ⟨T,p,F,hn,hm,hent,hd⟩:=Qvj (w0:=w0) (q:=q) (H:=H) (R:=.pts w.heap.size (.cells #[q.b] 23)::R) hf h0 h1;have HFI:=zk (hf.starts i);have HN:=zk hn;have HD:=zk hd;have HDE:=zk hDE;have h3:=h.new (.cells #[q.b] 23);have HB:=zk h3.boxed;obtain ⟨x0,xf⟩:=h3.cB1 0 rfl;have hlx:=h3.lt 0 rfl;clear hn hd hf h h3 hDE;generalize hG:H.starts i=G at *;clear hG;by_cases hi:i=0
 ·subst hi;refine cmk Tryz.func49 rfl ?_;simp only [Tryz.ntmps49,List.size_toArray,List.length_cons,List.length_nil,Nat.reduceAdd,Nat.reduceSub,Array.replicate_succ,Array.replicate_zero,List.push_toArray,List.append_toArray,List.nil_append,List.cons_append];go_wp2_with (first
   |(go_at_call 48;refine (QY HB.1 _ (XG h0 h1)).m0 ?_;rw [HN.1])
   |(refine (HD.1 _ HB.1).m2 fun w2 h2=>?_;have H2:=zk h2;clear h2 x0 xf hlx;obtain ⟨x0,xf⟩:=H2.1.cB1 13 rfl;have hlx:=H2.1.lt 13 rfl)
   |(go_at_call 52;refine (Ve H2.1).m0 ?_)
   |(go_at_call 30;refine (Qnm H2.1).mono ?_;rintro e w3 ⟨bi,vi,rfl,h3⟩;have H3:=zk h3;clear h3 x0 xf hlx))
  have HLEN:=zk (Qd3 HFI.1.c.ok);have HKEY:=zk (Qp3 HFI.1.c.ok);refine Vb rfl (enters_of Tryz.func87 (by kernel_rfl) rfl) _ R G.c.ids encI (fun _=>rfl) (YD w0 bi vi G.c.ids HLEN.1) .ret (fun _=>.all (G.on q [.pts w.heap.size (.cells #[q.b] 23)])) (fun _=>.when False .emp) ?h02 [(4,0)] ?assign2 ?body2 ?done2 ?stop2
  case h02=>exact Heap.gather (l:= [_,_,_,_,_,_,_,_,_,_,_,_,_,_]) (H3.1.sel (p:= [_,_,_,_,_,_,_,_,_,_,_,_,_,_,_,_]) [2,3,4,5,6,7,8,9,10,11,12,13,14,15,0,1] 16 rfl (by decide))
  case assign2=>
   intro y x W K hK;simp only [encI] at hK⊢;simp [QC] at hK;simp only [QC]
   gi_wp2
   exact hK
  case stop2=>
   intro D2 k W hk h;exact (h.QT.1).elim
  case body2=>
   intro l k id X W hk h;have hin:=HKEY.1 id (List.mem_of_getElem? hk);have h2:Heap w0 (G.on q (.pts w.heap.size (.cells #[q.b] 23)::X)) W:=Heap.spread (l:= [_,_,_,_,_,_,_,_,_,_,_,_,_,_]) h;obtain ⟨x0,xf⟩:=h2.cB1 13 rfl;have hlx:=h2.lt 13 rfl;have H9:=zk h2;clear h h2;simp only [QC,encI]
   gi_wp2_with (refine ⟨trivial,?_⟩;gi_at_call 63;refine (CallsIn.inRound l (callsIn_wide.2 (HDE.1 _ _ _ id H9.1 hin.1 hin.2))).mono ?_;rintro en w5 ⟨rfl,h5⟩;have H10:=zk h5;clear h5)
   show Heap w0 _ _
   exact Heap.gather (l:= [_,_,_,_,_,_,_,_,_,_,_,_,_,_]) H10.1
  case done2=>
   intro D W h;have h2:=Heap.spread (l:= [_,_,_,_,_,_,_,_,_,_,_,_,_,_]) h;have h4:=h2.putAt 14 rfl (.deferred none);refine ⟨by simp,.inl ⟨_,_,rfl,run_takeDeferred (h2.at 14 rfl),?_⟩⟩;refine ⟨_,results_none rfl _ _ _,rfl,?_⟩;exact h4.sel (p:= [_,_,_,_,_,_,_,_,_,_,_,_,_,_,_,_,_]) [0,1,2,3,4,5,6,7,8,9,10,11,12] 17 rfl (by decide)
 ·have hb:(i != 0)=true:=by simpa using hi
  refine cmk Tryz.func49 rfl ?_;simp only [Tryz.ntmps49,List.size_toArray,List.length_cons,List.length_nil,Nat.reduceAdd,Nat.reduceSub,Array.replicate_succ,Array.replicate_zero,List.push_toArray,List.append_toArray,List.nil_append,List.cons_append];go_wp2_with (first
   |(go_at_call 48;refine (QY HB.1 _ (XG h0 h1)).m0 ?_;rw [HN.1])
   |(refine (HD.1 _ HB.1).m2 fun w2 h2=>?_;have H2:=zk h2;clear h2 x0 xf hlx))
  refine ⟨_,results_none rfl _ _ _,rfl,?_⟩;exact H2.1.Xw
end
end Go.Proofs.YtlnghlamnehfjaaGreatDoor.S
namespace Go.Proofs.YtlnghlamnehfjaaGreatDoor.S
open Go.RowKit Go.Maps
def HA.svv (q:HA) (i:Int):Value:=if 4≤i then .pointer (some ⟨q.sv i,0,none⟩) else .pointer none
def Qb.sst (H:Qb) (i id:Int):Int:=if i=4 then mgi H.v0.st id else if i=5 then mgi H.v1.st id else if i=6 then mgi H.v2.st id else 0
section
variable {w0 w:World} {q:HA} {H:Qb} {R:List SA}
theorem Qug (i:Int) (hi:i<4) (h0:0≤i) (h:Heap w0 (H.on q R) w):
 CE 79 #[q.b,.int .i64 i] w (.pointer none):=by
 have hlb:=h.lt 0 rfl;have h4:(i<4)=True:=by simp [hi]
 go_enter Tryz.func79,Tryz.ntmps79;go_wp2_with fail;go_ret;exact ⟨rfl,rfl⟩
theorem QC2 (h:Heap w0 (H.on q R) w) (i:Int) (h0:0≤i) (h1:i<7):
 CE 79 #[q.b,.int .i64 i] w (q.svv i):=by
 by_cases h4:4≤i;unfold HA.svv;rw [if_pos h4];exact Qa9 h i (by omega);unfold HA.svv;rw [if_neg h4];exact Qug i (by omega) h0 h
theorem QA9 (id:Int) (w:World):CE 82 #[.pointer none,id] w (.int .i64 0):=by
 go_enter Tryz.func82,Tryz.ntmps82;go_wp2_with fail;go_ret;exact ⟨rfl,rfl⟩
theorem Qy5 (h:Heap w0 (H.on q R) w) (i:Int) (h0:0≤i) (h1:i<7) (id:Int) (g0:1≤id) (g1:id≤999):
 CE 82 #[q.svv i,id] w (.int .i64 (H.sst i id)):=by
 unfold HA.svv Qb.sst;by_cases h4:4≤i;rw [if_pos h4];have:i=4∨i=5∨i=6:=by omega
 rcases this with rfl|rfl|rfl;exact Qac (h.frt 6 rfl) id (by omega) (by omega);exact Qac (h.frt 7 rfl) id (by omega) (by omega);exact Qac (h.frt 8 rfl) id (by omega) (by omega);rw [if_neg h4,if_neg (by omega),if_neg (by omega),if_neg (by omega)];exact QA9 id w
theorem Qq5 (h:Heap w0 (H.on q R) w):Calls Tryz.prog 83 #[q.bs] w fun e w'=>∃bp,e=.returned (.pointer (some ⟨bp,0,none⟩))∧w=w'∧∀W,Below w.heap.size w W→∀id,Calls Tryz.prog 84 #[bp,.int .i64 id] W fun e w'=>(∃x y:Int,e=.returned (.tuple #[.int .i64 x,.int .i64 y,.bool (VU H.s.l id)]))∧Heap w0 (H.on q R) w':=by
 refine (Qln (h.frt 5 rfl)).mono ?_;rintro e w' ⟨bj,bp,rfl,rfl,h2⟩;refine ⟨bp,rfl,rfl,fun W hb id=>?_⟩;refine (Qdl ((h2.below hb).frt 2 rfl) id).mono ?_;rintro e w' ⟨he,h3⟩;refine ⟨he,?_⟩;have h4:=Heap.Yw (s:=H.s) (h3.sel (p:= [_,_,_]) [1,2,0] 3 rfl (by decide));exact h4.sel (p:= [_,_,_,_,_,_,_,_,_,_,_,_,_]) [1,2,3,4,5,0,6,7,8,9,10,11,12] 13 rfl (by decide)
end
section
variable {w0 w:World} {q:HA} {H:Qb} {R:List SA}
theorem Qgj {k s:Int} (hk:k=2∨k=5) (h0:0≤s) (h1:s≤2):(k,s)∈VG:=by
 have:s=0∨s=1∨s=2:=by omega
 rcases hk with rfl|rfl<;>rcases this with rfl|rfl|rfl<;>decide
theorem Quy {i id:Int} (h:H.sst i id≠0):4≤i:=by
 unfold Qb.sst at h;split at h;omega;split at h;omega;split at h;omega;exact absurd rfl h
theorem Qaw (hDE:Dt w0 q) (hf:Qz H) (h:Heap w0 (H.on q R) w) (m:Msg) (hm:MOk m):
 CH 51 #[q.b,m.val] w (.tuple #[]) w0 ((H.gives m).on q R):=by
 obtain ⟨kind,frm,dst,id,step,a,b⟩:=m;obtain ⟨hi0,hi1⟩:1≤id∧id≤999:=⟨hm.id0,hm.id1⟩;obtain ⟨hd0,hd1⟩:0≤dst∧dst<7:=hm.dst;have HSV:As (4≤dst→0≤step∧step≤2):=⟨fun h4=>(hm.v h4).2.2.2⟩;have HSS:As (∀H':Qb,H'.sst dst id≠0→4≤dst):=⟨fun H'=>Quy⟩;obtain ⟨T,p,F,hn,hmt,hent,hd⟩:=Qsx (w0:=w0) (q:=q) (H:=H) (R:=.pts w.heap.size (.cells #[kind,frm,.int .i64 dst,id,step,.int .i64 a,.int .i64 b] 113)::R) hf hm;unfold Qq7 at hd;generalize hG:H.gives ⟨kind,frm,dst,id,step,a,b⟩=G at *;clear hG;simp only [Msg.val] at hn hd⊢;have HN:=zk hn;have HD:=zk hd;have HDE:=zk hDE;have h3:=h.new (.cells #[kind,frm,.int .i64 dst,id,step,.int .i64 a,.int .i64 b] 113);have HB:=zk h3.boxed;have x0:=h3.cB7 0 rfl;have hlx:=h3.lt 0 rfl;have c2:=h3.cell 1 3 rfl rfl;have c7:=h3.cell 1 7 rfl rfl;have hlb:=h3.lt 1 rfl;clear hn hd hf h h3 hDE hm;go_enter Tryz.func51,Tryz.ntmps51;go_wp2_with (go_at_call 48;refine (QY HB.1 _ (XG hd0 hd1)).m0 ?_;rw [HN.1]);generalize hW:w.alloc _=W1 at *;clear hW;generalize w.heap.size=n0 at *;refine wro (fun W=>W.cell? ⟨n0,2,none⟩=some (.int .i64 dst)∧W.cell? ⟨n0,3,none⟩=some (.int .i64 id)) [(0,.f),(1,.f),(2,.s),(4,.f),(5,.f),(3,.e),(6,.e),(7,.f)] ⟨x0.2.2.1,x0.2.2.2.1⟩ ?_;repeat (first
  |(refine vg rfl rfl ?_;apply ex2;intro w' hw';obtain ⟨x2',x3'⟩:=hw';go_simp;rfl;go_simp)
  |(refine vs_ rfl (fun K hK=>?_);go_simp;refine hK _ ?_;clear hK K)
  |(refine ve rfl rfl ?_;go_wp2_with (go_at_call 79;refine (QC2 HB.1.drew dst hd0 hd1).m0 ?_);refine ⟨⟨x0.2.2.1,x0.2.2.2.1⟩,?_⟩;go_simp)
  |(refine ve rfl rfl ?_;go_wp2_with (go_at_call 82;refine (Qy5 HB.1.drew dst hd0 hd1 id hi0 hi1).m0 ?_);refine ⟨⟨x0.2.2.1,x0.2.2.2.1⟩,?_⟩;go_simp))
 refine vn ?_;go_simp;go_wp2_with fail;have HB2:=zk HB.1.drew;generalize W1.drew=W2 at *;clear x0 hlx c2 c7 hlb;have x0:=HB2.1.cB7 13 rfl;have hlx:=HB2.1.lt 13 rfl;have c2:=HB2.1.cell 0 3 rfl rfl;have c7:=HB2.1.cell 0 7 rfl rfl;have hlb:=HB2.1.lt 0 rfl;refine wro (fun W=>W.cell? ⟨n0,3,none⟩=some (.int .i64 id)∧W.cell? ⟨q.b,3,none⟩=some (.pointer (some ⟨q.bs,0,none⟩))∧q.b<W.heap.size) [(0,.f),(1,.f),(2,.f),(3,.s),(5,.f),(6,.f),(4,.e),(7,.e),(8,.f),(9,.f),(10,.f),(11,.f),(12,.f),(13,.f),(14,.f)] ⟨x0.2.2.2.1,c2,hlb⟩ ?_;repeat (first
  |(refine vg rfl rfl ?_;apply ex2;intro w' hw';obtain ⟨x3',c2',hlb'⟩:=hw';go_simp;rfl;go_simp)
  |(refine vs_ rfl (fun K hK=>?_);go_simp;refine hK _ ?_;clear hK K)
  |(refine ve rfl rfl ?_;go_wp2_with (go_at_call 83;refine (Qq5 HB2.1.drew).mono ?_;rintro e w' ⟨bp,rfl,rfl,hpc⟩;have HPC:=zk hpc;clear hpc);refine ⟨⟨x0.2.2.2.1,c2,hlb⟩,?_⟩;go_simp)
  |(refine ve rfl rfl ?_;go_wp2_with (go_at_call 84;refine (HPC.1 _ (Below.refl _ _) id).mono ?_;rintro e w1 ⟨⟨px,py,rfl⟩,h1⟩;have H1:=zk h1;clear h1);refine ⟨⟨H1.1.cell 13 3 rfl rfl,H1.1.cell 0 3 rfl rfl,H1.1.lt 0 rfl⟩,?_⟩;go_simp))
 refine vn ?_;go_simp;go_wp2_with fail;clear HPC HB HB2;clear x0 hlx c2 c7 hlb;have x0:=H1.1.cB7 13 rfl;have hlx:=H1.1.lt 13 rfl;have c2:=H1.1.cell 0 3 rfl rfl;have c7:=H1.1.cell 0 7 rfl rfl;have hlb:=H1.1.lt 0 rfl;refine wro (fun W=>W.cell? ⟨q.b,7,none⟩=some (.pointer (some ⟨q.bp,0,none⟩))∧q.b<W.heap.size∧W.cell? ⟨n0,0,none⟩=some (.int .i64 kind)∧W.cell? ⟨n0,1,none⟩=some (.int .i64 frm)∧W.cell? ⟨n0,2,none⟩=some (.int .i64 dst)∧W.cell? ⟨n0,3,none⟩=some (.int .i64 id)∧W.cell? ⟨n0,4,none⟩=some (.int .i64 step)∧W.cell? ⟨n0,5,none⟩=some (.int .i64 a)∧W.cell? ⟨n0,6,none⟩=some (.int .i64 b)) [(0,.f),(1,.f),(2,.f),(3,.f),(4,.f),(5,.s),(6,.e),(7,.e)] ⟨c7,hlb,x0.1,x0.2.1,x0.2.2.1,x0.2.2.2.1,x0.2.2.2.2.1,x0.2.2.2.2.2.1,x0.2.2.2.2.2.2.1⟩ ?_;repeat (first
  |(refine vg rfl rfl ?_;apply ex2;intro w' hw';obtain ⟨c7',hlb',x0',x1',x2',x3',x4',x5',x6'⟩:=hw';go_simp;rfl;go_simp)
  |(refine vs_ rfl (fun K hK=>?_);go_simp;refine hK _ ?_;clear hK K)
  |(refine ve rfl rfl ?_;go_wp2_with ((refine (HD.1 _ H1.1.drew).mono ?_;rintro e w2 ⟨v2,ms,H',rfl,hl2,h2,hg2⟩;have H2:=zk h2;have HL2:=zk hl2;have HG:=zk hg2;clear h2 hl2 hg2));refine ⟨⟨H2.1.cell 1 7 rfl rfl,H2.1.lt 1 rfl,H2.1.cell 14 0 rfl rfl,H2.1.cell 14 1 rfl rfl,H2.1.cell 14 2 rfl rfl,H2.1.cell 14 3 rfl rfl,H2.1.cell 14 4 rfl rfl,H2.1.cell 14 5 rfl rfl,H2.1.cell 14 6 rfl rfl⟩,?_⟩;go_simp)
  |(refine ve rfl rfl ?_;go_wp2_with (go_at_call 66;refine (Fu H2.1 HL2.1).m1 fun w3 H3=>?_);refine ⟨⟨H3.1.cell 0 7 rfl rfl,H3.1.lt 0 rfl,H3.1.cell 13 0 rfl rfl,H3.1.cell 13 1 rfl rfl,H3.1.cell 13 2 rfl rfl,H3.1.cell 13 3 rfl rfl,H3.1.cell 13 4 rfl rfl,H3.1.cell 13 5 rfl rfl,H3.1.cell 13 6 rfl rfl⟩,?_⟩;go_simp))
 refine vn ?_;go_simp;go_wp2_with fail;rw [←HG.1] at H3;clear H2 HG HL2 HD hmt hent HN;clear x0 hlx c2 c7 hlb;have x0:=H3.1.cB7 13 rfl;have hlx:=H3.1.lt 13 rfl;have c2:=H3.1.cell 0 3 rfl rfl;have c7:=H3.1.cell 0 7 rfl rfl;have hlb:=H3.1.lt 0 rfl;refine wro (fun W=>W.cell? ⟨n0,2,none⟩=some (.int .i64 dst)∧W.cell? ⟨n0,3,none⟩=some (.int .i64 id)) [(0,.f),(1,.f),(2,.s),(4,.f),(5,.f),(3,.e),(6,.e),(7,.f)] ⟨x0.2.2.1,x0.2.2.2.1⟩ ?_;repeat (first
  |(refine vg rfl rfl ?_;apply ex2;intro w' hw';obtain ⟨x2',x3'⟩:=hw';go_simp;rfl;go_simp)
  |(refine vs_ rfl (fun K hK=>?_);go_simp;refine hK _ ?_;clear hK K)
  |(refine ve rfl rfl ?_;go_wp2_with (go_at_call 79;refine (QC2 H3.1.drew dst hd0 hd1).m0 ?_);refine ⟨⟨x0.2.2.1,x0.2.2.2.1⟩,?_⟩;go_simp)
  |(refine ve rfl rfl ?_;go_wp2_with (go_at_call 82;refine (Qy5 H3.1.drew dst hd0 hd1 id hi0 hi1).m0 ?_);refine ⟨⟨x0.2.2.1,x0.2.2.2.1⟩,?_⟩;go_simp))
 refine vn ?_;go_simp;have H4:=zk H3.1.drew;generalize w3.drew=w4 at *;clear H1 H3;clear x0 hlx c2 c7 hlb;have x0:=H4.1.cB7 13 rfl;have hlx:=H4.1.lt 13 rfl;have c2:=H4.1.cell 0 3 rfl rfl;have c7:=H4.1.cell 0 7 rfl rfl;have hlb:=H4.1.lt 0 rfl;have HS0:=zk (HSS.1 H);have HS1:=zk (HSS.1 G);clear HSS;generalize H.sst dst id=bf at *;generalize G.sst dst id=af at *;generalize VU H.s.l id=went at *;by_cases t0:dst=0
 ·subst t0;go_wp2_with (go_at_call 63;refine (HDE.1 _ _ _ id H4.1 hi0 hi1).m1 fun w5 H5=>?_);go_end0;exact ⟨rfl,H5.1.Xw⟩
 have b0:(dst==0)=false:=by simpa using t0
 by_cases h01:bf=0∧af=1
 ·obtain ⟨rfl,rfl⟩:=h01;have HA:=zk (Qgj (k:=2) (.inl rfl) (HSV.1 (HS1.1 (by decide))).1 (HSV.1 (HS1.1 (by decide))).2);go_wp2_with (go_at_call 85;refine (YP H4.1 id 2 step hi0 hi1 HA.1).m1 fun w5 H5=>?_);go_end0;exact ⟨rfl,H5.1.Xw⟩
 by_cases h13:bf=1∧af=3
 ·obtain ⟨rfl,rfl⟩:=h13;have HA:=zk (Qgj (k:=5) (.inr rfl) (HSV.1 (HS1.1 (by decide))).1 (HSV.1 (HS1.1 (by decide))).2);go_wp2_with (go_at_call 85;refine (YP H4.1 id 5 step hi0 hi1 HA.1).m1 fun w5 H5=>?_);go_end0;exact ⟨rfl,H5.1.Xw⟩
 have hbf:((bf==0)=true∧(af==1)=false∧(bf==1)=false)∨((bf==0)=false∧(bf==1)=true∧(af==3)=false)∨((bf==0)=false∧(bf==1)=false):=by
  by_cases e0:bf=0;exact .inl ⟨by simpa using e0,by simp;intro h;exact h01 ⟨e0,h⟩,by simp;omega⟩;by_cases e1:bf=1;exact .inr (.inl ⟨by simpa using e0,by simpa using e1,by simp;intro h;exact h13 ⟨e1,h⟩⟩);exact .inr (.inr ⟨by simpa using e0,by simpa using e1⟩)
 clear h01 h13;by_cases t3:dst=3∧went=false
 ·obtain ⟨rfl,rfl⟩:=t3;obtain rfl:bf=0:=by
   by_cases e:bf=0;exact e;have:=HS0.1 e;omega
  obtain rfl:af=0:=by
   by_cases e:af=0;exact e;have:=HS1.1 e;omega
  clear hbf;go_wp2_with fail;refine wro (fun W=>W.cell? ⟨n0,3,none⟩=some (.int .i64 id)∧W.cell? ⟨q.b,3,none⟩=some (.pointer (some ⟨q.bs,0,none⟩))∧q.b<W.heap.size) [(0,.f),(1,.f),(2,.f),(3,.s),(5,.f),(6,.f),(4,.e),(7,.e),(8,.f),(9,.f),(10,.f),(11,.f),(12,.f),(13,.f),(14,.f)] ⟨x0.2.2.2.1,c2,hlb⟩ ?_;repeat (first
   |(refine vg rfl rfl ?_;apply ex2;intro w' hw';obtain ⟨x3',c2',hlb'⟩:=hw';go_simp;rfl;go_simp)
   |(refine vs_ rfl (fun K hK=>?_);go_simp;refine hK _ ?_;clear hK K)
   |(refine ve rfl rfl ?_;go_wp2_with (go_at_call 83;refine (Qq5 H4.1.drew).mono ?_;rintro e w' ⟨bp,rfl,rfl,hpc⟩;have HPC:=zk hpc;clear hpc);refine ⟨⟨x0.2.2.2.1,c2,hlb⟩,?_⟩;go_simp)
   |(refine ve rfl rfl ?_;go_wp2_with (go_at_call 84;refine (HPC.1 _ (Below.refl _ _) id).mono ?_;rintro e w5 ⟨⟨px,py,rfl⟩,h5⟩;have H5:=zk h5;clear h5);refine ⟨⟨H5.1.cell 13 3 rfl rfl,H5.1.cell 0 3 rfl rfl,H5.1.lt 0 rfl⟩,?_⟩;go_simp))
  refine vn ?_;go_simp;generalize VU G.s.l id=goes at *;clear HPC x0 hlx c2 c7 hlb;have x0:=H5.1.cB7 13 rfl;have hlx:=H5.1.lt 13 rfl;have HA:As ((16,0)∈VG):=⟨by decide⟩;cases goes
  ·go_wp2_with fail;go_end0;exact ⟨rfl,H5.1.Xw⟩
  ·go_wp2_with (go_at_call 85;refine (YP H5.1 id 16 0 hi0 hi1 HA.1).m1 fun w6 H6=>?_);go_end0;exact ⟨rfl,H6.1.Xw⟩
 ·have h3w:((dst==3)=false)∨((dst==3)=true∧went=true):=by
   by_cases e:dst=3;exact .inr ⟨by simpa using e,by cases went;exact absurd ⟨e,rfl⟩ t3;rfl⟩;exact .inl (by simpa using e)
  clear t3;rcases hbf with ⟨e1,e2,e3⟩|⟨e1,e2,e3⟩|⟨e1,e2⟩;all_goals
   rcases h3w with e5|⟨e5,rfl⟩;all_goals
    go_wp2_with fail;go_end0;exact ⟨rfl,H4.1.Xw⟩
end
abbrev Qvg (w0:World) (L:List SA) (e:Ending) (w':World):Prop:=∃(o:Od) (f:Facts) (p1:Option Addr) (n1 k1:Nat) (p2:Option Addr) (n2 k2:Nat) (p3:Option Addr) (n3 k3:Nat) (ok:Bool),e=.returned (.tuple #[o.val (.slice p1 n1 k1),f.val (.slice p2 n2 k2) (.slice p3 n3 k3),.bool ok])∧Heap w0 L w'
theorem Qm5 {w0 w:World} {b bj:Nat} {A:Int→Nat} {c:Qa} {R:List SA} (h:Heap w0 (.cha b bj A c::R) w) (id:Int) (h0:1≤id) (h1:id≤999):
 Calls Tryz.prog 31 #[b,id] w (Qvg w0 (.cha b bj A c::R)):=by
 cases hx:Qc c.l id with
 |none=>
  refine (Qj1 h h0 h1 hx).m2 fun w' h2=>?_;exact ⟨_,_,none,0,0,none,0,0,none,0,0,false,rfl,h2⟩
 |some x=>
  refine (Qbc h hx).mono ?_;rintro e w' ⟨vs,vd,vu,rfl, -,h2⟩;obtain ⟨p3,k3,rfl⟩:=vS2 (h2.row 0 rfl);obtain ⟨p2,k2,rfl⟩:=vS2 (h2.row 1 rfl);obtain ⟨p1,k1,rfl⟩:=vS2 (h2.row 2 rfl);exact ⟨_,_,_,_,_,_,_,_,_,_,_,true,rfl,h2.drop.drop.drop⟩
theorem Qwl {w0 w:World} {q:HA} {H:Qb} {R:List SA} (h:Heap w0 (H.on q R) w) (id:Int) (h0:1≤id) (h1:id≤999):
 Calls Tryz.prog 31 #[q.bc,id] w (Qvg w0 (H.on q R)):=by
 obtain ⟨bj,A,h2⟩:=(h.frt 2 rfl).VD;refine (Qm5 h2 id h0 h1).mono ?_;rintro e w' ⟨o,f,p1,n1,k1,p2,n2,k2,p3,n3,k3,ok,rfl,h3⟩;have h4:=Heap.Xy (bj:=bj) (A:=A) h3;exact ⟨o,f,p1,n1,k1,p2,n2,k2,p3,n3,k3,ok,rfl,h4.sel (p:= [_,_,_,_,_,_,_,_,_,_,_,_,_]) [1,2,0,3,4,5,6,7,8,9,10,11,12] 13 rfl (by decide)⟩
theorem Heap.Qeh {w0 w:World} {q:HA} {H:Qb} {R:List SA} {X Y:SA} (h:Heap w0 (X::Y::H.on q R) w):Heap w0 (H.on q (X::Y::R)) w:=h.sel (p:= [_,_,_,_,_,_,_,_,_,_,_,_,_,_,_]) [2,3,4,5,6,7,8,9,10,11,12,13,14,0,1] 15 rfl (by decide)
theorem Vq (w0:World) (q:HA):Dt w0 q:=by
 intro H R w id h h0 h1;have HH:=zk h;have HFA:=zk (Qwl h id h0 h1);clear h;go_enter Tryz.func63,Tryz.ntmps63;go_wp2_with (go_at_call 52;refine (Ve HH.1).m0 ?_);refine HFA.1.mono ?_;rintro e w1 ⟨o,⟨fd,fu,asked,yes,turned,a0,a1,sh,d0,d1,ac⟩,p1,n1,k1,p2,n2,k2,p3,n3,k3,ok,rfl,h1'⟩;have H2:=zk (Heap.nAt (n:=w1.heap.size+1) (h1'.new (.cells #[o.id,o.item,o.qty,o.client,o.price,.slice p1 n1 k1] 32)) (.cells #[.slice p2 n2 k2,.slice p3 n3 k3,.bool asked,.bool yes,.bool turned,.bool a0,.bool a1,.bool sh,.bool d0,.bool d1,.bool ac] 80) (by simp)).Qeh;clear h1' HFA HH;have r0:=H2.1.cA1 13 rfl;have hl2:=H2.1.lt 13 rfl;have HA13:As ((13,0)∈VG):=⟨by decide⟩;have HA14:As ((14,0)∈VG):=⟨by decide⟩;unfold Od.val Facts.val;simp only;cases yes<;>cases turned
 ·go_wp2_with fail;go_end0;exact ⟨rfl,H2.1.Xw.Xw⟩
 ·skip;go_wp2_with (go_at_call 85;refine (YP H2.1 id 14 0 h0 h1 HA14.1).m1 fun w3 H3=>?_);go_end0;exact ⟨rfl,H3.1.Xw.Xw⟩
 ·go_wp2_with (go_at_call 85;refine (YP H2.1 id 13 0 h0 h1 HA13.1).m2 fun w3 h3=>?_;clear r0 hl2;have r0:=h3.cA1 13 rfl;have hl3:=h3.lt 13 rfl;have H3:=zk h3;clear h3 H2;generalize hn1:w1.heap.size+1=n1 at *;generalize w1.heap.size=n0 at *;clear hn1);go_end0;exact ⟨rfl,H3.1.Xw.Xw⟩
 ·go_wp2_with (first
   |(go_at_call 85;refine (YP H2.1 id 13 0 h0 h1 HA13.1).m2 fun w3 h3=>?_;clear r0 hl2;have r0:=h3.cA1 13 rfl;have hl3:=h3.lt 13 rfl;have H3:=zk h3;clear h3 H2;generalize hn1:w1.heap.size+1=n1 at *;generalize w1.heap.size=n0 at *;clear hn1)
   |(go_at_call 85;refine (YP H3.1 id 14 0 h0 h1 HA14.1).m1 fun w4 H4=>?_))
  go_end0;exact ⟨rfl,H4.1.Xw.Xw⟩
theorem QB4 {P:Prop} (h:P:=by
 clear hW3;clear c7 hlb x0;have x0:=H3.1.cA1 14 rfl;have y0:=H3.1.cB7 13 rfl;by_cases h5:kind=5
 ·subst h5;simp only [if_true] at HR;go_wp2_with (go_at_call 51;refine (HDL.1 _ _ H3.1).m1 fun w5 H5=>?_);go_ret;rw [HR.1];exact ⟨rfl,H5.1.Xw.Xw⟩
 ·have b5:(kind==5)=false:=by simpa using h5
  rw [if_neg h5] at HR;go_wp2_with fail;go_ret;rw [HR.1];exact ⟨rfl,H3.1.Xw.Xw⟩):P:=h
theorem Qx2 {P:Prop} (h:P:=by
 exact ⟨rfl,h2.sel (p:= [_,_,_,_,_,_,_,_,_,_,_,_,_]) [1,2,3,4,5,6,7,8,9,0,10,11,12] 13 rfl (by decide)⟩):P:=h
theorem QDx {P:Prop} (h:P:=by
 clear hW3;clear c7 hlb x0;have x0:=H3.1.cA1 14 rfl;have y0:=H3.1.cB7 13 rfl;go_wp2_with fail;go_ret;rw [HR.1];exact ⟨rfl,H3.1.Xw.Xw⟩):P:=h
theorem QDd {P:Prop} (h:P:=by
 go_enter Tryz.func34,Tryz.ntmps34;go_wp2_with fail;generalize hW:w.alloc _=W1 at *;clear hW;generalize w.heap.size=n0 at *;refine wrx (fun W=>W.cell? ⟨n0,3,none⟩=some (.int .i64 i)∧W.cell? ⟨q.b,7,none⟩=some (.pointer (some ⟨q.bp,0,none⟩))) [11] (.op 0 .f (.op 1 .f (.op 2 .f (.op 3 .f (.op 4 .f (.op 5 .f (.fork 6 (.op 7 .f (.op 8 .f (.op 9 .f (.op 10 .e (.op 11 .e (.op 12 .f .nil)))))) (.op 10 .e (.op 6 .e (.op 7 .f (.op 8 .f (.op 9 .f (.op 11 .e (.op 12 .f .nil)))))))))))))) (by kernel_rfl) (by kernel_rfl) ⟨x0.2.2.2.1,c7⟩ ?_;iterate 6
  first
   |(refine vxp rfl rfl ?_;apply ex2;intro w';go_simp;rfl;go_simp)
   |(refine vxg (by kernel_rfl) rfl rfl ?_;apply ex2;intro w' hw';obtain ⟨x3',c7'⟩:=hw';go_simp;rfl;go_simp)
 refine vxf rfl rfl ?_ ?_;first
  |(have ty:Tg 1:=tg
    ·go_wp2_with (go_at_call 50;refine (Qdh HB.1.drew HI.1).m1 fun w1 H1=>?_);have tg:=Tg.mk 1;exact QC6
    have tg:=Tg.mk 1;exact QCp)
  |(have ty:Tg 2:=tg
    ·go_wp2_with (go_at_call 50;refine (HTK.1 _ _ HB.1.drew).m1 fun w1 H1=>?_);have tg:=Tg.mk 2;exact QC6
    have tg:=Tg.mk 2;exact QCp)):P:=h
theorem QC6 {P:Prop} (h:P:=by
 refine ⟨⟨H1.1.cell 13 3 rfl rfl,H1.1.cell 0 7 rfl rfl⟩,?_⟩;go_simp;iterate 3
  first
   |(refine vxp rfl rfl ?_;apply ex2;intro w';go_simp;rfl;go_simp)
   |(refine vxg (by kernel_rfl) rfl rfl ?_;apply ex2;intro w' hw';obtain ⟨x3',c7'⟩:=hw';go_simp;rfl;go_simp)
 refine vxe rfl rfl rfl ?_;go_wp2_with fail;have H2:=zk (H1.1.new (.cells #[.int .i64 0,.int .i64 0,.int .i64 0,.int .i64 0,.int .i64 0,.int .i64 0,.int .i64 0] 113)).boxed;refine ⟨⟨H2.1.cell 14 3 rfl rfl,H2.1.cell 0 7 rfl rfl⟩,?_⟩;go_simp;refine vxx rfl rfl rfl ?_;go_wp2_with fail;refine ⟨trivial,?_⟩;go_simp;refine vtg rfl rfl ?_;apply ex2;intro w' hw';go_simp;rfl;go_simp;refine vtn ?_;go_simp;first
  |(have ty:Tg 1:=tg;have H3:=zk (H1.1.new (.cells #[.int .i64 0,.int .i64 0,.int .i64 0,.int .i64 0,.int .i64 0,.int .i64 0,.int .i64 0] 113)).boxed;generalize hW3:World.alloc _ _=W3 at *;generalize w1.heap.size=nm at *;exact QDx)
  |(have ty:Tg 2:=tg;have H3:=zk (H1.1.new (.cells #[.int .i64 mk,.int .i64 mf,.int .i64 mt,.int .i64 mi,.int .i64 ms,.int .i64 ma,.int .i64 mb] 113)).boxed;generalize hW3:World.alloc _ _=W3 at *;generalize w1.heap.size=nm at *;exact QB4)):P:=h
theorem QDk {P:Prop} (h:P:=by
 refine ⟨⟨H1.1.cell 14 3 rfl rfl,H1.1.cell 0 7 rfl rfl⟩,?_⟩;go_simp;iterate 3
  first
   |(refine vxp rfl rfl ?_;apply ex2;intro w';go_simp;rfl;go_simp)
   |(refine vxg (by kernel_rfl) rfl rfl ?_;apply ex2;intro w' hw';obtain ⟨x3',c7'⟩:=hw';go_simp;rfl;go_simp)
 refine vxx rfl rfl rfl ?_;have y0:=H1.1.cB7 13 rfl;have hly:=H1.1.lt 13 rfl;go_wp2_with fail;refine ⟨trivial,?_⟩;go_simp;refine vtg rfl rfl ?_;apply ex2;intro w' hw';go_simp;rfl;go_simp;refine vtn ?_;go_simp;first
  |(have ty:Tg 1:=tg;have H3:=zk ((H1.1.frt 13 rfl).set7 (.int .i64 0) (.int .i64 0) (.int .i64 0) (.int .i64 0) (.int .i64 0) (.int .i64 0) (.int .i64 0)).boxed;clear y0 hly;generalize hW3:World.setCell _ _ _=W3 at *;exact QDx)
  |(have ty:Tg 2:=tg;have H3:=zk ((H1.1.frt 13 rfl).set7 (.int .i64 mk) (.int .i64 mf) (.int .i64 mt) (.int .i64 mi) (.int .i64 ms) (.int .i64 ma) (.int .i64 mb)).boxed;clear y0 hly;generalize hW3:World.setCell _ _ _=W3 at *;exact QB4)):P:=h
theorem QCp {P:Prop} (h:P:=by
 refine vxe rfl rfl rfl ?_;go_wp2_with fail;have H2:=zk (Heap.drew (HB.1.new (.cells #[.int .i64 0,.int .i64 0,.int .i64 0,.int .i64 0,.int .i64 0,.int .i64 0,.int .i64 0] 113)).boxed);generalize hW2:World.drew (World.alloc _ _)=W2 at *;generalize W1.heap.size=nm at *;clear hW2;refine ⟨⟨H2.1.cell 14 3 rfl rfl,H2.1.cell 0 7 rfl rfl⟩,?_⟩;go_simp;refine vxe rfl rfl rfl ?_;first
  |(have ty:Tg 1:=tg;go_wp2_with (go_at_call 50;refine (Qdh H2.1 HI.1).m1 fun w1 H1=>?_);have tg:=Tg.mk 1;exact QDk)
  |(have ty:Tg 2:=tg;go_wp2_with (go_at_call 50;refine (HTK.1 _ _ H2.1).m1 fun w1 H1=>?_);have tg:=Tg.mk 2;exact QDk)):P:=h
theorem QBw {P:Prop} (h:P:=by
 go_enter Tryz.func34,Tryz.ntmps34;go_wp2_with fail;generalize hW:w.alloc _=W1 at *;clear hW;generalize w.heap.size=n0 at *;refine wro (fun W=>W.cell? ⟨n0,3,none⟩=some (.int .i64 i)∧W.cell? ⟨q.b,7,none⟩=some (.pointer (some ⟨q.bp,0,none⟩))) [(0,.f),(1,.f),(2,.f),(3,.s),(4,.f),(5,.s),(6,.e),(7,.f)] ⟨x0.2.2.2.1,c7⟩ ?_;first
  |(have ty:Tg 1:=tg;repeat (first
     |(refine vg rfl rfl ?_;apply ex2;intro w' hw';obtain ⟨x3',c7'⟩:=hw';go_simp;rfl;go_simp)
     |(refine vs_ rfl (fun K hK=>?_);go_simp;refine hK _ ?_;clear hK K)
     |(refine ve rfl rfl ?_;go_wp2_with (go_at_call 67;refine (Qnb HB.1.drew HI.1).m0 ?_);refine ⟨⟨x0.2.2.2.1,c7⟩,?_⟩;go_simp))
    refine vn ?_;go_simp;go_wp2_with fail;go_ret;rw [HR.1];exact ⟨rfl,HB.1.drew.Xw⟩)
  |(have ty:Tg 2:=tg;repeat (first
     |(refine vg rfl rfl ?_;apply ex2;intro w' hw';obtain ⟨x3',c7'⟩:=hw';go_simp;rfl;go_simp)
     |(refine vs_ rfl (fun K hK=>?_);go_simp;refine hK _ ?_;clear hK K)
     |(refine ve rfl rfl ?_;go_wp2_with (go_at_call 67;refine (Qt4 HB.1.drew HI.1 HM.1).m1 fun w1 H1=>?_);refine ⟨⟨H1.1.cell 13 3 rfl rfl,H1.1.cell 0 7 rfl rfl⟩,?_⟩;go_simp))
    refine vn ?_;go_simp;go_wp2_with fail;go_ret;rw [HR.1];exact ⟨rfl,H1.1.Xw⟩)):P:=h
theorem Heap.set7 {w0 w:World} {b:Nat} {T:TypeId} {a0 a1 a2 a3 a4 a5 a6:Value} {R:List SA} (h:Heap w0 (.pts b (.cells #[a0,a1,a2,a3,a4,a5,a6] T)::R) w) (c0 c1 c2 c3 c4 c5 c6:Value):
 Heap w0 (.pts b (.cells #[c0,c1,c2,c3,c4,c5,c6] T)::R) (((((((w.setCell ⟨b,0,none⟩ c0).setCell ⟨b,1,none⟩ c1).setCell ⟨b,2,none⟩ c2).setCell ⟨b,3,none⟩ c3).setCell ⟨b,4,none⟩ c4).setCell ⟨b,5,none⟩ c5).setCell ⟨b,6,none⟩ c6):=by
 have h1:Heap w0 (.pts b (.cells #[c0,a1,a2,a3,a4,a5,a6] T)::R) (w.setCell ⟨b,0,none⟩ c0):=h.sAt 0 0 c0 rfl;have h2:Heap w0 (.pts b (.cells #[c0,c1,a2,a3,a4,a5,a6] T)::R) ((w.setCell ⟨b,0,none⟩ c0).setCell ⟨b,1,none⟩ c1):=h1.sAt 0 1 c1 rfl;have h3:Heap w0 (.pts b (.cells #[c0,c1,c2,a3,a4,a5,a6] T)::R) (((w.setCell ⟨b,0,none⟩ c0).setCell ⟨b,1,none⟩ c1).setCell ⟨b,2,none⟩ c2):=h2.sAt 0 2 c2 rfl;have h4:Heap w0 (.pts b (.cells #[c0,c1,c2,c3,a4,a5,a6] T)::R) ((((w.setCell ⟨b,0,none⟩ c0).setCell ⟨b,1,none⟩ c1).setCell ⟨b,2,none⟩ c2).setCell ⟨b,3,none⟩ c3):=h3.sAt 0 3 c3 rfl;have h5:Heap w0 (.pts b (.cells #[c0,c1,c2,c3,c4,a5,a6] T)::R) (((((w.setCell ⟨b,0,none⟩ c0).setCell ⟨b,1,none⟩ c1).setCell ⟨b,2,none⟩ c2).setCell ⟨b,3,none⟩ c3).setCell ⟨b,4,none⟩ c4):=h4.sAt 0 4 c4 rfl;have h6:Heap w0 (.pts b (.cells #[c0,c1,c2,c3,c4,c5,a6] T)::R) ((((((w.setCell ⟨b,0,none⟩ c0).setCell ⟨b,1,none⟩ c1).setCell ⟨b,2,none⟩ c2).setCell ⟨b,3,none⟩ c3).setCell ⟨b,4,none⟩ c4).setCell ⟨b,5,none⟩ c5):=h5.sAt 0 5 c5 rfl;have h7:Heap w0 (.pts b (.cells #[c0,c1,c2,c3,c4,c5,c6] T)::R) (((((((w.setCell ⟨b,0,none⟩ c0).setCell ⟨b,1,none⟩ c1).setCell ⟨b,2,none⟩ c2).setCell ⟨b,3,none⟩ c3).setCell ⟨b,4,none⟩ c4).setCell ⟨b,5,none⟩ c5).setCell ⟨b,6,none⟩ c6):=h6.sAt 0 6 c6 rfl;exact h7
section
variable {w0 w:World} {q:HA} {H:Qb} {R:List SA}
theorem Qbv {p:Post} {i:Int} (h:p.has i=true):∃m,p.l[i.toNat]? =some m∧i.toNat<p.l.length∧(i.toNat:Int)=i:=by
 unfold Post.has at h;simp at h;have hl:i.toNat<p.l.length:=by omega
 exact ⟨p.l[i.toNat],by simp [hl],hl,by omega⟩
theorem Qqk (h:Heap w0 (H.on q R) w) {i:Int} {m:Msg} (hi:H.p.has i=true) (hm:H.p.l[i.toNat]? =some m):CH 50 #[q.bp,.int .i64 i] w (.tuple #[m.val,.bool true]) w0 ((H.without i.toNat:Qb).on q R):=by
 obtain ⟨m', -,hl,hc⟩:=Qbv hi;have e:m=H.p.l[i.toNat]:=by
  rw [List.getElem?_eq_getElem hl] at hm;exact (Option.some.inj hm).symm
 have key:=Qzz (h.frt 9 rfl) i.toNat hl;rw [hc] at key;refine key.mono ?_;rintro e' w' ⟨rfl,h2⟩;rw [e];exact Qx2
theorem Qdh (h:Heap w0 (H.on q R) w) {i:Int} (hi:H.p.has i=false):CH 50 #[q.bp,.int .i64 i] w (.tuple #[.agg #[.int .i64 0,.int .i64 0,.int .i64 0,.int .i64 0,.int .i64 0,.int .i64 0,.int .i64 0],.bool false]) w0 ((H:Qb).on q R):=by
 refine (Qs8 (h.frt 9 rfl) i hi).mono ?_;rintro e' w' ⟨rfl,h2⟩;exact Qx2
theorem Qt4 (h:Heap w0 (H.on q R) w) {i:Int} {m:Msg} (hi:H.p.has i=true) (hm:H.p.l[i.toNat]? =some m):CH 67 #[q.bp,.int .i64 i] w (.bool true) w0 (({H with p:=H.p.put m}:Qb).on q R):=by
 obtain ⟨m', -,hl,hc⟩:=Qbv hi;have e:m=H.p.l[i.toNat]:=by
  rw [List.getElem?_eq_getElem hl] at hm;exact (Option.some.inj hm).symm
 have key:=Qtz (h.frt 9 rfl) i.toNat hl;rw [hc] at key;refine key.mono ?_;rintro e' w' ⟨rfl,h2⟩;rw [e];exact Qx2
theorem Qnb (h:Heap w0 (H.on q R) w) {i:Int} (hi:H.p.has i=false):CE 67 #[q.bp,.int .i64 i] w (.bool false):=Qje (h.frt 9 rfl) i hi
theorem FQ (hf:Qz H) (h:Heap w0 (H.on q R) w) {kind node cid i:Int} {yes:Bool} {o:Od} {sp:Option Addr} {sn sk:Nat} (hk:kind=5∨kind=6∨kind=7):
 CH 34 #[q.b,.agg #[kind,node,cid,.int .i64 i,.bool yes,o.id,o.item,o.qty,o.client,o.price,.slice sp sn sk]] w (.int .i64 (H.take kind i).1) w0 ((H.take kind i).2.on q R):=by
 have HR:As (H.take kind i=if H.p.has i=false then ((6:Int),H) else match H.p.l[i.toNat]? with
  |none=>(6,H)
  |some m=>if kind=7 then (0,{H with p:=H.p.put m}) else if kind=5 then (0,(H.without i.toNat).gives m) else (0,H.without i.toNat)):=⟨rfl⟩
 have HF:=zk hf;have h3:=h.new (.cells #[kind,node,cid,.int .i64 i,.bool yes,o.id,o.item,o.qty,o.client,o.price,.slice sp sn sk] 45);have HB:=zk h3.boxed;have x0:=h3.cA1 0 rfl;have c7:=h3.cell 1 7 rfl rfl;have hlb:=h3.lt 1 rfl;clear hf h h3;generalize H.take kind i=res at *;cases hi:H.p.has i;have HI:=zk hi;rw [hi] at HR;simp only [if_true] at HR;clear hi;by_cases h7:kind=7;subst h7;have tg:=Tg.mk 1;exact QBw;have b7:(kind==7)=false:=by simpa using h7
 clear hk;have tg:=Tg.mk 1;exact QDd;obtain ⟨m,hm,hml,hmi⟩:=Qbv hi;have HI:=zk hi;have HM:=zk hm;have HMO:=zk (HF.1.ms m (List.mem_of_getElem? hm));rw [hi] at HR;simp only [Bool.true_eq_false,if_false,hm] at HR;clear hi hm hml hmi;by_cases h7:kind=7;subst h7;simp only [if_true] at HR;have tg:=Tg.mk 2;exact QBw;have b7:(kind==7)=false:=by simpa using h7
 rw [if_neg h7] at HR;have HDL:As (∀W L,Heap w0 ((H.without i.toNat).on q L) W→CH 51 #[q.b,m.val] W (.tuple #[]) w0 (((H.without i.toNat).gives m).on q L)):=⟨fun W L h=>Qaw (Vq w0 q) (HF.1.without _) h m HMO.1⟩;have HTK:As (∀W L,Heap w0 (H.on q L) W→CH 50 #[q.bp,.int .i64 i] W (.tuple #[m.val,.bool true]) w0 ((H.without i.toNat).on q L)):=⟨fun W L h=>Qqk h HI.1 HM.1⟩;generalize (H.without i.toNat).gives m=G at *;obtain ⟨mk,mf,mt,mi,ms,ma,mb⟩:=m;simp only [Msg.val] at HDL HTK;have tg:=Tg.mk 2;exact QDd
end
section
variable {w0 w:World} {q:HA} {H:Qb} {R:List SA}
theorem Qhk (hf:Qz H) (h:Heap w0 (H.on q R) w) {kind node cid i:Int} {yes:Bool} {o:Od} {sp:Option Addr} {sn sk:Nat} (hk:kind=9∨kind=10) (h0:0≤node) (h1:node<7):
 CH 36 #[q.b,.agg #[kind,node,cid,.int .i64 i,.bool yes,o.id,o.item,o.qty,o.client,o.price,.slice sp sn sk]] w (.int .i64 (H.Ye kind node i).1) w0 ((H.Ye kind node i).2.on q R):=by
 have HR:As (H.Ye kind node i=if (H.Qv node != decide (kind=10))=true then (7,H) else if kind=10 then (0,H.starts node) else (0,H.Qj node i)):=⟨rfl⟩;obtain ⟨T,p,F,hn,hm,hent,hd⟩:=Qbs (w0:=w0) (q:=q) (H:=H) (R:=.pts w.heap.size (.cells #[kind,node,cid,.int .i64 i,.bool yes,o.id,o.item,o.qty,o.client,o.price,.slice sp sn sk] 45)::R) h0 h1;obtain ⟨T',p',F',hn',hm',hent',hc⟩:=Qws (w0:=w0) (q:=q) (H:=H) (R:=.pts w.heap.size (.cells #[kind,node,cid,.int .i64 i,.bool yes,o.id,o.item,o.qty,o.client,o.price,.slice sp sn sk] 45)::R) h0 h1 i cid;rw [hn] at hn';cases hn';have HN:=zk hn;have HD:=zk hd;have HC:=zk hc;have HST:As (∀W L,Heap w0 (H.on q L) W→CH 49 #[q.b,node] W (.tuple #[]) w0 ((H.starts node).on q L)):=⟨fun W L h=>Qdo (Vq w0 q) hf h node h0 h1⟩;have h3:=h.new (.cells #[kind,node,cid,.int .i64 i,.bool yes,o.id,o.item,o.qty,o.client,o.price,.slice sp sn sk] 45);have HB:=zk h3.boxed;have x0:=h3.cA1 0 rfl;have hlx:=h3.lt 0 rfl;clear hn hd hc hf h h3;generalize H.Ye kind node i=res at *;generalize H.starts node=G1 at *;generalize H.Qj node i=G2 at *;have hb:(kind==10)=true∧decide (kind=10)=true∧kind=10∨(kind==10)=false∧decide (kind=10)=false∧kind≠10:=by
  rcases hk with e|e;exact .inr ⟨by rw [e];rfl,by rw [e];rfl,by omega⟩;exact .inl ⟨by rw [e];rfl,by rw [e];rfl,e⟩
 clear hk;rcases hb with ⟨hb,hb2,hb3⟩|⟨hb,hb2,hb3⟩;all_goals
  rw [hb2] at HR;cases hdn:H.Qv node;all_goals
   rw [hdn] at HR HD;simp only [hb3,bne_self_eq_false,Bool.false_bne,Bool.true_bne,Bool.not_true,Bool.not_false,Bool.false_eq_true,if_true,if_false] at HR;clear hdn hb2 hb3;go_enter Tryz.func36,Tryz.ntmps36;go_wp2_with (go_at_call 48;refine (QY HB.1 _ (XG h0 h1)).m0 ?_;rw [HN.1]);generalize hW:w.alloc _=W1 at *;clear hW;generalize w.heap.size=n0 at *;refine wro (fun W=>W.cell? ⟨n0,0,none⟩=some (.int .i64 kind)) [(0,.f),(2,.f),(3,.f),(4,.f),(1,.e),(5,.f),(6,.f)] x0.1 ?_;repeat (first
    |refine vR ?_
    |(refine ve rfl rfl ?_;go_wp2_with ((refine (HD.1 _ HB.1.drew).m0 ?_));refine ⟨x0.1,?_⟩;go_simp))
   refine vn ?_;go_simp;go_wp2_with (first
    |(refine (HC.1 _ HB.1.drew).m1 fun w2 H2=>?_)
    |(go_at_call 49;refine (HST.1 _ _ HB.1.drew).m1 fun w2 H2=>?_))
   go_ret;rw [HR.1];first
    |exact ⟨rfl,H2.1.Xw⟩
    |exact ⟨rfl,HB.1.drew.Xw⟩
end
theorem QCz {P:Prop} (h:P:=by
 go_wp2_with fail;refine wro (fun W=>W.cell? ⟨q.bd,1,none⟩=some (.map (some q.br))∧W.cell? ⟨n0,0,none⟩=some (.int .i64 o.id)) [(0,.f),(1,.f),(2,.f),(3,.s),(4,.f),(5,.s),(6,.e)] ⟨d1,x0⟩ ?_;refine vg rfl rfl ?_;apply ex2;intro w' hw';obtain ⟨d1',x0'⟩:=hw';go_simp;rfl;go_simp;refine vg rfl rfl ?_;apply ex2;intro w' hw';obtain ⟨d1',x0'⟩:=hw';go_simp;rfl;go_simp;refine vg rfl rfl ?_;apply ex2;intro w' hw';obtain ⟨d1',x0'⟩:=hw';go_simp;rfl;go_simp;refine vs_ rfl (fun K hK=>?_);go_simp;refine hK _ ?_;clear hK K;refine vg rfl rfl ?_;apply ex2;intro w' hw';obtain ⟨d1',x0'⟩:=hw';go_simp;rfl;go_simp;refine vs_ rfl (fun K hK=>?_);go_simp;refine hK _ ?_;clear hK K;refine ve rfl rfl ?_;first
  |(have ty:Tg 1:=tg;refine Zl H4.1.drew 0 q.br _ rfl rfl _ _ 67 3 rfl Tryz.underlying67 rfl o.id rfl (by have:=HID.1;omega) (by have:=HID.1;omega) ?_;intro w2 h5 _;have H5:=zk h5;clear h5;go_wp2_with fail;refine ⟨⟨H5.1.cell 3 1 rfl rfl,H5.1.cell 15 0 rfl rfl⟩,?_⟩;go_simp;refine vn ?_;go_simp;go_wp2_with fail;exact bodyPost_ret (v:=.tuple #[v1,.int .i64 0]) (by simp [results,Tryz.results61,go_sem]) rfl ⟨_,rfl,HFIN.1 _ (QI mm o.id) (HMK.1.del _) (by rw [Vd];exact H5.1)⟩)
  |(have ty:Tg 2:=tg;refine wlp H4.1.drew 0 q.br _ rfl rfl _ _ _ 67 3 rfl Tryz.underlying67 rfl o.id rfl _ rfl (by have:=HID.1;omega) (by have:=HID.1;omega) HML.1 ?_;intro w2 h5 _;have H5:=zk h5;clear h5;go_wp2_with fail;refine ⟨⟨H5.1.cell 3 1 rfl rfl,H5.1.cell 15 0 rfl rfl⟩,?_⟩;go_simp;refine vn ?_;go_simp;go_wp2_with fail;exact bodyPost_ret (v:=.tuple #[v1,.int .i64 5]) (by simp [results,Tryz.results61,go_sem]) rfl ⟨_,rfl,HFIN.1 _ (Qt mm o.id 1) (HMK.1.put _ HID.1.1 HID.1.2) (by rw [Xt];exact H5.1)⟩)):P:=h
section
variable {w0 w:World} {L:List SA} {b:Nat}
theorem Heap.Qdu (h:Heap w0 (.marks b::L) w):∃m:IM Int,Ql m∧Heap w0 (.map b (Qx (Value.int .i64) m)::L) w:=by
 obtain ⟨m,h⟩:=h.YL;obtain ⟨hk,h⟩:=h.QT;exact ⟨m,hk,h⟩
theorem Heap.Ur {m:IM Int} (hk:Ql m) (h:Heap w0 (.map b (Qx (Value.int .i64) m)::L) w):Heap w0 (.marks b::L) w:=
 Heap.Yr (f:=fun m:IM Int=>.when (Ql m) (.map b (Qx (Value.int .i64) m))) m (Heap.QZ hk h)
end
theorem Qtp (c:Qa) (o:Od):(c.begin o).2.1=0∨(c.begin o).2.1=5∨(c.begin o).2.1=8∨(c.begin o).2.1=10:=by
 unfold Qa.begin;repeat' split
 all_goals simp
theorem Qsk (c:Qa) (o:Od):(c.begin o).1.length≤3:=by
 unfold Qa.begin;split;simp;split;simp;split;simp;split;exact Vn _ _;simp
section
variable {w0 w:World} {q:HA} {H:Qb} {R:List SA}
theorem Qxg {o:Od} {v:Value} (h:Heap w0 (H.on q (.slc v 131 2 o.steps.length (Qs o.steps)::R)) w) (ho:o.ok):
 Calls Tryz.prog 96 #[q.bc,o.val v] w fun e w'=>∃v',e=.returned (.tuple #[v',.int .i64 (H.c.begin o).2.1])∧Heap w0 (.slc v' 113 7 (H.c.begin o).1.length (Qk (H.c.begin o).1)::({H with c:=(H.c.begin o).2.2}:Qb).on q (.slc v 131 2 o.steps.length (Qs o.steps)::R)) w':=by
 refine (Qth (h.sel (p:= [_,_,_,_,_,_,_,_,_,_,_,_,_,_]) [2,13,0,1,3,4,5,6,7,8,9,10,11,12] 14 rfl (by decide)) ho).mono ?_;rintro e w' ⟨v',rfl,h2⟩;exact ⟨v',rfl,h2.sel (p:= [_,_,_,_,_,_,_,_,_,_,_,_,_,_,_]) [0,3,4,1,5,6,7,8,9,10,11,12,13,14,2] 15 rfl (by decide)⟩
theorem Qsj {o:Od} {sp:Option Addr} {sk:Nat} (h:Heap w0 (H.on q (.slc (.slice sp o.steps.length sk) 131 2 o.steps.length (Qs o.steps)::R)) w) (ho:o.ok):
 Calls Tryz.prog 61 #[q.bd,.agg #[o.id,o.item,o.qty,o.client,o.price,.slice sp o.steps.length sk]] w fun e w'=>∃v',e=.returned (.tuple #[v',.int .i64 (H.c.begin o).2.1])∧Heap w0 (.slc v' 113 7 (H.c.begin o).1.length (Qk (H.c.begin o).1)::({H with c:=(H.c.begin o).2.2}:Qb).on q (.slc (.slice sp o.steps.length sk) 131 2 o.steps.length (Qs o.steps)::R)) w':=by
 have h3:=h.new (.cells #[o.id,o.item,o.qty,o.client,o.price,.slice sp o.steps.length sk] 32);have HB:=zk (h3.sel (p:= [_,_,_,_,_,_,_,_,_,_,_,_,_,_,_]) [1,2,3,4,5,6,7,8,9,10,11,12,13,14,0] 15 rfl (by decide):Heap w0 (H.on q (.slc (.slice sp o.steps.length sk) 131 2 o.steps.length (Qs o.steps)::.pts w.heap.size (.cells #[o.id,o.item,o.qty,o.client,o.price,.slice sp o.steps.length sk] 32)::R)) _);obtain ⟨x0,x1,x2,x3,x4,x5,xf⟩:=h3.cB6 0 rfl;have hlx:=h3.lt 0 rfl;have d0:=h3.cell 2 0 rfl rfl;have hld:=h3.lt 2 rfl;have HBG:As (∀W L,Heap w0 (H.on q (.slc (.slice sp o.steps.length sk) 131 2 o.steps.length (Qs o.steps)::L)) W→Calls Tryz.prog 96 #[q.bc,o.val (.slice sp o.steps.length sk)] W fun e w'=>∃v',e=.returned (.tuple #[v',.int .i64 (H.c.begin o).2.1])∧Heap w0 (.slc v' 113 7 (H.c.begin o).1.length (Qk (H.c.begin o).1)::({H with c:=(H.c.begin o).2.2}:Qb).on q (.slc (.slice sp o.steps.length sk) 131 2 o.steps.length (Qs o.steps)::L)) w'):=⟨fun W L h=>Qxg h ho⟩;have her:=Qtp H.c o;have HID:As (1≤o.id∧o.id≤999):=⟨ho.id0,ho.id1⟩;have hid0:(decide (1≤o.id))=true:=by simpa using ho.id0
 have hid1:(decide (o.id≤999))=true:=by simpa using ho.id1
 clear h h3 ho;generalize H.c.begin o=rb at *;obtain ⟨ms,er,c'⟩:=rb;unfold Od.val at HBG;simp only at HBG her⊢;generalize ({H with c:=c'}:Qb)=H1 at *;go_enter Tryz.func61,Tryz.ntmps61;go_wp2_with fail;generalize hW:w.alloc _=W1 at *;clear hW;generalize w.heap.size=n0 at *;refine wro (fun W=>W.cell? ⟨q.bd,0,none⟩=some (.pointer (some ⟨q.bc,0,none⟩))∧W.cell? ⟨n0,0,none⟩=some (.int .i64 o.id)∧W.cell? ⟨n0,1,none⟩=some (.int .i64 o.item)∧W.cell? ⟨n0,2,none⟩=some (.int .i64 o.qty)∧W.cell? ⟨n0,3,none⟩=some (.int .i64 o.client)∧W.cell? ⟨n0,4,none⟩=some (.int .i64 o.price)∧W.cell? ⟨n0,5,none⟩=some (.slice sp o.steps.length sk)) [(0,.f),(1,.f),(2,.f),(3,.s),(4,.s),(5,.e),(6,.f),(7,.f),(8,.f),(9,.f),(10,.f)] ⟨d0,x0,x1,x2,x3,x4,x5⟩ ?_;refine vg rfl rfl ?_;apply ex2;intro w' hw';obtain ⟨d0',x0',x1',x2',x3',x4',x5'⟩:=hw';go_simp;rfl;go_simp;refine vg rfl rfl ?_;apply ex2;intro w' hw';obtain ⟨d0',x0',x1',x2',x3',x4',x5'⟩:=hw';go_simp;rfl;go_simp;refine vg rfl rfl ?_;apply ex2;intro w' hw';obtain ⟨d0',x0',x1',x2',x3',x4',x5'⟩:=hw';go_simp;rfl;go_simp;refine vs_ rfl (fun K hK=>?_);go_simp;refine hK _ ?_;clear hK K;refine vs_ rfl (fun K hK=>?_);go_simp;refine hK _ ?_;clear hK K;refine ve rfl rfl ?_;go_wp2_with (go_at_call 96;refine (HBG.1 _ _ HB.1.drew).mono ?_;rintro e w1 ⟨v1,rfl,h1⟩;have H2:=zk h1;clear h1);refine ⟨⟨H2.1.cell 2 0 rfl rfl,H2.1.cell 15 0 rfl rfl,H2.1.cell 15 1 rfl rfl,H2.1.cell 15 2 rfl rfl,H2.1.cell 15 3 rfl rfl,H2.1.cell 15 4 rfl rfl,H2.1.cell 15 5 rfl rfl⟩,?_⟩;go_simp;refine vg rfl rfl ?_;apply ex2;intro w' hw';obtain ⟨d0',x0',x1',x2',x3',x4',x5'⟩:=hw';go_simp;rfl;go_simp;refine vg rfl rfl ?_;apply ex2;intro w' hw';obtain ⟨d0',x0',x1',x2',x3',x4',x5'⟩:=hw';go_simp;rfl;go_simp;refine vg rfl rfl ?_;apply ex2;intro w' hw';obtain ⟨d0',x0',x1',x2',x3',x4',x5'⟩:=hw';go_simp;rfl;go_simp;refine vg rfl rfl ?_;apply ex2;intro w' hw';obtain ⟨d0',x0',x1',x2',x3',x4',x5'⟩:=hw';go_simp;rfl;go_simp;refine vg rfl rfl ?_;apply ex2;intro w' hw';obtain ⟨d0',x0',x1',x2',x3',x4',x5'⟩:=hw';go_simp;rfl;go_simp;refine vn ?_;go_simp;clear x0 x1 x2 x3 x4 x5 xf hlx d0 hld;obtain ⟨mm,hmk,h4⟩:=(H2.1.frt 13 rfl).Qdu;have HMK:=zk hmk;have HML:As ((Qx (Value.int .i64) mm).length<1000000):=⟨by have:=hmk.len;unfold Qx;simp only [List.length_map];omega⟩;have H4:=zk h4;have d1:=h4.cell 3 1 rfl rfl;have hld:=h4.lt 3 rfl;have x0:=h4.cell 15 0 rfl rfl;have hlx:=h4.lt 15 rfl;clear h4 hmk;have HFIN:As (∀W (m:IM Int),Ql m→Heap w0 (.map q.br (Qx (Value.int .i64) m)::.slc v1 113 7 ms.length (Qk ms)::(((H1.on q (.slc (.slice sp o.steps.length sk) 131 2 o.steps.length (Qs o.steps)::.pts n0 (.cells #[o.id,o.item,o.qty,o.client,o.price,.slice sp o.steps.length sk] 32)::R)).eraseIdx 12))) W→Heap w0 (.slc v1 113 7 ms.length (Qk ms)::H1.on q (.slc (.slice sp o.steps.length sk) 131 2 o.steps.length (Qs o.steps)::R)) W):=⟨fun W m hk h=>(Heap.Ur hk h).sel (p:= [_,_,_,_,_,_,_,_,_,_,_,_,_,_,_,_]) [1,2,3,4,5,6,7,8,9,10,11,12,13,0,14] 16 rfl (by decide)⟩;rcases her with rfl|rfl|rfl|rfl;have tg:=Tg.mk 1;exact QCz;have tg:=Tg.mk 2;exact QCz
 ·go_wp2_with fail;exact bodyPost_ret (v:=.tuple #[v1,.int .i64 8]) (by simp [results,Tryz.results61,go_sem]) rfl ⟨_,rfl,HFIN.1 _ mm HMK.1 H4.1⟩
 ·go_wp2_with fail;exact bodyPost_ret (v:=.tuple #[v1,.int .i64 10]) (by simp [results,Tryz.results61,go_sem]) rfl ⟨_,rfl,HFIN.1 _ mm HMK.1 H4.1⟩
end
theorem QDc {P:Prop} (h:P:=by
 have H7:=zk (H6.1.nRw 113 7:Heap w0 (.slc (.slice none 0 0) 113 7 ([]:List Msg).length (Qk [])::G.on q (.pts n0 (.cells #[.int .i64 3,node,cid,.int .i64 i,.bool yes,o.id,o.item,o.qty,o.client,o.price,.slice sp sn sk] 45)::R)) _);go_wp2_with (go_at_call 66;refine (Fu H7.1 HL0.1).m1 fun wp HP=>?_);go_ret;exact ⟨rfl,HP.1.Xw⟩):P:=h
theorem Qn1 (c:Qa) (id:Int):(c.cancel id).1.length≤3:=by
 unfold Qa.cancel;split;simp;split;simp;split;simp;exact FK _ _
section
variable {w0 w:World} {q:HA} {H:Qb} {R:List SA}
theorem Qtn (h:Heap w0 (H.on q R) w) (id:Int) (h0:1≤id) (h1:id≤999):
 Calls Tryz.prog 62 #[q.bc,id] w fun e w'=>∃v',e=.returned (.tuple #[v',.int .i64 (H.c.cancel id).2.1])∧Heap w0 (.slc v' 113 7 (H.c.cancel id).1.length (Qk (H.c.cancel id).1)::({H with c:=(H.c.cancel id).2.2}:Qb).on q R) w':=by
 refine (Qm7 (h.frt 2 rfl) id h0 h1).mono ?_;rintro e w' ⟨v',rfl,h2⟩;exact ⟨v',rfl,h2.sel (p:= [_,_,_,_,_,_,_,_,_,_,_,_,_,_]) [0,2,3,1,4,5,6,7,8,9,10,11,12,13] 14 rfl (by decide)⟩
theorem Qyj (h:Heap w0 (H.on q R) w) (i:Int) (hi:i=1∨i=2) (id:Int) (h0:1≤id) (h1:id≤999) (yes:Bool):
 CH 65 #[(q.kp i),id,.bool yes] w (.int .i64 (H.force i id yes).1) w0 ((H.force i id yes).2.on q R):=by
 rcases hi with rfl|rfl;refine (Qgz (h.frt 3 rfl) id h0 h1 yes).m2 fun w' h2=>?_;exact ⟨rfl,h2.sel (p:= [_,_,_,_,_,_,_,_,_,_,_,_,_]) [1,2,3,0,4,5,6,7,8,9,10,11,12] 13 rfl (by decide)⟩;refine (Qgz (h.frt 4 rfl) id h0 h1 yes).m2 fun w' h2=>?_;exact ⟨rfl,h2.sel (p:= [_,_,_,_,_,_,_,_,_,_,_,_,_]) [1,2,3,4,0,5,6,7,8,9,10,11,12] 13 rfl (by decide)⟩
theorem Qk7 {node cid i:Int} {yes:Bool} {o:Od} {sp:Option Addr} {sk:Nat} (h:Heap w0 (H.on q (.slc (.slice sp o.steps.length sk) 131 2 o.steps.length (Qs o.steps)::R)) w) (ho:o.ok):
 CH 33 #[q.b,.agg #[.int .i64 1,node,cid,.int .i64 i,.bool yes,o.id,o.item,o.qty,o.client,o.price,.slice sp o.steps.length sk]] w (.int .i64 (H.XQ o).1) w0 ((H.XQ o).2.on q (.slc (.slice sp o.steps.length sk) 131 2 o.steps.length (Qs o.steps)::R)):=by
 have HL:As ((H.c.begin o).1.length<1000):=⟨by have:=Qsk H.c o;omega⟩;have HR:As (H.XQ o=((H.c.begin o).2.1,{({H with c:=(H.c.begin o).2.2}:Qb) with p:=H.p.puts (H.c.begin o).1})):=⟨rfl⟩;have HSB:As (∀W L,Heap w0 (H.on q (.slc (.slice sp o.steps.length sk) 131 2 o.steps.length (Qs o.steps)::L)) W→Calls Tryz.prog 61 #[q.bd,.agg #[o.id,o.item,o.qty,o.client,o.price,.slice sp o.steps.length sk]] W fun e w'=>∃v',e=.returned (.tuple #[v',.int .i64 (H.c.begin o).2.1])∧Heap w0 (.slc v' 113 7 (H.c.begin o).1.length (Qk (H.c.begin o).1)::({H with c:=(H.c.begin o).2.2}:Qb).on q (.slc (.slice sp o.steps.length sk) 131 2 o.steps.length (Qs o.steps)::L)) w'):=⟨fun W L h=>Qsj h ho⟩;have h3:=h.new (.cells #[.int .i64 1,node,cid,.int .i64 i,.bool yes,o.id,o.item,o.qty,o.client,o.price,.slice sp o.steps.length sk] 45);have HB:=zk (h3.sel (p:= [_,_,_,_,_,_,_,_,_,_,_,_,_,_,_]) [1,2,3,4,5,6,7,8,9,10,11,12,13,14,0] 15 rfl (by decide):Heap w0 (H.on q (.slc (.slice sp o.steps.length sk) 131 2 o.steps.length (Qs o.steps)::.pts w.heap.size (.cells #[.int .i64 1,node,cid,.int .i64 i,.bool yes,o.id,o.item,o.qty,o.client,o.price,.slice sp o.steps.length sk] 45)::R)) _);obtain ⟨x0,x1,x2,x3,x4,x5,x6,x7,x8,x9,x10,xf⟩:=h3.cA1 0 rfl;have hlx:=h3.lt 0 rfl;have c0:=h3.cell 1 0 rfl rfl;have c7:=h3.cell 1 7 rfl rfl;have c9:=h3.cell 1 9 rfl rfl;have hlb:=h3.lt 1 rfl;clear h h3 ho;generalize H.XQ o=res at *;generalize H.c.begin o=rb at *;obtain ⟨ms,er,c'⟩:=rb;simp only at HL HSB HR;go_enter Tryz.func33,Tryz.ntmps33;go_wp2_with fail;generalize hW:w.alloc _=W1 at *;clear hW;generalize w.heap.size=n0 at *;refine wro (fun W=>W.cell? ⟨q.b,0,none⟩=some (.pointer (some ⟨q.bd,0,none⟩))∧W.cell? ⟨n0,5,none⟩=some (.int .i64 o.id)∧W.cell? ⟨n0,6,none⟩=some (.int .i64 o.item)∧W.cell? ⟨n0,7,none⟩=some (.int .i64 o.qty)∧W.cell? ⟨n0,8,none⟩=some (.int .i64 o.client)∧W.cell? ⟨n0,9,none⟩=some (.int .i64 o.price)∧W.cell? ⟨n0,10,none⟩=some (.slice sp o.steps.length sk)) [(0,.f),(1,.f),(2,.f),(3,.s),(4,.f),(5,.s),(6,.e),(7,.f),(8,.f),(9,.f),(10,.f),(11,.f)] ⟨c0,x5,x6,x7,x8,x9,x10⟩ ?_;repeat (first
  |(refine vg rfl rfl ?_;apply ex2;intro w' hw';obtain ⟨c0',x5',x6',x7',x8',x9',x10'⟩:=hw';go_simp;rfl;go_simp)
  |(refine vs_ rfl (fun K hK=>?_);go_simp;refine hK _ ?_;clear hK K)
  |(refine ve rfl rfl ?_;go_wp2_with (go_at_call 61;refine (HSB.1 _ _ HB.1.drew).mono ?_;rintro e w1 ⟨v1,rfl,h1⟩;have H2:=zk h1;clear h1);refine ⟨⟨H2.1.cell 1 0 rfl rfl,H2.1.cell 15 5 rfl rfl,H2.1.cell 15 6 rfl rfl,H2.1.cell 15 7 rfl rfl,H2.1.cell 15 8 rfl rfl,H2.1.cell 15 9 rfl rfl,H2.1.cell 15 10 rfl rfl⟩,?_⟩;go_simp))
 refine vn ?_;go_simp;clear x0 x1 x2 x3 x4 x5 x6 x7 x8 x9 x10 xf hlx c0 c7 c9 hlb;have c7:=H2.1.cell 1 7 rfl rfl;have hlb:=H2.1.lt 1 rfl;go_wp2_with (go_at_call 66;refine (Fu H2.1 HL.1).m1 fun wp HP=>?_);go_ret;rw [HR.1];exact ⟨rfl,HP.1.sel (p:= [_,_,_,_,_,_,_,_,_,_,_,_,_,_,_]) [0,1,2,3,4,5,6,7,8,9,10,11,12,13] 15 rfl (by decide)⟩
theorem Ql1 {node cid i:Int} {yes:Bool} {o:Od} {sp:Option Addr} {sn sk:Nat} (h:Heap w0 (H.on q R) w) (h0:1≤cid) (h1:cid≤999):
 CH 33 #[q.b,.agg #[.int .i64 2,node,cid,.int .i64 i,.bool yes,o.id,o.item,o.qty,o.client,o.price,.slice sp sn sk]] w (.int .i64 (H.cancel cid).1) w0 ((H.cancel cid).2.on q R):=by
 have HL:As ((H.c.cancel cid).1.length<1000):=⟨by have:=Qn1 H.c cid;omega⟩;have HR:As (H.cancel cid=((H.c.cancel cid).2.1,{({H with c:=(H.c.cancel cid).2.2}:Qb) with p:=H.p.puts (H.c.cancel cid).1})):=⟨rfl⟩;have HCN:As (∀W L,Heap w0 (H.on q L) W→Calls Tryz.prog 62 #[q.bc,cid] W fun e w'=>∃v',e=.returned (.tuple #[v',.int .i64 (H.c.cancel cid).2.1])∧Heap w0 (.slc v' 113 7 (H.c.cancel cid).1.length (Qk (H.c.cancel cid).1)::({H with c:=(H.c.cancel cid).2.2}:Qb).on q L) w'):=⟨fun W L h=>Qtn h cid h0 h1⟩;have h3:=h.new (.cells #[.int .i64 2,node,cid,.int .i64 i,.bool yes,o.id,o.item,o.qty,o.client,o.price,.slice sp sn sk] 45);have HB:=zk h3.boxed;obtain ⟨x0,x1,x2,x3,x4,x5,x6,x7,x8,x9,x10,xf⟩:=h3.cA1 0 rfl;have hlx:=h3.lt 0 rfl;have c0:=h3.cell 1 0 rfl rfl;have c7:=h3.cell 1 7 rfl rfl;have c9:=h3.cell 1 9 rfl rfl;have hlb:=h3.lt 1 rfl;clear h h3;generalize H.cancel cid=res at *;generalize H.c.cancel cid=rb at *;obtain ⟨ms,er,c'⟩:=rb;simp only at HL HCN HR;go_enter Tryz.func33,Tryz.ntmps33;go_wp2_with fail;generalize hW:w.alloc _=W1 at *;clear hW;generalize w.heap.size=n0 at *;refine wro (fun W=>W.cell? ⟨n0,2,none⟩=some (.int .i64 cid)) [(0,.f),(2,.f),(3,.f),(1,.e),(4,.e),(5,.f),(6,.f),(7,.f),(8,.f),(9,.f)] x2 ?_;repeat (first
  |refine vR ?_
  |(refine ve rfl rfl ?_;go_wp2_with (go_at_call 52;refine (Ve HB.1.drew).m0 ?_);refine ⟨x2,?_⟩;go_simp)
  |(refine ve rfl rfl ?_;go_wp2_with (go_at_call 62;refine (HCN.1 _ _ HB.1.drew).mono ?_;rintro e w1 ⟨v1,rfl,h1⟩;have H2:=zk h1;clear h1);refine ⟨H2.1.cell 14 2 rfl rfl,?_⟩;go_simp))
 refine vn ?_;go_simp;clear x0 x1 x2 x3 x4 x5 x6 x7 x8 x9 x10 xf hlx c0 c7 c9 hlb;have x2:=H2.1.cell 14 2 rfl rfl;have hlx:=H2.1.lt 14 rfl;go_wp2_with (go_at_call 63;refine (Vq w0 q _ _ _ cid (H2.1.sel (p:= [_,_,_,_,_,_,_,_,_,_,_,_,_,_,_]) [1,2,3,4,5,6,7,8,9,10,11,12,13,14,0] 15 rfl (by decide):Heap w0 (({H with c:=c'}:Qb).on q (.pts n0 (.cells #[.int .i64 2,node,cid,.int .i64 i,.bool yes,o.id,o.item,o.qty,o.client,o.price,.slice sp sn sk] 45)::.slc v1 113 7 ms.length (Qk ms)::R)) _) h0 h1).m2 fun w2 h2=>?_;have H3:=zk (h2.frt 14 rfl:Heap w0 (.slc v1 113 7 ms.length (Qk ms)::({H with c:=c'}:Qb).on q (.pts n0 (.cells #[.int .i64 2,node,cid,.int .i64 i,.bool yes,o.id,o.item,o.qty,o.client,o.price,.slice sp sn sk] 45)::R)) _);clear h2 x2 hlx;have c7:=H3.1.cell 1 7 rfl rfl;have hlb:=H3.1.lt 1 rfl);refine (Fu H3.1 HL.1).m1 fun wp HP=>?_;go_wp2_with fail;go_ret;rw [HR.1];exact ⟨rfl,HP.1.Xw⟩
theorem Qna {node cid i:Int} {yes:Bool} {o:Od} {sp:Option Addr} {sn sk:Nat} (h:Heap w0 (H.on q R) w) (hn:node=1∨node=2) (h0:1≤cid) (h1:cid≤999):
 CH 33 #[q.b,.agg #[.int .i64 3,node,cid,.int .i64 i,.bool yes,o.id,o.item,o.qty,o.client,o.price,.slice sp sn sk]] w (.int .i64 (H.force node cid yes).1) w0 ((H.force node cid yes).2.on q R):=by
 have HFC:As (∀W L,Heap w0 (H.on q L) W→CH 65 #[(q.kp node),cid,.bool yes] W (.int .i64 (H.force node cid yes).1) w0 ((H.force node cid yes).2.on q L)):=⟨fun W L h=>Qyj h node hn cid h0 h1 yes⟩;have HNO:=zk hn;have HL0:As (([]:List Msg).length<1000):=⟨by simp⟩;have h3:=h.new (.cells #[.int .i64 3,node,cid,.int .i64 i,.bool yes,o.id,o.item,o.qty,o.client,o.price,.slice sp sn sk] 45);have HB:=zk h3.boxed;have x0:=h3.cA1 0 rfl;have hlx:=h3.lt 0 rfl;have c0:=h3.cell 1 0 rfl rfl;have c7:=h3.cell 1 7 rfl rfl;have c9:=h3.cell 1 9 rfl rfl;have hlb:=h3.lt 1 rfl;clear h h3 hn;generalize H.force node cid yes=res at *;obtain ⟨er,G⟩:=res;simp only at HFC⊢;go_enter Tryz.func33,Tryz.ntmps33;go_wp2_with (go_at_call 16;refine (UK HB.1 node HNO.1).m0 ?_);refine (HFC.1 _ _ HB.1).m1 fun w1 H2=>?_;clear x0 hlx c0 c7 c9 hlb;generalize w.heap.size=n0 at *;obtain ⟨mm,hmk,h4⟩:=(H2.1.frt 11 rfl).Qdu;have HMK:=zk hmk;have HML:As ((Qx (Value.int .i64) mm).length<1000000):=⟨by have:=hmk.len;unfold Qx;simp only [List.length_map];omega⟩;have H4:=zk h4;have x0:=H4.1.cA1 13 rfl;have hlx:=H4.1.lt 13 rfl;have c0:=H4.1.cell 1 0 rfl rfl;have c7:=H4.1.cell 1 7 rfl rfl;have c9:=H4.1.cell 1 9 rfl rfl;have hlb:=H4.1.lt 1 rfl;clear h4 hmk;have HFIN:As (∀W (m:IM Int),Ql m→Heap w0 (.map q.bf (Qx (Value.int .i64) m)::(G.on q (.pts n0 (.cells #[.int .i64 3,node,cid,.int .i64 i,.bool yes,o.id,o.item,o.qty,o.client,o.price,.slice sp sn sk] 45)::R)).eraseIdx 11) W→Heap w0 (G.on q (.pts n0 (.cells #[.int .i64 3,node,cid,.int .i64 i,.bool yes,o.id,o.item,o.qty,o.client,o.price,.slice sp sn sk] 45)::R)) W):=⟨fun W m hk h=>(Heap.Ur hk h).sel (p:= [_,_,_,_,_,_,_,_,_,_,_,_,_]) [1,2,3,4,5,6,7,8,9,10,11,0,12] 13 rfl (by decide)⟩;by_cases h0':er=0
 ·subst h0';go_wp2_with fail;refine wro (fun W=>W.cell? ⟨q.b,9,none⟩=some (.map (some q.bf))∧W.cell? ⟨n0,2,none⟩=some (.int .i64 cid)) [(0,.f),(1,.f),(2,.f),(3,.s),(4,.f),(5,.s),(6,.e)] ⟨c9,x0.2.2.1⟩ ?_;repeat (first
   |(refine vg rfl rfl ?_;apply ex2;intro w' hw';obtain ⟨c9',x2'⟩:=hw';go_simp;rfl;go_simp)
   |(refine vs_ rfl (fun K hK=>?_);go_simp;refine hK _ ?_;clear hK K)
   |(refine ve rfl rfl ?_;refine wlp H4.1.drew 0 q.bf _ rfl rfl _ _ _ 67 3 rfl Tryz.underlying67 rfl cid rfl _ rfl (by omega) (by omega) HML.1 ?_;intro w2 h5 _;have H5:=zk h5;clear h5;go_wp2_with fail;refine ⟨⟨H5.1.cell 1 9 rfl rfl,H5.1.cell 13 2 rfl rfl⟩,?_⟩;go_simp))
  refine vn ?_;go_simp;have H6:=zk (HFIN.1 _ (Qt mm cid 1) (HMK.1.put _ h0 h1) (by rw [Xt];exact H5.1));clear x0 hlx c0 c7 c9 hlb;have c7:=H6.1.cell 0 7 rfl rfl;have hlb:=H6.1.lt 0 rfl;exact QDc
 have b0:(er==0)=false:=by simpa using h0'
 have H6:=zk (HFIN.1 _ mm HMK.1 H4.1);exact QDc
end
theorem Qap {P:Prop} (h:P:=by
 go_enter Tryz.func18,Tryz.ntmps18;go_wp2_with (refine HCL.1.m1 fun w2 H2=>?_);go_ret;exact ⟨rfl,H2.1.Xw⟩):P:=h
section
variable {w0 w:World} {q:HA} {H:Qb} {R:List SA}
theorem Qwp (hDE:Dt w0 q) (hf:Qz H) (h:Heap w0 (H.on q R) w) (i:Int) (hi:i=0∨i=1∨i=2) (id:Int) (h0:1≤id) (h1:id≤999):
 CH 35 #[q.b,.int .i64 i,id] w (.int .i64 (H.Qo i id).1) w0 ((H.Qo i id).2.on q R):=by
 rcases hi with rfl|hi;exact Qqw hDE hf h id h0 h1;exact Qhy hf h i hi id h0 h1
theorem Qgk {node cid i:Int} {yes:Bool} {o:Od} {sp:Option Addr} {sk:Nat} (hf:Qz H) (h:Heap w0 (H.on q (.slc (.slice sp o.steps.length sk) 131 2 o.steps.length (Qs o.steps)::R)) w) (ho:o.ok):
 CH 18 #[q.b,.agg #[.int .i64 1,node,cid,.int .i64 i,.bool yes,o.id,o.item,o.qty,o.client,o.price,.slice sp o.steps.length sk]] w (.int .i64 (H.XQ o).1) w0 ((H.XQ o).2.on q (.slc (.slice sp o.steps.length sk) 131 2 o.steps.length (Qs o.steps)::R)):=by
 have h3:=h.new (.cells #[.int .i64 1,node,cid,.int .i64 i,.bool yes,o.id,o.item,o.qty,o.client,o.price,.slice sp o.steps.length sk] 45);have HB:=zk (h3.sel (p:= [_,_,_,_,_,_,_,_,_,_,_,_,_,_,_]) [1,2,3,4,5,6,7,8,9,10,11,12,13,14,0] 15 rfl (by decide):Heap w0 (H.on q (.slc (.slice sp o.steps.length sk) 131 2 o.steps.length (Qs o.steps)::.pts w.heap.size (.cells #[.int .i64 1,node,cid,.int .i64 i,.bool yes,o.id,o.item,o.qty,o.client,o.price,.slice sp o.steps.length sk] 45)::R)) _);have x0:=h3.cA1 0 rfl;have hlx:=h3.lt 0 rfl;have HCL:=zk (Qk7 (node:=node) (cid:=cid) (i:=i) (yes:=yes) HB.1 ho);clear h h3 hf;generalize H.XQ o=res at *;go_enter Tryz.func18,Tryz.ntmps18;go_wp2_with (refine HCL.1.m1 fun w2 H2=>?_);go_ret;exact ⟨rfl,H2.1.sel (p:= [_,_,_,_,_,_,_,_,_,_,_,_,_,_,_]) [0,1,2,3,4,5,6,7,8,9,10,11,12,13] 15 rfl (by decide)⟩
theorem Qsn {node cid i:Int} {yes:Bool} {o:Od} {sp:Option Addr} {sn sk:Nat} (hf:Qz H) (h:Heap w0 (H.on q R) w) (h0:1≤cid) (h1:cid≤999):
 CH 18 #[q.b,.agg #[.int .i64 2,node,cid,.int .i64 i,.bool yes,o.id,o.item,o.qty,o.client,o.price,.slice sp sn sk]] w (.int .i64 (H.cancel cid).1) w0 ((H.cancel cid).2.on q R):=by
 have h3:=h.new (.cells #[.int .i64 2,node,cid,.int .i64 i,.bool yes,o.id,o.item,o.qty,o.client,o.price,.slice sp sn sk] 45);have HB:=zk h3.boxed;have x0:=h3.cA1 0 rfl;have hlx:=h3.lt 0 rfl;have HCL:=zk (Ql1 (node:=node) (i:=i) (yes:=yes) (o:=o) (sp:=sp) (sn:=sn) (sk:=sk) HB.1 h0 h1);clear h h3 hf;generalize H.cancel cid=res at *;exact Qap
theorem Qu7 {node cid i:Int} {yes:Bool} {o:Od} {sp:Option Addr} {sn sk:Nat} (hf:Qz H) (h:Heap w0 (H.on q R) w) (hn:node=1∨node=2) (h0:1≤cid) (h1:cid≤999):
 CH 18 #[q.b,.agg #[.int .i64 3,node,cid,.int .i64 i,.bool yes,o.id,o.item,o.qty,o.client,o.price,.slice sp sn sk]] w (.int .i64 (H.force node cid yes).1) w0 ((H.force node cid yes).2.on q R):=by
 have h3:=h.new (.cells #[.int .i64 3,node,cid,.int .i64 i,.bool yes,o.id,o.item,o.qty,o.client,o.price,.slice sp sn sk] 45);have HB:=zk h3.boxed;have x0:=h3.cA1 0 rfl;have hlx:=h3.lt 0 rfl;have HCL:=zk (Qna (i:=i) (yes:=yes) (o:=o) (sp:=sp) (sn:=sn) (sk:=sk) HB.1 hn h0 h1);clear h h3 hf;generalize H.force node cid yes=res at *;exact Qap
theorem Qlb {node cid i:Int} {yes:Bool} {o:Od} {sp:Option Addr} {sn sk:Nat} (hf:Qz H) (h:Heap w0 (H.on q R) w):
 CH 18 #[q.b,.agg #[.int .i64 5,node,cid,.int .i64 i,.bool yes,o.id,o.item,o.qty,o.client,o.price,.slice sp sn sk]] w (.int .i64 (H.take 5 i).1) w0 ((H.take 5 i).2.on q R):=by
 have h3:=h.new (.cells #[.int .i64 5,node,cid,.int .i64 i,.bool yes,o.id,o.item,o.qty,o.client,o.price,.slice sp sn sk] 45);have HB:=zk h3.boxed;have x0:=h3.cA1 0 rfl;have hlx:=h3.lt 0 rfl;have HCL:=zk (FQ (node:=node) (cid:=cid) (i:=i) (yes:=yes) (o:=o) (sp:=sp) (sn:=sn) (sk:=sk) (kind:=5) hf HB.1 (by omega));clear h h3 hf;generalize H.take 5 i=res at *;exact Qap
theorem Qxk {node cid i:Int} {yes:Bool} {o:Od} {sp:Option Addr} {sn sk:Nat} (hf:Qz H) (h:Heap w0 (H.on q R) w):
 CH 18 #[q.b,.agg #[.int .i64 6,node,cid,.int .i64 i,.bool yes,o.id,o.item,o.qty,o.client,o.price,.slice sp sn sk]] w (.int .i64 (H.take 6 i).1) w0 ((H.take 6 i).2.on q R):=by
 have h3:=h.new (.cells #[.int .i64 6,node,cid,.int .i64 i,.bool yes,o.id,o.item,o.qty,o.client,o.price,.slice sp sn sk] 45);have HB:=zk h3.boxed;have x0:=h3.cA1 0 rfl;have hlx:=h3.lt 0 rfl;have HCL:=zk (FQ (node:=node) (cid:=cid) (i:=i) (yes:=yes) (o:=o) (sp:=sp) (sn:=sn) (sk:=sk) (kind:=6) hf HB.1 (by omega));clear h h3 hf;generalize H.take 6 i=res at *;exact Qap
theorem Qx6 {node cid i:Int} {yes:Bool} {o:Od} {sp:Option Addr} {sn sk:Nat} (hf:Qz H) (h:Heap w0 (H.on q R) w):
 CH 18 #[q.b,.agg #[.int .i64 7,node,cid,.int .i64 i,.bool yes,o.id,o.item,o.qty,o.client,o.price,.slice sp sn sk]] w (.int .i64 (H.take 7 i).1) w0 ((H.take 7 i).2.on q R):=by
 have h3:=h.new (.cells #[.int .i64 7,node,cid,.int .i64 i,.bool yes,o.id,o.item,o.qty,o.client,o.price,.slice sp sn sk] 45);have HB:=zk h3.boxed;have x0:=h3.cA1 0 rfl;have hlx:=h3.lt 0 rfl;have HCL:=zk (FQ (node:=node) (cid:=cid) (i:=i) (yes:=yes) (o:=o) (sp:=sp) (sn:=sn) (sk:=sk) (kind:=7) hf HB.1 (by omega));clear h h3 hf;generalize H.take 7 i=res at *;exact Qap
theorem Qp6 {node cid i:Int} {yes:Bool} {o:Od} {sp:Option Addr} {sn sk:Nat} (hf:Qz H) (h:Heap w0 (H.on q R) w) (hn:node=0∨node=1∨node=2) (h0:1≤cid) (h1:cid≤999):
 CH 18 #[q.b,.agg #[.int .i64 8,node,cid,.int .i64 i,.bool yes,o.id,o.item,o.qty,o.client,o.price,.slice sp sn sk]] w (.int .i64 (H.Qo node cid).1) w0 ((H.Qo node cid).2.on q R):=by
 have h3:=h.new (.cells #[.int .i64 8,node,cid,.int .i64 i,.bool yes,o.id,o.item,o.qty,o.client,o.price,.slice sp sn sk] 45);have HB:=zk h3.boxed;have x0:=h3.cA1 0 rfl;have hlx:=h3.lt 0 rfl;have HCL:=zk (Qwp (Vq w0 q) hf HB.1 node hn cid h0 h1);clear h h3 hf;generalize H.Qo node cid=res at *;exact Qap
theorem Qur {node cid i:Int} {yes:Bool} {o:Od} {sp:Option Addr} {sn sk:Nat} (hf:Qz H) (h:Heap w0 (H.on q R) w) (h0:0≤node) (h1:node<7):
 CH 18 #[q.b,.agg #[.int .i64 9,node,cid,.int .i64 i,.bool yes,o.id,o.item,o.qty,o.client,o.price,.slice sp sn sk]] w (.int .i64 (H.Ye 9 node i).1) w0 ((H.Ye 9 node i).2.on q R):=by
 have h3:=h.new (.cells #[.int .i64 9,node,cid,.int .i64 i,.bool yes,o.id,o.item,o.qty,o.client,o.price,.slice sp sn sk] 45);have HB:=zk h3.boxed;have x0:=h3.cA1 0 rfl;have hlx:=h3.lt 0 rfl;have HCL:=zk (Qhk (kind:=9) (node:=node) (cid:=cid) (i:=i) (yes:=yes) (o:=o) (sp:=sp) (sn:=sn) (sk:=sk) hf HB.1 (by omega) h0 h1);clear h h3 hf;generalize H.Ye 9 node i=res at *;exact Qap
theorem Qce {node cid i:Int} {yes:Bool} {o:Od} {sp:Option Addr} {sn sk:Nat} (hf:Qz H) (h:Heap w0 (H.on q R) w) (h0:0≤node) (h1:node<7):
 CH 18 #[q.b,.agg #[.int .i64 10,node,cid,.int .i64 i,.bool yes,o.id,o.item,o.qty,o.client,o.price,.slice sp sn sk]] w (.int .i64 (H.Ye 10 node i).1) w0 ((H.Ye 10 node i).2.on q R):=by
 have h3:=h.new (.cells #[.int .i64 10,node,cid,.int .i64 i,.bool yes,o.id,o.item,o.qty,o.client,o.price,.slice sp sn sk] 45);have HB:=zk h3.boxed;have x0:=h3.cA1 0 rfl;have hlx:=h3.lt 0 rfl;have HCL:=zk (Qhk (kind:=10) (node:=node) (cid:=cid) (i:=i) (yes:=yes) (o:=o) (sp:=sp) (sn:=sn) (sk:=sk) hf HB.1 (by omega) h0 h1);clear h h3 hf;generalize H.Ye 10 node i=res at *;exact Qap
end
end Go.Proofs.YtlnghlamnehfjaaGreatDoor.S
namespace Go.Proofs.YtlnghlamnehfjaaGreatDoor.S
open Go.RowKit Go.Maps
attribute [local go_sem] Oper.semAt_some
def Qd.wid (k:Qd) (n:Nat):List Int:=((k.st.map (·.1)).take n).filter fun id=>decide (mgi k.st id=1)
theorem Qvz (k:Qd) {n:Nat} {id:Int} (h:(k.st.map (·.1))[n]? =some id):k.wid (n+1)=if mgi k.st id=1 then k.wid n++ [id] else k.wid n:=by
 obtain ⟨hk,rfl⟩:=List.getElem?_eq_some_iff.1 h;unfold Qd.wid;rw [List.take_succ_eq_append_getElem hk,List.filter_append];split;rename_i h1;rw [List.filter_cons_of_pos (by simpa using h1)];rfl;rename_i h1;rw [List.filter_cons_of_neg (by simpa using h1)];simp
theorem QA7 {m:IM Int} (hk:Ql m) {p:Int×Int} (hp:p∈m):mgi m p.1=p.2:=by
 have h1:=hk.1;unfold mgi
 suffices h:Qc m p.1=some p.2 by rw [h];rfl
 clear hk
 induction m with
 |nil=>cases hp
 |cons a r ih=>
  have h2:=List.pairwise_cons.1 h1;unfold Qc;rcases List.mem_cons.1 hp with rfl|hp;simp;have hne:¬a.1=p.1:=by have:=h2.1 p hp;omega
  rw [List.find?_cons_of_neg (by simpa using hne)];exact ih hp h2.2
theorem QAg {k:Qd} (hk:Ql k.st):k.wid k.st.length=k.waits:=by
 unfold Qd.wid Qd.waits;rw [List.take_of_length_le (by simp),List.filter_map];congr 1;refine List.filter_congr (fun p hp=>?_);simp only [Function.comp_apply];rw [QA7 hk hp]
theorem wid_len (k:Qd) (n:Nat):(k.wid n).length≤n:=by
 unfold Qd.wid;exact Nat.le_trans (List.length_filter_le _ _) (by rw [List.length_take];omega)
section
variable {w0 w:World} {b:Nat} {k:Qd} {R:List SA}
theorem Heap.Dg (h:Heap w0 (.keeper b k::R) w):k.ok:=by
 obtain ⟨bj,h⟩:=h.YA;exact (h.QV).1
theorem Qdv (h:Heap w0 (.keeper b k::R) w) (id:Int) (h0:1≤id) (h1:id≤999):
 CE 17 #[b,id] w (.int .i64 (mgi k.st id)):=by
 obtain ⟨bj,h⟩:=h.YA;exact Jn h id (by omega) (by omega)
theorem Qlu (h:Heap w0 (.keeper b k::R) w):
 Calls Tryz.prog 47 #[b] w fun e w'=>∃v,e=.returned v∧Heap w0 (.slc v 3 1 k.waits.length (k.waits.map (Value.int .i64))::.keeper b k::R) w':=by
 have hkk:=h.Dg.keys;have h3:=Heap.nAt (n:=w.heap.size+1) (h.new (.cells #[b] 40)) (.cells #[.slice none 0 0] 53) (by simp);have H1:=zk h3;have HLEN:As ((k.st.map (·.1)).length≤100000):=⟨by have:=hkk.len;simp only [List.length_map];omega⟩;have HKEY:As (∀i∈k.st.map (·.1),1≤i∧i≤999):=⟨fun i hi=>by
  obtain ⟨p,hp,rfl⟩:=List.mem_map.1 hi;exact hkk.2 p hp⟩
 have HKL:As (∀n,(k.wid n).length≤999):=⟨fun n=>by
  have h1:(k.wid n).length≤(k.st.map (·.1)).length:=by
   unfold Qd.wid;exact Nat.le_trans (List.length_filter_le _ _) (by rw [List.length_take];omega)
  have:=hkk.len;simp only [List.length_map] at h1;omega⟩
 have HEND:=zk (QAg hkk);obtain ⟨x0,xf⟩:=h3.cB1 1 rfl;have hlx:=h3.lt 1 rfl;have HML:(k.st.map (·.1)).length=k.st.length:=by simp
 clear h h3 hkk;refine cmk Tryz.func47 rfl ?_;simp only [Tryz.ntmps47,List.size_toArray,List.length_cons,List.length_nil,Nat.reduceAdd,Nat.reduceSub,Array.replicate_succ,Array.replicate_zero,List.push_toArray,List.append_toArray,List.nil_append,List.cons_append];go_wp2_with (go_at_call 78;refine (QAw (H1.1.frt 2 rfl)).mono ?_;rintro e w2 ⟨bi,vi,rfl,h2⟩;have H2:=zk h2;clear h2 x0 xf hlx);generalize w.heap.size+1=n1 at *;generalize w.heap.size=n0 at *;refine Vb rfl (enters_of Tryz.func87 (by kernel_rfl) rfl) _ R (k.st.map (·.1)) encI (fun _=>rfl) (YD w0 bi vi _ HLEN.1) .ret (fun n=>.ex fun v:Value=>.all [.pts n1 (.cells #[v] 53),.pts n0 (.cells #[b] 40),.slc v 3 1 (k.wid n).length ((k.wid n).map (Value.int .i64)),.keeper b k]) (fun _=>.when False .emp) ?h02 [(4,0)] ?assign2 ?body2 ?done2 ?stop2
 case h02=>exact Heap.Yr (f:=fun v:Value=>.all [.pts n1 (.cells #[v] 53),.pts n0 (.cells #[b] 40),.slc v 3 1 (k.wid 0).length ((k.wid 0).map (Value.int .i64)),.keeper b k]) (.slice none 0 0) (Heap.gather (l:= [_,_,_,_]) ((H2.1.nRw 3 1).sel (p:= [_,_,_,_,_,_]) [4,5,0,3,1,2] 6 rfl (by decide)))
 case assign2=>
  intro y x W K hK;simp only [encI] at hK⊢;simp [QC] at hK;simp only [QC]
  gi_wp2
  exact hK
 case stop2=>
  intro D2 n W hk h;exact (h.QT.1).elim
 case body2=>
  intro l n id X W hk h;have hin:=HKEY.1 id (List.mem_of_getElem? hk);have HSU:=zk (Qvz k hk);obtain ⟨v,h⟩:=h.YL;have h2:=Heap.spread (l:= [_,_,_,_]) h;have H9:=zk h2;have HST:=zk (Qdv (h2.frt 3 rfl) id hin.1 hin.2);have HWL:=zk (HKL.1 n);obtain ⟨p0,pf⟩:=h2.cB1 0 rfl;obtain ⟨x0,xf⟩:=h2.cB1 1 rfl;have hlp:=h2.lt 0 rfl;have hS:=h2.shp 2 rfl;clear h h2 hk hin;simp only [QC,encI];by_cases h1:mgi k.st id=1
  ·rw [h1] at HST;rw [if_pos h1] at HSU;clear h1;obtain ⟨i0,hi0,hi1,hi2,hi3⟩:=info_parts info3;have HI:=zk (And.intro hi0 (And.intro hi1 (And.intro hi2 hi3)));clear hi0 hi1 hi2 hi3;generalize k.wid n=wn at *;rcases hS with ⟨rfl, -, -⟩|⟨g,cap,rfl, -, -, -⟩;all_goals
    gi_wp2_with (first
     |(refine ⟨trivial,?_⟩;gi_at_call 17;refine (CallsIn.inRound l (callsIn_wide.2 HST.1)).mono ?_;rintro en w5 ⟨rfl,rfl⟩)
     |(gi_at_builtin;refine Dn (H9.1.alloc _) 2 _ 3 1 wn.length _ rfl rfl _ _ 53 rfl i0 _ 8 Tryz.underlying53 HI.1.1 HI.1.2.1 HI.1.2.2.1 HI.1.2.2.2 rfl (by decide) rfl ⟨W.heap.size,0,none⟩ 1 1 [.int .i64 id] rfl rfl (cell_one_new _ _ _) (by simp [Value.oneCell']) (by have:=HWL.1;omega) (by decide) (by omega) ?_;intro g2 cap2 w5 h5 _;clear p0 pf hlp;obtain ⟨p0,pf⟩:=h5.cB1 0 rfl;have hlp:=h5.lt 0 rfl;have H5:=zk h5;clear h5))
    refine Heap.Yr (f:=fun v:Value=>.all [.pts n1 (.cells #[v] 53),.pts n0 (.cells #[b] 40),.slc v 3 1 (k.wid (n+1)).length ((k.wid (n+1)).map (Value.int .i64)),.keeper b k]) (.slice (some ⟨g2,0,none⟩) (wn.length+1) cap2) (Heap.gather (l:= [_,_,_,_]) ?_);rw [HSU.1,List.length_append,List.map_append];exact H5.1.sAt 0 0 _ rfl
  ·have hb1:(mgi k.st id==1)=false:=by simpa using h1
   rw [if_neg h1] at HSU;clear h1
   gi_wp2_with (refine ⟨trivial,?_⟩;gi_at_call 17;refine (CallsIn.inRound l (callsIn_wide.2 HST.1)).mono ?_;rintro en w5 ⟨rfl,rfl⟩)
   refine Heap.Yr (f:=fun v:Value=>.all [.pts n1 (.cells #[v] 53),.pts n0 (.cells #[b] 40),.slc v 3 1 (k.wid (n+1)).length ((k.wid (n+1)).map (Value.int .i64)),.keeper b k]) v (Heap.gather (l:= [_,_,_,_]) ?_);rw [HSU.1];exact H9.1
 case done2=>
  intro D W h;obtain ⟨v,h⟩:=h.YL;have h2:=Heap.spread (l:= [_,_,_,_]) h;rw [HML,HEND.1] at h2;have H9:=zk h2;obtain ⟨p0,pf⟩:=h2.cB1 0 rfl;have hlp:=h2.lt 0 rfl;clear h h2;go_wp2_with fail;refine ⟨by simp,.inl ⟨_,_,rfl,run_takeDeferred (H9.1.at 4 rfl),?_⟩⟩;refine ⟨_,results_tmp rfl _ _ _,v,rfl,?_⟩;exact (H9.1.putAt 4 rfl (.deferred none)).sel (p:= [_,_,_,_,_,_,_]) [2,3] 7 rfl (by decide)
end
end Go.Proofs.YtlnghlamnehfjaaGreatDoor.S
namespace Go.Proofs.YtlnghlamnehfjaaGreatDoor.S
open Go.RowKit Go.Maps
attribute [local go_sem] Oper.semAt_some
theorem QAb {V:Type} {m:IM V} (hk:Ql m) {n:Nat} {p:Int×V} (h:m[n]? =some p):Qc m p.1=some p.2:=by
 have h1:=hk.1;have hp:=List.mem_of_getElem? h;clear hk h
 induction m with
 |nil=>cases hp
 |cons a r ih=>
  have h2:=List.pairwise_cons.1 h1;unfold Qc;rcases List.mem_cons.1 hp with rfl|hp;simp;have hne:¬a.1=p.1:=by have:=h2.1 p hp;omega
  rw [List.find?_cons_of_neg (by simpa using hne)];exact ih h2.2 hp
def Qa.cnt (c:Qa) (n:Nat):Nat:=((c.l.take n).filter fun p=>!p.2.over).length
theorem Qxt (c:Qa) {n:Nat} {p:Int×Led} (h:c.l[n]? =some p):c.cnt (n+1)=if p.2.over=true then c.cnt n else c.cnt n+1:=by
 obtain ⟨hk,rfl⟩:=List.getElem?_eq_some_iff.1 h;unfold Qa.cnt;rw [List.take_succ_eq_append_getElem hk,List.filter_append];split;rename_i h1;rw [List.filter_cons_of_neg (by simpa using h1)];simp;rename_i h1;rw [List.filter_cons_of_pos (by simpa using h1)];simp
section
variable {w0 w:World} {q:HA} {H:Qb} {R:List SA}
theorem Qst (h:Heap w0 (H.on q R) w) {id:Int} {x:Led} (hx:Qc H.c.l id=some x):
 Calls Tryz.prog 31 #[q.bc,id] w fun e w'=>∃(sp:Option Addr) (sk:Nat) (dp:Option Addr) (dk:Nat) (up:Option Addr) (uk:Nat),e=.returned (.tuple #[x.o.val (.slice sp x.o.steps.length sk),x.f.val (.slice dp x.f.done.length dk) (.slice up x.f.undone.length uk),.bool true])∧LdA.ok ⟨.slice sp x.o.steps.length sk,.slice dp x.f.done.length dk,.slice up x.f.undone.length uk,0⟩ x∧
  Heap w0 (H.on q (.slc (.slice up x.f.undone.length uk) 4 1 x.f.undone.length (bools x.f.undone)::.slc (.slice dp x.f.done.length dk) 4 1 x.f.done.length (bools x.f.done)::.slc (.slice sp x.o.steps.length sk) 131 2 x.o.steps.length (Qs x.o.steps)::R)) w':=by
 obtain ⟨bj,A,h2⟩:=(h.frt 2 rfl).VD;refine (Qbc h2 hx).mono ?_;rintro e w' ⟨vs,vd,vu,rfl,hl,h3⟩;obtain ⟨up,uk,rfl⟩:=vS2 (h3.row 0 rfl);obtain ⟨dp,dk,rfl⟩:=vS2 (h3.row 1 rfl);obtain ⟨sp,sk,rfl⟩:=vS2 (h3.row 2 rfl);have h4:=Heap.Xy (bj:=bj) (A:=A) (h3.sel (p:= [_,_,_,_,_]) [3,4,0,1,2] 5 rfl (by decide));exact ⟨sp,sk,dp,dk,up,uk,rfl,hl,h4.sel (p:= [_,_,_,_,_,_,_,_,_,_,_,_,_,_,_,_]) [4,5,0,6,7,8,9,10,11,12,13,14,15,1,2,3] 16 rfl (by decide)⟩
theorem Qqi (hf:Qz H) (h:Heap w0 (H.on q R) w):
 CH 13 #[q.bd] w (.int .i64 H.c.opens) w0 (H.on q R):=by
 have HOK:=zk hf.c.ok;have h3:=Heap.nAt (n:=w.heap.size+1) (h.new (.cells #[q.bd] 33)) (.cells #[.int .i64 0] 3) (by simp);have H1:As (Heap w0 (H.on q (.pts (w.heap.size+1) (.cells #[.int .i64 0] 3)::.pts w.heap.size (.cells #[q.bd] 33)::R)) _):=zk h3.Qeh;have HLEN:=zk (Qd3 HOK.1);have HLN:As (H.c.l.length≤999):=⟨HOK.1.keys.len⟩;have HEND:As (H.c.cnt H.c.l.length=H.c.opens):=⟨by unfold Qa.cnt Qa.opens;rw [List.take_of_length_le (Nat.le_refl _)]⟩;have HML:H.c.ids.length=H.c.l.length:=by simp [Qa.ids]
 have HBND:As (∀n,H.c.cnt n≤999):=⟨fun n=>by
  have h1:H.c.cnt n≤H.c.l.length:=Nat.le_trans (List.length_filter_le _ _) (by rw [List.length_take];omega);have:=HLN.1;omega⟩
 obtain ⟨x0,xf⟩:=h3.cB1 1 rfl;have hlx:=h3.lt 1 rfl;obtain ⟨y0,yf⟩:=h3.cB1 0 rfl;clear h h3 hf;refine cmk Tryz.func13 rfl ?_;simp only [Tryz.ntmps13,List.size_toArray,List.length_cons,List.length_nil,Nat.reduceAdd,Nat.reduceSub,Array.replicate_succ,Array.replicate_zero,List.push_toArray,List.append_toArray,List.nil_append,List.cons_append];go_wp2_with (first
  |(go_at_call 29;refine (Qgf H1.1).m0 ?_)
  |(go_at_call 30;refine (Qnm H1.1).mono ?_;rintro e w2 ⟨bi,vi,rfl,h2⟩;have H2:=zk h2;clear h2 x0 xf hlx y0 yf))
 generalize w.heap.size+1=n1 at *;generalize w.heap.size=n0 at *;refine Vb rfl (enters_of Tryz.func87 (by kernel_rfl) rfl) _ R H.c.ids encI (fun _=>rfl) (YD w0 bi vi _ HLEN.1) .ret (fun n=>.all (H.on q [.pts n1 (.cells #[.int .i64 (H.c.cnt n)] 3),.pts n0 (.cells #[q.bd] 33)])) (fun _=>.when False .emp) ?h02 [(4,0)] ?assign2 ?body2 ?done2 ?stop2
 case h02=>exact Heap.gather (l:= [_,_,_,_,_,_,_,_,_,_,_,_,_,_,_]) (H2.1.sel (p:= [_,_,_,_,_,_,_,_,_,_,_,_,_,_,_,_,_]) [2,3,4,5,6,7,8,9,10,11,12,13,14,15,16,0,1] 17 rfl (by decide))
 case assign2=>
  intro y x W K hK;simp only [encI] at hK⊢;simp [QC] at hK;simp only [QC]
  gi_wp2
  exact hK
 case stop2=>
  intro D2 n W hk h;exact (h.QT.1).elim
 case body2=>
  intro l n id X W hk h;obtain ⟨p,hp,rfl⟩:∃p,H.c.l[n]? =some p∧p.1=id:=by
   have:(H.c.l[n]?).map (·.1)=some id:=by rw [←List.getElem?_map];exact hk
   cases hq:H.c.l[n]? with
   |none=>rw [hq] at this;cases this
   |some p=>rw [hq] at this;exact ⟨p,rfl,Option.some.inj this⟩
  have HX:=zk (QAb HOK.1.keys hp);have HSU:=zk (Qxt H.c hp);have HXO:=zk (HOK.1.get HX.1).1;have HWB:=zk (HBND.1 n);obtain ⟨id,x⟩:=p;simp only at HX HSU HXO⊢;have h2:Heap w0 (H.on q (.pts n1 (.cells #[.int .i64 (H.c.cnt n)] 3)::.pts n0 (.cells #[q.bd] 33)::X)) W:=Heap.spread (l:= [_,_,_,_,_,_,_,_,_,_,_,_,_,_,_]) h;have H9:=zk h2;obtain ⟨y0,yf⟩:=h2.cB1 13 rfl;obtain ⟨x0,xf⟩:=h2.cB1 14 rfl;have hlx:=h2.lt 14 rfl;have d0:=h2.cell 1 0 rfl rfl;have hld:=h2.lt 1 rfl;clear h h2 hk hp;simp only [QC,encI]
  gi_wp2_with (fail)
  refine ⟨trivial,?_⟩;refine (CallsIn.inRound l (callsIn_wide.2 (Qst H9.1 HX.1))).mono ?_;rintro en w5 ⟨sp,sk,dp,dk,up,uk,rfl,hld2,h5⟩;have h6:=(Heap.nAt (n:=w5.heap.size+1) (h5.new (.cells #[x.o.id,x.o.item,x.o.qty,x.o.client,x.o.price,.slice sp x.o.steps.length sk] 32)) (.cells #[.slice dp x.f.done.length dk,.slice up x.f.undone.length uk,.bool x.f.asked,.bool x.f.yes,.bool x.f.turned,.bool x.f.ack0,.bool x.f.ack1,.bool x.f.shipped,.bool x.f.dam0,.bool x.f.dam1,.bool x.f.accepted] 80) (by simp)).Qeh;have HOV:=zk (Qqn x.o x.f _ _ _ _ h6.tab (HXO.1.ofs hld2 (h6.row 17 rfl) (h6.row 16 rfl) (h6.row 15 rfl)));clear y0 yf x0 xf hlx d0 hld;have r0:=h6.cA1 13 rfl;have t0:=h6.cB6 14 rfl;obtain ⟨y0,yf⟩:=h6.cB1 18 rfl;obtain ⟨x0,xf⟩:=h6.cB1 19 rfl;have hlx:=h6.lt 19 rfl;have d0:=h6.cell 1 0 rfl rfl;have hld:=h6.lt 1 rfl;have H6:=zk h6;have hov:x.f.over x.o.steps.length=x.over:=rfl;rw [hov] at HOV;clear hov h5 h6 hld2;unfold Od.val Facts.val at HOV⊢;have hK:wrap64 ((H.c.cnt n:Int)+1)=((H.c.cnt n+1:Nat):Int):=by
   have:=HWB.1;unfold wrap64;omega
  cases hv:x.over
  ·rw [hv] at HOV HSU;simp only [Bool.false_eq_true,if_false] at HSU;clear hv
   gi_wp2_with (refine ⟨trivial,?_⟩;gi_at_call 32;refine (CallsIn.inRound l (callsIn_wide.2 HOV.1)).mono ?_;rintro en w6 ⟨rfl,hb⟩;have H7:=zk (H6.1.below hb);clear hb H6 HOV r0 t0 y0 yf x0 xf hlx d0 hld;obtain ⟨y0,yf⟩:=H7.1.cB1 18 rfl;have hly:=H7.1.lt 18 rfl;generalize w5.heap.size+1=m1 at *;generalize w5.heap.size=m0 at *)
   have h8:=(H7.1.sAt 18 0 (.int .i64 ((H.c.cnt n+1:Nat):Int)) rfl)
   show Heap w0 _ _
   rw [HSU.1];exact Heap.gather (l:= [_,_,_,_,_,_,_,_,_,_,_,_,_,_,_]) (h8.sel (p:= [_,_,_,_,_,_,_,_,_,_,_,_,_,_,_,_,_,_,_,_]) [0,1,2,3,4,5,6,7,8,9,10,11,12,18,19] 20 rfl (by decide))
  ·rw [hv] at HOV HSU;simp only [if_true] at HSU;clear hv hK
   gi_wp2_with (refine ⟨trivial,?_⟩;gi_at_call 32;refine (CallsIn.inRound l (callsIn_wide.2 HOV.1)).mono ?_;rintro en w6 ⟨rfl,hb⟩;have H7:=zk (H6.1.below hb);clear hb H6 HOV r0 t0 y0 yf x0 xf hlx d0 hld;generalize w5.heap.size+1=m1 at *;generalize w5.heap.size=m0 at *)
   show Heap w0 _ _
   rw [HSU.1];exact Heap.gather (l:= [_,_,_,_,_,_,_,_,_,_,_,_,_,_,_]) (H7.1.sel (p:= [_,_,_,_,_,_,_,_,_,_,_,_,_,_,_,_,_,_,_,_]) [0,1,2,3,4,5,6,7,8,9,10,11,12,18,19] 20 rfl (by decide))
 case done2=>
  intro D W h;have h2:=Heap.spread (l:= [_,_,_,_,_,_,_,_,_,_,_,_,_,_,_]) h;rw [HML,HEND.1] at h2;have H9:=zk h2;obtain ⟨p0,pf⟩:=h2.cB1 13 rfl;have hlp:=h2.lt 13 rfl;clear h h2;go_wp2_with fail;refine ⟨by simp,.inl ⟨_,_,rfl,run_takeDeferred (H9.1.at 15 rfl),?_⟩⟩;refine ⟨_,results_tmp rfl _ _ _,rfl,?_⟩;exact (H9.1.putAt 15 rfl (.deferred none)).sel (p:= [_,_,_,_,_,_,_,_,_,_,_,_,_,_,_,_,_,_]) [0,1,2,3,4,5,6,7,8,9,10,11,12] 18 rfl (by decide)
end
end Go.Proofs.YtlnghlamnehfjaaGreatDoor.S
namespace Go.Proofs.YtlnghlamnehfjaaGreatDoor.S
open Go.RowKit Go.Maps
theorem Qvt {P:Prop} (h:P:=by
 go_enter Tryz.func26,Tryz.ntmps26;go_wp2_with fail;refine wro (fun W=>W.cell? ⟨q.b,7,none⟩=some (.pointer (some ⟨q.bp,0,none⟩))∧W.cell? ⟨q.b,0,none⟩=some (.pointer (some ⟨q.bd,0,none⟩))∧W.cell? ⟨q.b,1,none⟩=some (.pointer (some ⟨q.k0,0,none⟩))∧W.cell? ⟨q.b,2,none⟩=some (.pointer (some ⟨q.k1,0,none⟩))∧q.b<W.heap.size) [(0,.f),(1,.e),(2,.f),(3,.f),(4,.f),(5,.f),(6,.f),(7,.s),(8,.e),(9,.f),(10,.f),(11,.f),(12,.f),(13,.f),(14,.f),(15,.s),(16,.e),(17,.f),(18,.f),(19,.f),(20,.f),(21,.f),(22,.f),(23,.f),(24,.s),(27,.f),(28,.f),(29,.f),(30,.f),(31,.f),(25,.e),(26,.f),(32,.e),(33,.f),(34,.f),(35,.f),(36,.f),(37,.f)] ⟨d7,d0,d1,d2,hlb⟩ ?_;repeat (first
  |(refine vg rfl rfl ?_;apply ex2;intro w' hw';obtain ⟨q7,q0,q1,q2,ql⟩:=hw';go_simp;rfl;go_simp)
  |(refine vgw rfl rfl ?_;apply ex2;intro w' hw';obtain ⟨q7,q0,q1,q2,ql⟩:=hw';go_simp;rfl;go_simp)
  |(refine vgo rfl rfl ?_;go_simp)
  |(refine vs_ rfl (fun K hK=>?_);go_simp;refine hK _ ?_;clear hK K))
 first
  |(have ty:Tg 1:=tg;first
     |refine vew rfl rfl ?_
     |refine ve rfl rfl ?_
    have tg:=Tg.mk 1;exact Qvi)
  |(have ty:Tg 2:=tg;first
     |refine vew rfl rfl ?_
     |refine ve rfl rfl ?_
    have tg:=Tg.mk 2;exact Qvi)
  |(have ty:Tg 3:=tg;first
     |refine vew rfl rfl ?_
     |refine ve rfl rfl ?_
    have tg:=Tg.mk 3;exact Qvi)):P:=h
theorem Qvi {P:Prop} (h:P:=by
 go_wp2_with (go_at_call 46;refine HDN.1.m0 ?_);refine ⟨⟨HH.1.drew.cell 0 7 rfl rfl,HH.1.drew.cell 0 0 rfl rfl,HH.1.drew.cell 0 1 rfl rfl,HH.1.drew.cell 0 2 rfl rfl,HH.1.drew.lt 0 rfl⟩,?_⟩;go_simp;repeat (first
  |(refine vg rfl rfl ?_;apply ex2;intro w' hw';obtain ⟨q7,q0,q1,q2,ql⟩:=hw';go_simp;rfl;go_simp)
  |(refine vgw rfl rfl ?_;apply ex2;intro w' hw';obtain ⟨q7,q0,q1,q2,ql⟩:=hw';go_simp;rfl;go_simp)
  |(refine vgo rfl rfl ?_;go_simp)
  |(refine vs_ rfl (fun K hK=>?_);go_simp;refine hK _ ?_;clear hK K))
 first
  |(have ty:Tg 1:=tg;first
     |refine vew rfl rfl ?_
     |refine ve rfl rfl ?_
    have tg:=Tg.mk 1;exact Qv7)
  |(have ty:Tg 2:=tg;first
     |refine vew rfl rfl ?_
     |refine ve rfl rfl ?_
    have tg:=Tg.mk 2;exact Qv7)
  |(have ty:Tg 3:=tg;first
     |refine vew rfl rfl ?_
     |refine ve rfl rfl ?_
    have tg:=Tg.mk 3;exact Qv7)):P:=h
theorem Qv7 {P:Prop} (h:P:=by
 go_wp2_with (go_at_call 15;refine HLN.1.m0 ?_);refine ⟨⟨HH.1.drew.cell 0 7 rfl rfl,HH.1.drew.cell 0 0 rfl rfl,HH.1.drew.cell 0 1 rfl rfl,HH.1.drew.cell 0 2 rfl rfl,HH.1.drew.lt 0 rfl⟩,?_⟩;go_simp;repeat (first
  |(refine vg rfl rfl ?_;apply ex2;intro w' hw';obtain ⟨q7,q0,q1,q2,ql⟩:=hw';go_simp;rfl;go_simp)
  |(refine vgw rfl rfl ?_;apply ex2;intro w' hw';obtain ⟨q7,q0,q1,q2,ql⟩:=hw';go_simp;rfl;go_simp)
  |(refine vgo rfl rfl ?_;go_simp)
  |(refine vs_ rfl (fun K hK=>?_);go_simp;refine hK _ ?_;clear hK K))
 first
  |(have ty:Tg 1:=tg;first
     |refine vew rfl rfl ?_
     |refine ve rfl rfl ?_
    go_wp2_with (go_at_call 13;refine HOP.1.m2 fun w2 h2=>?_;have g1:=h2.cell 0 1 rfl rfl;have g2:=h2.cell 0 2 rfl rfl;have gl:=h2.lt 0 rfl;have H2:=zk h2;clear h2);refine ⟨⟨H2.1.cell 0 7 rfl rfl,H2.1.cell 0 0 rfl rfl,H2.1.cell 0 1 rfl rfl,H2.1.cell 0 2 rfl rfl,H2.1.lt 0 rfl⟩,?_⟩;have tg:=Tg.mk 1;exact Qyk)
  |(have ty:Tg 2:=tg;first
     |refine vew rfl rfl ?_
     |refine ve rfl rfl ?_
    go_wp2_with (go_at_call 13;refine HOP.1.m2 fun w2 h2=>?_;have g1:=h2.cell 0 1 rfl rfl;have g2:=h2.cell 0 2 rfl rfl;have gl:=h2.lt 0 rfl;have H2:=zk h2;clear h2);refine ⟨⟨H2.1.cell 0 7 rfl rfl,H2.1.cell 0 0 rfl rfl,H2.1.cell 0 1 rfl rfl,H2.1.cell 0 2 rfl rfl,H2.1.lt 0 rfl⟩,?_⟩;have tg:=Tg.mk 2;exact Qyk)
  |(have ty:Tg 3:=tg;refine veo rfl rfl ⟨⟨HH.1.drew.cell 0 7 rfl rfl,HH.1.drew.cell 0 0 rfl rfl,HH.1.drew.cell 0 1 rfl rfl,HH.1.drew.cell 0 2 rfl rfl,HH.1.drew.lt 0 rfl⟩,?_⟩;have tg:=Tg.mk 3;exact Qyk)):P:=h
theorem Qu1 {P:Prop} (h:P:=by
 go_simp;repeat (first
  |(refine vg rfl rfl ?_;apply ex2;intro w' hw';obtain ⟨q7,q0,q1,q2,ql⟩:=hw';go_simp;rfl;go_simp)
  |(refine vgw rfl rfl ?_;apply ex2;intro w' hw';obtain ⟨q7,q0,q1,q2,ql⟩:=hw';go_simp;rfl;go_simp)
  |(refine vgo rfl rfl ?_;go_simp)
  |(refine vs_ rfl (fun K hK=>?_);go_simp;refine hK _ ?_;clear hK K))
 refine vn ?_;go_simp;go_wp2_with fail;go_ret;rw [HC.1];first
  |(have ty:Tg 1:=tg;exact ⟨by simp [hsum,hdec],H4.1.sel (p:= [_,_,_,_,_,_,_,_,_,_,_,_,_,_,_]) [0,1,2,3,4,5,6,7,8,9,10,11,12] 15 rfl (by decide)⟩)
  |(have ty:Tg 2:=tg;exact ⟨by simp [hz2],H2.1⟩)
  |(have ty:Tg 3:=tg;exact ⟨by simp [hz],HH.1.drew⟩)):P:=h
theorem Qyk {P:Prop} (h:P:=by
 go_simp;repeat (first
  |(refine vg rfl rfl ?_;apply ex2;intro w' hw';obtain ⟨q7,q0,q1,q2,ql⟩:=hw';go_simp;rfl;go_simp)
  |(refine vgw rfl rfl ?_;apply ex2;intro w' hw';obtain ⟨q7,q0,q1,q2,ql⟩:=hw';go_simp;rfl;go_simp)
  |(refine vgo rfl rfl ?_;go_simp)
  |(refine vs_ rfl (fun K hK=>?_);go_simp;refine hK _ ?_;clear hK K))
 first
  |(have ty:Tg 1:=tg;first
     |refine vew rfl rfl ?_
     |refine ve rfl rfl ?_
    go_wp2_with (go_at_call 47;refine (Qgw H2.1).mono ?_;rintro e w3 ⟨sp0,sk0,rfl,h3⟩;rw [hl0] at h3⊢;have H3:=zk h3;clear h3);refine ⟨⟨H3.1.cell 0 7 rfl rfl,H3.1.cell 0 0 rfl rfl,H3.1.cell 0 1 rfl rfl,H3.1.cell 0 2 rfl rfl,H3.1.lt 0 rfl⟩,?_⟩;have tg:=Tg.mk 1;exact Qyg)
  |(have ty:Tg 2:=tg;refine veo rfl rfl ⟨⟨H2.1.cell 0 7 rfl rfl,H2.1.cell 0 0 rfl rfl,H2.1.cell 0 1 rfl rfl,H2.1.cell 0 2 rfl rfl,H2.1.lt 0 rfl⟩,?_⟩;have tg:=Tg.mk 2;exact Qyg)
  |(have ty:Tg 3:=tg;refine veo rfl rfl ⟨⟨HH.1.drew.cell 0 7 rfl rfl,HH.1.drew.cell 0 0 rfl rfl,HH.1.drew.cell 0 1 rfl rfl,HH.1.drew.cell 0 2 rfl rfl,HH.1.drew.lt 0 rfl⟩,?_⟩;have tg:=Tg.mk 3;exact Qyg)):P:=h
theorem Qyg {P:Prop} (h:P:=by
 go_simp;repeat (first
  |(refine vg rfl rfl ?_;apply ex2;intro w' hw';obtain ⟨q7,q0,q1,q2,ql⟩:=hw';go_simp;rfl;go_simp)
  |(refine vgw rfl rfl ?_;apply ex2;intro w' hw';obtain ⟨q7,q0,q1,q2,ql⟩:=hw';go_simp;rfl;go_simp)
  |(refine vgo rfl rfl ?_;go_simp)
  |(refine vs_ rfl (fun K hK=>?_);go_simp;refine hK _ ?_;clear hK K))
 first
  |(have ty:Tg 1:=tg;first
     |refine vew rfl rfl ?_
     |refine ve rfl rfl ?_
    go_wp2_with (go_at_call 47;refine (Qf9 H3.1).mono ?_;rintro e w4 ⟨sp1,sk1,rfl,h4⟩;rw [hl1] at h4⊢;have H4:=zk h4;clear h4);refine ⟨⟨H4.1.cell 0 7 rfl rfl,H4.1.cell 0 0 rfl rfl,H4.1.cell 0 1 rfl rfl,H4.1.cell 0 2 rfl rfl,H4.1.lt 0 rfl⟩,?_⟩;have tg:=Tg.mk 1;exact Qu1)
  |(have ty:Tg 2:=tg;refine veo rfl rfl ⟨⟨H2.1.cell 0 7 rfl rfl,H2.1.cell 0 0 rfl rfl,H2.1.cell 0 1 rfl rfl,H2.1.cell 0 2 rfl rfl,H2.1.lt 0 rfl⟩,?_⟩;have tg:=Tg.mk 2;exact Qu1)
  |(have ty:Tg 3:=tg;refine veo rfl rfl ⟨⟨HH.1.drew.cell 0 7 rfl rfl,HH.1.drew.cell 0 0 rfl rfl,HH.1.drew.cell 0 1 rfl rfl,HH.1.drew.cell 0 2 rfl rfl,HH.1.drew.lt 0 rfl⟩,?_⟩;have tg:=Tg.mk 3;exact Qu1)):P:=h
section
variable {w0 w:World} {q:HA} {H:Qb} {R:List SA}
theorem Qif (h:Heap w0 (H.on q R) w):CE 15 #[q.bp] w (.int .i64 H.p.l.length):=QD7 (h.frt 9 rfl)
theorem Qgw (h:Heap w0 (H.on q R) w):Calls Tryz.prog 47 #[q.k0] w fun e w'=>∃sp sk,e=.returned (.slice sp H.k0.waits.length sk)∧Heap w0 (H.on q (.slc (.slice sp H.k0.waits.length sk) 3 1 H.k0.waits.length (H.k0.waits.map (Value.int .i64))::R)) w':=by
 refine (Qlu (h.frt 3 rfl)).mono ?_;rintro e w' ⟨v,rfl,h2⟩;obtain ⟨sp,sk,rfl⟩:=vS2 (h2.row 0 rfl);exact ⟨sp,sk,rfl,h2.sel (p:= [_,_,_,_,_,_,_,_,_,_,_,_,_,_]) [2,3,4,1,5,6,7,8,9,10,11,12,13,0] 14 rfl (by decide)⟩
theorem Qf9 (h:Heap w0 (H.on q R) w):Calls Tryz.prog 47 #[q.k1] w fun e w'=>∃sp sk,e=.returned (.slice sp H.k1.waits.length sk)∧Heap w0 (H.on q (.slc (.slice sp H.k1.waits.length sk) 3 1 H.k1.waits.length (H.k1.waits.map (Value.int .i64))::R)) w':=by
 refine (Qlu (h.frt 4 rfl)).mono ?_;rintro e w' ⟨v,rfl,h2⟩;obtain ⟨sp,sk,rfl⟩:=vS2 (h2.row 0 rfl);exact ⟨sp,sk,rfl,h2.sel (p:= [_,_,_,_,_,_,_,_,_,_,_,_,_,_]) [2,3,4,5,1,6,7,8,9,10,11,12,13,0] 14 rfl (by decide)⟩
theorem UF {k:Qd} (hk:k.ok):k.waits.length≤999:=by
 unfold Qd.waits;rw [List.length_map];exact Nat.le_trans (List.length_filter_le _ _) hk.keys.len
theorem Qz4 (hf:Qz H) (h:Heap w0 (H.on q R) w):
 CH 26 #[q.b] w (.bool H.calm) w0 (H.on q R):=by
 have HC:As (H.calm=(!H.ZG&&decide (H.p.l.length=0)&&decide (H.opens=0)&&decide (H.k0.waits.length+H.k1.waits.length=0))):=⟨rfl⟩;have HO:H.opens=H.c.opens:=rfl;rw [HO] at HC;clear HO;have HF:=zk hf;have hw0:=UF ((h.frt 3 rfl).Dg);have hw1:=UF ((h.frt 4 rfl).Dg);have HDN:=zk (QAy h.drew);have HLN:=zk (Qif h.drew);have HOP:=zk (Qqi hf h.drew);have HH:=zk h;have d7:=h.cell 0 7 rfl rfl;have d0:=h.cell 0 0 rfl rfl;have d1:=h.cell 0 1 rfl rfl;have d2:=h.cell 0 2 rfl rfl;have hlb:=h.lt 0 rfl;clear h hf;generalize H.ZG=ad at *;generalize hpl:H.p.l.length=n at *;have hn:n≤256:=by
  have:=(HH.1.frt 9 rfl).YU.1;have h1:=this.2.1;have h2:=this.2.2.1;rw [hpl] at h2;omega
 generalize hop:H.c.opens=no at *;generalize hl0:H.k0.waits.length=n0 at *;generalize hl1:H.k1.waits.length=n1 at *;cases ad with
 |true=>
  go_enter Tryz.func26,Tryz.ntmps26;go_wp2_with fail;refine wro (fun W=>W.cell? ⟨q.b,7,none⟩=some (.pointer (some ⟨q.bp,0,none⟩))∧W.cell? ⟨q.b,0,none⟩=some (.pointer (some ⟨q.bd,0,none⟩))∧W.cell? ⟨q.b,1,none⟩=some (.pointer (some ⟨q.k0,0,none⟩))∧W.cell? ⟨q.b,2,none⟩=some (.pointer (some ⟨q.k1,0,none⟩))∧q.b<W.heap.size) [(0,.f),(1,.e),(2,.f),(3,.f),(4,.f),(5,.f),(6,.f),(7,.s),(8,.e),(9,.f),(10,.f),(11,.f),(12,.f),(13,.f),(14,.f),(15,.s),(16,.e),(17,.f),(18,.f),(19,.f),(20,.f),(21,.f),(22,.f),(23,.f),(24,.s),(27,.f),(28,.f),(29,.f),(30,.f),(31,.f),(25,.e),(26,.f),(32,.e),(33,.f),(34,.f),(35,.f),(36,.f),(37,.f)] ⟨d7,d0,d1,d2,hlb⟩ ?_;repeat (first
   |(refine vg rfl rfl ?_;apply ex2;intro w' hw';obtain ⟨q7,q0,q1,q2,ql⟩:=hw';go_simp;rfl;go_simp)
   |(refine vgw rfl rfl ?_;apply ex2;intro w' hw';obtain ⟨q7,q0,q1,q2,ql⟩:=hw';go_simp;rfl;go_simp)
   |(refine vgo rfl rfl ?_;go_simp)
   |(refine vs_ rfl (fun K hK=>?_);go_simp;refine hK _ ?_;clear hK K))
  first
   |refine vew rfl rfl ?_
   |refine ve rfl rfl ?_
  go_wp2_with (go_at_call 46;refine HDN.1.m0 ?_);refine ⟨⟨HH.1.drew.cell 0 7 rfl rfl,HH.1.drew.cell 0 0 rfl rfl,HH.1.drew.cell 0 1 rfl rfl,HH.1.drew.cell 0 2 rfl rfl,HH.1.drew.lt 0 rfl⟩,?_⟩;go_simp;repeat (first
   |(refine vg rfl rfl ?_;apply ex2;intro w' hw';obtain ⟨q7,q0,q1,q2,ql⟩:=hw';go_simp;rfl;go_simp)
   |(refine vgw rfl rfl ?_;apply ex2;intro w' hw';obtain ⟨q7,q0,q1,q2,ql⟩:=hw';go_simp;rfl;go_simp)
   |(refine vgo rfl rfl ?_;go_simp)
   |(refine vs_ rfl (fun K hK=>?_);go_simp;refine hK _ ?_;clear hK K))
  refine veo rfl rfl ⟨⟨HH.1.drew.cell 0 7 rfl rfl,HH.1.drew.cell 0 0 rfl rfl,HH.1.drew.cell 0 1 rfl rfl,HH.1.drew.cell 0 2 rfl rfl,HH.1.drew.lt 0 rfl⟩,?_⟩;go_simp;repeat (first
   |(refine vg rfl rfl ?_;apply ex2;intro w' hw';obtain ⟨q7,q0,q1,q2,ql⟩:=hw';go_simp;rfl;go_simp)
   |(refine vgw rfl rfl ?_;apply ex2;intro w' hw';obtain ⟨q7,q0,q1,q2,ql⟩:=hw';go_simp;rfl;go_simp)
   |(refine vgo rfl rfl ?_;go_simp)
   |(refine vs_ rfl (fun K hK=>?_);go_simp;refine hK _ ?_;clear hK K))
  refine veo rfl rfl ⟨⟨HH.1.drew.cell 0 7 rfl rfl,HH.1.drew.cell 0 0 rfl rfl,HH.1.drew.cell 0 1 rfl rfl,HH.1.drew.cell 0 2 rfl rfl,HH.1.drew.lt 0 rfl⟩,?_⟩;go_simp;repeat (first
   |(refine vg rfl rfl ?_;apply ex2;intro w' hw';obtain ⟨q7,q0,q1,q2,ql⟩:=hw';go_simp;rfl;go_simp)
   |(refine vgw rfl rfl ?_;apply ex2;intro w' hw';obtain ⟨q7,q0,q1,q2,ql⟩:=hw';go_simp;rfl;go_simp)
   |(refine vgo rfl rfl ?_;go_simp)
   |(refine vs_ rfl (fun K hK=>?_);go_simp;refine hK _ ?_;clear hK K))
  refine veo rfl rfl ⟨⟨HH.1.drew.cell 0 7 rfl rfl,HH.1.drew.cell 0 0 rfl rfl,HH.1.drew.cell 0 1 rfl rfl,HH.1.drew.cell 0 2 rfl rfl,HH.1.drew.lt 0 rfl⟩,?_⟩;go_simp;repeat (first
   |(refine vg rfl rfl ?_;apply ex2;intro w' hw';obtain ⟨q7,q0,q1,q2,ql⟩:=hw';go_simp;rfl;go_simp)
   |(refine vgw rfl rfl ?_;apply ex2;intro w' hw';obtain ⟨q7,q0,q1,q2,ql⟩:=hw';go_simp;rfl;go_simp)
   |(refine vgo rfl rfl ?_;go_simp)
   |(refine vs_ rfl (fun K hK=>?_);go_simp;refine hK _ ?_;clear hK K))
  refine veo rfl rfl ⟨⟨HH.1.drew.cell 0 7 rfl rfl,HH.1.drew.cell 0 0 rfl rfl,HH.1.drew.cell 0 1 rfl rfl,HH.1.drew.cell 0 2 rfl rfl,HH.1.drew.lt 0 rfl⟩,?_⟩;go_simp;repeat (first
   |(refine vg rfl rfl ?_;apply ex2;intro w' hw';obtain ⟨q7,q0,q1,q2,ql⟩:=hw';go_simp;rfl;go_simp)
   |(refine vgw rfl rfl ?_;apply ex2;intro w' hw';obtain ⟨q7,q0,q1,q2,ql⟩:=hw';go_simp;rfl;go_simp)
   |(refine vgo rfl rfl ?_;go_simp)
   |(refine vs_ rfl (fun K hK=>?_);go_simp;refine hK _ ?_;clear hK K))
  refine vn ?_;go_simp;go_wp2_with fail;go_ret;rw [HC.1];exact ⟨rfl,HH.1.drew⟩
 |false=>
 by_cases hz:n=0
 ·subst hz;by_cases hz2:no=0
  ·subst hz2;have hsum:IntKind.i64.wrap ((n0:Int)+(n1:Int))=(n0:Int)+(n1:Int):=i64w _ (by omega);have hdec:(((n0:Int)+(n1:Int))==0)=(decide (n0=0)&&decide (n1=0)):=by
    rw [Bool.eq_iff_iff];simp;omega
   have tg:=Tg.mk 1;exact Qvt
  have hb:((no:Int)==0)=false:=by simp;omega
  have tg:=Tg.mk 2;exact Qvt
 have hb:((n:Int)==0)=false:=by simp;omega
 have tg:=Tg.mk 3;exact Qvt
end
end Go.Proofs.YtlnghlamnehfjaaGreatDoor.S
namespace Go.Proofs.YtlnghlamnehfjaaGreatDoor.S
open Go.RowKit Go.Maps
attribute [local go_sem] Oper.semAt_some
theorem QB0 {P:Prop} (h:P:=by
 clear hjd;go_wp2_with (go_at_call 35;refine HRG.1.m2 fun w6 h6=>?_;have H6:=zk h6;clear h6 x0 xf hlx y0 hyl);go_roundg (n5-(j+1))
 case measure=>have:=HG4.1;omega
 case rel=>
  refine ⟨j+1,by go_num,by omega,⟨by omega⟩,⟨?_⟩⟩;rw [HSJ.1];exact H6.1):P:=h
def Qb.wk (H:Qb) (k:Nat):Qb:=(List.range k).foldl (fun (H:Qb) (i:Nat)=>if H.Qv i=true then H.starts i else H) H
theorem Qqs (H:Qb) (k:Nat):H.wk (k+1)=if (H.wk k).Qv k=true then (H.wk k).starts k else H.wk k:=by
 unfold Qb.wk;rw [List.range_succ,List.foldl_append];rfl
theorem Qbz {H:Qb} (h:Qz H):∀k,Qz (H.wk k)
 |0=>h
 |k+1=>by
  rw [Qqs];split;exact (Qbz h k).starts _;exact Qbz h k
theorem Qc0:∀(k:Nat) (H:Qb),Qb.takes (k+1) H=((Qb.takes k H).take 5 0).2
 |0,_=>rfl
 |k+1,H=>Qc0 k (H.take 5 0).2
theorem Qt2 (H:Qb) (i:Int) (l:List Int) (id:Int):H.rings i (l++ [id])=((H.rings i l).Qo i id).2:=by
 unfold Qb.rings;rw [List.foldl_append];rfl
def Qb.rg (H:Qb) (i:Int) (l:List Int) (k:Nat):Qb:=H.rings i (l.take k)
theorem Qhv (H:Qb) (i:Int) {l:List Int} {k:Nat} {id:Int} (h:l[k]? =some id):H.rg i l (k+1)=((H.rg i l k).Qo i id).2:=by
 obtain ⟨hk,rfl⟩:=List.getElem?_eq_some_iff.1 h;unfold Qb.rg;rw [List.take_succ_eq_append_getElem hk,Qt2]
theorem Qow (H:Qb) (i:Int) (l:List Int):H.rg i l l.length=H.rings i l:=by unfold Qb.rg;rw [List.take_length]
theorem Qit {H:Qb} (h:Qz H) (i:Int) {l:List Int} (hl:∀id∈l,1≤id∧id≤999) (k:Nat):Qz (H.rg i l k):=h.rings i _ (fun id hi=>hl id (List.mem_of_mem_take hi))
theorem DV {k:Qd} (h:k.ok):∀id∈k.waits,1≤id∧id≤999:=fun id hi=>by
 unfold Qd.waits at hi;obtain ⟨p,hp,rfl⟩:=List.mem_map.1 hi;exact h.keys.2 p (List.mem_filter.1 hp).1
section
variable {w0 w:World} {q:HA} {H:Qb} {R:List SA}
theorem Qok {H:Qb} {m:Msg} (hh:H.p.has 0=true) (hm:H.p.l[(0:Int).toNat]? =some m):(H.take 5 0).2=(H.without 0).gives m:=by
 unfold Qb.take;rw [if_neg (by simp [hh]),hm];simp
theorem Qmx {H:Qb} (hh:H.p.has 0=false):(H.take 5 0).2=H:=by
 unfold Qb.take;rw [if_pos hh]
theorem Qy0 (H:Qb) (id:Int):(H.Qo 1 id).2.k1=H.k1:=by
 unfold Qb.Qo;repeat' split
 all_goals rfl
theorem Qf4:∀(ids:List Int) (H:Qb),(H.rings 1 ids).k1=H.k1
 | [],_=>rfl
 |id::r,H=>(Qf4 r (H.Qo 1 id).2).trans (Qy0 H id)
def Qb.kr (H:Qb):Nat→Qb
 |0=>H
 |1=>H.rings 1 H.k0.waits
 |_=>(H.rings 1 H.k0.waits).rings 2 (H.rings 1 H.k0.waits).k1.waits
theorem Qkt {g:Nat} {cap n:Nat} {sp:Option Addr} {xs:List Int} {w0 w:World} {l:List SA} (h:Heap w0 l w) (i:Nat) (e:l[i]? =some (.slc (.slice sp n cap) 3 1 n (xs.map (Value.int .i64)))) {j:Nat} {id:Int} (hj:xs[j]? =some id):∃g,sp=some ⟨g,0,none⟩∧w.cell? ⟨g,j,none⟩=some (.int .i64 id)∧g<w.heap.size:=by
 rcases h.shp i e with ⟨-,hz,hx⟩|⟨g,cap',hv, -, -,hc⟩;have:xs= []:=by simpa using hx
 rw [this] at hj;cases hj;cases hv;have hcell:=hc j (.int .i64 id) (by rw [List.getElem?_map,hj];rfl);exact ⟨g,rfl,hcell,World.block_lt_of_cell? w _ hcell⟩
theorem Qru (x y:Nat) (W:World):(Instr.index 62 (.agg #[x,y]) (.int .i64 0)).run Tryz.prog W=.ok (.pointer (some ⟨x,0,none⟩)) W:=by kernel_rfl
theorem Qtu (x y:Nat) (W:World):(Instr.index 62 (.agg #[x,y]) (.int .i64 1)).run Tryz.prog W=.ok (.pointer (some ⟨y,0,none⟩)) W:=by kernel_rfl
abbrev bx (q:HA) (n0:Nat):SA:=.pts n0 (.cells #[q.b] 23)
theorem Qy4 (hf:Qz H) (h:Heap w0 (H.on q R) w):
 Calls Tryz.prog 27 #[q.b] w fun e w'=>e=.returned (.tuple #[])∧Heap w0 (H.round.on q R) w'∧Qz H.round:=by
 have HDE:=zk (Vq w0 q);have HF:=zk hf;have h3:=h.new (.cells #[q.b] 23);have HB:As (Heap w0 (H.on q (bx q w.heap.size::R)) _):=zk h3.boxed;clear h h3 hf;refine cmk Tryz.func27 rfl ?_;simp only [Tryz.ntmps27,List.size_toArray,List.length_cons,List.length_nil,Nat.reduceAdd,Nat.reduceSub,Array.replicate_succ,Array.replicate_zero,List.push_toArray,List.append_toArray,List.nil_append,List.cons_append];go_wp2_with fail;generalize hW:w.alloc _=W1 at *;clear hW;generalize w.heap.size=n0 at *
 go_loopg [2,10] 7 (fun gk p u wr=>∃k:Nat,u=.int .i64 k∧k≤7∧As (gk+k=7)∧As (Heap w0 ((H.wk k).on q (bx q n0::R)) wr))
 case atStart=>exact ⟨0,rfl,Nat.zero_le _,⟨rfl⟩,HB⟩
 case round=>
  obtain ⟨k,rfl,hk,HG,HR⟩:=hrel;clear HB;by_cases hlt:k<7
  ·have HFK:=zk (Qbz HF.1 k);have HSU:=zk (Qqs H k);generalize H.wk k=G at *;obtain ⟨T,p1,F,hn,hm,hent,hd⟩:=Qbs (w0:=w0) (q:=q) (H:=G) (R:=bx q n0::R) (i:=k) (by omega) (by omega);have HN:=zk hn;have HD:=zk hd;have HST:=zk (Qdo HDE.1 HFK.1 HR.1 k (by omega) (by omega));obtain ⟨x0,xf⟩:=HR.1.cB1 13 rfl;have hlx:=HR.1.lt 13 rfl;clear hn hd;cases hdn:G.Qv k with
   |true=>
    rw [hdn] at HD HSU;simp only [if_true] at HSU;go_wp2_with (first
     |(go_at_call 48;refine (QY HR.1 _ (XG (by omega) (by omega))).m0 ?_;rw [HN.1])
     |(go_at_call 49;refine HST.1.m2 fun w2 h2=>?_;have H2:=zk h2;clear h2 x0 xf hlx)
     |(refine (HD.1 _ HR.1).m0 ?_))
    go_roundg (7-(k+1))
    case measure=>have:=HG.1;omega
    case rel=>
     refine ⟨k+1,by go_num,by omega,⟨by omega⟩,⟨?_⟩⟩;rw [HSU.1];exact H2.1
   |false=>
    rw [hdn] at HD HSU;simp only [Bool.false_eq_true,if_false] at HSU;go_wp2_with (first
     |(go_at_call 48;refine (QY HR.1 _ (XG (by omega) (by omega))).m0 ?_;rw [HN.1])
     |(refine (HD.1 _ HR.1).m0 ?_))
    go_roundg (7-(k+1))
    case measure=>have:=HG.1;omega
    case rel=>
     refine ⟨k+1,by go_num,by omega,⟨by omega⟩,⟨?_⟩⟩;rw [HSU.1];exact HR.1
  ·obtain rfl:k=7:=by omega
   have HFA:As (Qz (H.wk 7)):=⟨Qbz HF.1 7⟩;have HRO:As (H.round=(((((Qb.takes (H.wk 7).p.l.length (H.wk 7))).rings 0 (Qb.takes (H.wk 7).p.l.length (H.wk 7)).c.ids).rings 1 ((Qb.takes (H.wk 7).p.l.length (H.wk 7)).rings 0 (Qb.takes (H.wk 7).p.l.length (H.wk 7)).c.ids).k0.waits).rings 2 ((((Qb.takes (H.wk 7).p.l.length (H.wk 7))).rings 0 (Qb.takes (H.wk 7).p.l.length (H.wk 7)).c.ids).rings 1 ((Qb.takes (H.wk 7).p.l.length (H.wk 7)).rings 0 (Qb.takes (H.wk 7).p.l.length (H.wk 7)).c.ids).k0.waits).k1.waits)):=⟨rfl⟩;generalize H.wk 7=G0 at *;generalize hHE:H.round=HEND at *;have HRE:=zk hHE;clear hHE;obtain ⟨x0,xf⟩:=HR.1.cB1 13 rfl;have hlx:=HR.1.lt 13 rfl;have c7:=HR.1.cell 0 7 rfl rfl;have hlb:=HR.1.lt 0 rfl;have hpn:G0.p.l.length≤256:=by
    have:=(HR.1.frt 9 rfl).YU.1;have h1:=this.2.1;have h2:=this.2.2.1;omega
   go_wp2_with (go_at_call 15;refine (Qif HR.1).m0 ?_);clear x0 xf hlx c7 hlb;generalize hnn:G0.p.l.length=n at *
   go_loopg [3,4,26] n (fun gk a b u wr=>∃k:Nat,u=.int .i64 k∧k≤n∧As (gk+k=n)∧As (Heap w0 ((Qb.takes k G0).on q (bx q n0::R)) wr))
   case atStart=>exact ⟨0,rfl,Nat.zero_le _,⟨rfl⟩,HR⟩
   case round=>
    obtain ⟨k,rfl,hk,HG2,HR2⟩:=hrel;clear HR;by_cases hlt2:k<n
    ·have HFK:As (Qz (Qb.takes k G0)):=⟨HFA.1.takes k⟩;have HSU:=zk (Qc0 k G0);generalize Qb.takes k G0=G at *;obtain ⟨x0,xf⟩:=HR2.1.cB1 13 rfl;have hlx:=HR2.1.lt 13 rfl;have c7:=HR2.1.cell 0 7 rfl rfl;have hlb:=HR2.1.lt 0 rfl;cases hh:G.p.has 0 with
     |true=>
      obtain ⟨m,hm, -⟩:=Qbv hh;have HMO:=zk (HFK.1.ms m (List.mem_of_getElem? hm));have HFW:=zk (HFK.1.without 0);rw [Qok hh hm] at HSU;have HTK:=zk (Qqk HR2.1 hh hm);clear hh hm;obtain ⟨mk,mf,mt,mi,ms,ma,mb⟩:=m;unfold Msg.val at HTK;simp only [Int.toNat_zero] at HTK;go_wp2_with (first
       |(go_at_call 50;refine HTK.1.m2 fun w2 h2=>?_;clear x0 xf hlx c7 hlb;obtain ⟨x0,xf⟩:=h2.cB1 13 rfl;have hlx:=h2.lt 13 rfl;have H2:=zk h2;clear h2)
       |(go_at_call 51;refine (Qaw HDE.1 HFW.1 ((H2.1.new (.cells #[.int .i64 mk,.int .i64 mf,.int .i64 mt,.int .i64 mi,.int .i64 ms,.int .i64 ma,.int .i64 mb] 113)).boxed) ⟨mk,mf,mt,mi,ms,ma,mb⟩ HMO.1).m2 fun w3 h3=>?_;have H3:=zk h3;clear h3 x0 xf hlx))
      go_roundg (n-(k+1))
      case measure=>have:=HG2.1;omega
      case rel=>
       refine ⟨k+1,by go_num,by omega,⟨by omega⟩,⟨?_⟩⟩;rw [HSU.1];exact H3.1.Xw
     |false=>
      rw [Qmx hh] at HSU;have HTK:=zk (Qdh HR2.1 hh);clear hh;go_wp2_with (go_at_call 50;refine HTK.1.m2 fun w2 h2=>?_;clear x0 xf hlx c7 hlb;have H2:=zk h2;clear h2);go_roundg (n-(k+1))
      case measure=>have:=HG2.1;omega
      case rel=>
       refine ⟨k+1,by go_num,by omega,⟨by omega⟩,⟨?_⟩⟩;rw [HSU.1];exact (H2.1.new _).boxed.Xw
    ·obtain rfl:k=n:=by omega
     have HFB:As (Qz (Qb.takes k G0)):=⟨HFA.1.takes k⟩;clear HFA HG HG2 hlt hlt2 hk hpn hnn;generalize Qb.takes k G0=G1 at *;obtain ⟨x0,xf⟩:=HR2.1.cB1 13 rfl;have hlx:=HR2.1.lt 13 rfl;have HLEN:=zk (Qd3 HFB.1.c.ok);have HKEY:=zk (Qp3 HFB.1.c.ok);go_wp2_with (first
      |(go_at_call 52;refine (Ve HR2.1).m0 ?_)
      |(go_at_call 30;refine (Qnm HR2.1).mono ?_;rintro e w3 ⟨bi,vi,rfl,h3⟩;have H3:=zk h3;clear h3 x0 xf hlx))
     clear HR2;have HFC:As (∀k,Qz (G1.rg 0 G1.c.ids k)):=⟨fun k=>Qit HFB.1 0 HKEY.1 k⟩;have HRS:As (∀k id,G1.c.ids[k]? =some id→G1.rg 0 G1.c.ids (k+1)=((G1.rg 0 G1.c.ids k).Qo 0 id).2):=⟨fun k id hk=>Qhv G1 0 hk⟩;have HRA:=zk (Qow G1 0 G1.c.ids);have H3z:As (Heap w0 (.all ((G1.rg 0 G1.c.ids 0).on q [bx q n0])::_) w3):=⟨Heap.gather (l:= [_,_,_,_,_,_,_,_,_,_,_,_,_,_]) (H3.1.sel (p:= [_,_,_,_,_,_,_,_,_,_,_,_,_,_,_,_]) [2,3,4,5,6,7,8,9,10,11,12,13,14,15,0,1] 16 rfl (by decide))⟩;generalize hids:G1.c.ids=ids at *;refine Vb rfl (enters_of Tryz.func87 (by kernel_rfl) rfl) _ R ids encI (fun _=>rfl) (YD w0 bi vi ids HLEN.1) .ret (fun k=>.all ((G1.rg 0 ids k).on q [bx q n0])) (fun _=>.when False .emp) ?h02 [(5,0)] ?assign2 ?body2 ?done2 ?stop2
     case h02=>exact H3z.1
     case assign2=>
      intro y x W K hK;simp only [encI] at hK⊢;simp [QC] at hK;simp only [QC]
      gi_wp2
      exact hK
     case stop2=>
      intro D2 k W hk h;exact (h.QT.1).elim
     case body2=>
      intro l k id X W hk h;have hin:=HKEY.1 id (List.mem_of_getElem? hk);have HSU:=zk (HRS.1 k id hk);have HFK:=zk (HFC.1 k);have h2:Heap w0 ((G1.rg 0 ids k).on q (bx q n0::X)) W:=Heap.spread (l:= [_,_,_,_,_,_,_,_,_,_,_,_,_,_]) h;obtain ⟨x0,xf⟩:=h2.cB1 13 rfl;have hlx:=h2.lt 13 rfl;have H9:=zk h2;clear h h2 hk;simp only [QC,encI]
      gi_wp2_with (refine ⟨trivial,?_⟩;gi_at_call 35;refine (CallsIn.inRound l (callsIn_wide.2 (Qqw HDE.1 HFK.1 H9.1 id hin.1 hin.2))).mono ?_;rintro en w5 ⟨rfl,h5⟩;have H10:=zk h5;clear h5)
      show Heap w0 _ _
      rw [HSU.1];exact Heap.gather (l:= [_,_,_,_,_,_,_,_,_,_,_,_,_,_]) H10.1
     case done2=>
      intro D W h;obtain ⟨X1,X2,h2⟩:∃X1 X2,Heap w0 ((G1.rg 0 ids ids.length).on q (bx q n0::.pts D (.deferred (some []))::X1::X2::R)) W:=⟨_,_,Heap.spread (l:= [_,_,_,_,_,_,_,_,_,_,_,_,_,_]) h⟩;rw [HRA.1] at h2;have HFD:As (Qz (G1.rings 0 ids)):=⟨by rw [←HRA.1];exact HFC.1 _⟩;clear h HRS HFC H3z H3 HLEN HKEY HFB;generalize G1.rings 0 ids=G2 at *;have HFK0:As (∀k,Qz (G2.kr k)):=⟨fun k=>by
       have hp:=(h2.frt 3 rfl).Dg;have hp1:=(h2.frt 4 rfl).Dg;have hf1:=HFD.1.rings 1 G2.k0.waits (DV hp)
       match k with
       |0=>exact HFD.1
       |1=>exact hf1
       |k+2=>exact hf1.rings 2 _ (by rw [Qf4];exact DV hp1)⟩
      have HR3:As (Heap w0 ((G2.kr 0).on q (bx q n0::.pts D (.deferred (some []))::X1::X2::R)) W):=⟨h2⟩;have HEQ:As (G2.kr 2=HEND):=⟨HRO.1.symm⟩;clear HRO HFD;have c1:=h2.cell 0 1 rfl rfl;have c2:=h2.cell 0 2 rfl rfl;have hlb:=h2.lt 0 rfl;obtain ⟨x0,xf⟩:=h2.cB1 13 rfl;have hlx:=h2.lt 13 rfl;clear h2;go_wp2_with fail;clear c1 c2 hlb x0 xf hlx
      go_loopg [6,7,9,52,57,58,59] 2 (fun gk a6 a7 a9 u b57 b58 b59 wr=>∃k:Nat,u=.int .i64 k∧k≤2∧As (gk+k=2)∧As (Heap w0 ((G2.kr k).on q (bx q n0::.pts D (.deferred (some []))::X1::X2::R)) wr))
      case atStart=>exact ⟨0,rfl,Nat.zero_le _,⟨rfl⟩,HR3⟩
      case round=>
       obtain ⟨k3,rfl,hk3,HG3,HR4⟩:=hrel;clear HR3;by_cases hlt3:k3<2
       ·rcases (show k3=0∨k3=1 by omega) with rfl|rfl
        ·skip;clear hlt3;have HFK:As (Qz (G2.kr 0)):=⟨HFK0.1 0⟩;have HSU:As (G2.kr 1=(G2.kr 0).rings 1 (G2.kr 0).k0.waits):=⟨rfl⟩;have HNX:As (∀k,k=1→Qz (G2.kr k)):=⟨fun k _=>HFK0.1 k⟩;generalize hGN:G2.kr 1=GN at *;have HGN:=zk hGN;clear hGN;generalize G2.kr 0=GK at *;have HKEY:=zk (DV ((HR4.1.frt 3 rfl).Dg));have hwl:=UF ((HR4.1.frt 3 rfl).Dg);obtain ⟨x0,xf⟩:=HR4.1.cB1 13 rfl;have hlx:=HR4.1.lt 13 rfl;have hix:=Qru q.k0 q.k1 wr;go_wp2_with (go_at_call 47;refine (Qgw HR4.1).mono ?_;rintro e w5 ⟨sp,sk,rfl,h5⟩;clear x0 xf hlx;have H5:=zk h5;clear h5);clear HR4 hix;have HFC:As (∀k,Qz (GK.rg 1 GK.k0.waits k)):=⟨fun k=>Qit HFK.1 1 HKEY.1 k⟩;have HRS:As (∀k id,GK.k0.waits[k]? =some id→GK.rg 1 GK.k0.waits (k+1)=((GK.rg 1 GK.k0.waits k).Qo 1 id).2):=⟨fun k id hk=>Qhv GK 1 hk⟩;have HRA:=zk (Qow GK 1 GK.k0.waits);have H5z:As (Heap w0 ((GK.rg 1 GK.k0.waits 0).on q (.slc (.slice sp GK.k0.waits.length sk) 3 1 GK.k0.waits.length (GK.k0.waits.map (Value.int .i64))::bx q n0::.pts D (.deferred (some []))::X1::X2::R)) w5):=H5;clear H5;generalize GK.k0.waits=ws at *;generalize hn5:ws.length=n5 at *
         go_loopg [9,59] n5 (fun gk a9 u wr=>∃j:Nat,u=.int .i64 j∧j≤n5∧As (gk+j=n5)∧As (Heap w0 ((GK.rg 1 ws j).on q (.slc (.slice sp n5 sk) 3 1 n5 (ws.map (Value.int .i64))::bx q n0::.pts D (.deferred (some []))::X1::X2::R)) wr))
         case atStart=>exact ⟨0,rfl,Nat.zero_le _,⟨rfl⟩,H5z⟩
         case round=>
          obtain ⟨j,rfl,hj,HG4,HR5⟩:=hrel;clear H5z;by_cases hlt4:j<n5;have hjd:ws[j]? =some (ws[j]'(by omega)):=List.getElem?_eq_getElem (by omega);generalize ws[j]'(by omega)=id at *;have hin:=HKEY.1 id (List.mem_of_getElem? hjd);have HSJ:=zk (HRS.1 j id hjd);have HFJ:=zk (HFC.1 j);generalize GK.rg 1 ws j=GJ at *;obtain ⟨g,rfl,y0,hyl⟩:=Qkt (g:=0) HR5.1 13 rfl hjd;obtain ⟨x0,xf⟩:=HR5.1.cB1 14 rfl;have hlx:=HR5.1.lt 14 rfl;have HRG:=zk (Qhy HFJ.1 HR5.1 1 (by omega) id hin.1 hin.2);exact QB0
          ·obtain rfl:j=n5:=by omega
           have hre:=HR5.1;rw [HRA.1,←HSU.1] at hre;have H7:=zk (hre.sel (p:= [_,_,_,_,_,_,_,_,_,_,_,_,_,_]) [0,1,2,3,4,5,6,7,8,9,10,11,12] 14 rfl (by decide));clear HR5 HRS HFC HRA hre;go_wp2_with fail;go_roundg (2-(0+1))
           case measure=>have:=HG3.1;omega
           case rel=>
            refine ⟨1,by go_num,by omega,⟨by omega⟩,⟨?_⟩⟩;rw [HGN.1];exact H7.1
        ·skip;clear hlt3;have HFK:As (Qz (G2.kr 1)):=⟨HFK0.1 1⟩;have HSU:As (G2.kr 2=(G2.kr 1).rings 2 (G2.kr 1).k1.waits):=⟨rfl⟩;have HNX:As (∀k,k=2→Qz (G2.kr k)):=⟨fun k _=>HFK0.1 k⟩;generalize hGN:G2.kr 2=GN at *;have HGN:=zk hGN;clear hGN;generalize G2.kr 1=GK at *;have HKEY:=zk (DV ((HR4.1.frt 4 rfl).Dg));have hwl:=UF ((HR4.1.frt 4 rfl).Dg);obtain ⟨x0,xf⟩:=HR4.1.cB1 13 rfl;have hlx:=HR4.1.lt 13 rfl;have hix:=Qtu q.k0 q.k1 wr;go_wp2_with (go_at_call 47;refine (Qf9 HR4.1).mono ?_;rintro e w5 ⟨sp,sk,rfl,h5⟩;clear x0 xf hlx;have H5:=zk h5;clear h5);clear HR4 hix;have HFC:As (∀k,Qz (GK.rg 2 GK.k1.waits k)):=⟨fun k=>Qit HFK.1 2 HKEY.1 k⟩;have HRS:As (∀k id,GK.k1.waits[k]? =some id→GK.rg 2 GK.k1.waits (k+1)=((GK.rg 2 GK.k1.waits k).Qo 2 id).2):=⟨fun k id hk=>Qhv GK 2 hk⟩;have HRA:=zk (Qow GK 2 GK.k1.waits);have H5z:As (Heap w0 ((GK.rg 2 GK.k1.waits 0).on q (.slc (.slice sp GK.k1.waits.length sk) 3 1 GK.k1.waits.length (GK.k1.waits.map (Value.int .i64))::bx q n0::.pts D (.deferred (some []))::X1::X2::R)) w5):=H5;clear H5;generalize GK.k1.waits=ws at *;generalize hn5:ws.length=n5 at *
         go_loopg [9,59] n5 (fun gk a9 u wr=>∃j:Nat,u=.int .i64 j∧j≤n5∧As (gk+j=n5)∧As (Heap w0 ((GK.rg 2 ws j).on q (.slc (.slice sp n5 sk) 3 1 n5 (ws.map (Value.int .i64))::bx q n0::.pts D (.deferred (some []))::X1::X2::R)) wr))
         case atStart=>exact ⟨0,rfl,Nat.zero_le _,⟨rfl⟩,H5z⟩
         case round=>
          obtain ⟨j,rfl,hj,HG4,HR5⟩:=hrel;clear H5z;by_cases hlt4:j<n5;have hjd:ws[j]? =some (ws[j]'(by omega)):=List.getElem?_eq_getElem (by omega);generalize ws[j]'(by omega)=id at *;have hin:=HKEY.1 id (List.mem_of_getElem? hjd);have HSJ:=zk (HRS.1 j id hjd);have HFJ:=zk (HFC.1 j);generalize GK.rg 2 ws j=GJ at *;obtain ⟨g,rfl,y0,hyl⟩:=Qkt (g:=0) HR5.1 13 rfl hjd;obtain ⟨x0,xf⟩:=HR5.1.cB1 14 rfl;have hlx:=HR5.1.lt 14 rfl;have HRG:=zk (Qhy HFJ.1 HR5.1 2 (by omega) id hin.1 hin.2);exact QB0
          ·obtain rfl:j=n5:=by omega
           have hre:=HR5.1;rw [HRA.1,←HSU.1] at hre;have H7:=zk (hre.sel (p:= [_,_,_,_,_,_,_,_,_,_,_,_,_,_]) [0,1,2,3,4,5,6,7,8,9,10,11,12] 14 rfl (by decide));clear HR5 HRS HFC HRA hre;go_wp2_with fail;go_roundg (2-(1+1))
           case measure=>have:=HG3.1;omega
           case rel=>
            refine ⟨2,by go_num,by omega,⟨by omega⟩,⟨?_⟩⟩;rw [HGN.1];exact H7.1
       ·obtain rfl:k3=2:=by omega
        rw [HEQ.1] at HR4;obtain ⟨x0,xf⟩:=HR4.1.cB1 13 rfl;go_wp2_with fail;refine ⟨by simp,.inl ⟨_,_,rfl,run_takeDeferred (HR4.1.at 14 rfl),?_⟩⟩;refine ⟨_,results_none rfl _ _ _,rfl,?_⟩;rw [HRE.1];refine ⟨(HR4.1.putAt 14 rfl (.deferred none)).sel (p:= [_,_,_,_,_,_,_,_,_,_,_,_,_,_,_,_,_]) [0,1,2,3,4,5,6,7,8,9,10,11,12] 17 rfl (by decide),?_⟩;rw [←HEQ.1];exact HFK0.1 2
end
end Go.Proofs.YtlnghlamnehfjaaGreatDoor.S
namespace Go.Proofs.YtlnghlamnehfjaaGreatDoor.S
open Go.RowKit Go.Maps
section
variable {w0 w:World} {q:HA} {H:Qb} {R:List SA}
theorem Qgl (hf:Qz H) (h:Heap w0 (H.on q R) w) (n:Nat) (hn:n≤1000):
 Calls Tryz.prog 10 #[q.b,.int .i64 n] w fun e w'=>e=.returned (.int .i64 (Qb.settle n H).1)∧Heap w0 ((Qb.settle n H).2.on q R) w'∧Qz (Qb.settle n H).2:=by
 have HH:=zk h;have HF:=zk hf;clear h hf;have hmin:min (n:Int) 1000=(n:Int):=by omega
 go_enter Tryz.func10,Tryz.ntmps10;go_wp2_with fail
 go_loopg [5] n (fun gk u wr=>∃(k:Nat) (G:Qb),u=.int .i64 k∧k≤n∧As (gk+k=n)∧As (Qz G)∧As (Heap w0 (G.on q R) wr)∧As (Qb.settle n H=((Qb.settle (n-k) G).1+k,(Qb.settle (n-k) G).2)))
 case atStart=>exact ⟨0,H,rfl,Nat.zero_le _,⟨rfl⟩,HF,HH,⟨rfl⟩⟩
 case round=>
  obtain ⟨k,G,rfl,hk,HG,HFG,HR,HS⟩:=hrel;clear HH HF;by_cases hlt:k<n
  ·obtain ⟨j,hj⟩:∃j,n-k=j+1:=⟨n-k-1,by omega⟩;have hj2:n-(k+1)=j:=by omega
   rw [hj] at HS;have HCA:=zk (Qz4 HFG.1 HR.1);have HS1:As (Qb.settle (j+1) G=if G.calm=true then (0,G) else ((Qb.settle j G.round).1+1,(Qb.settle j G.round).2)):=⟨rfl⟩;cases hc:G.calm with
   |true=>
    rw [hc] at HCA HS1;simp only [if_true] at HS1;rw [HS1.1] at HS;clear HS1 hc;go_wp2_with (go_at_call 26;refine HCA.1.m1 fun w2 H2=>?_);go_ret;rw [HS.1];exact ⟨by simp,H2.1,HFG.1⟩
   |false=>
    rw [hc] at HCA HS1;simp only [Bool.false_eq_true,if_false] at HS1;rw [HS1.1] at HS;clear HS1 hc;go_wp2_with (first
     |(go_at_call 26;refine HCA.1.m1 fun w2 H2=>?_)
     |(go_at_call 27;refine (Qy4 HFG.1 H2.1).mono ?_;rintro e w3 ⟨rfl,h3,hf3⟩;have H3:=zk h3;have HF3:=zk hf3;clear h3 hf3))
    go_roundg (n-(k+1))
    case measure=>have:=HG.1;omega
    case rel=>
     refine ⟨k+1,G.round,by go_num,by omega,⟨by omega⟩,HF3,H3,⟨?_⟩⟩;rw [HS.1,hj2];congr 1;omega
  ·obtain rfl:k=n:=by omega
   go_wp2_with fail;go_ret;rw [HS.1,Nat.sub_self];exact ⟨by simp [Qb.settle],HR.1,HFG.1⟩
end
theorem QAv (x:Int) (hx:may x=true) (w:World):CE 112 #[.int .i64 x] w (.bool false):=by
 have HM:=zk (FU x w);rw [hx] at HM;clear hx;go_enter Tryz.func112,Tryz.ntmps112;go_wp2_with (go_at_call 113;refine HM.1.m0 ?_);go_ret;exact ⟨rfl,rfl⟩
theorem Ql4 (l:List Int) (g cap:Nat) (w:World) (hr:w.ownsRow 0 3 1 (.slice (some ⟨g,0,none⟩) l.length cap) l.length (l.map (Value.int .i64))) (hall:∀x∈l,may x=true) (hl:l.length≤1000):
 CE 140 #[.slice (some ⟨g,0,none⟩) l.length cap,.func (.func 112) #[] #[]] w (.int .i64 (-1)):=by
 have hx:∀(j:Nat) (h:j<l.length),w.cell? ⟨g,j,none⟩=some (.int .i64 l[j]):=by
  intro j hj;have:=hr.cells (g:=g) rfl j (.int .i64 l[j]) (by simp [hj])
  rwa [show (⟨g,0,none⟩:Addr).add j=⟨g,j,none⟩ by unfold Addr.add;split<;>simp_all] at this
 have HX:=zk hx;have HA:As (∀j (h:j<l.length),may l[j]=true):=⟨fun j h=>hall _ (List.getElem_mem h)⟩;have hll:(l.length:Int)≤1000:=by omega
 clear hr hx hall;go_enter Tryz.func140,Tryz.ntmps140;go_wp2
 go_loopg [5,8] l.length (fun gk p i wr=>∃k:Nat,i=.int .i64 k∧k≤l.length∧As (gk+k=l.length)∧wr=w)
 case atStart=>exact ⟨0,rfl,Nat.zero_le _,⟨rfl⟩,rfl⟩
 case round=>
  obtain ⟨k,rfl,hk,HG,rfl⟩:=hrel;by_cases hlt:k<l.length
  ·have x0:=HX.1 k hlt;have HF:=zk (QAv l[k] (HA.1 k hlt) wr);have hlt2:(k:Int)<l.length:=by omega
   generalize l[k]=a at *;go_wp2_with (go_at_call 112;refine HF.1.m0 ?_);go_roundg (l.length-(k+1))
   case measure=>have:=HG.1;omega
   case rel=>exact ⟨k+1,by go_num,by omega,⟨by omega⟩,rfl⟩
  ·have hlt2:¬((k:Int)<l.length):=by omega
   go_wp2;go_ret;exact ⟨rfl,rfl⟩
theorem Qcf (l:List Int) (g cap:Nat) (w:World) (hr:w.ownsRow 0 3 1 (.slice (some ⟨g,0,none⟩) l.length cap) l.length (l.map (Value.int .i64))) (hall:∀x∈l,may x=true) (hl:l.length≤1000):
 CE 111 #[.slice (some ⟨g,0,none⟩) l.length cap,.func (.func 112) #[] #[]] w (.bool false):=by
 have HI:=zk (Ql4 l g cap w hr hall hl);clear hr hall;go_enter Tryz.func111,Tryz.ntmps111;go_wp2_with (go_at_call 140;refine HI.1.m0 ?_);go_ret;exact ⟨rfl,rfl⟩
theorem Qo0 (l:List Int) (g cap:Nat) (most:Int) (w:World) (hr:w.ownsRow 0 3 1 (.slice (some ⟨g,0,none⟩) l.length cap) l.length (l.map (Value.int .i64))) (hall:∀x∈l,may x=true) (hl:l.length≤1000) (hm:(l.length:Int)≤most):
 CE 70 #[.slice (some ⟨g,0,none⟩) l.length cap,.int .i64 most] w (.bool true):=by
 have HI:=zk (Qcf l g cap w hr hall hl);have hm2:decide ((l.length:Int)≤most)=true:=by simpa using hm
 clear hr hall;go_enter Tryz.func70,Tryz.ntmps70;go_wp2_with (go_at_call 111;refine HI.1.m0 ?_);go_ret;exact ⟨rfl,rfl⟩
theorem Dp {w0 w:World} {R:List SA} (h:Heap w0 R w) (orders room tries:Int) (ho0:1≤orders) (ho1:orders≤64) (hr0:1≤room) (hr1:room≤4096) (ht0:1≤tries) (ht1:tries≤20):
 Calls Tryz.prog 39 #[.int .i64 orders,room,tries] w fun e w'=>∃b bc br,e=.returned (.pointer (some ⟨b,0,none⟩))∧Heap w0 (.pts b (.cells #[.pointer (some ⟨bc,0,none⟩),.map (some br)] 72)::.Xu bc ⟨orders,room,tries,⟨room,[],0,false⟩,0,[],⟨tries,[]⟩⟩::.marks br::R) w':=by
 have HC:=zk (Qz3 h orders room tries ho0 ho1 hr0 hr1 ht0 ht1);clear h;have hmm:= @run_makeMap Tryz.prog;go_enter Tryz.func39,Tryz.ntmps39;go_wp2_with (go_at_call 72;refine HC.1.mono ?_;rintro e w1 ⟨bc,rfl,h1⟩;have H1:=zk h1;clear h1);go_ret;have h2:=Heap.nAt (n:=w1.heap.size+1) (Heap.YC H1.1 (n:=w1.heap.size) rfl) (.cells #[bc,.map (some w1.heap.size)] 72) (by simp);exact ⟨_,bc,w1.heap.size,rfl,(Heap.Ur (m:= []) Ql.nil (h2.frt 1 rfl)).sel (p:= [_,_,_]) [1,2,0] 3 rfl (by decide)⟩
theorem QAs {w0 w:World} {R:List SA} (g1 c1 g2 c2 g3 c3:Nat) (tries:Int) (h:Heap w0 (.slc (.slice (some ⟨g1,0,none⟩) 2 c1) 3 1 2 [.int .i64 60,.int .i64 5]::.slc (.slice (some ⟨g2,0,none⟩) 2 c2) 3 1 2 [.int .i64 900,.int .i64 40]::.slc (.slice (some ⟨g3,0,none⟩) 3 c3) 3 1 3 [.int .i64 9,.int .i64 30,.int .i64 4]::R) w) (h0:1≤tries) (h1:tries≤20):
 Calls Tryz.prog 38 #[.agg #[.slice (some ⟨g1,0,none⟩) 2 c1,.slice (some ⟨g2,0,none⟩) 2 c2,.slice (some ⟨g3,0,none⟩) 3 c3,.int .i64 5,.int .i64 4096,tries]] w fun e w'=>e=.returned (.bool true)∧Below w.heap.size w w':=by
 have h3:=h.new (.cells #[.slice (some ⟨g1,0,none⟩) 2 c1,.slice (some ⟨g2,0,none⟩) 2 c2,.slice (some ⟨g3,0,none⟩) 3 c3,.int .i64 5,.int .i64 4096,tries] 55);have x0:=h3.cB6 0 rfl;have hlx:=h3.lt 0 rfl;have HF1:=zk (Qo0 [60,5] g1 c1 8 _ (h3.row 1 rfl) (by decide) (by simp) (by simp));have HF2:=zk (Qo0 [900,40] g2 c2 8 _ (h3.row 2 rfl) (by decide) (by simp) (by simp));have HF3:=zk (Qo0 [9,30,4] g3 c3 3 _ (h3.row 3 rfl) (by decide) (by simp) (by simp));have HBL:=zk ((Below.refl w.heap.size w).alloc (Nat.le_refl _) (.cells #[.slice (some ⟨g1,0,none⟩) 2 c1,.slice (some ⟨g2,0,none⟩) 2 c2,.slice (some ⟨g3,0,none⟩) 3 c3,.int .i64 5,.int .i64 4096,tries] 55));have ht:(decide (1≤tries)&&decide (tries≤20))=true:=by simp [h0,h1]
 simp only [List.length_cons,List.length_nil,Nat.reduceAdd] at HF1 HF2 HF3;clear h h3;go_enter Tryz.func38,Tryz.ntmps38;go_wp2_with fail;refine HF1.1.m0 ?_;go_wp2_with fail;refine HF2.1.m0 ?_;go_wp2_with fail;refine HF3.1.m0 ?_;go_wp2_with fail;refine (Qnt _ _ _).m0 ?_;first|rw [ht]|simp only [Int.reduceLE,decide_true,Bool.and_self]
 go_wp2_with fail;refine (Qnt _ _ _).m0 ?_;first|rw [ht]|simp only [Int.reduceLE,decide_true,Bool.and_self]
 go_wp2_with fail;refine (Qnt _ _ _).m0 ?_;first|rw [ht]|simp only [Int.reduceLE,decide_true,Bool.and_self]
 go_wp2_with fail;go_ret;exact ⟨rfl,HBL.1⟩
theorem u64_nn (t:Int):0≤u64 t:=by unfold u64;omega
theorem XP (t n:Int):(IntKind.u64.wrap t).tmod n=u64 t%n:=by
 rw [IntKind.wrap_u64,Int.tmod_eq_emod_of_nonneg (by omega)];rfl
theorem wsm {x:Int} (h0:0≤x) (h1:x<1000000):wrap64 x=x:=by unfold wrap64;omega
section
variable {w0 w:World} {R:List SA}
theorem Qke (h:Heap w0 R w) (t:Int):Calls Tryz.prog 22 #[.int .i64 t] w fun e w'=>∃g1 c1 g2 c2 g3 c3,e=.returned (.agg #[.slice (some ⟨g1,0,none⟩) 2 c1,.slice (some ⟨g2,0,none⟩) 2 c2,.slice (some ⟨g3,0,none⟩) 3 c3,.int .i64 5,.int .i64 4096,.int .i64 (2+u64 t%5)])∧Heap w0 (.slc (.slice (some ⟨g1,0,none⟩) 2 c1) 3 1 2 [.int .i64 60,.int .i64 5]::.slc (.slice (some ⟨g2,0,none⟩) 2 c2) 3 1 2 [.int .i64 900,.int .i64 40]::.slc (.slice (some ⟨g3,0,none⟩) 3 c3) 3 1 3 [.int .i64 9,.int .i64 30,.int .i64 4]::R) w':=by
 have H:=zk h;clear h;go_enter Tryz.func22,Tryz.ntmps22;go_wp2_with fail;have e5:wrap64 (2+wrap64 ((IntKind.u64.wrap t).tmod 5))=2+u64 t%5:=by
  rw [XP];rw [wsm (x:=u64 t%5) (by omega) (by omega),wsm (by omega) (by omega)]
 rw [e5];have h1:=Heap.nAt (n:=w.heap.size+1) (H.1.alloc (.cells #[.slice (some ⟨w.heap.size+1,0,none⟩) 2 2,.slice (some ⟨w.heap.size+1+1,0,none⟩) 2 2,.slice (some ⟨w.heap.size+1+1+1,0,none⟩) 3 3,.int .i64 5,.int .i64 4096,.int .i64 (2+u64 t%5)] 55)) (.cells #[.int .i64 60,.int .i64 5] 3) (by simp);have h2:=Heap.nAt (n:=w.heap.size+1+1) (Heap.XJ (k:=2) (size:=1) h1 (by decide) rfl) (.cells #[.int .i64 900,.int .i64 40] 3) (by simp);have h3:=Heap.nAt (n:=w.heap.size+1+1+1) (Heap.XJ (k:=2) (size:=1) h2 (by decide) rfl) (.cells #[.int .i64 9,.int .i64 30,.int .i64 4] 3) (by simp);have h4:=(Heap.XJ (k:=3) (size:=1) h3 (by decide) rfl).sel (p:= [_,_,_]) [2,1,0] 3 rfl (by decide);exact bodyPost_ret (v:=.agg #[.slice (some ⟨w.heap.size+1,0,none⟩) 2 2,.slice (some ⟨w.heap.size+1+1,0,none⟩) 2 2,.slice (some ⟨w.heap.size+1+1+1,0,none⟩) 3 3,.int .i64 5,.int .i64 4096,.int .i64 (2+u64 t%5)]) (by simp [results,Tryz.results22,go_sem]) rfl ⟨_,_,_,_,_,_,rfl,h4⟩
end
end Go.Proofs.YtlnghlamnehfjaaGreatDoor.S
