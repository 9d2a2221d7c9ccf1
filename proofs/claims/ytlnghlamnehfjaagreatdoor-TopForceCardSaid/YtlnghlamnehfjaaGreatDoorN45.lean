/- Contracts and plain laws of the program, part N45. -/
import Derived.Test.YtlnghlamnehfjaaGreatDoorN09
import Derived.Test.YtlnghlamnehfjaaGreatDoorN23
import Derived.Test.YtlnghlamnehfjaaGreatDoorN36
import Derived.Test.YtlnghlamnehfjaaGreatDoorN39
import Derived.Test.YtlnghlamnehfjaaGreatDoorN41
import Derived.Test.YtlnghlamnehfjaaGreatDoorN43
import Derived.Test.YtlnghlamnehfjaaGreatDoorN44
set_option linter.unusedVariables false
set_option linter.unusedSimpArgs false
set_option maxRecDepth 100000
set_option maxHeartbeats 64000000
namespace Go.Proofs.YtlnghlamnehfjaaGreatDoor.S
open Go.RowKit Go.Maps
attribute [local go_sem] Oper.semAt_some
section
variable {w0 w:World} {q:HA} {H:Harb} {R:List SA}
theorem ids_on (h:Heap w0 (H.on q R) w):Calls Tryz.prog 30 #[.pointer (some ⟨q.bc,0,none⟩)] w (IterI w0 H.c.ids (H.on q R)):=by
 obtain ⟨bj,A,h2⟩:=(h.frt 2 rfl).cha_of;refine (cids_ok h2).mono ?_;rintro e w' ⟨bx,v,rfl,h3⟩;have h4:=Heap.cha_to (bj:=bj) (A:=A) (h3.sel (p:= [_,_,_,_]) [2,3,0,1] 4 rfl (by decide));exact ⟨bx,v,rfl,h4.sel (p:= [_,_,_,_,_,_,_,_,_,_,_,_,_,_,_]) [1,2,3,4,0,5,6,7,8,9,10,11,12,13,14] 15 rfl (by decide)⟩
theorem cids_in {c:Chief} (h:c.ok):∀i∈c.ids,1≤i∧i≤999:=fun i hi=>by
 obtain ⟨p,hp,rfl⟩:=List.mem_map.1 hi;exact h.keys.2 p hp
theorem cids_len {c:Chief} (h:c.ok):c.ids.length≤100000:=by
 have:=h.keys.len;simp only [Chief.ids,List.length_map];omega
theorem hstarts_ok (hDE:Decides w0 q) (hf:Fine H) (h:Heap w0 (H.on q R) w) (i:Int) (h0:0≤i) (h1:i<7):
 Calls Tryz.prog 49 #[.pointer (some ⟨q.b,0,none⟩),.int .i64 i] w fun e w'=>e=.returned (.tuple #[])∧Heap w0 ((H.starts i).on q R) w':=by
 obtain ⟨T,p,F,hn,hm,hent,hd⟩:=start_on (w0:=w0) (q:=q) (H:=H) (R:=.pts w.heap.size (.cells #[.pointer (some ⟨q.b,0,none⟩)] 23)::R) hf h0 h1;have HFI:=zk (hf.starts i);have HN:=zk hn;have HD:=zk hd;have HDE:=zk hDE;have h3:=h.new (.cells #[.pointer (some ⟨q.b,0,none⟩)] 23);have HB:=zk h3.boxed;obtain ⟨x0,xf⟩:=h3.cB1 0 rfl;have hlx:=h3.lt 0 rfl;clear hn hd hf h h3 hDE;generalize hG:H.starts i=G at *;clear hG;by_cases hi:i=0
 ·subst hi;refine cmk Tryz.func49 rfl ?_;simp only [Tryz.ntmps49,List.size_toArray,List.length_cons,List.length_nil,Nat.reduceAdd,Nat.reduceSub,Array.replicate_succ,Array.replicate_zero,List.push_toArray,List.append_toArray,List.nil_append,List.cons_append];go_wp2_with (first
   |(go_at_call 48;refine (node_ok HB.out _ (node_cases h0 h1)).mono ?_;rintro e w' ⟨rfl,rfl⟩;rw [HN.out])
   |(refine (HD.out _ HB.out).mono ?_;rintro e w2 ⟨rfl,h2⟩;have H2:=zk h2;clear h2 x0 xf hlx;obtain ⟨x0,xf⟩:=H2.out.cB1 13 rfl;have hlx:=H2.out.lt 13 rfl)
   |(go_at_call 52;refine (hchief_ok H2.out).mono ?_;rintro e w' ⟨rfl,rfl⟩)
   |(go_at_call 30;refine (ids_on H2.out).mono ?_;rintro e w3 ⟨bi,vi,rfl,h3⟩;have H3:=zk h3;clear h3 x0 xf hlx))
  have HLEN:=zk (cids_len HFI.out.c.ok);have HKEY:=zk (cids_in HFI.out.c.ok);refine wp_range2 rfl (enters_of Tryz.func87 (by kernel_rfl) rfl) _ R G.c.ids encI (fun _=>rfl) (values_givesO w0 bi vi G.c.ids HLEN.out) .ret (fun _=>.all (G.on q [.pts w.heap.size (.cells #[.pointer (some ⟨q.b,0,none⟩)] 23)])) (fun _=>.when False .emp) ?h02 [(4,0)] ?assign2 ?body2 ?done2 ?stop2
  case h02=>exact Heap.gather (l:= [_,_,_,_,_,_,_,_,_,_,_,_,_,_]) (H3.out.sel (p:= [_,_,_,_,_,_,_,_,_,_,_,_,_,_,_,_]) [2,3,4,5,6,7,8,9,10,11,12,13,14,15,0,1] 16 rfl (by decide))
  case assign2=>
   intro y x W K hK;simp only [encI] at hK⊢;simp [roundActX] at hK;simp only [roundActX]
   gi_wp2
   exact hK
  case stop2=>
   intro D2 k W hk h;exact (h.unwhen.1).elim
  case body2=>
   intro l k id X W hk h;have hin:=HKEY.out id (List.mem_of_getElem? hk);have h2:Heap w0 (G.on q (.pts w.heap.size (.cells #[.pointer (some ⟨q.b,0,none⟩)] 23)::X)) W:=Heap.spread (l:= [_,_,_,_,_,_,_,_,_,_,_,_,_,_]) h;obtain ⟨x0,xf⟩:=h2.cB1 13 rfl;have hlx:=h2.lt 13 rfl;have H9:=zk h2;clear h h2;simp only [roundActX,encI]
   gi_wp2_with (refine ⟨trivial,?_⟩;gi_at_call 63;refine (CallsIn.inRound l (callsIn_wide.2 (HDE.out _ _ _ id H9.out hin.1 hin.2))).mono ?_;rintro en w5 ⟨rfl,h5⟩;have H10:=zk h5;clear h5)
   show Heap w0 _ _
   exact Heap.gather (l:= [_,_,_,_,_,_,_,_,_,_,_,_,_,_]) H10.out
  case done2=>
   intro D W h;have h2:=Heap.spread (l:= [_,_,_,_,_,_,_,_,_,_,_,_,_,_]) h;have h4:=h2.putAt 14 rfl (.deferred none);refine ⟨by simp,.inl ⟨_,_,rfl,run_takeDeferred (h2.at 14 rfl),?_⟩⟩;refine ⟨_,results_none rfl _ _ _,rfl,?_⟩;exact h4.sel (p:= [_,_,_,_,_,_,_,_,_,_,_,_,_,_,_,_,_]) [0,1,2,3,4,5,6,7,8,9,10,11,12] 17 rfl (by decide)
 ·have hb:(i != 0)=true:=by simpa using hi
  refine cmk Tryz.func49 rfl ?_;simp only [Tryz.ntmps49,List.size_toArray,List.length_cons,List.length_nil,Nat.reduceAdd,Nat.reduceSub,Array.replicate_succ,Array.replicate_zero,List.push_toArray,List.append_toArray,List.nil_append,List.cons_append];go_wp2_with (first
   |(go_at_call 48;refine (node_ok HB.out _ (node_cases h0 h1)).mono ?_;rintro e w' ⟨rfl,rfl⟩;rw [HN.out])
   |(refine (HD.out _ HB.out).mono ?_;rintro e w2 ⟨rfl,h2⟩;have H2:=zk h2;clear h2 x0 xf hlx))
  refine ⟨_,results_none rfl _ _ _,rfl,?_⟩;exact H2.out.unbox
end
end Go.Proofs.YtlnghlamnehfjaaGreatDoor.S
namespace Go.Proofs.YtlnghlamnehfjaaGreatDoor.S
open Go.RowKit Go.Maps
def HA.svv (q:HA) (i:Int):Value:=if 4≤i then .pointer (some ⟨q.sv i,0,none⟩) else .pointer none
def Harb.sst (H:Harb) (i id:Int):Int:=if i=4 then mgi H.v0.st id else if i=5 then mgi H.v1.st id else if i=6 then mgi H.v2.st id else 0
section
variable {w0 w:World} {q:HA} {H:Harb} {R:List SA}
theorem hservice0 (i:Int) (hi:i<4) (h0:0≤i) (h:Heap w0 (H.on q R) w):
 Calls Tryz.prog 79 #[.pointer (some ⟨q.b,0,none⟩),.int .i64 i] w fun e w'=>e=.returned (.pointer none)∧w=w':=by
 have hlb:=h.lt 0 rfl;have h4:(i<4)=True:=by simp [hi]
 go_enter Tryz.func79,Tryz.ntmps79;go_wp2_with (fail);go_ret;exact ⟨rfl,rfl⟩
theorem sv_on (h:Heap w0 (H.on q R) w) (i:Int) (h0:0≤i) (h1:i<7):
 Calls Tryz.prog 79 #[.pointer (some ⟨q.b,0,none⟩),.int .i64 i] w fun e w'=>e=.returned (q.svv i)∧w=w':=by
 by_cases h4:4≤i
 ·unfold HA.svv;rw [if_pos h4];exact hservice_ok h i (by omega)
 ·unfold HA.svv;rw [if_neg h4];exact hservice0 i (by omega) h0 h
theorem vstate0 (id:Int) (w:World):Calls Tryz.prog 82 #[.pointer none,.int .i64 id] w fun e w'=>e=.returned (.int .i64 0)∧w=w':=by
 go_enter Tryz.func82,Tryz.ntmps82;go_wp2_with (fail);go_ret;exact ⟨rfl,rfl⟩
theorem sst_on (h:Heap w0 (H.on q R) w) (i:Int) (h0:0≤i) (h1:i<7) (id:Int) (g0:1≤id) (g1:id≤999):
 Calls Tryz.prog 82 #[q.svv i,.int .i64 id] w fun e w'=>e=.returned (.int .i64 (H.sst i id))∧w=w':=by
 unfold HA.svv Harb.sst;by_cases h4:4≤i
 ·rw [if_pos h4];have:i=4∨i=5∨i=6:=by omega
  rcases this with rfl|rfl|rfl
  ·exact vstate_ok (h.frt 6 rfl) id (by omega) (by omega)
  ·exact vstate_ok (h.frt 7 rfl) id (by omega) (by omega)
  ·exact vstate_ok (h.frt 8 rfl) id (by omega) (by omega)
 ·rw [if_neg h4,if_neg (by omega),if_neg (by omega),if_neg (by omega)];exact vstate0 id w
theorem parc_on (h:Heap w0 (H.on q R) w):Calls Tryz.prog 83 #[.pointer (some ⟨q.bs,0,none⟩)] w fun e w'=>∃bp,e=.returned (.pointer (some ⟨bp,0,none⟩))∧w=w'∧∀W,Below w.heap.size w W→∀id,Calls Tryz.prog 84 #[.pointer (some ⟨bp,0,none⟩),.int .i64 id] W fun e w'=>(∃x y:Int,e=.returned (.tuple #[.int .i64 x,.int .i64 y,.bool (phas H.s.l id)]))∧Heap w0 (H.on q R) w':=by
 refine (hparcels_ok (h.frt 5 rfl)).mono ?_;rintro e w' ⟨bj,bp,rfl,rfl,h2⟩;refine ⟨bp,rfl,rfl,fun W hb id=>?_⟩;refine (pchas_ok ((h2.below hb).frt 2 rfl) id).mono ?_;rintro e w' ⟨he,h3⟩;refine ⟨he,?_⟩;have h4:=Heap.shut_shipper (s:=H.s) (h3.sel (p:= [_,_,_]) [1,2,0] 3 rfl (by decide));exact h4.sel (p:= [_,_,_,_,_,_,_,_,_,_,_,_,_]) [1,2,3,4,5,0,6,7,8,9,10,11,12] 13 rfl (by decide)
end
section
variable {w0 w:World} {q:HA} {H:Harb} {R:List SA}
theorem acts_step {k s:Int} (hk:k=2∨k=5) (h0:0≤s) (h1:s≤2):(k,s)∈actsAll:=by
 have:s=0∨s=1∨s=2:=by omega
 rcases hk with rfl|rfl<;>rcases this with rfl|rfl|rfl<;>decide
theorem sst_serv {i id:Int} (h:H.sst i id≠0):4≤i:=by
 unfold Harb.sst at h;split at h
 ·omega
 split at h
 ·omega
 split at h
 ·omega
 ·exact absurd rfl h
theorem delivers_ok (hDE:Decides w0 q) (hf:Fine H) (h:Heap w0 (H.on q R) w) (m:Msg) (hm:MOk m):
 Calls Tryz.prog 51 #[.pointer (some ⟨q.b,0,none⟩),m.val] w fun e w'=>e=.returned (.tuple #[])∧Heap w0 ((H.gives m).on q R) w':=by
 obtain ⟨kind,frm,dst,id,step,a,b⟩:=m;obtain ⟨hi0,hi1⟩:1≤id∧id≤999:=⟨hm.id0,hm.id1⟩;obtain ⟨hd0,hd1⟩:0≤dst∧dst<7:=hm.dst;have HSV:As (4≤dst→0≤step∧step≤2):=⟨fun h4=>(hm.v h4).2.2.2⟩;have HSS:As (∀H':Harb,H'.sst dst id≠0→4≤dst):=⟨fun H'=>sst_serv⟩;obtain ⟨T,p,F,hn,hmt,hent,hd⟩:=handle_on (w0:=w0) (q:=q) (H:=H) (R:=.pts w.heap.size (.cells #[.int .i64 kind,.int .i64 frm,.int .i64 dst,.int .i64 id,.int .i64 step,.int .i64 a,.int .i64 b] 113)::R) hf hm;unfold Handles at hd;generalize hG:H.gives ⟨kind,frm,dst,id,step,a,b⟩=G at *;clear hG;simp only [Msg.val] at hn hd⊢;have HN:=zk hn;have HD:=zk hd;have HDE:=zk hDE;have h3:=h.new (.cells #[.int .i64 kind,.int .i64 frm,.int .i64 dst,.int .i64 id,.int .i64 step,.int .i64 a,.int .i64 b] 113);have HB:=zk h3.boxed;obtain ⟨x0,x1,x2,x3,x4,x5,x6,xf⟩:=h3.cB7 0 rfl;have hlx:=h3.lt 0 rfl;have c2:=h3.cell 1 3 rfl rfl;have c7:=h3.cell 1 7 rfl rfl;have hlb:=h3.lt 1 rfl;clear hn hd hf h h3 hDE hm;go_enter Tryz.func51,Tryz.ntmps51;go_wp2_with (go_at_call 48;refine (node_ok HB.out _ (node_cases hd0 hd1)).mono ?_;rintro e w' ⟨rfl,rfl⟩;rw [HN.out]);generalize hW:w.alloc _=W1 at *;clear hW;generalize w.heap.size=n0 at *;refine wro (fun W=>W.cell? ⟨n0,2,none⟩=some (.int .i64 dst)∧W.cell? ⟨n0,3,none⟩=some (.int .i64 id)) [(0,.f),(1,.f),(2,.s),(4,.f),(5,.f),(3,.e),(6,.e),(7,.f)] ⟨x2,x3⟩ ?_;repeat (first
  |(refine vg rfl rfl ?_;apply ex2;intro w' hw';obtain ⟨x2',x3'⟩:=hw';go_simp;rfl;go_simp)
  |(refine vs_ rfl (fun K hK=>?_);go_simp;refine hK _ ?_;clear hK K)
  |(refine ve rfl rfl ?_;go_wp2_with (go_at_call 79;refine (sv_on HB.out.drew dst hd0 hd1).mono ?_;rintro e w' ⟨rfl,rfl⟩);refine ⟨⟨x2,x3⟩,?_⟩;go_simp)
  |(refine ve rfl rfl ?_;go_wp2_with (go_at_call 82;refine (sst_on HB.out.drew dst hd0 hd1 id hi0 hi1).mono ?_;rintro e w' ⟨rfl,rfl⟩);refine ⟨⟨x2,x3⟩,?_⟩;go_simp))
 refine vn ?_;go_simp;go_wp2_with (fail);have HB2:=zk HB.out.drew;generalize W1.drew=W2 at *;clear x0 x1 x2 x3 x4 x5 x6 xf hlx c2 c7 hlb;obtain ⟨x0,x1,x2,x3,x4,x5,x6,xf⟩:=HB2.out.cB7 13 rfl;have hlx:=HB2.out.lt 13 rfl;have c2:=HB2.out.cell 0 3 rfl rfl;have c7:=HB2.out.cell 0 7 rfl rfl;have hlb:=HB2.out.lt 0 rfl;refine wro (fun W=>W.cell? ⟨n0,3,none⟩=some (.int .i64 id)∧W.cell? ⟨q.b,3,none⟩=some (.pointer (some ⟨q.bs,0,none⟩))∧q.b<W.heap.size) [(0,.f),(1,.f),(2,.f),(3,.s),(5,.f),(6,.f),(4,.e),(7,.e),(8,.f),(9,.f),(10,.f),(11,.f),(12,.f),(13,.f),(14,.f)] ⟨x3,c2,hlb⟩ ?_;repeat (first
  |(refine vg rfl rfl ?_;apply ex2;intro w' hw';obtain ⟨x3',c2',hlb'⟩:=hw';go_simp;rfl;go_simp)
  |(refine vs_ rfl (fun K hK=>?_);go_simp;refine hK _ ?_;clear hK K)
  |(refine ve rfl rfl ?_;go_wp2_with (go_at_call 83;refine (parc_on HB2.out.drew).mono ?_;rintro e w' ⟨bp,rfl,rfl,hpc⟩;have HPC:=zk hpc;clear hpc);refine ⟨⟨x3,c2,hlb⟩,?_⟩;go_simp)
  |(refine ve rfl rfl ?_;go_wp2_with (go_at_call 84;refine (HPC.out _ (Below.refl _ _) id).mono ?_;rintro e w1 ⟨⟨px,py,rfl⟩,h1⟩;have H1:=zk h1;clear h1);refine ⟨⟨H1.out.cell 13 3 rfl rfl,H1.out.cell 0 3 rfl rfl,H1.out.lt 0 rfl⟩,?_⟩;go_simp))
 refine vn ?_;go_simp;go_wp2_with (fail);clear HPC HB HB2;clear x0 x1 x2 x3 x4 x5 x6 xf hlx c2 c7 hlb;obtain ⟨x0,x1,x2,x3,x4,x5,x6,xf⟩:=H1.out.cB7 13 rfl;have hlx:=H1.out.lt 13 rfl;have c2:=H1.out.cell 0 3 rfl rfl;have c7:=H1.out.cell 0 7 rfl rfl;have hlb:=H1.out.lt 0 rfl;refine wro (fun W=>W.cell? ⟨q.b,7,none⟩=some (.pointer (some ⟨q.bp,0,none⟩))∧q.b<W.heap.size∧W.cell? ⟨n0,0,none⟩=some (.int .i64 kind)∧W.cell? ⟨n0,1,none⟩=some (.int .i64 frm)∧W.cell? ⟨n0,2,none⟩=some (.int .i64 dst)∧W.cell? ⟨n0,3,none⟩=some (.int .i64 id)∧W.cell? ⟨n0,4,none⟩=some (.int .i64 step)∧W.cell? ⟨n0,5,none⟩=some (.int .i64 a)∧W.cell? ⟨n0,6,none⟩=some (.int .i64 b)) [(0,.f),(1,.f),(2,.f),(3,.f),(4,.f),(5,.s),(6,.e),(7,.e)] ⟨c7,hlb,x0,x1,x2,x3,x4,x5,x6⟩ ?_;repeat (first
  |(refine vg rfl rfl ?_;apply ex2;intro w' hw';obtain ⟨c7',hlb',x0',x1',x2',x3',x4',x5',x6'⟩:=hw';go_simp;rfl;go_simp)
  |(refine vs_ rfl (fun K hK=>?_);go_simp;refine hK _ ?_;clear hK K)
  |(refine ve rfl rfl ?_;go_wp2_with ((refine (HD.out _ H1.out.drew).mono ?_;rintro e w2 ⟨v2,ms,H',rfl,hl2,h2,hg2⟩;have H2:=zk h2;have HL2:=zk hl2;have HG:=zk hg2;clear h2 hl2 hg2));refine ⟨⟨H2.out.cell 1 7 rfl rfl,H2.out.lt 1 rfl,H2.out.cell 14 0 rfl rfl,H2.out.cell 14 1 rfl rfl,H2.out.cell 14 2 rfl rfl,H2.out.cell 14 3 rfl rfl,H2.out.cell 14 4 rfl rfl,H2.out.cell 14 5 rfl rfl,H2.out.cell 14 6 rfl rfl⟩,?_⟩;go_simp)
  |(refine ve rfl rfl ?_;go_wp2_with (go_at_call 66;refine (put_on H2.out HL2.out).mono ?_;rintro e w3 ⟨rfl,h3⟩;have H3:=zk h3;clear h3);refine ⟨⟨H3.out.cell 0 7 rfl rfl,H3.out.lt 0 rfl,H3.out.cell 13 0 rfl rfl,H3.out.cell 13 1 rfl rfl,H3.out.cell 13 2 rfl rfl,H3.out.cell 13 3 rfl rfl,H3.out.cell 13 4 rfl rfl,H3.out.cell 13 5 rfl rfl,H3.out.cell 13 6 rfl rfl⟩,?_⟩;go_simp))
 refine vn ?_;go_simp;go_wp2_with (fail);rw [←HG.out] at H3;clear H2 HG HL2 HD hmt hent HN;clear x0 x1 x2 x3 x4 x5 x6 xf hlx c2 c7 hlb;obtain ⟨x0,x1,x2,x3,x4,x5,x6,xf⟩:=H3.out.cB7 13 rfl;have hlx:=H3.out.lt 13 rfl;have c2:=H3.out.cell 0 3 rfl rfl;have c7:=H3.out.cell 0 7 rfl rfl;have hlb:=H3.out.lt 0 rfl;refine wro (fun W=>W.cell? ⟨n0,2,none⟩=some (.int .i64 dst)∧W.cell? ⟨n0,3,none⟩=some (.int .i64 id)) [(0,.f),(1,.f),(2,.s),(4,.f),(5,.f),(3,.e),(6,.e),(7,.f)] ⟨x2,x3⟩ ?_;repeat (first
  |(refine vg rfl rfl ?_;apply ex2;intro w' hw';obtain ⟨x2',x3'⟩:=hw';go_simp;rfl;go_simp)
  |(refine vs_ rfl (fun K hK=>?_);go_simp;refine hK _ ?_;clear hK K)
  |(refine ve rfl rfl ?_;go_wp2_with (go_at_call 79;refine (sv_on H3.out.drew dst hd0 hd1).mono ?_;rintro e w' ⟨rfl,rfl⟩);refine ⟨⟨x2,x3⟩,?_⟩;go_simp)
  |(refine ve rfl rfl ?_;go_wp2_with (go_at_call 82;refine (sst_on H3.out.drew dst hd0 hd1 id hi0 hi1).mono ?_;rintro e w' ⟨rfl,rfl⟩);refine ⟨⟨x2,x3⟩,?_⟩;go_simp))
 refine vn ?_;go_simp;have H4:=zk H3.out.drew;generalize w3.drew=w4 at *;clear H1 H3;clear x0 x1 x2 x3 x4 x5 x6 xf hlx c2 c7 hlb;obtain ⟨x0,x1,x2,x3,x4,x5,x6,xf⟩:=H4.out.cB7 13 rfl;have hlx:=H4.out.lt 13 rfl;have c2:=H4.out.cell 0 3 rfl rfl;have c7:=H4.out.cell 0 7 rfl rfl;have hlb:=H4.out.lt 0 rfl;have HS0:=zk (HSS.out H);have HS1:=zk (HSS.out G);clear HSS;generalize H.sst dst id=bf at *;generalize G.sst dst id=af at *;generalize phas H.s.l id=went at *;by_cases t0:dst=0
 ·subst t0;go_wp2_with (go_at_call 63;refine (HDE.out _ _ _ id H4.out hi0 hi1).mono ?_;rintro e w5 ⟨rfl,h5⟩;have H5:=zk h5;clear h5);go_end0;exact ⟨rfl,H5.out.unbox⟩
 have b0:(dst==0)=false:=by simpa using t0
 by_cases h01:bf=0∧af=1
 ·obtain ⟨rfl,rfl⟩:=h01;have HA:=zk (acts_step (k:=2) (.inl rfl) (HSV.out (HS1.out (by decide))).1 (HSV.out (HS1.out (by decide))).2);go_wp2_with (go_at_call 85;refine (happens_ok H4.out id 2 step hi0 hi1 HA.out).mono ?_;rintro e w5 ⟨rfl,h5⟩;have H5:=zk h5;clear h5);go_end0;exact ⟨rfl,H5.out.unbox⟩
 by_cases h13:bf=1∧af=3
 ·obtain ⟨rfl,rfl⟩:=h13;have HA:=zk (acts_step (k:=5) (.inr rfl) (HSV.out (HS1.out (by decide))).1 (HSV.out (HS1.out (by decide))).2);go_wp2_with (go_at_call 85;refine (happens_ok H4.out id 5 step hi0 hi1 HA.out).mono ?_;rintro e w5 ⟨rfl,h5⟩;have H5:=zk h5;clear h5);go_end0;exact ⟨rfl,H5.out.unbox⟩
 have hbf:((bf==0)=true∧(af==1)=false∧(bf==1)=false)∨((bf==0)=false∧(bf==1)=true∧(af==3)=false)∨((bf==0)=false∧(bf==1)=false):=by
  by_cases e0:bf=0
  ·exact .inl ⟨by simpa using e0,by simp;intro h;exact h01 ⟨e0,h⟩,by simp;omega⟩
  ·by_cases e1:bf=1
   ·exact .inr (.inl ⟨by simpa using e0,by simpa using e1,by simp;intro h;exact h13 ⟨e1,h⟩⟩)
   ·exact .inr (.inr ⟨by simpa using e0,by simpa using e1⟩)
 clear h01 h13;by_cases t3:dst=3∧went=false
 ·obtain ⟨rfl,rfl⟩:=t3;obtain rfl:bf=0:=by
   by_cases e:bf=0
   ·exact e
   ·have:=HS0.out e;omega
  obtain rfl:af=0:=by
   by_cases e:af=0
   ·exact e
   ·have:=HS1.out e;omega
  clear hbf;go_wp2_with (fail);refine wro (fun W=>W.cell? ⟨n0,3,none⟩=some (.int .i64 id)∧W.cell? ⟨q.b,3,none⟩=some (.pointer (some ⟨q.bs,0,none⟩))∧q.b<W.heap.size) [(0,.f),(1,.f),(2,.f),(3,.s),(5,.f),(6,.f),(4,.e),(7,.e),(8,.f),(9,.f),(10,.f),(11,.f),(12,.f),(13,.f),(14,.f)] ⟨x3,c2,hlb⟩ ?_;repeat (first
   |(refine vg rfl rfl ?_;apply ex2;intro w' hw';obtain ⟨x3',c2',hlb'⟩:=hw';go_simp;rfl;go_simp)
   |(refine vs_ rfl (fun K hK=>?_);go_simp;refine hK _ ?_;clear hK K)
   |(refine ve rfl rfl ?_;go_wp2_with (go_at_call 83;refine (parc_on H4.out.drew).mono ?_;rintro e w' ⟨bp,rfl,rfl,hpc⟩;have HPC:=zk hpc;clear hpc);refine ⟨⟨x3,c2,hlb⟩,?_⟩;go_simp)
   |(refine ve rfl rfl ?_;go_wp2_with (go_at_call 84;refine (HPC.out _ (Below.refl _ _) id).mono ?_;rintro e w5 ⟨⟨px,py,rfl⟩,h5⟩;have H5:=zk h5;clear h5);refine ⟨⟨H5.out.cell 13 3 rfl rfl,H5.out.cell 0 3 rfl rfl,H5.out.lt 0 rfl⟩,?_⟩;go_simp))
  refine vn ?_;go_simp;generalize phas G.s.l id=goes at *;clear HPC x0 x1 x2 x3 x4 x5 x6 xf hlx c2 c7 hlb;obtain ⟨x0,x1,x2,x3,x4,x5,x6,xf⟩:=H5.out.cB7 13 rfl;have hlx:=H5.out.lt 13 rfl;have HA:As ((16,0)∈actsAll):=⟨by decide⟩;cases goes
  ·go_wp2_with (fail);go_end0;exact ⟨rfl,H5.out.unbox⟩
  ·go_wp2_with (go_at_call 85;refine (happens_ok H5.out id 16 0 hi0 hi1 HA.out).mono ?_;rintro e w6 ⟨rfl,h6⟩;have H6:=zk h6;clear h6);go_end0;exact ⟨rfl,H6.out.unbox⟩
 ·have h3w:((dst==3)=false)∨((dst==3)=true∧went=true):=by
   by_cases e:dst=3
   ·exact .inr ⟨by simpa using e,by cases went;exact absurd ⟨e,rfl⟩ t3;rfl⟩
   ·exact .inl (by simpa using e)
  clear t3;rcases hbf with ⟨e1,e2,e3⟩|⟨e1,e2,e3⟩|⟨e1,e2⟩;all_goals
   rcases h3w with e5|⟨e5,rfl⟩;all_goals
    go_wp2_with (fail);go_end0;exact ⟨rfl,H4.out.unbox⟩
end
abbrev FactsE (w0:World) (L:List SA) (e:Ending) (w':World):Prop:=∃(o:Od) (f:Facts) (p1:Option Addr) (n1 k1:Nat) (p2:Option Addr) (n2 k2:Nat) (p3:Option Addr) (n3 k3:Nat) (ok:Bool),e=.returned (.tuple #[o.val (.slice p1 n1 k1),f.val (.slice p2 n2 k2) (.slice p3 n3 k3),.bool ok])∧Heap w0 L w'
theorem cfacts_any {w0 w:World} {b bj:Nat} {A:Int→Nat} {c:Chief} {R:List SA} (h:Heap w0 (.cha b bj A c::R) w) (id:Int) (h0:1≤id) (h1:id≤999):
 Calls Tryz.prog 31 #[.pointer (some ⟨b,0,none⟩),.int .i64 id] w (FactsE w0 (.cha b bj A c::R)):=by
 cases hx:mget c.l id with
 |none=>
  refine (cfacts_none h h0 h1 hx).mono ?_;rintro e w' ⟨rfl,h2⟩;exact ⟨_,_,none,0,0,none,0,0,none,0,0,false,rfl,h2⟩
 |some x=>
  refine (cfacts_some h hx).mono ?_;rintro e w' ⟨vs,vd,vu,rfl, -,h2⟩;obtain ⟨p3,k3,rfl⟩:=vS2 (h2.row 0 rfl);obtain ⟨p2,k2,rfl⟩:=vS2 (h2.row 1 rfl);obtain ⟨p1,k1,rfl⟩:=vS2 (h2.row 2 rfl);exact ⟨_,_,_,_,_,_,_,_,_,_,_,true,rfl,h2.drop.drop.drop⟩
theorem facts_on {w0 w:World} {q:HA} {H:Harb} {R:List SA} (h:Heap w0 (H.on q R) w) (id:Int) (h0:1≤id) (h1:id≤999):
 Calls Tryz.prog 31 #[.pointer (some ⟨q.bc,0,none⟩),.int .i64 id] w (FactsE w0 (H.on q R)):=by
 obtain ⟨bj,A,h2⟩:=(h.frt 2 rfl).cha_of;refine (cfacts_any h2 id h0 h1).mono ?_;rintro e w' ⟨o,f,p1,n1,k1,p2,n2,k2,p3,n3,k3,ok,rfl,h3⟩;have h4:=Heap.cha_to (bj:=bj) (A:=A) h3;exact ⟨o,f,p1,n1,k1,p2,n2,k2,p3,n3,k3,ok,rfl,h4.sel (p:= [_,_,_,_,_,_,_,_,_,_,_,_,_]) [1,2,0,3,4,5,6,7,8,9,10,11,12] 13 rfl (by decide)⟩
theorem Heap.boxed2 {w0 w:World} {q:HA} {H:Harb} {R:List SA} {X Y:SA} (h:Heap w0 (X::Y::H.on q R) w):Heap w0 (H.on q (X::Y::R)) w:=h.sel (p:= [_,_,_,_,_,_,_,_,_,_,_,_,_,_,_]) [2,3,4,5,6,7,8,9,10,11,12,13,14,0,1] 15 rfl (by decide)
theorem decides_ok (w0:World) (q:HA):Decides w0 q:=by
 intro H R w id h h0 h1;have HH:=zk h;have HFA:=zk (facts_on h id h0 h1);clear h;go_enter Tryz.func63,Tryz.ntmps63;go_wp2_with (go_at_call 52;refine (hchief_ok HH.out).mono ?_;rintro e w' ⟨rfl,rfl⟩);refine HFA.out.mono ?_;rintro e w1 ⟨o,⟨fd,fu,asked,yes,turned,a0,a1,sh,d0,d1,ac⟩,p1,n1,k1,p2,n2,k2,p3,n3,k3,ok,rfl,h1'⟩;have H2:=zk (Heap.nAt (n:=w1.heap.size+1) (h1'.new (.cells #[.int .i64 o.id,.int .i64 o.item,.int .i64 o.qty,.int .i64 o.client,.int .i64 o.price,.slice p1 n1 k1] 32)) (.cells #[.slice p2 n2 k2,.slice p3 n3 k3,.bool asked,.bool yes,.bool turned,.bool a0,.bool a1,.bool sh,.bool d0,.bool d1,.bool ac] 80) (by simp)).boxed2;clear h1' HFA HH;obtain ⟨r0,r1,r2,r3,r4,r5,r6,r7,r8,r9,r10,rf⟩:=H2.out.cA1 13 rfl;have hl2:=H2.out.lt 13 rfl;have HA13:As ((13,0)∈actsAll):=⟨by decide⟩;have HA14:As ((14,0)∈actsAll):=⟨by decide⟩;unfold Od.val Facts.val;simp only;cases yes<;>cases turned
 ·go_wp2_with (fail);go_end0;exact ⟨rfl,H2.out.unbox.unbox⟩
 ·skip;go_wp2_with (go_at_call 85;refine (happens_ok H2.out id 14 0 h0 h1 HA14.out).mono ?_;rintro e w3 ⟨rfl,h3⟩;have H3:=zk h3;clear h3);go_end0;exact ⟨rfl,H3.out.unbox.unbox⟩
 ·go_wp2_with (go_at_call 85;refine (happens_ok H2.out id 13 0 h0 h1 HA13.out).mono ?_;rintro e w3 ⟨rfl,h3⟩;clear r0 r1 r2 r3 r4 r5 r6 r7 r8 r9 r10 rf hl2;obtain ⟨r0,r1,r2,r3,r4,r5,r6,r7,r8,r9,r10,rf⟩:=h3.cA1 13 rfl;have hl3:=h3.lt 13 rfl;have H3:=zk h3;clear h3 H2;generalize hn1:w1.heap.size+1=n1 at *;generalize w1.heap.size=n0 at *;clear hn1);go_end0;exact ⟨rfl,H3.out.unbox.unbox⟩
 ·go_wp2_with (first
   |(go_at_call 85;refine (happens_ok H2.out id 13 0 h0 h1 HA13.out).mono ?_;rintro e w3 ⟨rfl,h3⟩;clear r0 r1 r2 r3 r4 r5 r6 r7 r8 r9 r10 rf hl2;obtain ⟨r0,r1,r2,r3,r4,r5,r6,r7,r8,r9,r10,rf⟩:=h3.cA1 13 rfl;have hl3:=h3.lt 13 rfl;have H3:=zk h3;clear h3 H2;generalize hn1:w1.heap.size+1=n1 at *;generalize w1.heap.size=n0 at *;clear hn1)
   |(go_at_call 85;refine (happens_ok H3.out id 14 0 h0 h1 HA14.out).mono ?_;rintro e w4 ⟨rfl,h4⟩;have H4:=zk h4;clear h4))
  go_end0;exact ⟨rfl,H4.out.unbox.unbox⟩
def u64 (x:Int):Int:=x%18446744073709551616
structure Deed where
 dO:Int
 i:Int
 torn:Int
 o:Od
 yes:Bool
def smallStep (o:Od) (k:Nat):List Sp:=match o.steps[k]? with
 |some s=>if s.n%4=0 then [] else [⟨4+((k:Int)+u64 o.item%3)%3,1+u64 s.n%4⟩]
 |none=> []
def small (o:Od):Od:=⟨tid o.id,u64 o.item%3,1+u64 o.qty%9,u64 o.client%3,1+u64 o.price%50,smallStep o 0++smallStep o 1++smallStep o 2⟩
def Od.none:Od:=⟨0,0,0,0,0,[]⟩
def Harb.pick (H:Harb) (i:Int):Int:=if H.p.l.length=0 then 0 else u64 i%(H.p.l.length:Int)
def Harb.cmd (H:Harb) (d:Deed) (force:Bool):Cmd:=
 if u64 d.dO%14=0 then ⟨1,0,0,0,false,small d.o⟩ else
 if u64 d.dO%14=1 then ⟨2,0,tid d.i,0,false,Od.none⟩ else
 if u64 d.dO%14=2 then (if force=true then ⟨3,1+u64 d.torn%2,tid d.i,0,d.yes,Od.none⟩ else ⟨5,0,0,H.pick d.i,false,Od.none⟩) else
 if u64 d.dO%14=3 then ⟨6,0,0,H.pick d.i,false,Od.none⟩ else
 if u64 d.dO%14=4 then ⟨7,0,0,H.pick d.i,false,Od.none⟩ else
 if u64 d.dO%14=5 then ⟨8,0,tid d.i,0,false,Od.none⟩ else
 if u64 d.dO%14=6 then ⟨8,1+u64 d.torn%2,tid d.i,0,false,Od.none⟩ else
 if u64 d.dO%14=7 then ⟨9,u64 d.i%7,d.torn,u64 d.torn%4,false,Od.none⟩ else
 if u64 d.dO%14=8∨u64 d.dO%14=9 then ⟨10,u64 d.i%7,0,0,false,Od.none⟩ else ⟨5,0,0,H.pick d.i,false,Od.none⟩
theorem smallStep_mem {o:Od} {k:Nat} {p:Sp} (h:p∈smallStep o k):p.svc=4+((k:Int)+u64 o.item%3)%3∧0<p.n∧p.n≤4:=by
 unfold smallStep at h;split at h
 ·split at h
  ·cases h
  ·rw [List.mem_singleton] at h;subst h;refine ⟨rfl,?_,?_⟩<;>simp only [u64]<;>omega
 ·cases h
theorem smallStep_len (o:Od) (k:Nat):(smallStep o k).length≤1:=by
 unfold smallStep;split
 ·split<;>simp
 ·simp
theorem smallStep_nd (o:Od) (k:Nat):((smallStep o k).map Sp.svc).Nodup:=by
 unfold smallStep;split
 ·split<;>simp
 ·simp
theorem small_ok (o:Od):(small o).ok:=by
 have t:=tid_in o.id;refine ⟨t.1,by show tid o.id≤999;omega,?_,?_,?_,?_,?_,?_,?_,?_,?_,fun p hp=>?_,?_⟩
 ·show 0≤u64 o.item%3;omega
 ·show u64 o.item%3≤7;omega
 ·show 0≤u64 o.client%3;omega
 ·show u64 o.client%3≤7;omega
 ·show 0<1+u64 o.qty%9;omega
 ·show 1+u64 o.qty%9≤1000000000;omega
 ·show 0<1+u64 o.price%50;omega
 ·show 1+u64 o.price%50≤1000000000;omega
 ·show (smallStep o 0++smallStep o 1++smallStep o 2).length≤3
  have h0:=smallStep_len o 0;have h1:=smallStep_len o 1;have h2:=smallStep_len o 2;simp only [List.length_append];omega
 ·have:p∈smallStep o 0++smallStep o 1++smallStep o 2:=hp;simp only [List.mem_append] at this;rcases this with (h|h)|h<;>have:=smallStep_mem h<;>omega
 ·show ((smallStep o 0++smallStep o 1++smallStep o 2).map Sp.svc).Nodup
  rw [List.map_append,List.map_append];have hm:∀(k:Nat) (s:Int),s∈(smallStep o k).map Sp.svc→s=4+((k:Int)+u64 o.item%3)%3:=by
   intro k s hs;obtain ⟨p,hp,rfl⟩:=List.mem_map.1 hs;exact (smallStep_mem hp).1
  refine List.nodup_append.2 ⟨List.nodup_append.2 ⟨smallStep_nd o 0,smallStep_nd o 1,fun a ha b hb=>?_⟩,smallStep_nd o 2,fun a ha b hb=>?_⟩
  ·have h1:=hm 0 a ha;have h2:=hm 1 b hb;omega
  ·have h2:=hm 2 b hb;rcases List.mem_append.1 ha with ha|ha
   ·have h1:=hm 0 a ha;omega
   ·have h1:=hm 1 a ha;omega
theorem cmd_ok (H:Harb) (d:Deed) (force:Bool):(H.cmd d force).ok:=by
 have t:=tid_in d.i;refine ⟨?_⟩;unfold Harb.cmd;split
 ·exact .inl ⟨rfl,small_ok _⟩
 split
 ·exact .inr (.inl ⟨.inl rfl,t.1,by show tid d.i≤999;omega⟩)
 split
 ·split
  ·exact .inr (.inl ⟨.inr (.inl ⟨rfl,by show 1+u64 d.torn%2=1∨1+u64 d.torn%2=2;omega⟩),t.1,by show tid d.i≤999;omega⟩)
  ·exact .inr (.inr (.inl rfl))
 split
 ·exact .inr (.inr (.inr (.inl rfl)))
 split
 ·exact .inr (.inr (.inr (.inr (.inl rfl))))
 split
 ·exact .inr (.inl ⟨.inr (.inr ⟨rfl,.inl rfl⟩),t.1,by show tid d.i≤999;omega⟩)
 split
 ·exact .inr (.inl ⟨.inr (.inr ⟨rfl,by show 1+u64 d.torn%2=0∨1+u64 d.torn%2=1∨1+u64 d.torn%2=2;omega⟩),t.1,by show tid d.i≤999;omega⟩)
 split
 ·exact .inr (.inr (.inr (.inr (.inr ⟨.inl rfl,by show 0≤u64 d.i%7;omega,by show u64 d.i%7<7;omega⟩))))
 split
 ·exact .inr (.inr (.inr (.inr (.inr ⟨.inr rfl,by show 0≤u64 d.i%7;omega,by show u64 d.i%7<7;omega⟩))))
 ·exact .inr (.inr (.inl rfl))
def Harb.init (tries:Int):Harb:=⟨⟨5,4096,tries,⟨4096,[],0,false⟩,0,[],⟨tries,[]⟩⟩,⟨1,⟨4096,[],0,false⟩,initB 1,[]⟩,⟨2,⟨4096,[],0,false⟩,initB 2,[]⟩,⟨⟨4096,[],0,false⟩,[]⟩,
 ⟨4,9,⟨4096,[],0,false⟩,⟨9,[]⟩,[]⟩,⟨5,30,⟨4096,[],0,false⟩,⟨30,[]⟩,[]⟩,⟨6,4,⟨4096,[],0,false⟩,⟨4,[]⟩,[]⟩,⟨256,[],0⟩⟩
theorem init_fine {tries:Int} (h0:1≤tries) (h1:tries≤20):Fine (Harb.init tries):=by
 refine ⟨⟨⟨KeysOk.nil,by simp [Harb.init],KeysOk.nil,h0,h1,by simp [Harb.init],by simp [Harb.init],by simp [Harb.init]⟩,rfl,by simp [Harb.init],trivial,fun _=>⟨Alike.refl _,rfl⟩,fun id x _ hx=>(by cases hx),fun id x hx=>(by cases hx)⟩,⟨rfl,by simp [Harb.init]⟩,⟨rfl,by simp [Harb.init]⟩,⟨by simp [Harb.init],by simp [Harb.init],by simp [Harb.init]⟩,⟨rfl,by simp [Harb.init]⟩,⟨rfl,by simp [Harb.init]⟩,⟨rfl,by simp [Harb.init]⟩,by simp [Harb.init]⟩
def awakeO:Od:=⟨3,1,6,0,1,[]⟩
def awakeH:Harb:=(Harb.settle 60 ((Harb.init 3).act ⟨1,0,0,0,false,awakeO⟩).2).2
end Go.Proofs.YtlnghlamnehfjaaGreatDoor.S
