/- Part Q31. -/
import Derived.Test.YtlnghlamnehfjaaGreatDoorQ12
import Derived.Test.YtlnghlamnehfjaaGreatDoorQ30
import Derived.LoopIn
import Derived.LoopNIn
import Derived.RegionIn
import Derived.TacticsInMore
set_option linter.unusedVariables false
set_option linter.unusedSimpArgs false
set_option maxRecDepth 100000
set_option maxHeartbeats 64000000
namespace Go.Proofs.YtlnghlamnehfjaaGreatDoor.S
open Go.RowKit Go.Maps
theorem QDf {P:Prop} (h:P:=by
 gi_wp2
 refine HR.1.mono ?_;rintro en W4 (⟨rfl,h4⟩|⟨rfl,h4⟩)
 ·have H4:=zk h4;clear h4
  gi_wp2
  refine ⟨⟨k+1,by congr 1;have:=HM.1.2.1;omega,by have:=HM.1.2.2;omega,H4⟩,?_⟩;simp [intOf]
 ·have H4:=zk h4;clear h4
  gi_wp2
  refine bodyPost_ret (results_none rfl _ _ _) rfl ⟨⟨_,rfl⟩,.inr ⟨k,by rw [Jq];exact HM.1.2.2,H4.1⟩⟩):P:=h
theorem QDr {P:Prop} (h:P:=by
 obtain rfl:k=l.length:=by omega
 have hm1:(l.length:Int)-1-l.length= -1:=by omega
 rw [hm1]
 gi_wp2
 go_end0;exact ⟨⟨_,rfl⟩,.inl (by rw [Jq];exact H1.1)⟩):P:=h
def Tq (n:Nat):List Nat:=(List.range n).reverse
theorem Qgy {n k i:Nat} (h:(Tq n)[k]? =some i):k<n∧i=n-1-k:=by
 obtain ⟨hk,h1⟩:=List.getElem?_eq_some_iff.1 h;simp [Tq] at hk h1;exact ⟨hk,by omega⟩
theorem Qla {n k:Nat} (h:k<n):(Tq n)[k]? =some (n-1-k):=by
 rw [List.getElem?_eq_some_iff];exact ⟨by simpa [Tq] using h,by simp [Tq]⟩
theorem Jq (n:Nat):(Tq n).length=n:=by simp [Tq]
def Qva (l:List Bool) (i:Nat):Array Value:= #[.int .i64 (i:Int),.bool (l.getD i false)]
theorem Qkm (w:World) (bx:Nat) (v:Value) (l:List Bool) (hr:w.ownsRow 0 4 1 v l.length (bools l)) (hl:l.length≤1000):
 Uu w 291 #[bx] [.pts bx (.cells #[v] 77)] (Tq l.length) (Qva l):=by
 intro n y J Jx R W hY h;have HY:=zk hY;have H:=zk h;obtain ⟨d0,df0⟩:=h.cB1 1 rfl;obtain ⟨a,cap,rfl,hcap⟩:=ZY hr (by simp);have HC:As (∀j,(h:j<l.length)→∃g,a=some ⟨g,0,none⟩∧w.cell? ⟨g,j,none⟩=some (.bool (l.getD j false))):=⟨fun j h=>by
  obtain ⟨g,h1,h2⟩:=hcap j (by simpa using h);exact ⟨g,h1,by rw [h2];simp [h]⟩⟩
 clear h hY hr hcap;have hdp:Fence.wide.depth=none:=rfl;have hwf:∀f,Fence.wide.fn f=True:=fun _=>rfl;refine callsIn_of_wp Tryz.func291 rfl trivial ?_ rfl;simp only [Tryz.ntmps291,List.size_toArray,List.length_cons,List.length_nil,Nat.reduceAdd,Nat.reduceSub,Array.replicate_succ,Array.replicate_zero,List.push_toArray,List.append_toArray,List.nil_append,List.cons_append]
 gi_wp2
 gi_loopw [3] (fun p wr=>∃k:Nat,p=.int .i64 ((l.length:Int)-1-k)∧k≤l.length∧As (Heap w (J k::.pts bx (.cells #[.slice a l.length cap] 77)::R) wr)) (fun p wr=>(intOf p+1).toNat)
 case atStart=>exact ⟨0,by simp,by omega,H⟩
 case round=>
  obtain ⟨k,rfl,hk,H1⟩:=hrel;clear d0 df0;obtain ⟨d0,df0⟩:=H1.1.cB1 1 rfl;by_cases hlt:k<l.length;obtain ⟨m,hm⟩:∃m:Nat,m=l.length-1-k:=⟨_,rfl⟩;have hm1:(l.length:Int)-1-k=(m:Int):=by omega
  have hml:m<l.length:=by omega
  obtain ⟨g,rfl,hc⟩:=HC.1 m hml;have hcw:wr.cell? ⟨g,m,none⟩=some (.bool (l.getD m false)):=(H1.1.bel.cell (p:=⟨g,m,none⟩) (World.block_lt_of_cell? w _ hc)).trans hc;obtain ⟨fn,tmps,assign,body,hy,hR⟩:=HY.1 k m (by rw [hm];exact Qla hlt) _ _ H1.1;have HR:=zk hR;have hml1:(m:Int)<(l.length:Int):=by omega
  have hm0:(0:Int)≤(m:Int):=by omega
  have HM:=zk (And.intro hm (And.intro hm1 hlt));rw [hm1];simp only [Qva] at hy;generalize l.getD m false=b at *;clear hR hc hm;exact QDf;exact QDr
def encS (l:List Sp) (i:Nat):Array Value:= #[.int .i64 (i:Int),.agg #[.int .i64 (l.getD i ⟨0,0⟩).svc,.int .i64 (l.getD i ⟨0,0⟩).n]]
theorem Qkp (w:World) (bx:Nat) (v:Value) (l:List Sp) (hr:w.ownsRow 0 131 2 v l.length (Qs l)) (hl:l.length≤1000):
 Uu w 186 #[bx] [.pts bx (.cells #[v] 30)] (Tq l.length) (encS l):=by
 intro n y J Jx R W hY h;have HY:=zk hY;have H:=zk h;obtain ⟨d0,df0⟩:=h.cB1 1 rfl;obtain ⟨a,cap,hv⟩:=vS2 hr;have HC:As (∀j,(h:j<l.length)→∃g,a=some ⟨g,0,none⟩∧w.cell? ⟨g,j*2,none⟩=some (.int .i64 (l.getD j ⟨0,0⟩).svc)∧w.cell? ⟨g,j*2+1,none⟩=some (.int .i64 (l.getD j ⟨0,0⟩).n)):=⟨fun j h=>by
  rcases hr.2 with ⟨h1,h2⟩|⟨g,cap,cur,h1,_⟩;omega
  ·have hc:∀i u,(Qs l)[i]? =some u→w.cell? ⟨g,i,none⟩=some u:=fun i u hu=>by
    have:=hr.cells (g:=g) (by rw [h1];rfl) i u hu
    rwa [addr_add] at this
   rw [hv] at h1;cases h1;refine ⟨g,rfl,?_,?_⟩;rw [List.getD_eq_getElem?_getD,List.getElem?_eq_getElem h];exact hc _ _ (Xb l j 0 h (by omega));rw [List.getD_eq_getElem?_getD,List.getElem?_eq_getElem h];exact hc _ _ (Xb l j 1 h (by omega))⟩
 subst hv;clear h hY hr;have hdp:Fence.wide.depth=none:=rfl;have hwf:∀f,Fence.wide.fn f=True:=fun _=>rfl;refine callsIn_of_wp Tryz.func186 rfl trivial ?_ rfl;simp only [Tryz.ntmps186,List.size_toArray,List.length_cons,List.length_nil,Nat.reduceAdd,Nat.reduceSub,Array.replicate_succ,Array.replicate_zero,List.push_toArray,List.append_toArray,List.nil_append,List.cons_append]
 gi_wp2
 gi_loopw [3] (fun p wr=>∃k:Nat,p=.int .i64 ((l.length:Int)-1-k)∧k≤l.length∧As (Heap w (J k::.pts bx (.cells #[.slice a l.length cap] 30)::R) wr)) (fun p wr=>(intOf p+1).toNat)
 case atStart=>exact ⟨0,by simp,by omega,H⟩
 case round=>
  obtain ⟨k,rfl,hk,H1⟩:=hrel;clear d0 df0;obtain ⟨d0,df0⟩:=H1.1.cB1 1 rfl;by_cases hlt:k<l.length;obtain ⟨m,hm⟩:∃m:Nat,m=l.length-1-k:=⟨_,rfl⟩;have hm1:(l.length:Int)-1-k=(m:Int):=by omega
  have hml:m<l.length:=by omega
  obtain ⟨g,rfl,hc,hc1⟩:=HC.1 m hml;have hcw:wr.cell? ⟨g,m*2,none⟩=some (.int .i64 (l.getD m ⟨0,0⟩).svc):=(H1.1.bel.cell (p:=⟨g,m*2,none⟩) (World.block_lt_of_cell? w _ hc)).trans hc;have hcw1:wr.cell? ⟨g,m*2+1,none⟩=some (.int .i64 (l.getD m ⟨0,0⟩).n):=(H1.1.bel.cell (p:=⟨g,m*2+1,none⟩) (World.block_lt_of_cell? w _ hc1)).trans hc1;obtain ⟨fn,tmps,assign,body,hy,hR⟩:=HY.1 k m (by rw [hm];exact Qla hlt) _ _ H1.1;have HR:=zk hR;have hml1:(m:Int)<(l.length:Int):=by omega
  have hm0:(0:Int)≤(m:Int):=by omega
  have HM:=zk (And.intro hm (And.intro hm1 hlt));rw [hm1];simp only [encS] at hy;generalize l.getD m ⟨0,0⟩=b at *;clear hR hc hc1 hm;exact QDf;exact QDr
end Go.Proofs.YtlnghlamnehfjaaGreatDoor.S
namespace Go.Proofs.YtlnghlamnehfjaaGreatDoor.S
open Go.RowKit Go.Maps
attribute [local go_sem] Oper.semAt_some
theorem Qi8 {w0 w:World} {R:List SA} (h:Heap w0 R w) (a:Option Addr) (m c:Nat):Calls Tryz.prog 290 #[.slice a m c] w fun e w'=>∃bx,e=.returned (.func (.func 291) #[] #[.pointer (some ⟨bx,0,none⟩)])∧Heap w0 (.pts bx (.cells #[.slice a m c] 77)::R) w':=by
 have H:=zk h;clear h;go_enter Tryz.func290,Tryz.ntmps290;go_wp2;go_ret;exact ⟨_,rfl,Heap.nAt (n:=w.heap.size) H.1 _ rfl⟩
theorem Qiq {w0 w:World} {R:List SA} (h:Heap w0 R w) (a:Option Addr) (m c:Nat):Calls Tryz.prog 179 #[.slice a m c] w fun e w'=>∃bx,e=.returned (.func (.func 186) #[] #[.pointer (some ⟨bx,0,none⟩)])∧Heap w0 (.pts bx (.cells #[.slice a m c] 30)::R) w':=by
 have H:=zk h;clear h;go_enter Tryz.func179,Tryz.ntmps179;go_wp2;go_ret;exact ⟨_,rfl,Heap.nAt (n:=w.heap.size) H.1 _ rfl⟩
def VK (l:List Bool) (k:Nat):Prop:=∀j,j<k→l.getD (l.length-1-j) false=true
theorem Qc4 {l:List Bool} {k:Nat} (hk:k<l.length) (h1:VK l k) (h2:l.getD (l.length-1-k) false=false):QF l=(l.length:Int)-1-k:=by
 have:l.reverse.findIdx? (fun b=>!b)=some k:=by
  rw [List.findIdx?_eq_some_iff_getElem];refine ⟨by simpa using hk,?_,fun j hj=>?_⟩;rw [List.getElem_reverse];rw [List.getD_eq_getElem?_getD,List.getElem?_eq_getElem (by omega)] at h2;simpa using h2;have:=h1 j hj;rw [List.getElem_reverse];rw [List.getD_eq_getElem?_getD,List.getElem?_eq_getElem (by omega)] at this;simpa using this
 simp [QF,this]
theorem Tt {l:List Bool} (h1:VK l l.length):l.reverse.findIdx? (fun b=>!b)=none:=by
 rw [List.findIdx?_eq_none_iff];intro x hx;obtain ⟨j,hj,rfl⟩:=List.getElem_of_mem hx;have hj':j<l.length:=by simpa using hj
 have:=h1 j hj';rw [List.getElem_reverse];rw [List.getD_eq_getElem?_getD,List.getElem?_eq_getElem (by omega)] at this;simpa using this
theorem Qhu (l:List Bool) (v:Value) (w:World) (hg:Good w) (hr:w.ownsRow 0 4 1 v l.length (bools l)) (hl:l.length≤1000):
 Calls Tryz.prog 286 #[v] w fun e w'=>e=.returned (.int .i64 (QF l))∧Below w.heap.size w w':=by
 have H:=zk (Heap.new (Heap.start hg) (.cells #[.int .i64 (-1)] 3));have HG:=zk (fun bx=>Qkm w bx v l hr hl);obtain ⟨a,cap,rfl⟩:=Qh3 hr;clear hr hg;refine cmk Tryz.func286 rfl ?_;simp only [Tryz.ntmps286,List.size_toArray,List.length_cons,List.length_nil,Nat.reduceAdd,Nat.reduceSub,Array.replicate_succ,Array.replicate_zero,List.push_toArray,List.append_toArray,List.nil_append,List.cons_append];go_wp2;go_step3;go_wp2;go_step3;go_wp2_with (go_at_call 290;refine (Qi8 H.1 _ _ _).mono ?_;rintro en w1 ⟨bx,rfl,h1⟩;have H1:=zk h1;clear h1);refine Vb rfl (enters_of Tryz.func291 (by kernel_rfl) rfl) [.pts bx (.cells #[.slice a l.length cap] 77)] [] (Tq l.length) (Qva l) (fun _=>rfl) (HG.1 bx) (.exit 0)
  (fun k=>.when (VK l k) (.pts w.heap.size (.cells #[.int .i64 (-1)] 3))) (fun k=>.when (QF l=(l.length:Int)-1-k) (.pts w.heap.size (.cells #[.int .i64 (QF l)] 3))) ?h0 [(4,0),(5,1)] ?assign ?body ?done ?stop
 case h0=>exact Heap.QZ (fun j hj=>by omega) (H1.1.frt 1 rfl)
 case assign=>
  intro y x W K hK;simp only [Qva] at hK⊢;generalize l.getD x false=b at *;simp [QC] at hK;simp only [QC]
  gi_wp2
  exact hK
 case body=>
  intro y k x X W hk h;obtain ⟨hall,h⟩:=h.QT;obtain ⟨hkl,rfl⟩:=Qgy hk;obtain ⟨c0,cf⟩:=h.cB1 0 rfl;have hlb:=h.lt 0 rfl;have HA:=zk hall;have H2:=zk h;have HS:=zk (fun h2=>Qc4 hkl hall h2);have HN:As (l.getD (l.length-1-k) false=true→VK l (k+1)):=⟨fun h2 j hj=>by
   rcases Nat.lt_succ_iff_lt_or_eq.1 hj with h|rfl;exact hall j h;exact h2⟩
  have hm:((l.length-1-k:Nat):Int)=(l.length:Int)-1-k:=by omega
  have HM:=zk hm;simp only [QC,Qva];clear h hk hall;generalize l.getD (l.length-1-k) false=b at *;generalize hmm:l.length-1-k=m at *;cases b
  ·have HE:=zk (HS.1 rfl)
   gi_wp2
   refine ⟨rfl,Heap.QZ HE.1 ?_⟩;rw [HE.1,←HM.1];exact H2.1.sAt 0 0 _ rfl
  ·gi_wp2
   exact Heap.QZ (HN.1 (by first|rfl|trivial)) H2.1
 case done=>
  intro D W h;obtain ⟨hall,h⟩:=h.QT;obtain ⟨c0,cf⟩:=h.cB1 0 rfl;have H2:=zk h;have HE:As (QF l= -1):=⟨by rw [Jq] at hall;simp [QF,Tt hall]⟩;clear h hall;go_wp2;rw [Exit.noGoto_ret];refine ⟨by simp,.inl ⟨_,_,rfl,run_takeDeferred (H2.1.at 1 rfl),?_⟩⟩;exact ⟨_,results_tmp rfl _ _ _,by rw [HE.1];rfl,(H2.1.putAt 1 rfl _).bel⟩
 case stop=>
  intro D k W hk h;obtain ⟨he,h⟩:=h.QT;obtain ⟨c0,cf⟩:=h.cB1 0 rfl;have H2:=zk h;have HX:=zk he;clear h;go_wp2;rw [Exit.noGoto_ret];refine ⟨by simp,.inl ⟨_,_,rfl,run_takeDeferred (H2.1.at 1 rfl),?_⟩⟩;exact ⟨_,results_tmp rfl _ _ _,by rw [HX.1];rfl,(H2.1.putAt 1 rfl _).bel⟩
end Go.Proofs.YtlnghlamnehfjaaGreatDoor.S
namespace Go.Proofs.YtlnghlamnehfjaaGreatDoor.S
open Go.RowKit Go.Maps
attribute [local go_sem] Oper.semAt_some
theorem Qrh {o:Od} {f:Facts} {k:Nat} (hl:f.undone.length=o.steps.length) (hk:k<o.steps.length) (h1:VK f.undone k) (h2:f.undone.getD (o.steps.length-1-k) false=false):
 XX o f= [⟨4,0,(o.steps.getD (o.steps.length-1-k) ⟨0,0⟩).svc,o.id,((o.steps.length-1-k:Nat):Int),0,0⟩]:=by
 have:f.undone.reverse.findIdx? (fun b=>!b)=some k:=by
  rw [List.findIdx?_eq_some_iff_getElem];refine ⟨by simp;omega,?_,fun j hj=>?_⟩;rw [List.getElem_reverse];rw [←hl,List.getD_eq_getElem?_getD,List.getElem?_eq_getElem (by omega)] at h2;simpa using h2;have:=h1 j hj;rw [List.getElem_reverse];rw [List.getD_eq_getElem?_getD,List.getElem?_eq_getElem (by omega)] at this;simpa using this
 have hm:o.steps.length-1-k<o.steps.length:=by omega
 simp [XX,this,hl,hm]
theorem Qr6 {o:Od} {f:Facts} (h1:VK f.undone f.undone.length):XX o f= []:=by
 simp [XX,Tt h1]
theorem Qz8 (o:Od) (f:Facts) (v vd vu:Value) (w:World) (hg:Good w) (h:OFs w o f v vd vu):
 Calls Tryz.prog 163 #[o.val v,f.val vd vu] w fun e w'=>∃v',e=.returned v'∧Heap w [.slc v' 113 7 (XX o f).length (Qk (XX o f))] w':=by
 obtain ⟨-,l2, -⟩:=mpt h.may;have hl3:=h.ok.len;have H:=zk (Heap.nAt (n:=w.heap.size+1+1) (Heap.nAt (n:=w.heap.size+1) (Heap.new (Heap.start hg) (.cells (o.cells v) 32)) (.cells (f.cells vd vu) 80) (by simp)) (.cells #[.slice none 0 0] 84) (by simp));have HT:As (∀k to W,Good W→Calls Tryz.prog 164 #[.int .i64 k,.int .i64 to,o.val v] W fun e w'=>e=.returned (QO k to o).val∧Below W.heap.size W w'):=⟨fun k to W hg=>Qbn k to o v W hg⟩;have HG:=zk (fun bx=>Qkp w bx v o.steps h.steps (by omega));have HSM:=zk (fun k hk h1 h2=>@Qrh o f k l2 hk h1 h2);have HNO:=zk (@Qr6 o f);obtain ⟨av,cv,rfl⟩:=vS2 h.steps;obtain ⟨ad,cd,rfl⟩:=vS2 h.done;obtain ⟨au,cu,rfl⟩:=vS2 h.undone;have HU:As (∀j,j<o.steps.length→∃g,au=some ⟨g,0,none⟩∧w.cell? ⟨g,j,none⟩=some (.bool (f.undone.getD j false))):=⟨fun j hj=>by
  rcases h.undone.2 with ⟨_,h'⟩|⟨g,cap,cur,h1,_⟩;omega;have:=h.undone.cells (g:=g) (by rw [h1];rfl) j (.bool (f.undone.getD j false)) (by simp [l2,hj]);rw [addr_add] at this;cases h1;exact ⟨g,rfl,this⟩⟩
 have HL2:=zk l2;unfold Facts.val;simp only [Od.val,Facts.cells,Od.cells] at *;simp only [l2] at H HNO⊢;clear h hg l2;refine cmk Tryz.func163 rfl ?_;simp only [Tryz.ntmps163,List.size_toArray,List.length_cons,List.length_nil,Nat.reduceAdd,Nat.reduceSub,Array.replicate_succ,Array.replicate_zero,List.push_toArray,List.append_toArray,List.nil_append,List.cons_append];go_wp2;go_step3;go_wp2;go_step3;go_wp2_with (go_at_call 179;refine (Qiq H.1 _ _ _).mono ?_;rintro en w1 ⟨bx,rfl,h1⟩;have H1:=zk h1;clear h1);refine Qua rfl (enters_of Tryz.func186 (by kernel_rfl) rfl) [.pts bx (.cells #[.slice av o.steps.length cv] 30)] [] (Tq o.steps.length) (encS o.steps) (fun _=>rfl) (HG.1 bx) .ret
  (fun k=>.when (VK f.undone k) (.all [.pts (w.heap.size+1+1) (.cells #[.slice none 0 0] 84),.pts (w.heap.size+1) (.cells #[.slice ad f.done.length cd,.slice au o.steps.length cu,.bool f.asked,.bool f.yes,.bool f.turned,.bool f.ack0,.bool f.ack1,.bool f.shipped,.bool f.dam0,.bool f.dam1,.bool f.accepted] 80),.pts w.heap.size (.cells #[o.id,o.item,o.qty,o.client,o.price,.slice av o.steps.length cv] 32)]))
  (fun k=>.ex fun u=>.star (.pts (w.heap.size+1+1) (.cells #[u] 84)) (.slc u 113 7 (XX o f).length (Qk (XX o f)))) ?h0 [(5,0)] 6 (fun i=> #[.int .i64 (o.steps.getD i ⟨0,0⟩).svc,.int .i64 (o.steps.getD i ⟨0,0⟩).n]) 131 ?assign ?body ?done ?stop
 case h0=>
  refine Heap.QZ (fun j hj=>by omega) ?_;exact Heap.gather (l:= [_,_,_]) (((H1.1.frt 3 rfl).frt 3 rfl).frt 3 rfl)
 case assign=>
  intro y k x X W K hk h hK;simp only [encS] at hK⊢;generalize o.steps.getD x ⟨0,0⟩=p at *;have hK2:=hK _ _ (h.new (.cells #[p.svc,p.n] 131));clear hK h;simp [Qpj,QC] at hK2;simp only [QC]
  gi_wp2
  exact hK2
 case body=>
  intro y k x p X W hk h;obtain ⟨hkl,rfl⟩:=Qgy hk;obtain ⟨hall,h⟩:=(h.frt 1 rfl).QT;have h4:=Heap.spread (l:= [_,_,_]) h;obtain ⟨r0,rf⟩:=h4.cB1 0 rfl;have c0:=h4.cA1 1 rfl;have e0:=h4.cB6 2 rfl;have x0:=h4.cB2 3 rfl;have lb0:=h4.lt 0 rfl;have lb1:=h4.lt 1 rfl;have lb2:=h4.lt 2 rfl;have lb3:=h4.lt 3 rfl;have HS:=zk (fun h2=>HSM.1 k hkl hall h2);have HN:As (f.undone.getD (o.steps.length-1-k) false=true→VK f.undone (k+1)):=⟨fun h2 j hj=>by
   rcases Nat.lt_succ_iff_lt_or_eq.1 hj with h|rfl;exact hall j h;rw [HL2.1];exact h2⟩
  obtain ⟨g,rfl,hu⟩:=HU.1 (o.steps.length-1-k) (by omega);have b0:=World.block_lt_of_cell? w _ hu;have hu:W.cell? ⟨g,o.steps.length-1-k,none⟩=_:=(h4.bel.cell (p:=⟨g,o.steps.length-1-k,none⟩) b0).trans hu;have b0:g<W.heap.size:=Nat.lt_of_lt_of_le b0 h4.size;have hm:((o.steps.length-1-k:Nat):Int)=(o.steps.length:Int)-1-k:=by omega
  have hml:((o.steps.length-1-k:Nat):Int)<(o.steps.length:Int):=by omega
  have HM:=zk hm;have H4:=zk h4;simp only [Qpj,QC,encS];clear h hk hall h4 hm hkl;generalize f.undone.getD (o.steps.length-1-k) false=b at *;generalize o.steps.length-1-k=m at *;generalize o.steps.getD m ⟨0,0⟩=s at *;cases b
  ·have HE:=zk (HS.1 rfl)
   gi_wp2_with (refine ⟨trivial,(CallsIn.inRound y (callsIn_wide.2 (HT.1 4 s.svc _ H4.1.tab))).mono ?_⟩;rintro e w3 ⟨rfl,hb⟩;simp only [Msg.val,QO];have h5:=H4.1.below hb;clear r0 rf c0 e0 x0 lb0 lb1 lb2 lb3 hu b0;obtain ⟨r0,rf⟩:=h5.cB1 0 rfl;have lb0:=h5.lt 0 rfl;have lb0b:=Nat.lt_of_succ_lt lb0;have H5:=zk h5;clear h5 hb)
   refine ⟨rfl,?_⟩;rw [HE.1];have h6:=Heap.nAt (n:=w3.heap.size+1) (Heap.nAt (n:=w3.heap.size) (H5.1.sAt 0 0 (.slice (some ⟨w3.heap.size+1,0,none⟩) 1 1) rfl) (.cells #[.int .i64 4,.int .i64 0,s.svc,o.id,.int .i64 (m:Int),.int .i64 0,.int .i64 0] 113) (by simp [World.setCell])) (.cells #[.int .i64 4,.int .i64 0,s.svc,o.id,.int .i64 (m:Int),.int .i64 0,.int .i64 0] 113) (by simp [World.setCell]);have h7:=(Heap.XJ (k:=1) (size:=7) h6 (by decide) rfl).frt 2 rfl;have h8:=Heap.Yr (f:=fun u=>SA.star (.pts (w.heap.size+1+1) (.cells #[u] 84)) (.slc u 113 7 1 (Qk [⟨4,0,s.svc,o.id,(m:Int),0,0⟩]))) (.slice (some ⟨w3.heap.size+1,0,none⟩) 1 1) h7.Xx;exact ((((h8.frt 1 rfl).drop.frt 1 rfl).drop.frt 1 rfl).drop.frt 1 rfl).drop
  ·gi_wp2
   refine Heap.QZ (HN.1 (by first|rfl|trivial)) ?_;exact Heap.gather (l:= [_,_,_]) ((H4.1.frt 3 rfl).drop)
 case done=>
  intro D W h;rw [Jq] at h;obtain ⟨hall,h⟩:=h.QT;have h4:=Heap.spread (l:= [_,_,_]) h;obtain ⟨r0,rf⟩:=h4.cB1 0 rfl;have lb0:=h4.lt 0 rfl;have HE:=zk (HNO.1 hall);have H4:=zk h4;clear h h4 hall;go_wp2;rw [Exit.noGoto_ret];have HZ:=(H4.1.sAt 0 0 (.slice none 0 0) rfl).putAt 3 rfl (.deferred none);refine ⟨by simp,.inl ⟨_,_,rfl,run_takeDeferred ((H4.1.sAt 0 0 (.slice none 0 0) rfl).at 3 rfl),?_⟩⟩;obtain ⟨z0,zf⟩:=HZ.cB1 0 rfl;refine ⟨.slice none 0 0,by simp [results,Tryz.results163,go_sem,z0],_,rfl,?_⟩;rw [HE.1];exact ((HZ.drop.drop.drop.drop.drop).nRw 113 7)
 case stop=>
  intro D k W hk h;obtain ⟨u,h⟩:=h.YL;have h:=h.XF;obtain ⟨r0,rf⟩:=h.cB1 0 rfl;have H4:=zk h;clear h;go_wp2;rw [Exit.noGoto_ret];have HZ:=H4.1.putAt 2 rfl (.deferred none);refine ⟨by simp,.inl ⟨_,_,rfl,run_takeDeferred (H4.1.at 2 rfl),?_⟩⟩;obtain ⟨z0,zf⟩:=HZ.cB1 0 rfl;refine ⟨u,by simp [results,Tryz.results163,go_sem,z0],u,rfl,?_⟩;exact ((HZ.drop.frt 1 rfl).drop.frt 1 rfl).drop
end Go.Proofs.YtlnghlamnehfjaaGreatDoor.S
namespace Go.Proofs.YtlnghlamnehfjaaGreatDoor.S
open Go.RowKit Go.Maps
theorem Qhe {w0 w:World} {R:List SA} (h:Heap w0 R w) (a:Option Addr) (m c:Nat):Calls Tryz.prog 54 #[.slice a m c] w fun e w'=>∃bx,e=.returned (.func (.func 87) #[] #[.pointer (some ⟨bx,0,none⟩)])∧Heap w0 (.pts bx (.cells #[.slice a m c] 53)::R) w':=by
 have H:=zk h;clear h;go_enter Tryz.func54,Tryz.ntmps54;go_wp2;go_ret;exact ⟨_,rfl,Heap.nAt (n:=w.heap.size) H.1 _ rfl⟩
def encI (x:Int):Array Value:= #[.int .i64 x]
theorem Qzr (w:World) (bx:Nat) (v:Value) (l:List Int) (hr:w.ownsRow 0 3 1 v l.length (l.map (Value.int .i64))) (hl:l.length≤100000):
 Uu w 87 #[bx] [.pts bx (.cells #[v] 53)] l encI:=by
 intro n y J Jx R W hY h;have HY:=zk hY;have H:=zk h;obtain ⟨d0,df0⟩:=h.cB1 1 rfl;obtain ⟨a,cap,rfl,hcap⟩:=ZY hr (by simp);have HC:As (∀j,(h:j<l.length)→∃g,a=some ⟨g,0,none⟩∧w.cell? ⟨g,j,none⟩=some (.int .i64 l[j])):=⟨fun j h=>by
  obtain ⟨g,h1,h2⟩:=hcap j (by simpa using h);exact ⟨g,h1,by rw [h2];simp⟩⟩
 clear h hY hr hcap;have hdp:Fence.wide.depth=none:=rfl;have hwf:∀f,Fence.wide.fn f=True:=fun _=>rfl;refine callsIn_of_wp Tryz.func87 rfl trivial ?_ rfl;simp only [Tryz.ntmps87,List.size_toArray,List.length_cons,List.length_nil,Nat.reduceAdd,Nat.reduceSub,Array.replicate_succ,Array.replicate_zero,List.push_toArray,List.append_toArray,List.nil_append,List.cons_append]
 gi_wp2
 gi_loopw [4,7] (fun q p wr=>∃k:Nat,p=.int .i64 (k:Int)∧k≤l.length∧As (Heap w (J k::.pts bx (.cells #[.slice a l.length cap] 53)::R) wr)) (fun q p wr=>l.length-(intOf p).toNat)
 case atStart=>exact ⟨0,by simp,by omega,H⟩
 case round=>
  obtain ⟨k,rfl,hk,H1⟩:=hrel;clear d0 df0;by_cases hlt:k<l.length
  ·obtain ⟨g,rfl,hc⟩:=HC.1 k hlt;have hcw:wr.cell? ⟨g,k,none⟩=some (.int .i64 l[k]):=(H1.1.bel.cell (p:=⟨g,k,none⟩) (World.block_lt_of_cell? w _ hc)).trans hc;obtain ⟨fn,tmps,assign,body,hy,hR⟩:=HY.1 k l[k] (List.getElem?_eq_getElem hlt) _ _ H1.1;have HR:=zk hR;have hml1:(k:Int)<(l.length:Int):=by omega
   have hm0:(0:Int)≤(k:Int):=by omega
   have HM:=zk hlt;simp only [encI] at hy;generalize l[k]=b at *;clear hR hc
   gi_wp2
   refine HR.1.mono ?_;rintro en W4 (⟨rfl,h4⟩|⟨rfl,h4⟩)
   ·have H4:=zk h4;clear h4
    gi_wp2
    refine ⟨⟨k+1,rfl,by omega,H4⟩,?_⟩;simp [intOf];omega
   ·have H4:=zk h4;clear h4
    gi_wp2
    refine bodyPost_ret (results_none rfl _ _ _) rfl ⟨⟨_,rfl⟩,.inr ⟨k,HM.1,H4.1⟩⟩
  ·obtain rfl:k=l.length:=by omega
   gi_wp2
   go_end0;exact ⟨⟨_,rfl⟩,.inl H1.1⟩
end Go.Proofs.YtlnghlamnehfjaaGreatDoor.S
