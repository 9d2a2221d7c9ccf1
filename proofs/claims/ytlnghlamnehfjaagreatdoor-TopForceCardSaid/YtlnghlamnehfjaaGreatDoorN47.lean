/- Contracts and plain laws of the program, part N47. -/
import Derived.Test.YtlnghlamnehfjaaGreatDoorN36
import Derived.Test.YtlnghlamnehfjaaGreatDoorN39
import Derived.Test.YtlnghlamnehfjaaGreatDoorN41
import Derived.Test.YtlnghlamnehfjaaGreatDoorN44
import Derived.Test.YtlnghlamnehfjaaGreatDoorN45
import Derived.Test.YtlnghlamnehfjaaGreatDoorN46
set_option linter.unusedVariables false
set_option linter.unusedSimpArgs false
set_option maxRecDepth 100000
set_option maxHeartbeats 64000000
namespace Go.Proofs.YtlnghlamnehfjaaGreatDoor.S
open Go.RowKit Go.Maps
attribute [local go_sem] Oper.semAt_some
def Keeper.wid (k:Keeper) (n:Nat):List Int:=((k.st.map (·.1)).take n).filter fun id=>decide (mgi k.st id=1)
theorem wid_succ (k:Keeper) {n:Nat} {id:Int} (h:(k.st.map (·.1))[n]? =some id):k.wid (n+1)=if mgi k.st id=1 then k.wid n++ [id] else k.wid n:=by
 obtain ⟨hk,rfl⟩:=List.getElem?_eq_some_iff.1 h;unfold Keeper.wid;rw [List.take_succ_eq_append_getElem hk,List.filter_append];split
 ·rename_i h1;rw [List.filter_cons_of_pos (by simpa using h1)];rfl
 ·rename_i h1;rw [List.filter_cons_of_neg (by simpa using h1)];simp
theorem mgi_mem {m:IM Int} (hk:KeysOk m) {p:Int×Int} (hp:p∈m):mgi m p.1=p.2:=by
 have h1:=hk.1;unfold mgi
 suffices h:mget m p.1=some p.2 by rw [h];rfl
 clear hk
 induction m with
 |nil=>cases hp
 |cons a r ih=>
  have h2:=List.pairwise_cons.1 h1;unfold mget;rcases List.mem_cons.1 hp with rfl|hp
  ·simp
  ·have hne:¬a.1=p.1:=by have:=h2.1 p hp;omega
   rw [List.find?_cons_of_neg (by simpa using hne)];exact ih hp h2.2
theorem wid_all {k:Keeper} (hk:KeysOk k.st):k.wid k.st.length=k.waits:=by
 unfold Keeper.wid Keeper.waits;rw [List.take_of_length_le (by simp),List.filter_map];congr 1;refine List.filter_congr (fun p hp=>?_);simp only [Function.comp_apply];rw [mgi_mem hk hp]
theorem wid_len (k:Keeper) (n:Nat):(k.wid n).length≤n:=by
 unfold Keeper.wid;exact Nat.le_trans (List.length_filter_le _ _) (by rw [List.length_take];omega)
section
variable {w0 w:World} {b:Nat} {k:Keeper} {R:List SA}
theorem Heap.kp_ok (h:Heap w0 (.keeper b k::R) w):k.ok:=by
 obtain ⟨bj,h⟩:=h.kpx_of;exact (h.open_kpx).1
theorem kstate_k (h:Heap w0 (.keeper b k::R) w) (id:Int) (h0:1≤id) (h1:id≤999):
 Calls Tryz.prog 17 #[.pointer (some ⟨b,0,none⟩),.int .i64 id] w fun e w'=>e=.returned (.int .i64 (mgi k.st id))∧w=w':=by
 obtain ⟨bj,h⟩:=h.kpx_of;exact kstate_ok h id (by omega) (by omega)
theorem waits_ok (h:Heap w0 (.keeper b k::R) w):
 Calls Tryz.prog 47 #[.pointer (some ⟨b,0,none⟩)] w fun e w'=>∃v,e=.returned v∧Heap w0 (.slc v 3 1 k.waits.length (k.waits.map (Value.int .i64))::.keeper b k::R) w':=by
 have hkk:=h.kp_ok.keys;have h3:=Heap.nAt (n:=w.heap.size+1) (h.new (.cells #[.pointer (some ⟨b,0,none⟩)] 40)) (.cells #[.slice none 0 0] 53) (by simp);have H1:=zk h3;have HLEN:As ((k.st.map (·.1)).length≤100000):=⟨by have:=hkk.len;simp only [List.length_map];omega⟩;have HKEY:As (∀i∈k.st.map (·.1),1≤i∧i≤999):=⟨fun i hi=>by
  obtain ⟨p,hp,rfl⟩:=List.mem_map.1 hi;exact hkk.2 p hp⟩
 have HKL:As (∀n,(k.wid n).length≤999):=⟨fun n=>by
  have h1:(k.wid n).length≤(k.st.map (·.1)).length:=by
   unfold Keeper.wid;exact Nat.le_trans (List.length_filter_le _ _) (by rw [List.length_take];omega)
  have:=hkk.len;simp only [List.length_map] at h1;omega⟩
 have HEND:=zk (wid_all hkk);obtain ⟨x0,xf⟩:=h3.cB1 1 rfl;have hlx:=h3.lt 1 rfl;have HML:(k.st.map (·.1)).length=k.st.length:=by simp
 clear h h3 hkk;refine cmk Tryz.func47 rfl ?_;simp only [Tryz.ntmps47,List.size_toArray,List.length_cons,List.length_nil,Nat.reduceAdd,Nat.reduceSub,Array.replicate_succ,Array.replicate_zero,List.push_toArray,List.append_toArray,List.nil_append,List.cons_append];go_wp2_with (go_at_call 78;refine (kids_ok (H1.out.frt 2 rfl)).mono ?_;rintro e w2 ⟨bi,vi,rfl,h2⟩;have H2:=zk h2;clear h2 x0 xf hlx);generalize w.heap.size+1=n1 at *;generalize w.heap.size=n0 at *;refine wp_range2 rfl (enters_of Tryz.func87 (by kernel_rfl) rfl) _ R (k.st.map (·.1)) encI (fun _=>rfl) (values_givesO w0 bi vi _ HLEN.out) .ret (fun n=>.ex fun v:Value=>.all [.pts n1 (.cells #[v] 53),.pts n0 (.cells #[.pointer (some ⟨b,0,none⟩)] 40),.slc v 3 1 (k.wid n).length ((k.wid n).map (Value.int .i64)),.keeper b k]) (fun _=>.when False .emp) ?h02 [(4,0)] ?assign2 ?body2 ?done2 ?stop2
 case h02=>exact Heap.reex (f:=fun v:Value=>.all [.pts n1 (.cells #[v] 53),.pts n0 (.cells #[.pointer (some ⟨b,0,none⟩)] 40),.slc v 3 1 (k.wid 0).length ((k.wid 0).map (Value.int .i64)),.keeper b k]) (.slice none 0 0) (Heap.gather (l:= [_,_,_,_]) ((H2.out.nRw 3 1).sel (p:= [_,_,_,_,_,_]) [4,5,0,3,1,2] 6 rfl (by decide)))
 case assign2=>
  intro y x W K hK;simp only [encI] at hK⊢;simp [roundActX] at hK;simp only [roundActX]
  gi_wp2
  exact hK
 case stop2=>
  intro D2 n W hk h;exact (h.unwhen.1).elim
 case body2=>
  intro l n id X W hk h;have hin:=HKEY.out id (List.mem_of_getElem? hk);have HSU:=zk (wid_succ k hk);obtain ⟨v,h⟩:=h.unex;have h2:=Heap.spread (l:= [_,_,_,_]) h;have H9:=zk h2;have HST:=zk (kstate_k (h2.frt 3 rfl) id hin.1 hin.2);have HWL:=zk (HKL.out n);obtain ⟨p0,pf⟩:=h2.cB1 0 rfl;obtain ⟨x0,xf⟩:=h2.cB1 1 rfl;have hlp:=h2.lt 0 rfl;have hS:=h2.shp 2 rfl;clear h h2 hk hin;simp only [roundActX,encI];by_cases h1:mgi k.st id=1
  ·rw [h1] at HST;rw [if_pos h1] at HSU;clear h1;obtain ⟨i0,hi0,hi1,hi2,hi3⟩:=info_parts info3;have HI:=zk (And.intro hi0 (And.intro hi1 (And.intro hi2 hi3)));clear hi0 hi1 hi2 hi3;generalize k.wid n=wn at *;rcases hS with ⟨rfl, -, -⟩|⟨g,cap,rfl, -, -, -⟩;all_goals
    gi_wp2_with (first
     |(refine ⟨trivial,?_⟩;gi_at_call 17;refine (CallsIn.inRound l (callsIn_wide.2 HST.out)).mono ?_;rintro en w5 ⟨rfl,rfl⟩)
     |(gi_at_builtin;refine wpListIn_app (H9.out.alloc _) 2 _ 3 1 wn.length _ rfl rfl _ _ 53 rfl i0 _ 8 Tryz.underlying53 HI.out.1 HI.out.2.1 HI.out.2.2.1 HI.out.2.2.2 rfl (by decide) rfl ⟨W.heap.size,0,none⟩ 1 1 [.int .i64 id] rfl rfl (cell_one_new _ _ _) (by simp [Value.oneCell']) (by have:=HWL.out;omega) (by decide) (by omega) ?_;intro g2 cap2 w5 h5 _;clear p0 pf hlp;obtain ⟨p0,pf⟩:=h5.cB1 0 rfl;have hlp:=h5.lt 0 rfl;have H5:=zk h5;clear h5))
    refine Heap.reex (f:=fun v:Value=>.all [.pts n1 (.cells #[v] 53),.pts n0 (.cells #[.pointer (some ⟨b,0,none⟩)] 40),.slc v 3 1 (k.wid (n+1)).length ((k.wid (n+1)).map (Value.int .i64)),.keeper b k]) (.slice (some ⟨g2,0,none⟩) (wn.length+1) cap2) (Heap.gather (l:= [_,_,_,_]) ?_);rw [HSU.out,List.length_append,List.map_append];exact H5.out.sAt 0 0 _ rfl
  ·have hb1:(mgi k.st id==1)=false:=by simpa using h1
   rw [if_neg h1] at HSU;clear h1
   gi_wp2_with (refine ⟨trivial,?_⟩;gi_at_call 17;refine (CallsIn.inRound l (callsIn_wide.2 HST.out)).mono ?_;rintro en w5 ⟨rfl,rfl⟩)
   refine Heap.reex (f:=fun v:Value=>.all [.pts n1 (.cells #[v] 53),.pts n0 (.cells #[.pointer (some ⟨b,0,none⟩)] 40),.slc v 3 1 (k.wid (n+1)).length ((k.wid (n+1)).map (Value.int .i64)),.keeper b k]) v (Heap.gather (l:= [_,_,_,_]) ?_);rw [HSU.out];exact H9.out
 case done2=>
  intro D W h;obtain ⟨v,h⟩:=h.unex;have h2:=Heap.spread (l:= [_,_,_,_]) h;rw [HML,HEND.out] at h2;have H9:=zk h2;obtain ⟨p0,pf⟩:=h2.cB1 0 rfl;have hlp:=h2.lt 0 rfl;clear h h2;go_wp2_with (fail);refine ⟨by simp,.inl ⟨_,_,rfl,run_takeDeferred (H9.out.at 4 rfl),?_⟩⟩;refine ⟨_,results_tmp rfl _ _ _,v,rfl,?_⟩;exact (H9.out.putAt 4 rfl (.deferred none)).sel (p:= [_,_,_,_,_,_,_]) [2,3] 7 rfl (by decide)
end
end Go.Proofs.YtlnghlamnehfjaaGreatDoor.S
namespace Go.Proofs.YtlnghlamnehfjaaGreatDoor.S
open Go.RowKit Go.Maps
attribute [local go_sem] Oper.semAt_some
theorem mget_at {V:Type} {m:IM V} (hk:KeysOk m) {n:Nat} {p:Int×V} (h:m[n]? =some p):mget m p.1=some p.2:=by
 have h1:=hk.1;have hp:=List.mem_of_getElem? h;clear hk h
 induction m with
 |nil=>cases hp
 |cons a r ih=>
  have h2:=List.pairwise_cons.1 h1;unfold mget;rcases List.mem_cons.1 hp with rfl|hp
  ·simp
  ·have hne:¬a.1=p.1:=by have:=h2.1 p hp;omega
   rw [List.find?_cons_of_neg (by simpa using hne)];exact ih h2.2 hp
def Chief.cnt (c:Chief) (n:Nat):Nat:=((c.l.take n).filter fun p=>!p.2.over).length
theorem cnt_succ (c:Chief) {n:Nat} {p:Int×Led} (h:c.l[n]? =some p):c.cnt (n+1)=if p.2.over=true then c.cnt n else c.cnt n+1:=by
 obtain ⟨hk,rfl⟩:=List.getElem?_eq_some_iff.1 h;unfold Chief.cnt;rw [List.take_succ_eq_append_getElem hk,List.filter_append];split
 ·rename_i h1;rw [List.filter_cons_of_neg (by simpa using h1)];simp
 ·rename_i h1;rw [List.filter_cons_of_pos (by simpa using h1)];simp
section
variable {w0 w:World} {q:HA} {H:Harb} {R:List SA}
theorem facts_on2 (h:Heap w0 (H.on q R) w) {id:Int} {x:Led} (hx:mget H.c.l id=some x):
 Calls Tryz.prog 31 #[.pointer (some ⟨q.bc,0,none⟩),.int .i64 id] w fun e w'=>∃(sp:Option Addr) (sk:Nat) (dp:Option Addr) (dk:Nat) (up:Option Addr) (uk:Nat),e=.returned (.tuple #[x.o.val (.slice sp x.o.steps.length sk),x.f.val (.slice dp x.f.done.length dk) (.slice up x.f.undone.length uk),.bool true])∧LdA.ok ⟨.slice sp x.o.steps.length sk,.slice dp x.f.done.length dk,.slice up x.f.undone.length uk,0⟩ x∧
  Heap w0 (H.on q (.slc (.slice up x.f.undone.length uk) 4 1 x.f.undone.length (bools x.f.undone)::.slc (.slice dp x.f.done.length dk) 4 1 x.f.done.length (bools x.f.done)::.slc (.slice sp x.o.steps.length sk) 131 2 x.o.steps.length (scells x.o.steps)::R)) w':=by
 obtain ⟨bj,A,h2⟩:=(h.frt 2 rfl).cha_of;refine (cfacts_some h2 hx).mono ?_;rintro e w' ⟨vs,vd,vu,rfl,hl,h3⟩;obtain ⟨up,uk,rfl⟩:=vS2 (h3.row 0 rfl);obtain ⟨dp,dk,rfl⟩:=vS2 (h3.row 1 rfl);obtain ⟨sp,sk,rfl⟩:=vS2 (h3.row 2 rfl);have h4:=Heap.cha_to (bj:=bj) (A:=A) (h3.sel (p:= [_,_,_,_,_]) [3,4,0,1,2] 5 rfl (by decide));exact ⟨sp,sk,dp,dk,up,uk,rfl,hl,h4.sel (p:= [_,_,_,_,_,_,_,_,_,_,_,_,_,_,_,_]) [4,5,0,6,7,8,9,10,11,12,13,14,15,1,2,3] 16 rfl (by decide)⟩
theorem open_ok (hf:Fine H) (h:Heap w0 (H.on q R) w):
 Calls Tryz.prog 13 #[.pointer (some ⟨q.bd,0,none⟩)] w fun e w'=>e=.returned (.int .i64 H.c.opens)∧Heap w0 (H.on q R) w':=by
 have HOK:=zk hf.c.ok;have h3:=Heap.nAt (n:=w.heap.size+1) (h.new (.cells #[.pointer (some ⟨q.bd,0,none⟩)] 33)) (.cells #[.int .i64 0] 3) (by simp);have H1:As (Heap w0 (H.on q (.pts (w.heap.size+1) (.cells #[.int .i64 0] 3)::.pts w.heap.size (.cells #[.pointer (some ⟨q.bd,0,none⟩)] 33)::R)) _):=zk h3.boxed2;have HLEN:=zk (cids_len HOK.out);have HLN:As (H.c.l.length≤999):=⟨HOK.out.keys.len⟩;have HEND:As (H.c.cnt H.c.l.length=H.c.opens):=⟨by unfold Chief.cnt Chief.opens;rw [List.take_of_length_le (Nat.le_refl _)]⟩;have HML:H.c.ids.length=H.c.l.length:=by simp [Chief.ids]
 have HBND:As (∀n,H.c.cnt n≤999):=⟨fun n=>by
  have h1:H.c.cnt n≤H.c.l.length:=Nat.le_trans (List.length_filter_le _ _) (by rw [List.length_take];omega);have:=HLN.out;omega⟩
 obtain ⟨x0,xf⟩:=h3.cB1 1 rfl;have hlx:=h3.lt 1 rfl;obtain ⟨y0,yf⟩:=h3.cB1 0 rfl;clear h h3 hf;refine cmk Tryz.func13 rfl ?_;simp only [Tryz.ntmps13,List.size_toArray,List.length_cons,List.length_nil,Nat.reduceAdd,Nat.reduceSub,Array.replicate_succ,Array.replicate_zero,List.push_toArray,List.append_toArray,List.nil_append,List.cons_append];go_wp2_with (first
  |(go_at_call 29;refine (dchief_ok H1.out).mono ?_;rintro e w' ⟨rfl,rfl⟩)
  |(go_at_call 30;refine (ids_on H1.out).mono ?_;rintro e w2 ⟨bi,vi,rfl,h2⟩;have H2:=zk h2;clear h2 x0 xf hlx y0 yf))
 generalize w.heap.size+1=n1 at *;generalize w.heap.size=n0 at *;refine wp_range2 rfl (enters_of Tryz.func87 (by kernel_rfl) rfl) _ R H.c.ids encI (fun _=>rfl) (values_givesO w0 bi vi _ HLEN.out) .ret (fun n=>.all (H.on q [.pts n1 (.cells #[.int .i64 (H.c.cnt n)] 3),.pts n0 (.cells #[.pointer (some ⟨q.bd,0,none⟩)] 33)])) (fun _=>.when False .emp) ?h02 [(4,0)] ?assign2 ?body2 ?done2 ?stop2
 case h02=>exact Heap.gather (l:= [_,_,_,_,_,_,_,_,_,_,_,_,_,_,_]) (H2.out.sel (p:= [_,_,_,_,_,_,_,_,_,_,_,_,_,_,_,_,_]) [2,3,4,5,6,7,8,9,10,11,12,13,14,15,16,0,1] 17 rfl (by decide))
 case assign2=>
  intro y x W K hK;simp only [encI] at hK⊢;simp [roundActX] at hK;simp only [roundActX]
  gi_wp2
  exact hK
 case stop2=>
  intro D2 n W hk h;exact (h.unwhen.1).elim
 case body2=>
  intro l n id X W hk h;obtain ⟨p,hp,rfl⟩:∃p,H.c.l[n]? =some p∧p.1=id:=by
   have:(H.c.l[n]?).map (·.1)=some id:=by rw [←List.getElem?_map];exact hk
   cases hq:H.c.l[n]? with
   |none=>rw [hq] at this;cases this
   |some p=>rw [hq] at this;exact ⟨p,rfl,Option.some.inj this⟩
  have HX:=zk (mget_at HOK.out.keys hp);have HSU:=zk (cnt_succ H.c hp);have HXO:=zk (HOK.out.get HX.out).1;have HWB:=zk (HBND.out n);obtain ⟨id,x⟩:=p;simp only at HX HSU HXO⊢;have h2:Heap w0 (H.on q (.pts n1 (.cells #[.int .i64 (H.c.cnt n)] 3)::.pts n0 (.cells #[.pointer (some ⟨q.bd,0,none⟩)] 33)::X)) W:=Heap.spread (l:= [_,_,_,_,_,_,_,_,_,_,_,_,_,_,_]) h;have H9:=zk h2;obtain ⟨y0,yf⟩:=h2.cB1 13 rfl;obtain ⟨x0,xf⟩:=h2.cB1 14 rfl;have hlx:=h2.lt 14 rfl;have d0:=h2.cell 1 0 rfl rfl;have hld:=h2.lt 1 rfl;clear h h2 hk hp;simp only [roundActX,encI]
  gi_wp2_with (fail)
  refine ⟨trivial,?_⟩;refine (CallsIn.inRound l (callsIn_wide.2 (facts_on2 H9.out HX.out))).mono ?_;rintro en w5 ⟨sp,sk,dp,dk,up,uk,rfl,hld2,h5⟩;have h6:=(Heap.nAt (n:=w5.heap.size+1) (h5.new (.cells #[.int .i64 x.o.id,.int .i64 x.o.item,.int .i64 x.o.qty,.int .i64 x.o.client,.int .i64 x.o.price,.slice sp x.o.steps.length sk] 32)) (.cells #[.slice dp x.f.done.length dk,.slice up x.f.undone.length uk,.bool x.f.asked,.bool x.f.yes,.bool x.f.turned,.bool x.f.ack0,.bool x.f.ack1,.bool x.f.shipped,.bool x.f.dam0,.bool x.f.dam1,.bool x.f.accepted] 80) (by simp)).boxed2;have HOV:=zk (over_ok x.o x.f _ _ _ _ h6.tab (HXO.out.ofs hld2 (h6.row 17 rfl) (h6.row 16 rfl) (h6.row 15 rfl)));clear y0 yf x0 xf hlx d0 hld;obtain ⟨r0,r1,r2,r3,r4,r5,r6,r7,r8,r9,r10,rf⟩:=h6.cA1 13 rfl;obtain ⟨t0,t1,t2,t3,t4,t5,tf⟩:=h6.cB6 14 rfl;obtain ⟨y0,yf⟩:=h6.cB1 18 rfl;obtain ⟨x0,xf⟩:=h6.cB1 19 rfl;have hlx:=h6.lt 19 rfl;have d0:=h6.cell 1 0 rfl rfl;have hld:=h6.lt 1 rfl;have H6:=zk h6;have hov:x.f.over x.o.steps.length=x.over:=rfl;rw [hov] at HOV;clear hov h5 h6 hld2;unfold Od.val Facts.val at HOV⊢;have hK:wrap64 ((H.c.cnt n:Int)+1)=((H.c.cnt n+1:Nat):Int):=by
   have:=HWB.out;unfold wrap64;omega
  cases hv:x.over
  ·rw [hv] at HOV HSU;simp only [Bool.false_eq_true,if_false] at HSU;clear hv
   gi_wp2_with (refine ⟨trivial,?_⟩;gi_at_call 32;refine (CallsIn.inRound l (callsIn_wide.2 HOV.out)).mono ?_;rintro en w6 ⟨rfl,hb⟩;have H7:=zk (H6.out.below hb);clear hb H6 HOV r0 r1 r2 r3 r4 r5 r6 r7 r8 r9 r10 rf t0 t1 t2 t3 t4 t5 tf y0 yf x0 xf hlx d0 hld;obtain ⟨y0,yf⟩:=H7.out.cB1 18 rfl;have hly:=H7.out.lt 18 rfl;generalize w5.heap.size+1=m1 at *;generalize w5.heap.size=m0 at *)
   have h8:=(H7.out.sAt 18 0 (.int .i64 ((H.c.cnt n+1:Nat):Int)) rfl)
   show Heap w0 _ _
   rw [HSU.out];exact Heap.gather (l:= [_,_,_,_,_,_,_,_,_,_,_,_,_,_,_]) (h8.sel (p:= [_,_,_,_,_,_,_,_,_,_,_,_,_,_,_,_,_,_,_,_]) [0,1,2,3,4,5,6,7,8,9,10,11,12,18,19] 20 rfl (by decide))
  ·rw [hv] at HOV HSU;simp only [if_true] at HSU;clear hv hK
   gi_wp2_with (refine ⟨trivial,?_⟩;gi_at_call 32;refine (CallsIn.inRound l (callsIn_wide.2 HOV.out)).mono ?_;rintro en w6 ⟨rfl,hb⟩;have H7:=zk (H6.out.below hb);clear hb H6 HOV r0 r1 r2 r3 r4 r5 r6 r7 r8 r9 r10 rf t0 t1 t2 t3 t4 t5 tf y0 yf x0 xf hlx d0 hld;generalize w5.heap.size+1=m1 at *;generalize w5.heap.size=m0 at *)
   show Heap w0 _ _
   rw [HSU.out];exact Heap.gather (l:= [_,_,_,_,_,_,_,_,_,_,_,_,_,_,_]) (H7.out.sel (p:= [_,_,_,_,_,_,_,_,_,_,_,_,_,_,_,_,_,_,_,_]) [0,1,2,3,4,5,6,7,8,9,10,11,12,18,19] 20 rfl (by decide))
 case done2=>
  intro D W h;have h2:=Heap.spread (l:= [_,_,_,_,_,_,_,_,_,_,_,_,_,_,_]) h;rw [HML,HEND.out] at h2;have H9:=zk h2;obtain ⟨p0,pf⟩:=h2.cB1 13 rfl;have hlp:=h2.lt 13 rfl;clear h h2;go_wp2_with (fail);refine ⟨by simp,.inl ⟨_,_,rfl,run_takeDeferred (H9.out.at 15 rfl),?_⟩⟩;refine ⟨_,results_tmp rfl _ _ _,rfl,?_⟩;exact (H9.out.putAt 15 rfl (.deferred none)).sel (p:= [_,_,_,_,_,_,_,_,_,_,_,_,_,_,_,_,_,_]) [0,1,2,3,4,5,6,7,8,9,10,11,12] 18 rfl (by decide)
end
end Go.Proofs.YtlnghlamnehfjaaGreatDoor.S
namespace Go.Proofs.YtlnghlamnehfjaaGreatDoor.S
open Go.RowKit Go.Maps
section
variable {w0 w:World} {q:HA} {H:Harb} {R:List SA}
theorem len_on (h:Heap w0 (H.on q R) w):Calls Tryz.prog 15 #[.pointer (some ⟨q.bp,0,none⟩)] w fun e w'=>e=.returned (.int .i64 H.p.l.length)∧w=w':=len_ok (h.frt 9 rfl)
theorem waits_on0 (h:Heap w0 (H.on q R) w):Calls Tryz.prog 47 #[.pointer (some ⟨q.k0,0,none⟩)] w fun e w'=>∃sp sk,e=.returned (.slice sp H.k0.waits.length sk)∧Heap w0 (H.on q (.slc (.slice sp H.k0.waits.length sk) 3 1 H.k0.waits.length (H.k0.waits.map (Value.int .i64))::R)) w':=by
 refine (waits_ok (h.frt 3 rfl)).mono ?_;rintro e w' ⟨v,rfl,h2⟩;obtain ⟨sp,sk,rfl⟩:=vS2 (h2.row 0 rfl);exact ⟨sp,sk,rfl,h2.sel (p:= [_,_,_,_,_,_,_,_,_,_,_,_,_,_]) [2,3,4,1,5,6,7,8,9,10,11,12,13,0] 14 rfl (by decide)⟩
theorem waits_on1 (h:Heap w0 (H.on q R) w):Calls Tryz.prog 47 #[.pointer (some ⟨q.k1,0,none⟩)] w fun e w'=>∃sp sk,e=.returned (.slice sp H.k1.waits.length sk)∧Heap w0 (H.on q (.slc (.slice sp H.k1.waits.length sk) 3 1 H.k1.waits.length (H.k1.waits.map (Value.int .i64))::R)) w':=by
 refine (waits_ok (h.frt 4 rfl)).mono ?_;rintro e w' ⟨v,rfl,h2⟩;obtain ⟨sp,sk,rfl⟩:=vS2 (h2.row 0 rfl);exact ⟨sp,sk,rfl,h2.sel (p:= [_,_,_,_,_,_,_,_,_,_,_,_,_,_]) [2,3,4,5,1,6,7,8,9,10,11,12,13,0] 14 rfl (by decide)⟩
theorem kwaits_len {k:Keeper} (hk:k.ok):k.waits.length≤999:=by
 unfold Keeper.waits;rw [List.length_map];exact Nat.le_trans (List.length_filter_le _ _) hk.keys.len
theorem calm_ok (hf:Fine H) (h:Heap w0 (H.on q R) w):
 Calls Tryz.prog 26 #[.pointer (some ⟨q.b,0,none⟩)] w fun e w'=>e=.returned (.bool H.calm)∧Heap w0 (H.on q R) w':=by
 have HC:As (H.calm=(!H.anyDown&&decide (H.p.l.length=0)&&decide (H.opens=0)&&decide (H.k0.waits.length+H.k1.waits.length=0))):=⟨rfl⟩;have HO:H.opens=H.c.opens:=rfl;rw [HO] at HC;clear HO;have HF:=zk hf;have hw0:=kwaits_len ((h.frt 3 rfl).kp_ok);have hw1:=kwaits_len ((h.frt 4 rfl).kp_ok);have HDN:=zk (down_ok h.drew);have HLN:=zk (len_on h.drew);have HOP:=zk (open_ok hf h.drew);have HH:=zk h;have d7:=h.cell 0 7 rfl rfl;have d0:=h.cell 0 0 rfl rfl;have d1:=h.cell 0 1 rfl rfl;have d2:=h.cell 0 2 rfl rfl;have hlb:=h.lt 0 rfl;clear h hf;generalize H.anyDown=ad at *;generalize hpl:H.p.l.length=n at *;have hn:n≤256:=by
  have:=(HH.out.frt 9 rfl).open_post.1;have h1:=this.2.1;have h2:=this.2.2.1;rw [hpl] at h2;omega
 generalize hop:H.c.opens=no at *;generalize hl0:H.k0.waits.length=n0 at *;generalize hl1:H.k1.waits.length=n1 at *;cases ad with
 |true=>
  go_enter Tryz.func26,Tryz.ntmps26;go_wp2_with (fail);refine wro (fun W=>W.cell? ⟨q.b,7,none⟩=some (.pointer (some ⟨q.bp,0,none⟩))∧W.cell? ⟨q.b,0,none⟩=some (.pointer (some ⟨q.bd,0,none⟩))∧W.cell? ⟨q.b,1,none⟩=some (.pointer (some ⟨q.k0,0,none⟩))∧W.cell? ⟨q.b,2,none⟩=some (.pointer (some ⟨q.k1,0,none⟩))∧q.b<W.heap.size) [(0,.f),(1,.e),(2,.f),(3,.f),(4,.f),(5,.f),(6,.f),(7,.s),(8,.e),(9,.f),(10,.f),(11,.f),(12,.f),(13,.f),(14,.f),(15,.s),(16,.e),(17,.f),(18,.f),(19,.f),(20,.f),(21,.f),(22,.f),(23,.f),(24,.s),(27,.f),(28,.f),(29,.f),(30,.f),(31,.f),(25,.e),(26,.f),(32,.e),(33,.f),(34,.f),(35,.f),(36,.f),(37,.f)] ⟨d7,d0,d1,d2,hlb⟩ ?_;repeat (first
   |(refine vg rfl rfl ?_;apply ex2;intro w' hw';obtain ⟨q7,q0,q1,q2,ql⟩:=hw';go_simp;rfl;go_simp)
   |(refine vgw rfl rfl ?_;apply ex2;intro w' hw';obtain ⟨q7,q0,q1,q2,ql⟩:=hw';go_simp;rfl;go_simp)
   |(refine vgo rfl rfl ?_;go_simp)
   |(refine vs_ rfl (fun K hK=>?_);go_simp;refine hK _ ?_;clear hK K))
  first
   |refine vew rfl rfl ?_
   |refine ve rfl rfl ?_
  go_wp2_with (go_at_call 46;refine HDN.out.mono ?_;rintro e w1 ⟨rfl,rfl⟩);refine ⟨⟨HH.out.drew.cell 0 7 rfl rfl,HH.out.drew.cell 0 0 rfl rfl,HH.out.drew.cell 0 1 rfl rfl,HH.out.drew.cell 0 2 rfl rfl,HH.out.drew.lt 0 rfl⟩,?_⟩;go_simp;repeat (first
   |(refine vg rfl rfl ?_;apply ex2;intro w' hw';obtain ⟨q7,q0,q1,q2,ql⟩:=hw';go_simp;rfl;go_simp)
   |(refine vgw rfl rfl ?_;apply ex2;intro w' hw';obtain ⟨q7,q0,q1,q2,ql⟩:=hw';go_simp;rfl;go_simp)
   |(refine vgo rfl rfl ?_;go_simp)
   |(refine vs_ rfl (fun K hK=>?_);go_simp;refine hK _ ?_;clear hK K))
  refine veo rfl rfl ⟨⟨HH.out.drew.cell 0 7 rfl rfl,HH.out.drew.cell 0 0 rfl rfl,HH.out.drew.cell 0 1 rfl rfl,HH.out.drew.cell 0 2 rfl rfl,HH.out.drew.lt 0 rfl⟩,?_⟩;go_simp;repeat (first
   |(refine vg rfl rfl ?_;apply ex2;intro w' hw';obtain ⟨q7,q0,q1,q2,ql⟩:=hw';go_simp;rfl;go_simp)
   |(refine vgw rfl rfl ?_;apply ex2;intro w' hw';obtain ⟨q7,q0,q1,q2,ql⟩:=hw';go_simp;rfl;go_simp)
   |(refine vgo rfl rfl ?_;go_simp)
   |(refine vs_ rfl (fun K hK=>?_);go_simp;refine hK _ ?_;clear hK K))
  refine veo rfl rfl ⟨⟨HH.out.drew.cell 0 7 rfl rfl,HH.out.drew.cell 0 0 rfl rfl,HH.out.drew.cell 0 1 rfl rfl,HH.out.drew.cell 0 2 rfl rfl,HH.out.drew.lt 0 rfl⟩,?_⟩;go_simp;repeat (first
   |(refine vg rfl rfl ?_;apply ex2;intro w' hw';obtain ⟨q7,q0,q1,q2,ql⟩:=hw';go_simp;rfl;go_simp)
   |(refine vgw rfl rfl ?_;apply ex2;intro w' hw';obtain ⟨q7,q0,q1,q2,ql⟩:=hw';go_simp;rfl;go_simp)
   |(refine vgo rfl rfl ?_;go_simp)
   |(refine vs_ rfl (fun K hK=>?_);go_simp;refine hK _ ?_;clear hK K))
  refine veo rfl rfl ⟨⟨HH.out.drew.cell 0 7 rfl rfl,HH.out.drew.cell 0 0 rfl rfl,HH.out.drew.cell 0 1 rfl rfl,HH.out.drew.cell 0 2 rfl rfl,HH.out.drew.lt 0 rfl⟩,?_⟩;go_simp;repeat (first
   |(refine vg rfl rfl ?_;apply ex2;intro w' hw';obtain ⟨q7,q0,q1,q2,ql⟩:=hw';go_simp;rfl;go_simp)
   |(refine vgw rfl rfl ?_;apply ex2;intro w' hw';obtain ⟨q7,q0,q1,q2,ql⟩:=hw';go_simp;rfl;go_simp)
   |(refine vgo rfl rfl ?_;go_simp)
   |(refine vs_ rfl (fun K hK=>?_);go_simp;refine hK _ ?_;clear hK K))
  refine veo rfl rfl ⟨⟨HH.out.drew.cell 0 7 rfl rfl,HH.out.drew.cell 0 0 rfl rfl,HH.out.drew.cell 0 1 rfl rfl,HH.out.drew.cell 0 2 rfl rfl,HH.out.drew.lt 0 rfl⟩,?_⟩;go_simp;repeat (first
   |(refine vg rfl rfl ?_;apply ex2;intro w' hw';obtain ⟨q7,q0,q1,q2,ql⟩:=hw';go_simp;rfl;go_simp)
   |(refine vgw rfl rfl ?_;apply ex2;intro w' hw';obtain ⟨q7,q0,q1,q2,ql⟩:=hw';go_simp;rfl;go_simp)
   |(refine vgo rfl rfl ?_;go_simp)
   |(refine vs_ rfl (fun K hK=>?_);go_simp;refine hK _ ?_;clear hK K))
  refine vn ?_;go_simp;go_wp2_with (fail);go_ret;rw [HC.out];exact ⟨rfl,HH.out.drew⟩
 |false=>
 by_cases hz:n=0
 ·subst hz;by_cases hz2:no=0
  ·subst hz2;have hsum:IntKind.i64.wrap ((n0:Int)+(n1:Int))=(n0:Int)+(n1:Int):=i64w _ (by omega);have hdec:(((n0:Int)+(n1:Int))==0)=(decide (n0=0)&&decide (n1=0)):=by
    rw [Bool.eq_iff_iff];simp;omega
   go_enter Tryz.func26,Tryz.ntmps26;go_wp2_with (fail);refine wro (fun W=>W.cell? ⟨q.b,7,none⟩=some (.pointer (some ⟨q.bp,0,none⟩))∧W.cell? ⟨q.b,0,none⟩=some (.pointer (some ⟨q.bd,0,none⟩))∧W.cell? ⟨q.b,1,none⟩=some (.pointer (some ⟨q.k0,0,none⟩))∧W.cell? ⟨q.b,2,none⟩=some (.pointer (some ⟨q.k1,0,none⟩))∧q.b<W.heap.size) [(0,.f),(1,.e),(2,.f),(3,.f),(4,.f),(5,.f),(6,.f),(7,.s),(8,.e),(9,.f),(10,.f),(11,.f),(12,.f),(13,.f),(14,.f),(15,.s),(16,.e),(17,.f),(18,.f),(19,.f),(20,.f),(21,.f),(22,.f),(23,.f),(24,.s),(27,.f),(28,.f),(29,.f),(30,.f),(31,.f),(25,.e),(26,.f),(32,.e),(33,.f),(34,.f),(35,.f),(36,.f),(37,.f)] ⟨d7,d0,d1,d2,hlb⟩ ?_;repeat (first
    |(refine vg rfl rfl ?_;apply ex2;intro w' hw';obtain ⟨q7,q0,q1,q2,ql⟩:=hw';go_simp;rfl;go_simp)
    |(refine vgw rfl rfl ?_;apply ex2;intro w' hw';obtain ⟨q7,q0,q1,q2,ql⟩:=hw';go_simp;rfl;go_simp)
    |(refine vgo rfl rfl ?_;go_simp)
    |(refine vs_ rfl (fun K hK=>?_);go_simp;refine hK _ ?_;clear hK K))
   first
    |refine vew rfl rfl ?_
    |refine ve rfl rfl ?_
   go_wp2_with (go_at_call 46;refine HDN.out.mono ?_;rintro e w1 ⟨rfl,rfl⟩);refine ⟨⟨HH.out.drew.cell 0 7 rfl rfl,HH.out.drew.cell 0 0 rfl rfl,HH.out.drew.cell 0 1 rfl rfl,HH.out.drew.cell 0 2 rfl rfl,HH.out.drew.lt 0 rfl⟩,?_⟩;go_simp;repeat (first
    |(refine vg rfl rfl ?_;apply ex2;intro w' hw';obtain ⟨q7,q0,q1,q2,ql⟩:=hw';go_simp;rfl;go_simp)
    |(refine vgw rfl rfl ?_;apply ex2;intro w' hw';obtain ⟨q7,q0,q1,q2,ql⟩:=hw';go_simp;rfl;go_simp)
    |(refine vgo rfl rfl ?_;go_simp)
    |(refine vs_ rfl (fun K hK=>?_);go_simp;refine hK _ ?_;clear hK K))
   first
    |refine vew rfl rfl ?_
    |refine ve rfl rfl ?_
   go_wp2_with (go_at_call 15;refine HLN.out.mono ?_;rintro e w1 ⟨rfl,rfl⟩);refine ⟨⟨HH.out.drew.cell 0 7 rfl rfl,HH.out.drew.cell 0 0 rfl rfl,HH.out.drew.cell 0 1 rfl rfl,HH.out.drew.cell 0 2 rfl rfl,HH.out.drew.lt 0 rfl⟩,?_⟩;go_simp;repeat (first
    |(refine vg rfl rfl ?_;apply ex2;intro w' hw';obtain ⟨q7,q0,q1,q2,ql⟩:=hw';go_simp;rfl;go_simp)
    |(refine vgw rfl rfl ?_;apply ex2;intro w' hw';obtain ⟨q7,q0,q1,q2,ql⟩:=hw';go_simp;rfl;go_simp)
    |(refine vgo rfl rfl ?_;go_simp)
    |(refine vs_ rfl (fun K hK=>?_);go_simp;refine hK _ ?_;clear hK K))
   first
    |refine vew rfl rfl ?_
    |refine ve rfl rfl ?_
   go_wp2_with (go_at_call 13;refine HOP.out.mono ?_;rintro e w2 ⟨rfl,h2⟩;have g1:=h2.cell 0 1 rfl rfl;have g2:=h2.cell 0 2 rfl rfl;have gl:=h2.lt 0 rfl;have H2:=zk h2;clear h2);refine ⟨⟨H2.out.cell 0 7 rfl rfl,H2.out.cell 0 0 rfl rfl,H2.out.cell 0 1 rfl rfl,H2.out.cell 0 2 rfl rfl,H2.out.lt 0 rfl⟩,?_⟩;go_simp;repeat (first
    |(refine vg rfl rfl ?_;apply ex2;intro w' hw';obtain ⟨q7,q0,q1,q2,ql⟩:=hw';go_simp;rfl;go_simp)
    |(refine vgw rfl rfl ?_;apply ex2;intro w' hw';obtain ⟨q7,q0,q1,q2,ql⟩:=hw';go_simp;rfl;go_simp)
    |(refine vgo rfl rfl ?_;go_simp)
    |(refine vs_ rfl (fun K hK=>?_);go_simp;refine hK _ ?_;clear hK K))
   first
    |refine vew rfl rfl ?_
    |refine ve rfl rfl ?_
   go_wp2_with (go_at_call 47;refine (waits_on0 H2.out).mono ?_;rintro e w3 ⟨sp0,sk0,rfl,h3⟩;rw [hl0] at h3⊢;have H3:=zk h3;clear h3);refine ⟨⟨H3.out.cell 0 7 rfl rfl,H3.out.cell 0 0 rfl rfl,H3.out.cell 0 1 rfl rfl,H3.out.cell 0 2 rfl rfl,H3.out.lt 0 rfl⟩,?_⟩;go_simp;repeat (first
    |(refine vg rfl rfl ?_;apply ex2;intro w' hw';obtain ⟨q7,q0,q1,q2,ql⟩:=hw';go_simp;rfl;go_simp)
    |(refine vgw rfl rfl ?_;apply ex2;intro w' hw';obtain ⟨q7,q0,q1,q2,ql⟩:=hw';go_simp;rfl;go_simp)
    |(refine vgo rfl rfl ?_;go_simp)
    |(refine vs_ rfl (fun K hK=>?_);go_simp;refine hK _ ?_;clear hK K))
   first
    |refine vew rfl rfl ?_
    |refine ve rfl rfl ?_
   go_wp2_with (go_at_call 47;refine (waits_on1 H3.out).mono ?_;rintro e w4 ⟨sp1,sk1,rfl,h4⟩;rw [hl1] at h4⊢;have H4:=zk h4;clear h4);refine ⟨⟨H4.out.cell 0 7 rfl rfl,H4.out.cell 0 0 rfl rfl,H4.out.cell 0 1 rfl rfl,H4.out.cell 0 2 rfl rfl,H4.out.lt 0 rfl⟩,?_⟩;go_simp;repeat (first
    |(refine vg rfl rfl ?_;apply ex2;intro w' hw';obtain ⟨q7,q0,q1,q2,ql⟩:=hw';go_simp;rfl;go_simp)
    |(refine vgw rfl rfl ?_;apply ex2;intro w' hw';obtain ⟨q7,q0,q1,q2,ql⟩:=hw';go_simp;rfl;go_simp)
    |(refine vgo rfl rfl ?_;go_simp)
    |(refine vs_ rfl (fun K hK=>?_);go_simp;refine hK _ ?_;clear hK K))
   refine vn ?_;go_simp;go_wp2_with (fail);go_ret;rw [HC.out];exact ⟨by simp [hsum,hdec],H4.out.sel (p:= [_,_,_,_,_,_,_,_,_,_,_,_,_,_,_]) [0,1,2,3,4,5,6,7,8,9,10,11,12] 15 rfl (by decide)⟩
  ·have hb:((no:Int)==0)=false:=by simp;omega
   go_enter Tryz.func26,Tryz.ntmps26;go_wp2_with (fail);refine wro (fun W=>W.cell? ⟨q.b,7,none⟩=some (.pointer (some ⟨q.bp,0,none⟩))∧W.cell? ⟨q.b,0,none⟩=some (.pointer (some ⟨q.bd,0,none⟩))∧W.cell? ⟨q.b,1,none⟩=some (.pointer (some ⟨q.k0,0,none⟩))∧W.cell? ⟨q.b,2,none⟩=some (.pointer (some ⟨q.k1,0,none⟩))∧q.b<W.heap.size) [(0,.f),(1,.e),(2,.f),(3,.f),(4,.f),(5,.f),(6,.f),(7,.s),(8,.e),(9,.f),(10,.f),(11,.f),(12,.f),(13,.f),(14,.f),(15,.s),(16,.e),(17,.f),(18,.f),(19,.f),(20,.f),(21,.f),(22,.f),(23,.f),(24,.s),(27,.f),(28,.f),(29,.f),(30,.f),(31,.f),(25,.e),(26,.f),(32,.e),(33,.f),(34,.f),(35,.f),(36,.f),(37,.f)] ⟨d7,d0,d1,d2,hlb⟩ ?_;repeat (first
    |(refine vg rfl rfl ?_;apply ex2;intro w' hw';obtain ⟨q7,q0,q1,q2,ql⟩:=hw';go_simp;rfl;go_simp)
    |(refine vgw rfl rfl ?_;apply ex2;intro w' hw';obtain ⟨q7,q0,q1,q2,ql⟩:=hw';go_simp;rfl;go_simp)
    |(refine vgo rfl rfl ?_;go_simp)
    |(refine vs_ rfl (fun K hK=>?_);go_simp;refine hK _ ?_;clear hK K))
   first
    |refine vew rfl rfl ?_
    |refine ve rfl rfl ?_
   go_wp2_with (go_at_call 46;refine HDN.out.mono ?_;rintro e w1 ⟨rfl,rfl⟩);refine ⟨⟨HH.out.drew.cell 0 7 rfl rfl,HH.out.drew.cell 0 0 rfl rfl,HH.out.drew.cell 0 1 rfl rfl,HH.out.drew.cell 0 2 rfl rfl,HH.out.drew.lt 0 rfl⟩,?_⟩;go_simp;repeat (first
    |(refine vg rfl rfl ?_;apply ex2;intro w' hw';obtain ⟨q7,q0,q1,q2,ql⟩:=hw';go_simp;rfl;go_simp)
    |(refine vgw rfl rfl ?_;apply ex2;intro w' hw';obtain ⟨q7,q0,q1,q2,ql⟩:=hw';go_simp;rfl;go_simp)
    |(refine vgo rfl rfl ?_;go_simp)
    |(refine vs_ rfl (fun K hK=>?_);go_simp;refine hK _ ?_;clear hK K))
   first
    |refine vew rfl rfl ?_
    |refine ve rfl rfl ?_
   go_wp2_with (go_at_call 15;refine HLN.out.mono ?_;rintro e w1 ⟨rfl,rfl⟩);refine ⟨⟨HH.out.drew.cell 0 7 rfl rfl,HH.out.drew.cell 0 0 rfl rfl,HH.out.drew.cell 0 1 rfl rfl,HH.out.drew.cell 0 2 rfl rfl,HH.out.drew.lt 0 rfl⟩,?_⟩;go_simp;repeat (first
    |(refine vg rfl rfl ?_;apply ex2;intro w' hw';obtain ⟨q7,q0,q1,q2,ql⟩:=hw';go_simp;rfl;go_simp)
    |(refine vgw rfl rfl ?_;apply ex2;intro w' hw';obtain ⟨q7,q0,q1,q2,ql⟩:=hw';go_simp;rfl;go_simp)
    |(refine vgo rfl rfl ?_;go_simp)
    |(refine vs_ rfl (fun K hK=>?_);go_simp;refine hK _ ?_;clear hK K))
   first
    |refine vew rfl rfl ?_
    |refine ve rfl rfl ?_
   go_wp2_with (go_at_call 13;refine HOP.out.mono ?_;rintro e w2 ⟨rfl,h2⟩;have g1:=h2.cell 0 1 rfl rfl;have g2:=h2.cell 0 2 rfl rfl;have gl:=h2.lt 0 rfl;have H2:=zk h2;clear h2);refine ⟨⟨H2.out.cell 0 7 rfl rfl,H2.out.cell 0 0 rfl rfl,H2.out.cell 0 1 rfl rfl,H2.out.cell 0 2 rfl rfl,H2.out.lt 0 rfl⟩,?_⟩;go_simp;repeat (first
    |(refine vg rfl rfl ?_;apply ex2;intro w' hw';obtain ⟨q7,q0,q1,q2,ql⟩:=hw';go_simp;rfl;go_simp)
    |(refine vgw rfl rfl ?_;apply ex2;intro w' hw';obtain ⟨q7,q0,q1,q2,ql⟩:=hw';go_simp;rfl;go_simp)
    |(refine vgo rfl rfl ?_;go_simp)
    |(refine vs_ rfl (fun K hK=>?_);go_simp;refine hK _ ?_;clear hK K))
   refine veo rfl rfl ⟨⟨H2.out.cell 0 7 rfl rfl,H2.out.cell 0 0 rfl rfl,H2.out.cell 0 1 rfl rfl,H2.out.cell 0 2 rfl rfl,H2.out.lt 0 rfl⟩,?_⟩;go_simp;repeat (first
    |(refine vg rfl rfl ?_;apply ex2;intro w' hw';obtain ⟨q7,q0,q1,q2,ql⟩:=hw';go_simp;rfl;go_simp)
    |(refine vgw rfl rfl ?_;apply ex2;intro w' hw';obtain ⟨q7,q0,q1,q2,ql⟩:=hw';go_simp;rfl;go_simp)
    |(refine vgo rfl rfl ?_;go_simp)
    |(refine vs_ rfl (fun K hK=>?_);go_simp;refine hK _ ?_;clear hK K))
   refine veo rfl rfl ⟨⟨H2.out.cell 0 7 rfl rfl,H2.out.cell 0 0 rfl rfl,H2.out.cell 0 1 rfl rfl,H2.out.cell 0 2 rfl rfl,H2.out.lt 0 rfl⟩,?_⟩;go_simp;repeat (first
    |(refine vg rfl rfl ?_;apply ex2;intro w' hw';obtain ⟨q7,q0,q1,q2,ql⟩:=hw';go_simp;rfl;go_simp)
    |(refine vgw rfl rfl ?_;apply ex2;intro w' hw';obtain ⟨q7,q0,q1,q2,ql⟩:=hw';go_simp;rfl;go_simp)
    |(refine vgo rfl rfl ?_;go_simp)
    |(refine vs_ rfl (fun K hK=>?_);go_simp;refine hK _ ?_;clear hK K))
   refine vn ?_;go_simp;go_wp2_with (fail);go_ret;rw [HC.out];exact ⟨by simp [hz2],H2.out⟩
 ·have hb:((n:Int)==0)=false:=by simp;omega
  go_enter Tryz.func26,Tryz.ntmps26;go_wp2_with (fail);refine wro (fun W=>W.cell? ⟨q.b,7,none⟩=some (.pointer (some ⟨q.bp,0,none⟩))∧W.cell? ⟨q.b,0,none⟩=some (.pointer (some ⟨q.bd,0,none⟩))∧W.cell? ⟨q.b,1,none⟩=some (.pointer (some ⟨q.k0,0,none⟩))∧W.cell? ⟨q.b,2,none⟩=some (.pointer (some ⟨q.k1,0,none⟩))∧q.b<W.heap.size) [(0,.f),(1,.e),(2,.f),(3,.f),(4,.f),(5,.f),(6,.f),(7,.s),(8,.e),(9,.f),(10,.f),(11,.f),(12,.f),(13,.f),(14,.f),(15,.s),(16,.e),(17,.f),(18,.f),(19,.f),(20,.f),(21,.f),(22,.f),(23,.f),(24,.s),(27,.f),(28,.f),(29,.f),(30,.f),(31,.f),(25,.e),(26,.f),(32,.e),(33,.f),(34,.f),(35,.f),(36,.f),(37,.f)] ⟨d7,d0,d1,d2,hlb⟩ ?_;repeat (first
   |(refine vg rfl rfl ?_;apply ex2;intro w' hw';obtain ⟨q7,q0,q1,q2,ql⟩:=hw';go_simp;rfl;go_simp)
   |(refine vgw rfl rfl ?_;apply ex2;intro w' hw';obtain ⟨q7,q0,q1,q2,ql⟩:=hw';go_simp;rfl;go_simp)
   |(refine vgo rfl rfl ?_;go_simp)
   |(refine vs_ rfl (fun K hK=>?_);go_simp;refine hK _ ?_;clear hK K))
  first
   |refine vew rfl rfl ?_
   |refine ve rfl rfl ?_
  go_wp2_with (go_at_call 46;refine HDN.out.mono ?_;rintro e w1 ⟨rfl,rfl⟩);refine ⟨⟨HH.out.drew.cell 0 7 rfl rfl,HH.out.drew.cell 0 0 rfl rfl,HH.out.drew.cell 0 1 rfl rfl,HH.out.drew.cell 0 2 rfl rfl,HH.out.drew.lt 0 rfl⟩,?_⟩;go_simp;repeat (first
   |(refine vg rfl rfl ?_;apply ex2;intro w' hw';obtain ⟨q7,q0,q1,q2,ql⟩:=hw';go_simp;rfl;go_simp)
   |(refine vgw rfl rfl ?_;apply ex2;intro w' hw';obtain ⟨q7,q0,q1,q2,ql⟩:=hw';go_simp;rfl;go_simp)
   |(refine vgo rfl rfl ?_;go_simp)
   |(refine vs_ rfl (fun K hK=>?_);go_simp;refine hK _ ?_;clear hK K))
  first
   |refine vew rfl rfl ?_
   |refine ve rfl rfl ?_
  go_wp2_with (go_at_call 15;refine HLN.out.mono ?_;rintro e w1 ⟨rfl,rfl⟩);refine ⟨⟨HH.out.drew.cell 0 7 rfl rfl,HH.out.drew.cell 0 0 rfl rfl,HH.out.drew.cell 0 1 rfl rfl,HH.out.drew.cell 0 2 rfl rfl,HH.out.drew.lt 0 rfl⟩,?_⟩;go_simp;repeat (first
   |(refine vg rfl rfl ?_;apply ex2;intro w' hw';obtain ⟨q7,q0,q1,q2,ql⟩:=hw';go_simp;rfl;go_simp)
   |(refine vgw rfl rfl ?_;apply ex2;intro w' hw';obtain ⟨q7,q0,q1,q2,ql⟩:=hw';go_simp;rfl;go_simp)
   |(refine vgo rfl rfl ?_;go_simp)
   |(refine vs_ rfl (fun K hK=>?_);go_simp;refine hK _ ?_;clear hK K))
  refine veo rfl rfl ⟨⟨HH.out.drew.cell 0 7 rfl rfl,HH.out.drew.cell 0 0 rfl rfl,HH.out.drew.cell 0 1 rfl rfl,HH.out.drew.cell 0 2 rfl rfl,HH.out.drew.lt 0 rfl⟩,?_⟩;go_simp;repeat (first
   |(refine vg rfl rfl ?_;apply ex2;intro w' hw';obtain ⟨q7,q0,q1,q2,ql⟩:=hw';go_simp;rfl;go_simp)
   |(refine vgw rfl rfl ?_;apply ex2;intro w' hw';obtain ⟨q7,q0,q1,q2,ql⟩:=hw';go_simp;rfl;go_simp)
   |(refine vgo rfl rfl ?_;go_simp)
   |(refine vs_ rfl (fun K hK=>?_);go_simp;refine hK _ ?_;clear hK K))
  refine veo rfl rfl ⟨⟨HH.out.drew.cell 0 7 rfl rfl,HH.out.drew.cell 0 0 rfl rfl,HH.out.drew.cell 0 1 rfl rfl,HH.out.drew.cell 0 2 rfl rfl,HH.out.drew.lt 0 rfl⟩,?_⟩;go_simp;repeat (first
   |(refine vg rfl rfl ?_;apply ex2;intro w' hw';obtain ⟨q7,q0,q1,q2,ql⟩:=hw';go_simp;rfl;go_simp)
   |(refine vgw rfl rfl ?_;apply ex2;intro w' hw';obtain ⟨q7,q0,q1,q2,ql⟩:=hw';go_simp;rfl;go_simp)
   |(refine vgo rfl rfl ?_;go_simp)
   |(refine vs_ rfl (fun K hK=>?_);go_simp;refine hK _ ?_;clear hK K))
  refine veo rfl rfl ⟨⟨HH.out.drew.cell 0 7 rfl rfl,HH.out.drew.cell 0 0 rfl rfl,HH.out.drew.cell 0 1 rfl rfl,HH.out.drew.cell 0 2 rfl rfl,HH.out.drew.lt 0 rfl⟩,?_⟩;go_simp;repeat (first
   |(refine vg rfl rfl ?_;apply ex2;intro w' hw';obtain ⟨q7,q0,q1,q2,ql⟩:=hw';go_simp;rfl;go_simp)
   |(refine vgw rfl rfl ?_;apply ex2;intro w' hw';obtain ⟨q7,q0,q1,q2,ql⟩:=hw';go_simp;rfl;go_simp)
   |(refine vgo rfl rfl ?_;go_simp)
   |(refine vs_ rfl (fun K hK=>?_);go_simp;refine hK _ ?_;clear hK K))
  refine vn ?_;go_simp;go_wp2_with (fail);go_ret;rw [HC.out];exact ⟨by simp [hz],HH.out.drew⟩
end
end Go.Proofs.YtlnghlamnehfjaaGreatDoor.S
namespace Go.Proofs.YtlnghlamnehfjaaGreatDoor.S
open Go.RowKit Go.Maps
attribute [local go_sem] Oper.semAt_some
theorem zHbr1 {P:Prop} (h:P:=by
 clear hjd;go_wp2_with (go_at_call 35;refine HRG.out.mono ?_;rintro e w6 ⟨rfl,h6⟩;have H6:=zk h6;clear h6 x0 xf hlx y0 hyl);go_roundg (n5-(j+1))
 case measure=>have:=HG4.out;omega
 case rel=>
  refine ⟨j+1,by go_num,by omega,⟨by omega⟩,⟨?_⟩⟩;rw [HSJ.out];exact H6.out):P:=h
def Harb.wk (H:Harb) (k:Nat):Harb:=(List.range k).foldl (fun (H:Harb) (i:Nat)=>if H.isDown i=true then H.starts i else H) H
theorem wk_succ (H:Harb) (k:Nat):H.wk (k+1)=if (H.wk k).isDown k=true then (H.wk k).starts k else H.wk k:=by
 unfold Harb.wk;rw [List.range_succ,List.foldl_append];rfl
theorem wk_fine {H:Harb} (h:Fine H):∀k,Fine (H.wk k)
 |0=>h
 |k+1=>by
  rw [wk_succ];split
  ·exact (wk_fine h k).starts _
  ·exact wk_fine h k
theorem takes_sucH:∀(k:Nat) (H:Harb),Harb.takes (k+1) H=((Harb.takes k H).take 5 0).2
 |0,_=>rfl
 |k+1,H=>takes_sucH k (H.take 5 0).2
theorem rings_app (H:Harb) (i:Int) (l:List Int) (id:Int):H.rings i (l++ [id])=((H.rings i l).ringN i id).2:=by
 unfold Harb.rings;rw [List.foldl_append];rfl
def Harb.rg (H:Harb) (i:Int) (l:List Int) (k:Nat):Harb:=H.rings i (l.take k)
theorem rg_succ (H:Harb) (i:Int) {l:List Int} {k:Nat} {id:Int} (h:l[k]? =some id):H.rg i l (k+1)=((H.rg i l k).ringN i id).2:=by
 obtain ⟨hk,rfl⟩:=List.getElem?_eq_some_iff.1 h;unfold Harb.rg;rw [List.take_succ_eq_append_getElem hk,rings_app]
theorem rg_all (H:Harb) (i:Int) (l:List Int):H.rg i l l.length=H.rings i l:=by unfold Harb.rg;rw [List.take_length]
theorem rg_fine {H:Harb} (h:Fine H) (i:Int) {l:List Int} (hl:∀id∈l,1≤id∧id≤999) (k:Nat):Fine (H.rg i l k):=h.rings i _ (fun id hi=>hl id (List.mem_of_mem_take hi))
theorem waits_in {k:Keeper} (h:k.ok):∀id∈k.waits,1≤id∧id≤999:=fun id hi=>by
 unfold Keeper.waits at hi;obtain ⟨p,hp,rfl⟩:=List.mem_map.1 hi;exact h.keys.2 p (List.mem_filter.1 hp).1
section
variable {w0 w:World} {q:HA} {H:Harb} {R:List SA}
theorem take5_some {H:Harb} {m:Msg} (hh:H.p.has 0=true) (hm:H.p.l[(0:Int).toNat]? =some m):(H.take 5 0).2=(H.without 0).gives m:=by
 unfold Harb.take;rw [if_neg (by simp [hh]),hm];simp
theorem take5_none {H:Harb} (hh:H.p.has 0=false):(H.take 5 0).2=H:=by
 unfold Harb.take;rw [if_pos hh]
theorem ring1_k1 (H:Harb) (id:Int):(H.ringN 1 id).2.k1=H.k1:=by
 unfold Harb.ringN;repeat' split
 all_goals rfl
theorem rings1_k1:∀(ids:List Int) (H:Harb),(H.rings 1 ids).k1=H.k1
 | [],_=>rfl
 |id::r,H=>(rings1_k1 r (H.ringN 1 id).2).trans (ring1_k1 H id)
def Harb.kr (H:Harb):Nat→Harb
 |0=>H
 |1=>H.rings 1 H.k0.waits
 |_=>(H.rings 1 H.k0.waits).rings 2 (H.rings 1 H.k0.waits).k1.waits
theorem waits_at {g:Nat} {cap n:Nat} {sp:Option Addr} {xs:List Int} {w0 w:World} {l:List SA} (h:Heap w0 l w) (i:Nat) (e:l[i]? =some (.slc (.slice sp n cap) 3 1 n (xs.map (Value.int .i64)))) {j:Nat} {id:Int} (hj:xs[j]? =some id):∃g,sp=some ⟨g,0,none⟩∧w.cell? ⟨g,j,none⟩=some (.int .i64 id)∧g<w.heap.size:=by
 rcases h.shp i e with ⟨-,hz,hx⟩|⟨g,cap',hv, -, -,hc⟩
 ·have:xs= []:=by simpa using hx
  rw [this] at hj;cases hj
 ·cases hv;have hcell:=hc j (.int .i64 id) (by rw [List.getElem?_map,hj];rfl);exact ⟨g,rfl,hcell,World.block_lt_of_cell? w _ hcell⟩
theorem index62_0 (x y:Nat) (W:World):(Instr.index 62 (.agg #[.pointer (some ⟨x,0,none⟩),.pointer (some ⟨y,0,none⟩)]) (.int .i64 0)).run Tryz.prog W=.ok (.pointer (some ⟨x,0,none⟩)) W:=by kernel_rfl
theorem index62_1 (x y:Nat) (W:World):(Instr.index 62 (.agg #[.pointer (some ⟨x,0,none⟩),.pointer (some ⟨y,0,none⟩)]) (.int .i64 1)).run Tryz.prog W=.ok (.pointer (some ⟨y,0,none⟩)) W:=by kernel_rfl
abbrev bx (q:HA) (n0:Nat):SA:=.pts n0 (.cells #[.pointer (some ⟨q.b,0,none⟩)] 23)
theorem round_ok (hf:Fine H) (h:Heap w0 (H.on q R) w):
 Calls Tryz.prog 27 #[.pointer (some ⟨q.b,0,none⟩)] w fun e w'=>e=.returned (.tuple #[])∧Heap w0 (H.round.on q R) w'∧Fine H.round:=by
 have HDE:=zk (decides_ok w0 q);have HF:=zk hf;have h3:=h.new (.cells #[.pointer (some ⟨q.b,0,none⟩)] 23);have HB:As (Heap w0 (H.on q (bx q w.heap.size::R)) _):=zk h3.boxed;clear h h3 hf;refine cmk Tryz.func27 rfl ?_;simp only [Tryz.ntmps27,List.size_toArray,List.length_cons,List.length_nil,Nat.reduceAdd,Nat.reduceSub,Array.replicate_succ,Array.replicate_zero,List.push_toArray,List.append_toArray,List.nil_append,List.cons_append];go_wp2_with (fail);generalize hW:w.alloc _=W1 at *;clear hW;generalize w.heap.size=n0 at *
 go_loopg [2,10] 7 (fun gk p u wr=>∃k:Nat,u=.int .i64 k∧k≤7∧As (gk+k=7)∧As (Heap w0 ((H.wk k).on q (bx q n0::R)) wr))
 case atStart=>exact ⟨0,rfl,Nat.zero_le _,⟨rfl⟩,HB⟩
 case round=>
  obtain ⟨k,rfl,hk,HG,HR⟩:=hrel;clear HB;by_cases hlt:k<7
  ·have HFK:=zk (wk_fine HF.out k);have HSU:=zk (wk_succ H k);generalize H.wk k=G at *;obtain ⟨T,p1,F,hn,hm,hent,hd⟩:=down_on (w0:=w0) (q:=q) (H:=G) (R:=bx q n0::R) (i:=k) (by omega) (by omega);have HN:=zk hn;have HD:=zk hd;have HST:=zk (hstarts_ok HDE.out HFK.out HR.out k (by omega) (by omega));obtain ⟨x0,xf⟩:=HR.out.cB1 13 rfl;have hlx:=HR.out.lt 13 rfl;clear hn hd;cases hdn:G.isDown k with
   |true=>
    rw [hdn] at HD HSU;simp only [if_true] at HSU;go_wp2_with (first
     |(go_at_call 48;refine (node_ok HR.out _ (node_cases (by omega) (by omega))).mono ?_;rintro e w' ⟨rfl,rfl⟩;rw [HN.out])
     |(go_at_call 49;refine HST.out.mono ?_;rintro e w2 ⟨rfl,h2⟩;have H2:=zk h2;clear h2 x0 xf hlx)
     |(refine (HD.out _ HR.out).mono ?_;rintro e w' ⟨rfl,rfl⟩))
    go_roundg (7-(k+1))
    case measure=>have:=HG.out;omega
    case rel=>
     refine ⟨k+1,by go_num,by omega,⟨by omega⟩,⟨?_⟩⟩;rw [HSU.out];exact H2.out
   |false=>
    rw [hdn] at HD HSU;simp only [Bool.false_eq_true,if_false] at HSU;go_wp2_with (first
     |(go_at_call 48;refine (node_ok HR.out _ (node_cases (by omega) (by omega))).mono ?_;rintro e w' ⟨rfl,rfl⟩;rw [HN.out])
     |(refine (HD.out _ HR.out).mono ?_;rintro e w' ⟨rfl,rfl⟩))
    go_roundg (7-(k+1))
    case measure=>have:=HG.out;omega
    case rel=>
     refine ⟨k+1,by go_num,by omega,⟨by omega⟩,⟨?_⟩⟩;rw [HSU.out];exact HR.out
  ·obtain rfl:k=7:=by omega
   have HFA:As (Fine (H.wk 7)):=⟨wk_fine HF.out 7⟩;have HRO:As (H.round=(((((Harb.takes (H.wk 7).p.l.length (H.wk 7))).rings 0 (Harb.takes (H.wk 7).p.l.length (H.wk 7)).c.ids).rings 1 ((Harb.takes (H.wk 7).p.l.length (H.wk 7)).rings 0 (Harb.takes (H.wk 7).p.l.length (H.wk 7)).c.ids).k0.waits).rings 2 ((((Harb.takes (H.wk 7).p.l.length (H.wk 7))).rings 0 (Harb.takes (H.wk 7).p.l.length (H.wk 7)).c.ids).rings 1 ((Harb.takes (H.wk 7).p.l.length (H.wk 7)).rings 0 (Harb.takes (H.wk 7).p.l.length (H.wk 7)).c.ids).k0.waits).k1.waits)):=⟨rfl⟩;generalize H.wk 7=G0 at *;generalize hHE:H.round=HEND at *;have HRE:=zk hHE;clear hHE;obtain ⟨x0,xf⟩:=HR.out.cB1 13 rfl;have hlx:=HR.out.lt 13 rfl;have c7:=HR.out.cell 0 7 rfl rfl;have hlb:=HR.out.lt 0 rfl;have hpn:G0.p.l.length≤256:=by
    have:=(HR.out.frt 9 rfl).open_post.1;have h1:=this.2.1;have h2:=this.2.2.1;omega
   go_wp2_with (go_at_call 15;refine (len_on HR.out).mono ?_;rintro e w' ⟨rfl,rfl⟩);clear x0 xf hlx c7 hlb;generalize hnn:G0.p.l.length=n at *
   go_loopg [3,4,26] n (fun gk a b u wr=>∃k:Nat,u=.int .i64 k∧k≤n∧As (gk+k=n)∧As (Heap w0 ((Harb.takes k G0).on q (bx q n0::R)) wr))
   case atStart=>exact ⟨0,rfl,Nat.zero_le _,⟨rfl⟩,HR⟩
   case round=>
    obtain ⟨k,rfl,hk,HG2,HR2⟩:=hrel;clear HR;by_cases hlt2:k<n
    ·have HFK:As (Fine (Harb.takes k G0)):=⟨HFA.out.takes k⟩;have HSU:=zk (takes_sucH k G0);generalize Harb.takes k G0=G at *;obtain ⟨x0,xf⟩:=HR2.out.cB1 13 rfl;have hlx:=HR2.out.lt 13 rfl;have c7:=HR2.out.cell 0 7 rfl rfl;have hlb:=HR2.out.lt 0 rfl;cases hh:G.p.has 0 with
     |true=>
      obtain ⟨m,hm, -⟩:=has_get hh;have HMO:=zk (HFK.out.ms m (List.mem_of_getElem? hm));have HFW:=zk (HFK.out.without 0);rw [take5_some hh hm] at HSU;have HTK:=zk (take_on HR2.out hh hm);clear hh hm;obtain ⟨mk,mf,mt,mi,ms,ma,mb⟩:=m;unfold Msg.val at HTK;simp only [Int.toNat_zero] at HTK;go_wp2_with (first
       |(go_at_call 50;refine HTK.out.mono ?_;rintro e w2 ⟨rfl,h2⟩;clear x0 xf hlx c7 hlb;obtain ⟨x0,xf⟩:=h2.cB1 13 rfl;have hlx:=h2.lt 13 rfl;have H2:=zk h2;clear h2)
       |(go_at_call 51;refine (delivers_ok HDE.out HFW.out ((H2.out.new (.cells #[.int .i64 mk,.int .i64 mf,.int .i64 mt,.int .i64 mi,.int .i64 ms,.int .i64 ma,.int .i64 mb] 113)).boxed) ⟨mk,mf,mt,mi,ms,ma,mb⟩ HMO.out).mono ?_;rintro e w3 ⟨rfl,h3⟩;have H3:=zk h3;clear h3 x0 xf hlx))
      go_roundg (n-(k+1))
      case measure=>have:=HG2.out;omega
      case rel=>
       refine ⟨k+1,by go_num,by omega,⟨by omega⟩,⟨?_⟩⟩;rw [HSU.out];exact H3.out.unbox
     |false=>
      rw [take5_none hh] at HSU;have HTK:=zk (take0_on HR2.out hh);clear hh;go_wp2_with (go_at_call 50;refine HTK.out.mono ?_;rintro e w2 ⟨rfl,h2⟩;clear x0 xf hlx c7 hlb;have H2:=zk h2;clear h2);go_roundg (n-(k+1))
      case measure=>have:=HG2.out;omega
      case rel=>
       refine ⟨k+1,by go_num,by omega,⟨by omega⟩,⟨?_⟩⟩;rw [HSU.out];exact (H2.out.new _).boxed.unbox
    ·obtain rfl:k=n:=by omega
     have HFB:As (Fine (Harb.takes k G0)):=⟨HFA.out.takes k⟩;clear HFA HG HG2 hlt hlt2 hk hpn hnn;generalize Harb.takes k G0=G1 at *;obtain ⟨x0,xf⟩:=HR2.out.cB1 13 rfl;have hlx:=HR2.out.lt 13 rfl;have HLEN:=zk (cids_len HFB.out.c.ok);have HKEY:=zk (cids_in HFB.out.c.ok);go_wp2_with (first
      |(go_at_call 52;refine (hchief_ok HR2.out).mono ?_;rintro e w' ⟨rfl,rfl⟩)
      |(go_at_call 30;refine (ids_on HR2.out).mono ?_;rintro e w3 ⟨bi,vi,rfl,h3⟩;have H3:=zk h3;clear h3 x0 xf hlx))
     clear HR2;have HFC:As (∀k,Fine (G1.rg 0 G1.c.ids k)):=⟨fun k=>rg_fine HFB.out 0 HKEY.out k⟩;have HRS:As (∀k id,G1.c.ids[k]? =some id→G1.rg 0 G1.c.ids (k+1)=((G1.rg 0 G1.c.ids k).ringN 0 id).2):=⟨fun k id hk=>rg_succ G1 0 hk⟩;have HRA:=zk (rg_all G1 0 G1.c.ids);have H3z:As (Heap w0 (.all ((G1.rg 0 G1.c.ids 0).on q [bx q n0])::_) w3):=⟨Heap.gather (l:= [_,_,_,_,_,_,_,_,_,_,_,_,_,_]) (H3.out.sel (p:= [_,_,_,_,_,_,_,_,_,_,_,_,_,_,_,_]) [2,3,4,5,6,7,8,9,10,11,12,13,14,15,0,1] 16 rfl (by decide))⟩;generalize hids:G1.c.ids=ids at *;refine wp_range2 rfl (enters_of Tryz.func87 (by kernel_rfl) rfl) _ R ids encI (fun _=>rfl) (values_givesO w0 bi vi ids HLEN.out) .ret (fun k=>.all ((G1.rg 0 ids k).on q [bx q n0])) (fun _=>.when False .emp) ?h02 [(5,0)] ?assign2 ?body2 ?done2 ?stop2
     case h02=>exact H3z.out
     case assign2=>
      intro y x W K hK;simp only [encI] at hK⊢;simp [roundActX] at hK;simp only [roundActX]
      gi_wp2
      exact hK
     case stop2=>
      intro D2 k W hk h;exact (h.unwhen.1).elim
     case body2=>
      intro l k id X W hk h;have hin:=HKEY.out id (List.mem_of_getElem? hk);have HSU:=zk (HRS.out k id hk);have HFK:=zk (HFC.out k);have h2:Heap w0 ((G1.rg 0 ids k).on q (bx q n0::X)) W:=Heap.spread (l:= [_,_,_,_,_,_,_,_,_,_,_,_,_,_]) h;obtain ⟨x0,xf⟩:=h2.cB1 13 rfl;have hlx:=h2.lt 13 rfl;have H9:=zk h2;clear h h2 hk;simp only [roundActX,encI]
      gi_wp2_with (refine ⟨trivial,?_⟩;gi_at_call 35;refine (CallsIn.inRound l (callsIn_wide.2 (hring_c HDE.out HFK.out H9.out id hin.1 hin.2))).mono ?_;rintro en w5 ⟨rfl,h5⟩;have H10:=zk h5;clear h5)
      show Heap w0 _ _
      rw [HSU.out];exact Heap.gather (l:= [_,_,_,_,_,_,_,_,_,_,_,_,_,_]) H10.out
     case done2=>
      intro D W h;obtain ⟨X1,X2,h2⟩:∃X1 X2,Heap w0 ((G1.rg 0 ids ids.length).on q (bx q n0::.pts D (.deferred (some []))::X1::X2::R)) W:=⟨_,_,Heap.spread (l:= [_,_,_,_,_,_,_,_,_,_,_,_,_,_]) h⟩;rw [HRA.out] at h2;have HFD:As (Fine (G1.rings 0 ids)):=⟨by rw [←HRA.out];exact HFC.out _⟩;clear h HRS HFC H3z H3 HLEN HKEY HFB;generalize G1.rings 0 ids=G2 at *;have HFK0:As (∀k,Fine (G2.kr k)):=⟨fun k=>by
       have hp:=(h2.frt 3 rfl).kp_ok;have hp1:=(h2.frt 4 rfl).kp_ok;have hf1:=HFD.out.rings 1 G2.k0.waits (waits_in hp)
       match k with
       |0=>exact HFD.out
       |1=>exact hf1
       |k+2=>exact hf1.rings 2 _ (by rw [rings1_k1];exact waits_in hp1)⟩
      have HR3:As (Heap w0 ((G2.kr 0).on q (bx q n0::.pts D (.deferred (some []))::X1::X2::R)) W):=⟨h2⟩;have HEQ:As (G2.kr 2=HEND):=⟨HRO.out.symm⟩;clear HRO HFD;have c1:=h2.cell 0 1 rfl rfl;have c2:=h2.cell 0 2 rfl rfl;have hlb:=h2.lt 0 rfl;obtain ⟨x0,xf⟩:=h2.cB1 13 rfl;have hlx:=h2.lt 13 rfl;clear h2;go_wp2_with (fail);clear c1 c2 hlb x0 xf hlx
      go_loopg [6,7,9,52,57,58,59] 2 (fun gk a6 a7 a9 u b57 b58 b59 wr=>∃k:Nat,u=.int .i64 k∧k≤2∧As (gk+k=2)∧As (Heap w0 ((G2.kr k).on q (bx q n0::.pts D (.deferred (some []))::X1::X2::R)) wr))
      case atStart=>exact ⟨0,rfl,Nat.zero_le _,⟨rfl⟩,HR3⟩
      case round=>
       obtain ⟨k3,rfl,hk3,HG3,HR4⟩:=hrel;clear HR3;by_cases hlt3:k3<2
       ·rcases (show k3=0∨k3=1 by omega) with rfl|rfl
        ·skip;clear hlt3;have HFK:As (Fine (G2.kr 0)):=⟨HFK0.out 0⟩;have HSU:As (G2.kr 1=(G2.kr 0).rings 1 (G2.kr 0).k0.waits):=⟨rfl⟩;have HNX:As (∀k,k=1→Fine (G2.kr k)):=⟨fun k _=>HFK0.out k⟩;generalize hGN:G2.kr 1=GN at *;have HGN:=zk hGN;clear hGN;generalize G2.kr 0=GK at *;have HKEY:=zk (waits_in ((HR4.out.frt 3 rfl).kp_ok));have hwl:=kwaits_len ((HR4.out.frt 3 rfl).kp_ok);obtain ⟨x0,xf⟩:=HR4.out.cB1 13 rfl;have hlx:=HR4.out.lt 13 rfl;have hix:=index62_0 q.k0 q.k1 wr;go_wp2_with (go_at_call 47;refine (waits_on0 HR4.out).mono ?_;rintro e w5 ⟨sp,sk,rfl,h5⟩;clear x0 xf hlx;have H5:=zk h5;clear h5);clear HR4 hix;have HFC:As (∀k,Fine (GK.rg 1 GK.k0.waits k)):=⟨fun k=>rg_fine HFK.out 1 HKEY.out k⟩;have HRS:As (∀k id,GK.k0.waits[k]? =some id→GK.rg 1 GK.k0.waits (k+1)=((GK.rg 1 GK.k0.waits k).ringN 1 id).2):=⟨fun k id hk=>rg_succ GK 1 hk⟩;have HRA:=zk (rg_all GK 1 GK.k0.waits);have H5z:As (Heap w0 ((GK.rg 1 GK.k0.waits 0).on q (.slc (.slice sp GK.k0.waits.length sk) 3 1 GK.k0.waits.length (GK.k0.waits.map (Value.int .i64))::bx q n0::.pts D (.deferred (some []))::X1::X2::R)) w5):=H5;clear H5;generalize GK.k0.waits=ws at *;generalize hn5:ws.length=n5 at *
         go_loopg [9,59] n5 (fun gk a9 u wr=>∃j:Nat,u=.int .i64 j∧j≤n5∧As (gk+j=n5)∧As (Heap w0 ((GK.rg 1 ws j).on q (.slc (.slice sp n5 sk) 3 1 n5 (ws.map (Value.int .i64))::bx q n0::.pts D (.deferred (some []))::X1::X2::R)) wr))
         case atStart=>exact ⟨0,rfl,Nat.zero_le _,⟨rfl⟩,H5z⟩
         case round=>
          obtain ⟨j,rfl,hj,HG4,HR5⟩:=hrel;clear H5z;by_cases hlt4:j<n5
          ·have hjd:ws[j]? =some (ws[j]'(by omega)):=List.getElem?_eq_getElem (by omega);generalize ws[j]'(by omega)=id at *;have hin:=HKEY.out id (List.mem_of_getElem? hjd);have HSJ:=zk (HRS.out j id hjd);have HFJ:=zk (HFC.out j);generalize GK.rg 1 ws j=GJ at *;obtain ⟨g,rfl,y0,hyl⟩:=waits_at (g:=0) HR5.out 13 rfl hjd;obtain ⟨x0,xf⟩:=HR5.out.cB1 14 rfl;have hlx:=HR5.out.lt 14 rfl;have HRG:=zk (hring_k HFJ.out HR5.out 1 (by omega) id hin.1 hin.2);exact zHbr1
          ·obtain rfl:j=n5:=by omega
           have hre:=HR5.out;rw [HRA.out,←HSU.out] at hre;have H7:=zk (hre.sel (p:= [_,_,_,_,_,_,_,_,_,_,_,_,_,_]) [0,1,2,3,4,5,6,7,8,9,10,11,12] 14 rfl (by decide));clear HR5 HRS HFC HRA hre;go_wp2_with (fail);go_roundg (2-(0+1))
           case measure=>have:=HG3.out;omega
           case rel=>
            refine ⟨1,by go_num,by omega,⟨by omega⟩,⟨?_⟩⟩;rw [HGN.out];exact H7.out
        ·skip;clear hlt3;have HFK:As (Fine (G2.kr 1)):=⟨HFK0.out 1⟩;have HSU:As (G2.kr 2=(G2.kr 1).rings 2 (G2.kr 1).k1.waits):=⟨rfl⟩;have HNX:As (∀k,k=2→Fine (G2.kr k)):=⟨fun k _=>HFK0.out k⟩;generalize hGN:G2.kr 2=GN at *;have HGN:=zk hGN;clear hGN;generalize G2.kr 1=GK at *;have HKEY:=zk (waits_in ((HR4.out.frt 4 rfl).kp_ok));have hwl:=kwaits_len ((HR4.out.frt 4 rfl).kp_ok);obtain ⟨x0,xf⟩:=HR4.out.cB1 13 rfl;have hlx:=HR4.out.lt 13 rfl;have hix:=index62_1 q.k0 q.k1 wr;go_wp2_with (go_at_call 47;refine (waits_on1 HR4.out).mono ?_;rintro e w5 ⟨sp,sk,rfl,h5⟩;clear x0 xf hlx;have H5:=zk h5;clear h5);clear HR4 hix;have HFC:As (∀k,Fine (GK.rg 2 GK.k1.waits k)):=⟨fun k=>rg_fine HFK.out 2 HKEY.out k⟩;have HRS:As (∀k id,GK.k1.waits[k]? =some id→GK.rg 2 GK.k1.waits (k+1)=((GK.rg 2 GK.k1.waits k).ringN 2 id).2):=⟨fun k id hk=>rg_succ GK 2 hk⟩;have HRA:=zk (rg_all GK 2 GK.k1.waits);have H5z:As (Heap w0 ((GK.rg 2 GK.k1.waits 0).on q (.slc (.slice sp GK.k1.waits.length sk) 3 1 GK.k1.waits.length (GK.k1.waits.map (Value.int .i64))::bx q n0::.pts D (.deferred (some []))::X1::X2::R)) w5):=H5;clear H5;generalize GK.k1.waits=ws at *;generalize hn5:ws.length=n5 at *
         go_loopg [9,59] n5 (fun gk a9 u wr=>∃j:Nat,u=.int .i64 j∧j≤n5∧As (gk+j=n5)∧As (Heap w0 ((GK.rg 2 ws j).on q (.slc (.slice sp n5 sk) 3 1 n5 (ws.map (Value.int .i64))::bx q n0::.pts D (.deferred (some []))::X1::X2::R)) wr))
         case atStart=>exact ⟨0,rfl,Nat.zero_le _,⟨rfl⟩,H5z⟩
         case round=>
          obtain ⟨j,rfl,hj,HG4,HR5⟩:=hrel;clear H5z;by_cases hlt4:j<n5
          ·have hjd:ws[j]? =some (ws[j]'(by omega)):=List.getElem?_eq_getElem (by omega);generalize ws[j]'(by omega)=id at *;have hin:=HKEY.out id (List.mem_of_getElem? hjd);have HSJ:=zk (HRS.out j id hjd);have HFJ:=zk (HFC.out j);generalize GK.rg 2 ws j=GJ at *;obtain ⟨g,rfl,y0,hyl⟩:=waits_at (g:=0) HR5.out 13 rfl hjd;obtain ⟨x0,xf⟩:=HR5.out.cB1 14 rfl;have hlx:=HR5.out.lt 14 rfl;have HRG:=zk (hring_k HFJ.out HR5.out 2 (by omega) id hin.1 hin.2);exact zHbr1
          ·obtain rfl:j=n5:=by omega
           have hre:=HR5.out;rw [HRA.out,←HSU.out] at hre;have H7:=zk (hre.sel (p:= [_,_,_,_,_,_,_,_,_,_,_,_,_,_]) [0,1,2,3,4,5,6,7,8,9,10,11,12] 14 rfl (by decide));clear HR5 HRS HFC HRA hre;go_wp2_with (fail);go_roundg (2-(1+1))
           case measure=>have:=HG3.out;omega
           case rel=>
            refine ⟨2,by go_num,by omega,⟨by omega⟩,⟨?_⟩⟩;rw [HGN.out];exact H7.out
       ·obtain rfl:k3=2:=by omega
        rw [HEQ.out] at HR4;obtain ⟨x0,xf⟩:=HR4.out.cB1 13 rfl;go_wp2_with (fail);refine ⟨by simp,.inl ⟨_,_,rfl,run_takeDeferred (HR4.out.at 14 rfl),?_⟩⟩;refine ⟨_,results_none rfl _ _ _,rfl,?_⟩;rw [HRE.out];refine ⟨(HR4.out.putAt 14 rfl (.deferred none)).sel (p:= [_,_,_,_,_,_,_,_,_,_,_,_,_,_,_,_,_]) [0,1,2,3,4,5,6,7,8,9,10,11,12] 17 rfl (by decide),?_⟩;rw [←HEQ.out];exact HFK0.out 2
end
end Go.Proofs.YtlnghlamnehfjaaGreatDoor.S
namespace Go.Proofs.YtlnghlamnehfjaaGreatDoor.S
open Go.RowKit Go.Maps
section
variable {w0 w:World} {q:HA} {H:Harb} {R:List SA}
theorem settle_ok (hf:Fine H) (h:Heap w0 (H.on q R) w) (n:Nat) (hn:n≤1000):
 Calls Tryz.prog 10 #[.pointer (some ⟨q.b,0,none⟩),.int .i64 n] w fun e w'=>e=.returned (.int .i64 (Harb.settle n H).1)∧Heap w0 ((Harb.settle n H).2.on q R) w'∧Fine (Harb.settle n H).2:=by
 have HH:=zk h;have HF:=zk hf;clear h hf;have hmin:min (n:Int) 1000=(n:Int):=by omega
 go_enter Tryz.func10,Tryz.ntmps10;go_wp2_with (fail)
 go_loopg [5] n (fun gk u wr=>∃(k:Nat) (G:Harb),u=.int .i64 k∧k≤n∧As (gk+k=n)∧As (Fine G)∧As (Heap w0 (G.on q R) wr)∧As (Harb.settle n H=((Harb.settle (n-k) G).1+k,(Harb.settle (n-k) G).2)))
 case atStart=>exact ⟨0,H,rfl,Nat.zero_le _,⟨rfl⟩,HF,HH,⟨rfl⟩⟩
 case round=>
  obtain ⟨k,G,rfl,hk,HG,HFG,HR,HS⟩:=hrel;clear HH HF;by_cases hlt:k<n
  ·obtain ⟨j,hj⟩:∃j,n-k=j+1:=⟨n-k-1,by omega⟩;have hj2:n-(k+1)=j:=by omega
   rw [hj] at HS;have HCA:=zk (calm_ok HFG.out HR.out);have HS1:As (Harb.settle (j+1) G=if G.calm=true then (0,G) else ((Harb.settle j G.round).1+1,(Harb.settle j G.round).2)):=⟨rfl⟩;cases hc:G.calm with
   |true=>
    rw [hc] at HCA HS1;simp only [if_true] at HS1;rw [HS1.out] at HS;clear HS1 hc;go_wp2_with (go_at_call 26;refine HCA.out.mono ?_;rintro e w2 ⟨rfl,h2⟩;have H2:=zk h2;clear h2);go_ret;rw [HS.out];exact ⟨by simp,H2.out,HFG.out⟩
   |false=>
    rw [hc] at HCA HS1;simp only [Bool.false_eq_true,if_false] at HS1;rw [HS1.out] at HS;clear HS1 hc;go_wp2_with (first
     |(go_at_call 26;refine HCA.out.mono ?_;rintro e w2 ⟨rfl,h2⟩;have H2:=zk h2;clear h2)
     |(go_at_call 27;refine (round_ok HFG.out H2.out).mono ?_;rintro e w3 ⟨rfl,h3,hf3⟩;have H3:=zk h3;have HF3:=zk hf3;clear h3 hf3))
    go_roundg (n-(k+1))
    case measure=>have:=HG.out;omega
    case rel=>
     refine ⟨k+1,G.round,by go_num,by omega,⟨by omega⟩,HF3,H3,⟨?_⟩⟩;rw [HS.out,hj2];congr 1;omega
  ·obtain rfl:k=n:=by omega
   go_wp2_with (fail);go_ret;rw [HS.out,Nat.sub_self];exact ⟨by simp [Harb.settle],HR.out,HFG.out⟩
end
theorem u64_nn (t:Int):0≤u64 t:=by unfold u64;omega
theorem u64_tmod (t n:Int):(IntKind.u64.wrap t).tmod n=u64 t%n:=by
 rw [IntKind.wrap_u64,Int.tmod_eq_emod_of_nonneg (by omega)];rfl
theorem wsm {x:Int} (h0:0≤x) (h1:x<1000000):wrap64 x=x:=by unfold wrap64;omega
section
variable {w0 w:World} {R:List SA}
theorem setup_ok (h:Heap w0 R w) (t:Int):Calls Tryz.prog 22 #[.int .i64 t] w fun e w'=>∃g1 c1 g2 c2 g3 c3,e=.returned (.agg #[.slice (some ⟨g1,0,none⟩) 2 c1,.slice (some ⟨g2,0,none⟩) 2 c2,.slice (some ⟨g3,0,none⟩) 3 c3,.int .i64 5,.int .i64 4096,.int .i64 (2+u64 t%5)])∧Heap w0 (.slc (.slice (some ⟨g1,0,none⟩) 2 c1) 3 1 2 [.int .i64 60,.int .i64 5]::.slc (.slice (some ⟨g2,0,none⟩) 2 c2) 3 1 2 [.int .i64 900,.int .i64 40]::.slc (.slice (some ⟨g3,0,none⟩) 3 c3) 3 1 3 [.int .i64 9,.int .i64 30,.int .i64 4]::R) w':=by
 have H:=zk h;clear h;go_enter Tryz.func22,Tryz.ntmps22;go_wp2_with (fail);have e5:wrap64 (2+wrap64 ((IntKind.u64.wrap t).tmod 5))=2+u64 t%5:=by
  rw [u64_tmod];rw [wsm (x:=u64 t%5) (by omega) (by omega),wsm (by omega) (by omega)]
 rw [e5];have h1:=Heap.nAt (n:=w.heap.size+1) (H.out.alloc (.cells #[.slice (some ⟨w.heap.size+1,0,none⟩) 2 2,.slice (some ⟨w.heap.size+1+1,0,none⟩) 2 2,.slice (some ⟨w.heap.size+1+1+1,0,none⟩) 3 3,.int .i64 5,.int .i64 4096,.int .i64 (2+u64 t%5)] 55)) (.cells #[.int .i64 60,.int .i64 5] 3) (by simp);have h2:=Heap.nAt (n:=w.heap.size+1+1) (Heap.asSlc (k:=2) (size:=1) h1 (by decide) rfl) (.cells #[.int .i64 900,.int .i64 40] 3) (by simp);have h3:=Heap.nAt (n:=w.heap.size+1+1+1) (Heap.asSlc (k:=2) (size:=1) h2 (by decide) rfl) (.cells #[.int .i64 9,.int .i64 30,.int .i64 4] 3) (by simp);have h4:=(Heap.asSlc (k:=3) (size:=1) h3 (by decide) rfl).sel (p:= [_,_,_]) [2,1,0] 3 rfl (by decide);exact bodyPost_ret (v:=.agg #[.slice (some ⟨w.heap.size+1,0,none⟩) 2 2,.slice (some ⟨w.heap.size+1+1,0,none⟩) 2 2,.slice (some ⟨w.heap.size+1+1+1,0,none⟩) 3 3,.int .i64 5,.int .i64 4096,.int .i64 (2+u64 t%5)]) (by simp [results,Tryz.results22,go_sem]) rfl ⟨_,_,_,_,_,_,rfl,h4⟩
end
structure KCnt (n:Nat) (k:Keeper):Prop where
 len:k.j.es.length≤n
 room:k.j.room=4096
theorem KCnt.notes {n:Nat} {k:Keeper} (h:KCnt n k) (e:Entry):KCnt (n+1) (k.notes e).2:=by
 obtain ⟨h1,h2,h3,h4⟩:=knotes_j k e;refine ⟨?_,h2.trans h.room⟩;have:=h.len;rcases h4 with h4|h4<;>rw [h4]
 ·omega
 ·simp only [List.length_append,List.length_singleton];omega
theorem KCnt.mono {n m:Nat} {k:Keeper} (h:KCnt n k) (hm:n≤m):KCnt m k:=⟨Nat.le_trans h.len hm,h.room⟩
theorem KCnt.start {n:Nat} {k:Keeper} (h:KCnt n k):KCnt n k.start:=by
 unfold Keeper.start;split
 ·obtain ⟨h1,h2⟩:=kplays_all k.j.es (({k with j:=k.j.recover}:Keeper).forget);exact ⟨by rw [h1];exact h.len,by rw [h1];exact h.room⟩
 ·exact h
theorem KCnt.crash {n:Nat} {k:Keeper} (h:KCnt n k) (stay:Int):KCnt n (k.crash stay):=by
 unfold Keeper.crash;split
 ·exact h
 ·refine ⟨?_,h.room⟩
  show (k.j.es.take _).length≤n
  rw [List.length_take];have:=h.len;omega
theorem KCnt.force {n:Nat} {k:Keeper} (h:KCnt n k) (id:Int) (yes:Bool):KCnt (n+1) (k.force id yes).2:=by
 unfold Keeper.force;split
 ·exact h.mono (by omega)
 split
 ·exact h.notes _
 ·exact h.mono (by omega)
theorem KCnt.handle {n:Nat} {k:Keeper} (h:KCnt n k) (m:Msg):KCnt (n+1) (k.handle m).2:=by
 unfold Keeper.handle;split
 ·exact h.mono (by omega)
 obtain ⟨c1,c2⟩:=kcan_j k m.kind m.id m.a m.b;have hc:KCnt n (k.can m.kind m.id m.a m.b).2:=⟨by rw [c1];exact h.len,by rw [c1];exact h.room⟩;simp only;split
 ·exact hc.mono (by omega)
 ·exact hc.notes _
structure Cnt (n:Nat) (H:Harb):Prop where
 k0:KCnt n H.k0
 k1:KCnt n H.k1
theorem Cnt.mono {n m:Nat} {H:Harb} (h:Cnt n H) (hm:n≤m):Cnt m H:=⟨h.k0.mono hm,h.k1.mono hm⟩
theorem Cnt.gives {n:Nat} {H:Harb} (h:Cnt n H) (m:Msg):Cnt (n+1) (H.gives m):=by
 have h':=h.mono (Nat.le_succ n);unfold Harb.gives;repeat' split
 all_goals first|exact ⟨h'.k0,h'.k1⟩|exact ⟨h.k0.handle m,h'.k1⟩|exact ⟨h'.k0,h.k1.handle m⟩
theorem Cnt.take {n:Nat} {H:Harb} (h:Cnt n H) (kind i:Int):Cnt (n+1) (H.take kind i).2:=by
 have h':=h.mono (Nat.le_succ n);unfold Harb.take;split
 ·exact h'
 split
 ·exact h'
 split
 ·exact ⟨h'.k0,h'.k1⟩
 split
 ·exact Cnt.gives (H:=H.without i.toNat) ⟨h.k0,h.k1⟩ _
 ·exact ⟨h'.k0,h'.k1⟩
theorem Cnt.ringN {n:Nat} {H:Harb} (h:Cnt n H) (i id:Int):Cnt n (H.ringN i id).2:=by
 unfold Harb.ringN;repeat' split
 all_goals exact ⟨h.k0,h.k1⟩
theorem Cnt.power {n:Nat} {H:Harb} (h:Cnt n H) (kind node i:Int):Cnt n (H.power kind node i).2:=by
 unfold Harb.power;split
 ·exact h
 split
 ·unfold Harb.starts;repeat' split
  all_goals first|exact ⟨h.k0,h.k1⟩|exact ⟨h.k0.start,h.k1⟩|exact ⟨h.k0,h.k1.start⟩
 ·unfold Harb.crash;repeat' split
  all_goals first|exact ⟨h.k0,h.k1⟩|exact ⟨h.k0.crash _,h.k1⟩|exact ⟨h.k0,h.k1.crash _⟩
theorem Cnt.forceN {n:Nat} {H:Harb} (h:Cnt n H) (node id:Int) (yes:Bool):Cnt (n+1) (H.force node id yes).2:=by
 have h':=h.mono (Nat.le_succ n);unfold Harb.force;split
 ·exact ⟨h.k0.force id yes,h'.k1⟩
 ·exact ⟨h'.k0,h.k1.force id yes⟩
theorem Cnt.act {n:Nat} {H:Harb} (h:Cnt n H) (c:Cmd):Cnt (n+1) (H.act c).2:=by
 have h':=h.mono (Nat.le_succ n);unfold Harb.act Harb.asks;split
 ·split
  ·exact ⟨h'.k0,h'.k1⟩
  split
  ·exact ⟨h'.k0,h'.k1⟩
  ·exact h.forceN _ _ _
 split
 ·exact h.take _ _
 split
 ·exact h'.ringN _ _
 ·exact h'.power _ _ _
theorem init_cnt (tries:Int):Cnt 0 (Harb.init tries):=⟨⟨by simp [Harb.init],rfl⟩,⟨by simp [Harb.init],rfl⟩⟩
def Harb.kn (H:Harb) (i:Int):Keeper:=if i=1 then H.k0 else H.k1
theorem plays_force (k:Keeper) (id:Int) (yes:Bool):mgi (k.plays ⟨if yes=true then .fyes else .fno,id,[]⟩).st id=if yes=true then 4 else 5:=by
 cases yes
 ·show mgi (mput k.st id 5) id=_
  simp [mgi,mget_put_same]
 ·show mgi (mput k.st id 4) id=_
  simp [mgi,mget_put_same]
theorem force_down {k:Keeper} (id:Int) (yes:Bool) (hd:k.j.down=true):k.force id yes=(10,k):=by
 unfold Keeper.force;rw [if_pos hd]
theorem force_not {k:Keeper} (id:Int) (yes:Bool) (hd:k.j.down=false) (hs:mgi k.st id≠1):k.force id yes=(7,k):=by
 unfold Keeper.force;rw [if_neg (by simp [hd]),if_neg hs]
theorem force_yes {k:Keeper} (id:Int) (yes:Bool) (hd:k.j.down=false) (hs:mgi k.st id=1) {n:Nat} (hc:KCnt n k) (hn:n<4096):
 (k.force id yes).1=0∧(k.force id yes).2.j.down=false∧mgi (k.force id yes).2.st id=if yes=true then 4 else 5:=by
 have hr:¬k.j.room≤(k.j.es.length:Int):=by have:=hc.len;rw [hc.room];omega
 unfold Keeper.force;rw [if_neg (by simp [hd]),if_pos hs];have hn:k.notes ⟨if yes=true then .fyes else .fno,id,[]⟩=(true,({k with j:=(k.j.add ⟨if yes=true then .fyes else .fno,id,[]⟩).2.sync}:Keeper).plays ⟨if yes=true then .fyes else .fno,id,[]⟩):=by
  unfold Keeper.notes;rw [if_neg hr]
 rw [hn];refine ⟨rfl,?_,plays_force _ _ _⟩
 show (Keeper.plays _ _).j.down=false
 rw [(kplays_j2 _ _).1]
 show (k.j.add _).2.down=false
 unfold Jrn.add;rw [if_neg hr];exact hd
theorem kn_force (H:Harb) (node id:Int) (yes:Bool) (hn:node=1∨node=2):(H.force node id yes).1=((H.kn node).force id yes).1∧(H.force node id yes).2.kn node=((H.kn node).force id yes).2:=by
 unfold Harb.force Harb.kn;rcases hn with rfl|rfl<;>exact ⟨rfl,rfl⟩
theorem force_round {n:Nat} {H:Harb} (hc:Cnt n H) (hn:n+1<4096) (node id:Int) (hno:node=1∨node=2) (yes:Bool):
 ((H.kn node).j.down=true∧(H.force node id yes).1=10∧((H.force node id yes).2.kn node).j.down=true)∨
 (((H.force node id yes).2.kn node).j.down=false∧mgi (H.kn node).st id=1∧(H.force node id yes).1=0∧(mgi ((H.force node id yes).2.kn node).st id=4∨mgi ((H.force node id yes).2.kn node).st id=5)∧
   ((H.force node id yes).2.force node id (!yes)).1=7∧mgi (((H.force node id yes).2.force node id (!yes)).2.kn node).st id=mgi ((H.force node id yes).2.kn node).st id)∨
 (((H.force node id yes).2.kn node).j.down=false∧mgi (H.kn node).st id≠1∧(H.force node id yes).1=7∧mgi ((H.force node id yes).2.kn node).st id=mgi (H.kn node).st id∧
   ((H.force node id yes).2.force node id (!yes)).1=7∧mgi (((H.force node id yes).2.force node id (!yes)).2.kn node).st id=mgi ((H.force node id yes).2.kn node).st id):=by
 obtain ⟨e1,e2⟩:=kn_force H node id yes hno;obtain ⟨e3,e4⟩:=kn_force (H.force node id yes).2 node id (!yes) hno;rw [e1,e3,e4,e2];have hk:KCnt n (H.kn node):=by
  unfold Harb.kn;split
  ·exact hc.k0
  ·exact hc.k1
 generalize H.kn node=k at *;cases hd:k.j.down
 ·by_cases hs:mgi k.st id=1
  ·right;left;obtain ⟨f1,f2,f3⟩:=force_yes id yes hd hs hk (by omega);have f4:mgi (k.force id yes).2.st id≠1:=by rw [f3];cases yes<;>decide
   rw [force_not id (!yes) f2 f4];exact ⟨f2,hs,f1,by rw [f3];cases yes<;>simp,rfl,rfl⟩
  ·right;right;rw [force_not id yes hd hs];simp only;rw [force_not id (!yes) hd hs];exact ⟨hd,hs,by simp,by simp,by simp,by simp⟩
 ·left;rw [force_down id yes hd];exact ⟨rfl,rfl,hd⟩
end Go.Proofs.YtlnghlamnehfjaaGreatDoor.S
