/- Part Q25. -/
import Derived.Test.YtlnghlamnehfjaaGreatDoorQ06
import Derived.Test.YtlnghlamnehfjaaGreatDoorQ10
set_option linter.unusedVariables false
set_option linter.unusedSimpArgs false
set_option maxRecDepth 100000
set_option maxHeartbeats 64000000
namespace Go.Proofs.YtlnghlamnehfjaaGreatDoor.S
open Go.RowKit Go.Maps
theorem QDg {P:Prop} (h:P:=by
 go_enter Tryz.func311,Tryz.ntmps311;go_wp2_with (first|(go_at_call 313;refine (HI.1 _).m0 ?_)|(go_at_call 113;refine (HM.1 _).m0 ?_)|(go_at_call 275;refine (HS.1 _).m0 ?_)|(at_lookup;refine wll H.1 1 bm _ rfl rfl _ _ 215 358 true rfl Tryz.underlying215 _ DW rfl id rfl (by omega) (by omega) ?_;rw [hg];simp only [Option.map_none,Option.getD_none,Option.isSome_none,if_true,two]));first
  |(have ty:Tg 1:=tg;obtain ⟨W2,hW2⟩:∃W2,w.alloc (.cells #[.int .i64 0,.int .i64 0] 358)=W2:=⟨_,rfl⟩;have h2:=H.1.alloc (.cells #[.int .i64 0,.int .i64 0] 358);rw [hW2] at h2⊢;have hp:=HP.1;clear c16 cfr cff hlb;have c16:W2.cell? ⟨b,16,none⟩=some (.map (some bm)):=h2.cell 0 16 rfl (Qp.Qos hp);have cfr:W2.cell? ⟨b,8+i,none⟩=some (.int .i64 (t.free.getD i 0)):=h2.cell 0 (8+i) rfl (Qp.free_at hp hi);have cff:W2.frozen? ⟨b,8+i,none⟩=false:=h2.frz 0 (8+i) rfl;have hlb:=h2.lt 0 rfl;have H2:=zk h2;clear h2 hp;refine Xh [(0,.f),(1,.f),(2,.f),(3,.f),(4,.f),(5,.s),(6,.f),(7,.f),(8,.f),(9,.f),(10,.f),(11,.f),(12,.f),(13,.f),(14,.e),(15,.e),(16,.f),(17,.e)] ?_;repeat (first
     |refine vR ?_
     |(refine ve rfl rfl ?_;go_wp2_with (first|(refine DX (H2.1.drew.sAt 0 (8+i) _ rfl) 1 bm _ rfl rfl _ _ 215 358 rfl Tryz.underlying215 _ DW rfl id rfl (by omega) (by omega) hnn.1 ?_;intro st w3 H3 hg3;have H3:=zk H3;clear hg3)|(refine JU H3.1 1 bm _ id st rfl rfl _ _ _ 215 rfl rfl rfl _ rfl ?_;intro w4 H4 hg4;have H4:=zk H4;clear hg4));refine ⟨trivial,?_⟩))
    refine vn ?_;go_simp;go_wp2_with fail;go_ret;have hr:t.reserve id i q=(0,{t with free:=t.free.set i left,resv:=Qt t.resv id ((i:Int),q)}):=by unfold Qp.reserve;rw [if_neg HB.1,if_neg (by simp [HG.1]),HE.1,if_pos rfl]
    rw [hr];refine ⟨rfl,?_⟩;have hp:=HP.1;refine Heap.Zt (bm:=bm) ⟨hp.h8,by simp [hp.f8],hp.keys.put _ h0 h1,?_⟩ ?_;intro p hp2;rcases YB hp2 with rfl|hp2;exact ⟨hi0,hi1⟩;exact hp.item p hp2;have h9:=H4.1;have h10:=Qp.Qlg (bm:=bm) hp hi left (Qt t.resv id ((i:Int),q));rw [←h10,Xt];exact h9)
  |(have ty:Tg 2:=tg;go_ret;have hr:t.reserve id i q=(e,t):=by unfold Qp.reserve;rw [if_neg HB.1,if_neg (by simp [HG.1]),HE.1,if_neg HEE.1]
    rw [hr];exact ⟨rfl,HH.1.alloc _⟩)):P:=h
theorem Heap.rm {w0 w:World} {A:SA} {l:List SA} (h:Heap w0 l w) (i:Nat) (e:l[i]? =some A):Heap w0 (l.eraseIdx i) w:=(h.frt i e).drop
theorem QAf (a b:Int) (w:World):CE 275 #[.int .i64 a,.int .i64 b] w (.tuple #[.int .i64 (sub a b).1,.int .i64 (sub a b).2]):=by
 by_cases h:0≤a∧a≤1000000000;exact Qvh a b w h.1 h.2
 ·by_cases h1:0≤a
  ·have h2:¬a≤1000000000:=by omega
   have hd2:decide (a≤1000000000)=false:=by simpa using h2
   go_enter Tryz.func275,Tryz.ntmps275;go_wp2
   go_ret2
   exact ⟨by simp [sub,may, *],rfl⟩
  ·have hd2:decide (0≤a)=false:=by simpa using h1
   go_enter Tryz.func275,Tryz.ntmps275;go_wp2
   go_ret2
   exact ⟨by simp [sub,may, *],rfl⟩
abbrev Two:=Int×Int
def two (p:Two):Value:=.agg #[.int .i64 p.1,.int .i64 p.2]
structure Qp where
 hand:List Int
 free:List Int
 resv:IM Two
structure Qp.ok (t:Qp):Prop where
 h8:t.hand.length=8
 f8:t.free.length=8
 keys:Ql t.resv
 item:∀p∈t.resv,0≤p.2.1∧p.2.1<8
def Qp.cells (t:Qp) (bm:Nat):Array Value:=(t.hand.map (Value.int .i64)++(t.free.map (Value.int .i64)++ [Value.map (some bm)])).toArray
def SA.Zj (b:Nat) (t:Qp):SA:=.when t.ok (.ex fun bm=>.star (.pts b (.cells (t.cells bm) 217)) (.map bm (Qx two t.resv)))
section
variable {w0 w:World} {b bm:Nat} {t:Qp} {R:List SA}
theorem Heap.Zo (h:Heap w0 (.Zj b t::R) w):t.ok∧∃bm,Heap w0 (.pts b (.cells (t.cells bm) 217)::.map bm (Qx two t.resv)::R) w:=by
 obtain ⟨hp,h⟩:=h.QT;obtain ⟨bm,h⟩:=h.YL;exact ⟨hp,bm,h.XF⟩
theorem Heap.Zt (hp:t.ok) (h:Heap w0 (.pts b (.cells (t.cells bm) 217)::.map bm (Qx two t.resv)::R) w):Heap w0 (.Zj b t::R) w:=
 Heap.QZ hp (Heap.Yr (f:=fun bm=>.star (.pts b (.cells (t.cells bm) 217)) (.map bm (Qx two t.resv))) bm h.Xx)
theorem Qp.Qpo (h:t.ok) {i:Nat} (hi:i<8):(t.cells bm)[i]? =some (.int .i64 (t.hand.getD i 0)):=by
 have h8:=h.h8;simp only [Qp.cells,List.getElem?_toArray];rw [List.getElem?_append_left (by simp;omega),List.getElem?_map,List.getD_eq_getElem?_getD];rw [List.getElem?_eq_getElem (by omega)];rfl
theorem Qp.free_at (h:t.ok) {i:Nat} (hi:i<8):(t.cells bm)[8+i]? =some (.int .i64 (t.free.getD i 0)):=by
 have h8:=h.h8;have f8:=h.f8;simp only [Qp.cells,List.getElem?_toArray];rw [List.getElem?_append_right (by simp;omega),List.length_map,h8,Nat.add_sub_cancel_left,List.getElem?_append_left (by simp;omega),List.getElem?_map,List.getD_eq_getElem?_getD];rw [List.getElem?_eq_getElem (by omega)];rfl
theorem Qp.Qos (h:t.ok):(t.cells bm)[16]? =some (.map (some bm)):=by
 have h8:=h.h8;have f8:=h.f8;simp only [Qp.cells,List.getElem?_toArray];rw [List.getElem?_append_right (by simp;omega),List.length_map,h8,List.getElem?_append_right (by simp;omega),List.length_map,f8];rfl
theorem Qp.Qvo (h:t.ok) {i:Nat} (hi:i<8) (x:Int) (r:IM Two):(t.cells bm).setIfInBounds i (.int .i64 x)=({t with hand:=t.hand.set i x,resv:=r}:Qp).cells bm:=by
 have h8:=h.h8;apply Array.ext';simp only [Qp.cells,Array.toList_setIfInBounds];rw [List.set_append_left _ _ (by simp;omega),List.map_set]
theorem Qp.Qlg (h:t.ok) {i:Nat} (hi:i<8) (x:Int) (r:IM Two):(t.cells bm).setIfInBounds (8+i) (.int .i64 x)=({t with free:=t.free.set i x,resv:=r}:Qp).cells bm:=by
 have h8:=h.h8;have f8:=h.f8;apply Array.ext';simp only [Qp.cells,Array.toList_setIfInBounds];rw [List.set_append_right _ _ (by simp;omega),List.length_map,h8,Nat.add_sub_cancel_left,List.set_append_left _ _ (by simp;omega),List.map_set]
end
theorem DW:∀w,(zeroValue 358).run Tryz.prog w=.ok (two (0,0)) w:=fun _=>by kernel_rfl
def Qp.take (t:Qp) (id:Int):Two×Int×Qp:=
 match Qc t.resv id with
 |some p=>(p,0,{t with resv:=QI t.resv id})
 |none=>((0,0),6,t)
theorem Qli {w0 w:World} {b:Nat} {t:Qp} {R:List SA} (h:Heap w0 (.Zj b t::R) w) (id:Int) (h0:1≤id) (h1:id≤999):
 CH 312 #[b,id] w (.tuple #[two (t.take id).1,.int .i64 (t.take id).2.1]) w0 (.Zj b (t.take id).2.2::R):=by
 obtain ⟨hp,bm,h⟩:=h.Zo;have c16:w.cell? ⟨b,16,none⟩=some (.map (some bm)):=h.cell 0 16 rfl (Qp.Qos hp);have hlb:=h.lt 0 rfl;have HP:=zk hp;have H:=zk h;have H1:=zk (Heap.nAt (n:=w.heap.size) h (.cells #[.int .i64 0,.int .i64 0] 358) rfl);have hg:Qc (Qx two t.resv) id=(Qc t.resv id).map two:=YW _ _ _;clear h hp;cases hm:Qc t.resv id with
 |none=>
  have HM:=zk hm;rw [hm] at hg;clear hm;go_enter Tryz.func312,Tryz.ntmps312;go_wp2_with (at_lookup;refine wll H1.1 2 bm _ rfl rfl _ _ 215 358 true rfl Tryz.underlying215 _ DW rfl id rfl (by omega) (by omega) ?_;rw [hg];simp only [Option.map_none,Option.getD_none,Option.isSome_none,if_true,two]);have HF:=Heap.nAt (n:=w.heap.size+1) H1.1 (.cells #[.int .i64 0,.int .i64 0] 358) (by simp);have z0:=HF.cB2 1 rfl;refine bodyPost_ret (v:=.tuple #[.agg #[.int .i64 0,.int .i64 0],.int .i64 6]) (by simp [results,Tryz.results312,go_sem,z0]) rfl ⟨by simp [Qp.take,HM.1,two],?_⟩;rw [show (t.take id).2.2=t by simp [Qp.take,HM.1]];exact Heap.Zt (bm:=bm) HP.1 ((HF.rm 0 rfl).rm 0 rfl)
 |some p=>
  have HM:=zk hm;rw [hm] at hg;clear hm;obtain ⟨p1,p2⟩:=p;have H2:=zk (Heap.nAt (n:=w.heap.size+1) H1.1 (.cells #[.int .i64 p1,.int .i64 p2] 358) (by simp));go_enter Tryz.func312,Tryz.ntmps312;go_wp2_with (first|(at_lookup;refine wll H1.1 2 bm _ rfl rfl _ _ 215 358 true rfl Tryz.underlying215 _ DW rfl id rfl (by omega) (by omega) ?_;rw [hg];simp only [Option.map_some,Option.getD_some,Option.isSome_some,if_true,two])|(at_delete;refine Zl H2.1 3 bm _ rfl rfl _ _ 215 358 rfl Tryz.underlying215 rfl id rfl (by omega) (by omega) ?_;intro w3 h3 _;have y0:=h3.cB2 0 rfl;have x0:=h3.cB2 1 rfl;have hlc:=h3.lt 1 rfl;have H3:=zk h3;clear h3));have HF:=(H3.1.sAt 1 0 (.int .i64 p1) rfl).sAt 1 1 (.int .i64 p2) rfl;have z0:=HF.cB2 1 rfl;refine bodyPost_ret (v:=.tuple #[.agg #[.int .i64 p1,.int .i64 p2],.int .i64 0]) (by simp [results,Tryz.results312,go_sem,z0]) rfl ⟨by simp [Qp.take,HM.1,two],?_⟩;rw [show (t.take id).2.2= {t with resv:=QI t.resv id} by simp [Qp.take,HM.1]];have hp:=HP.1;have h9:=(HF.rm 0 rfl).rm 0 rfl;refine Heap.Zt (bm:=bm) ⟨hp.h8,hp.f8,hp.keys.del id,fun p h=>hp.item p (VC h)⟩ ?_;rw [Vd];exact h9
def Qp.Vk (t:Qp) (id:Int):Int×Qp:=
 ((t.take id).2.1,if (t.take id).2.1=0 then {(t.take id).2.2 with hand:=t.hand.set (t.take id).1.1.toNat (wrap64 (t.hand.getD (t.take id).1.1.toNat 0-(t.take id).1.2))} else (t.take id).2.2)
def Qp.release (t:Qp) (id:Int):Int×Qp:=
 ((t.take id).2.1,if (t.take id).2.1=0 then {(t.take id).2.2 with free:=t.free.set (t.take id).1.1.toNat (wrap64 (t.free.getD (t.take id).1.1.toNat 0+(t.take id).1.2))} else (t.take id).2.2)
theorem Qnq {w0 w:World} {b:Nat} {t:Qp} {R:List SA} (h:Heap w0 (.Zj b t::R) w) (id:Int) (h0:1≤id) (h1:id≤999):
 CH 309 #[b,id] w (.int .i64 (t.Vk id).1) w0 (.Zj b (t.Vk id).2::R):=by
 have HT:=zk (Qli h id h0 h1);have hok:=h.Zo.1;cases hm:Qc t.resv id with
 |none=>
  have e1:t.take id=((0,0),6,t):=by simp [Qp.take,hm]
  have HE:=zk e1;rw [e1] at HT;clear h e1 hm;go_enter Tryz.func309,Tryz.ntmps309;go_wp2_with (go_at_call 312;refine HT.1.m2 fun w1 h1=>?_;simp only [two];have H1:=zk h1;clear h1);go_ret;refine ⟨by simp [Qp.Vk,HE.1],?_⟩;rw [show (t.Vk id).2=t by simp [Qp.Vk,HE.1]];exact H1.1.alloc _
 |some p=>
  obtain ⟨p1,p2⟩:=p;have e1:t.take id=((p1,p2),0,{t with resv:=QI t.resv id}):=by simp [Qp.take,hm]
  have hit:0≤p1∧p1<8:=hok.item _ (Xe hm);obtain ⟨i,rfl⟩:∃i:Nat,p1=(i:Int):=⟨p1.toNat,by have:=hit.1;omega⟩;have hi8:i<8:=by have:=hit.2;omega
  have HE:=zk e1;rw [e1] at HT;have hi0:(0:Int)≤(i:Int):=by omega
  have hi1:(i:Int)<8:=by omega
  clear h e1 hm hit;go_enter Tryz.func309,Tryz.ntmps309;go_wp2_with (go_at_call 312;refine HT.1.m2 fun w1 h1=>?_;simp only [two];obtain ⟨hp,bm,h1⟩:=h1.Zo;have hlb:=h1.lt 0 rfl;have ch:w1.cell? ⟨b,i,none⟩=some (.int .i64 (t.hand.getD i 0)):=h1.cell 0 i rfl (Qp.Qpo hp hi8);have H1:=zk (Heap.nAt (n:=w1.heap.size) h1 (.cells #[.int .i64 (i:Int),.int .i64 p2] 358) rfl);have HP:=zk hp;clear h1 hp);obtain ⟨W2,hW2⟩:∃W2,w1.alloc (.cells #[.int .i64 (i:Int),.int .i64 p2] 358)=W2:=⟨_,rfl⟩;have h2:=H1.1;rw [hW2] at h2⊢;have x0:=h2.cB2 0 rfl;have hp:=HP.1;have hlc:=h2.lt 1 rfl;have ch2:W2.cell? ⟨b,i,none⟩=some (.int .i64 (t.hand.getD i 0)):=h2.cell 1 i rfl (Qp.Qpo hp hi8);have cf2:W2.frozen? ⟨b,i,none⟩=false:=h2.frz 1 i rfl;have H2:=zk h2;clear h2 ch hp;go_still_tail 13,(by kernel_rfl);change wpList _ _ _ _ _ W2.drew;go_wp2_with fail;go_ret;refine ⟨by simp [Qp.Vk,HE.1],?_⟩;rw [show (t.Vk id).2= {t with hand:=t.hand.set i (wrap64 (t.hand.getD i 0-p2)),resv:=QI t.resv id} by simp [Qp.Vk,HE.1]];have hp:=HP.1;have h9:=(H2.1.drew.sAt 1 i (.int .i64 (wrap64 (t.hand.getD i 0-p2))) rfl).rm 0 rfl;refine Heap.Zt (bm:=bm) ⟨by simp [hp.h8],hp.f8,hp.keys,hp.item⟩ ?_;have h10:=Qp.Qvo (bm:=bm) hp hi8 (wrap64 (t.hand.getD i 0-p2)) (QI t.resv id);rw [←h10];exact h9
theorem Qkj {w0 w:World} {b:Nat} {t:Qp} {R:List SA} (h:Heap w0 (.Zj b t::R) w) (id:Int) (h0:1≤id) (h1:id≤999):
 CH 310 #[b,id] w (.int .i64 (t.release id).1) w0 (.Zj b (t.release id).2::R):=by
 have HT:=zk (Qli h id h0 h1);have hok:=h.Zo.1;cases hm:Qc t.resv id with
 |none=>
  have e1:t.take id=((0,0),6,t):=by simp [Qp.take,hm]
  have HE:=zk e1;rw [e1] at HT;clear h e1 hm;go_enter Tryz.func310,Tryz.ntmps310;go_wp2_with (go_at_call 312;refine HT.1.m2 fun w1 h1=>?_;simp only [two];have H1:=zk h1;clear h1);go_ret;refine ⟨by simp [Qp.release,HE.1],?_⟩;rw [show (t.release id).2=t by simp [Qp.release,HE.1]];exact H1.1.alloc _
 |some p=>
  obtain ⟨p1,p2⟩:=p;have e1:t.take id=((p1,p2),0,{t with resv:=QI t.resv id}):=by simp [Qp.take,hm]
  have hit:0≤p1∧p1<8:=hok.item _ (Xe hm);obtain ⟨i,rfl⟩:∃i:Nat,p1=(i:Int):=⟨p1.toNat,by have:=hit.1;omega⟩;have hi8:i<8:=by have:=hit.2;omega
  have HE:=zk e1;rw [e1] at HT;have hi0:(0:Int)≤(i:Int):=by omega
  have hi1:(i:Int)<8:=by omega
  clear h e1 hm hit;go_enter Tryz.func310,Tryz.ntmps310;go_wp2_with (go_at_call 312;refine HT.1.m2 fun w1 h1=>?_;simp only [two];obtain ⟨hp,bm,h1⟩:=h1.Zo;have hlb:=h1.lt 0 rfl;have ch:w1.cell? ⟨b,8+i,none⟩=some (.int .i64 (t.free.getD i 0)):=h1.cell 0 (8+i) rfl (Qp.free_at hp hi8);have H1:=zk (Heap.nAt (n:=w1.heap.size) h1 (.cells #[.int .i64 (i:Int),.int .i64 p2] 358) rfl);have HP:=zk hp;clear h1 hp);obtain ⟨W2,hW2⟩:∃W2,w1.alloc (.cells #[.int .i64 (i:Int),.int .i64 p2] 358)=W2:=⟨_,rfl⟩;have h2:=H1.1;rw [hW2] at h2⊢;have x0:=h2.cB2 0 rfl;have hp:=HP.1;have hlc:=h2.lt 1 rfl;have ch2:W2.cell? ⟨b,8+i,none⟩=some (.int .i64 (t.free.getD i 0)):=h2.cell 1 (8+i) rfl (Qp.free_at hp hi8);have cf2:W2.frozen? ⟨b,8+i,none⟩=false:=h2.frz 1 (8+i) rfl;have H2:=zk h2;clear h2 ch hp;go_still_tail 13,(by kernel_rfl);change wpList _ _ _ _ _ W2.drew;go_wp2_with fail;go_ret;refine ⟨by simp [Qp.release,HE.1],?_⟩;rw [show (t.release id).2= {t with free:=t.free.set i (wrap64 (t.free.getD i 0+p2)),resv:=QI t.resv id} by simp [Qp.release,HE.1]];have hp:=HP.1;have h9:=(H2.1.drew.sAt 1 (8+i) (.int .i64 (wrap64 (t.free.getD i 0+p2))) rfl).rm 0 rfl;refine Heap.Zt (bm:=bm) ⟨hp.h8,by simp [hp.f8],hp.keys,hp.item⟩ ?_;have h10:=Qp.Qlg (bm:=bm) hp hi8 (wrap64 (t.free.getD i 0+p2)) (QI t.resv id);rw [←h10];exact h9
def Qp.reserve (t:Qp) (id:Int) (i:Nat) (q:Int):Int×Qp:=
 if (decide (q=0)|| !may q)=true then (1,t) else if (Qc t.resv id).isSome=true then (8,t) else
 if (sub (t.free.getD i 0) q).2=0 then (0,{t with free:=t.free.set i (sub (t.free.getD i 0) q).1,resv:=Qt t.resv id ((i:Int),q)}) else ((sub (t.free.getD i 0) q).2,t)
theorem QBd (i:Nat) (hi:i<8) (w:World):CE 313 #[.int .i64 (i:Int)] w (.bool true):=by
 have h0:(0:Int)≤(i:Int):=by omega
 have h1:(i:Int)<8:=by omega
 go_enter Tryz.func313,Tryz.ntmps313;go_wp2;go_ret;exact ⟨rfl,rfl⟩
theorem Qkl {w0 w:World} {b:Nat} {t:Qp} {R:List SA} (h:Heap w0 (.Zj b t::R) w) (id:Int) (i:Nat) (q:Int) (h0:1≤id) (h1:id≤999) (hi:i<8):
 CH 311 #[b,id,.int .i64 (i:Int),.int .i64 q] w (.int .i64 (t.reserve id i q).1) w0 (.Zj b (t.reserve id i q).2::R):=by
 have HH:=zk h;obtain ⟨hp,bm,h⟩:=h.Zo;have c16:w.cell? ⟨b,16,none⟩=some (.map (some bm)):=h.cell 0 16 rfl (Qp.Qos hp);have cfr:w.cell? ⟨b,8+i,none⟩=some (.int .i64 (t.free.getD i 0)):=h.cell 0 (8+i) rfl (Qp.free_at hp hi);have cff:w.frozen? ⟨b,8+i,none⟩=false:=h.frz 0 (8+i) rfl;have hlb:=h.lt 0 rfl;have HP:=zk hp;have H:=zk h;have hg:Qc (Qx two t.resv) id=(Qc t.resv id).map two:=YW _ _ _;have HI:As (∀W,CE 313 #[.int .i64 (i:Int)] W (.bool true)):=⟨QBd i hi⟩;have HM:As (∀W,CE 113 #[.int .i64 q] W (.bool (may q))):=⟨FU q⟩;have HS:As (∀W,CE 275 #[.int .i64 (t.free.getD i 0),.int .i64 q] W (.tuple #[.int .i64 (sub (t.free.getD i 0) q).1,.int .i64 (sub (t.free.getD i 0) q).2])):=⟨QAf _ q⟩;have hi0:(0:Int)≤(i:Int):=by omega
 have hi1:(i:Int)<8:=by omega
 clear h hp;by_cases hz:q=0
 ·subst hz;go_enter Tryz.func311,Tryz.ntmps311;go_wp2_with (go_at_call 313;refine (HI.1 _).m0 ?_);go_ret;exact ⟨by simp [Qp.reserve],by rw [show (t.reserve id i 0).2=t by simp [Qp.reserve]];exact HH.1⟩
 ·have hz1:(q==0)=false:=by simpa using hz
  cases hm:may q
  ·have HB:=zk hm;rw [hm] at HM;have HZ:=zk hz;clear hm hz;go_enter Tryz.func311,Tryz.ntmps311;go_wp2_with (first|(go_at_call 313;refine (HI.1 _).m0 ?_)|(go_at_call 113;refine (HM.1 _).m0 ?_));go_ret;exact ⟨by simp [Qp.reserve,HB.1],by rw [show (t.reserve id i q).2=t by simp [Qp.reserve,HB.1]];exact HH.1⟩
  ·have HB:As (¬(decide (q=0)|| !may q)=true):=⟨by simp [hm,hz]⟩;rw [hm] at HM;clear hm hz;cases hget:Qc t.resv id with
   |some p=>
    obtain ⟨p1,p2⟩:=p;have HG:=zk hget;rw [hget] at hg;clear hget;go_enter Tryz.func311,Tryz.ntmps311;go_wp2_with (first|(go_at_call 313;refine (HI.1 _).m0 ?_)|(go_at_call 113;refine (HM.1 _).m0 ?_)|(at_lookup;refine wll H.1 1 bm _ rfl rfl _ _ 215 358 true rfl Tryz.underlying215 _ DW rfl id rfl (by omega) (by omega) ?_;rw [hg];simp only [Option.map_some,Option.getD_some,Option.isSome_some,if_true,two]));go_ret;exact ⟨by simp [Qp.reserve,HB.1,HG.1],by rw [show (t.reserve id i q).2=t by simp [Qp.reserve,HB.1,HG.1]];exact HH.1.alloc _⟩
   |none=>
    have HG:=zk hget;rw [hget] at hg;clear hget;cases hs:sub (t.free.getD i 0) q with
    |mk left e=>
     rw [hs] at HS;have HE:=zk hs;clear hs;by_cases he:e=0;subst he;have hnn:As (List.length (Qx two t.resv)<1000000):=⟨by have:=HP.1.keys.len;simp only [Qx,List.length_map];omega⟩;have tg:=Tg.mk 1;exact QDg;have he1:(e==0)=false:=by simpa using he
     have HEE:=zk he;clear he;have tg:=Tg.mk 2;exact QDg
def Qah:Qp:=⟨[60,5,0,0,0,0,0,0],[60,5,0,0,0,0,0,0],[]⟩
structure Qn where
 money:List Int
 till:Int
 resv:IM Two
 paid:IM Int
structure Qn.ok (t:Qn):Prop where
 m8:t.money.length=8
 keys:Ql t.resv
 keys2:Ql t.paid
 item:∀p∈t.resv,0≤p.2.1∧p.2.1<8
def Qn.cells (t:Qn) (bm bp:Nat):Array Value:=(t.money.map (Value.int .i64)++ [Value.int .i64 t.till,Value.map (some bm),Value.map (some bp)]).toArray
def SA.purse (b:Nat) (t:Qn):SA:=.when t.ok (.ex fun bm=>.ex fun bp=>.star (.pts b (.cells (t.cells bm bp) 105)) (.star (.map bm (Qx two t.resv)) (.map bp (Qx (Value.int .i64) t.paid))))
section
variable {w0 w:World} {b bm bp:Nat} {t:Qn} {R:List SA}
theorem Heap.XI (h:Heap w0 (.purse b t::R) w):t.ok∧∃bm bp,Heap w0 (.pts b (.cells (t.cells bm bp) 105)::.map bm (Qx two t.resv)::.map bp (Qx (Value.int .i64) t.paid)::R) w:=by
 obtain ⟨hp,h⟩:=h.QT;obtain ⟨bm,h⟩:=h.YL;obtain ⟨bp,h⟩:=h.YL;exact ⟨hp,bm,bp,(h.XF.frt 1 rfl).XF.frt 2 rfl⟩
theorem Heap.Zv (hp:t.ok) (h:Heap w0 (.pts b (.cells (t.cells bm bp) 105)::.map bm (Qx two t.resv)::.map bp (Qx (Value.int .i64) t.paid)::R) w):Heap w0 (.purse b t::R) w:=
 Heap.QZ hp (Heap.Yr (f:=fun bm=>.ex fun bp=>.star (.pts b (.cells (t.cells bm bp) 105)) (.star (.map bm (Qx two t.resv)) (.map bp (Qx (Value.int .i64) t.paid)))) bm
  (Heap.Yr (f:=fun bp=>.star (.pts b (.cells (t.cells bm bp) 105)) (.star (.map bm (Qx two t.resv)) (.map bp (Qx (Value.int .i64) t.paid)))) bp
    (Heap.Xx ((Heap.Xx (h.frt 1 rfl |>.frt 2 rfl |>.frt 1 rfl)).frt 1 rfl))))
theorem Qn.Qj4 (h:t.ok) {i:Nat} (hi:i<8):(t.cells bm bp)[i]? =some (.int .i64 (t.money.getD i 0)):=by
 have h8:=h.m8;simp only [Qn.cells,List.getElem?_toArray];rw [List.getElem?_append_left (by simp;omega),List.getElem?_map,List.getD_eq_getElem?_getD];rw [List.getElem?_eq_getElem (by omega)];rfl
theorem Qn.ZV (h:t.ok) (j:Nat):(t.cells bm bp)[8+j]? = [Value.int .i64 t.till,Value.map (some bm),Value.map (some bp)][j]?:=by
 have h8:=h.m8;simp only [Qn.cells,List.getElem?_toArray];rw [List.getElem?_append_right (by simp;omega),List.length_map,h8,Nat.add_sub_cancel_left]
theorem Qn.Qty (h:t.ok) {i:Nat} (hi:i<8) (x:Int) (r:IM Two) (p:IM Int):(t.cells bm bp).setIfInBounds i (.int .i64 x)=({t with money:=t.money.set i x,resv:=r,paid:=p}:Qn).cells bm bp:=by
 have h8:=h.m8;apply Array.ext';simp only [Qn.cells,Array.toList_setIfInBounds];rw [List.set_append_left _ _ (by simp;omega),List.map_set]
theorem Qn.Qxf (h:t.ok) (x:Int) (r:IM Two) (p:IM Int):(t.cells bm bp).setIfInBounds 8 (.int .i64 x)=({t with till:=x,resv:=r,paid:=p}:Qn).cells bm bp:=by
 have h8:=h.m8;apply Array.ext';simp only [Qn.cells,Array.toList_setIfInBounds];rw [List.set_append_right _ _ (by simp;omega),List.length_map,h8];rfl
end
theorem JI:∀w,(zeroValue 353).run Tryz.prog w=.ok (two (0,0)) w:=fun _=>by kernel_rfl
def Qn.take (t:Qn) (id:Int):Two×Int×Qn:=
 match Qc t.resv id with
 |some p=>(p,0,{t with resv:=QI t.resv id})
 |none=>((0,0),6,t)
theorem Qlx {w0 w:World} {b:Nat} {t:Qn} {R:List SA} (h:Heap w0 (.purse b t::R) w) (id:Int) (h0:1≤id) (h1:id≤999):
 CH 298 #[b,id] w (.tuple #[two (t.take id).1,.int .i64 (t.take id).2.1]) w0 (.purse b (t.take id).2.2::R):=by
 obtain ⟨hp,bm,bp,h⟩:=h.XI;have c9:w.cell? ⟨b,9,none⟩=some (.map (some bm)):=h.cell 0 9 rfl (Qn.ZV hp 1);have hlb:=h.lt 0 rfl;have HP:=zk hp;have H:=zk h;have H1:=zk (Heap.nAt (n:=w.heap.size) h (.cells #[.int .i64 0,.int .i64 0] 353) rfl);have hg:Qc (Qx two t.resv) id=(Qc t.resv id).map two:=YW _ _ _;clear h hp;cases hm:Qc t.resv id with
 |none=>
  have HM:=zk hm;rw [hm] at hg;clear hm;go_enter Tryz.func298,Tryz.ntmps298;go_wp2_with (at_lookup;refine wll H1.1 2 bm _ rfl rfl _ _ 103 353 true rfl Tryz.underlying103 _ JI rfl id rfl (by omega) (by omega) ?_;rw [hg];simp only [Option.map_none,Option.getD_none,Option.isSome_none,if_true,two]);have HF:=Heap.nAt (n:=w.heap.size+1) H1.1 (.cells #[.int .i64 0,.int .i64 0] 353) (by simp);have z0:=HF.cB2 1 rfl;refine bodyPost_ret (v:=.tuple #[.agg #[.int .i64 0,.int .i64 0],.int .i64 6]) (by simp [results,Tryz.results298,go_sem,z0]) rfl ⟨by simp [Qn.take,HM.1,two],?_⟩;rw [show (t.take id).2.2=t by simp [Qn.take,HM.1]];exact Heap.Zv (bm:=bm) (bp:=bp) HP.1 ((HF.rm 0 rfl).rm 0 rfl)
 |some p=>
  have HM:=zk hm;rw [hm] at hg;clear hm;obtain ⟨p1,p2⟩:=p;have H2:=zk (Heap.nAt (n:=w.heap.size+1) H1.1 (.cells #[.int .i64 p1,.int .i64 p2] 353) (by simp));go_enter Tryz.func298,Tryz.ntmps298;go_wp2_with (first|(at_lookup;refine wll H1.1 2 bm _ rfl rfl _ _ 103 353 true rfl Tryz.underlying103 _ JI rfl id rfl (by omega) (by omega) ?_;rw [hg];simp only [Option.map_some,Option.getD_some,Option.isSome_some,if_true,two])|(at_delete;refine Zl H2.1 3 bm _ rfl rfl _ _ 103 353 rfl Tryz.underlying103 rfl id rfl (by omega) (by omega) ?_;intro w3 h3 _;have y0:=h3.cB2 0 rfl;have x0:=h3.cB2 1 rfl;have hlc:=h3.lt 1 rfl;have H3:=zk h3;clear h3));have HF:=(H3.1.sAt 1 0 (.int .i64 p1) rfl).sAt 1 1 (.int .i64 p2) rfl;have z0:=HF.cB2 1 rfl;refine bodyPost_ret (v:=.tuple #[.agg #[.int .i64 p1,.int .i64 p2],.int .i64 0]) (by simp [results,Tryz.results298,go_sem,z0]) rfl ⟨by simp [Qn.take,HM.1,two],?_⟩;rw [show (t.take id).2.2= {t with resv:=QI t.resv id} by simp [Qn.take,HM.1]];have hp:=HP.1;have h9:=(HF.rm 0 rfl).rm 0 rfl;refine Heap.Zv (bm:=bm) (bp:=bp) ⟨hp.m8,hp.keys.del id,hp.keys2,fun p h=>hp.item p (VC h)⟩ ?_;rw [Vd];exact h9
def Qn.void (t:Qn) (id:Int):Int×Qn:=((t.take id).2.1,(t.take id).2.2)
theorem Qu6 {w0 w:World} {b:Nat} {t:Qn} {R:List SA} (h:Heap w0 (.purse b t::R) w) (id:Int) (h0:1≤id) (h1:id≤999):
 CH 296 #[b,id] w (.int .i64 (t.void id).1) w0 (.purse b (t.void id).2::R):=by
 have HT:=zk (Qlx h id h0 h1);have HV:=zk (show t.void id=((t.take id).2.1,(t.take id).2.2) from rfl);generalize t.take id=tk at *;obtain ⟨⟨q1,q2⟩,e2,t2⟩:=tk;clear h;go_enter Tryz.func296,Tryz.ntmps296;go_wp2_with (go_at_call 298;refine HT.1.m2 fun w1 h1=>?_;simp only [two];have H1:=zk h1;clear h1);go_ret;exact ⟨by rw [HV.1];rfl,by rw [HV.1];exact H1.1.alloc _⟩
theorem Qsu (i:Nat) (hi:i<8) (w:World):CE 299 #[.int .i64 (i:Int)] w (.bool true):=by
 have h0:(0:Int)≤(i:Int):=by omega
 have h1:(i:Int)<8:=by omega
 go_enter Tryz.func299,Tryz.ntmps299;go_wp2;go_ret;exact ⟨rfl,rfl⟩
theorem QBa {w0 w:World} {b:Nat} {t:Qn} {R:List SA} (h:Heap w0 (.purse b t::R) w):CE 24 #[b] w (.int .i64 t.till):=by
 obtain ⟨hp,bm,bp,h⟩:=h.XI;have c8:w.cell? ⟨b,8,none⟩=some (.int .i64 t.till):=h.cell 0 8 rfl (Qn.ZV hp 0);clear h hp;go_enter Tryz.func24,Tryz.ntmps24;go_wp2;go_ret;exact ⟨rfl,rfl⟩
def Qn.capture (t:Qn) (id:Int):Int×Qn:=
 match Qc t.resv id with
 |some p=>(0,{money:=t.money.set p.1.toNat (wrap64 (t.money.getD p.1.toNat 0-p.2)),till:=wrap64 (t.till+p.2),resv:=QI t.resv id,paid:=Qt t.paid id p.2})
 |none=>(6,t)
theorem Qlj {w0 w:World} {b:Nat} {t:Qn} {R:List SA} (h:Heap w0 (.purse b t::R) w) (id:Int) (h0:1≤id) (h1:id≤999):
 CH 295 #[b,id] w (.int .i64 (t.capture id).1) w0 (.purse b (t.capture id).2::R):=by
 have HT:=zk (Qlx h id h0 h1);have h999:=h1;have hok:=h.XI.1;cases hm:Qc t.resv id with
 |none=>
  have e1:t.take id=((0,0),6,t):=by simp [Qn.take,hm]
  have HE:=zk (show t.capture id=(6,t) by simp [Qn.capture,hm]);rw [e1] at HT;clear h e1 hm;go_enter Tryz.func295,Tryz.ntmps295;go_wp2_with (go_at_call 298;refine HT.1.m2 fun w1 h1=>?_;simp only [two];have H1:=zk h1;clear h1);go_ret;rw [HE.1];exact ⟨rfl,H1.1.alloc _⟩
 |some p=>
  obtain ⟨p1,p2⟩:=p;have e1:t.take id=((p1,p2),0,{t with resv:=QI t.resv id}):=by simp [Qn.take,hm]
  have hit:0≤p1∧p1<8:=hok.item _ (Xe hm);obtain ⟨i,rfl⟩:∃i:Nat,p1=(i:Int):=⟨p1.toNat,by have:=hit.1;omega⟩;have hi8:i<8:=by have:=hit.2;omega
  have HE:=zk (show t.capture id=(0,{money:=t.money.set i (wrap64 (t.money.getD i 0-p2)),till:=wrap64 (t.till+p2),resv:=QI t.resv id,paid:=Qt t.paid id p2}) by simp [Qn.capture,hm]);rw [e1] at HT;have HMA:As (∀{u:Qn} {bm bp:Nat},u.ok→u.money=t.money→(u.cells bm bp)[i]? =some (.int .i64 (t.money.getD i 0))):=⟨fun hu e=>by rw [←e];exact Qn.Qj4 hu hi8⟩;generalize t.money.getD i 0=m0 at *;have hi0:(0:Int)≤(i:Int):=by omega
  have hi1:(i:Int)<8:=by omega
  have hnn:As (List.length (Qx (Value.int .i64) t.paid)<1000000):=⟨by have:=hok.keys2.len;simp only [Qx,List.length_map];omega⟩;clear h e1 hm hit hok;go_enter Tryz.func295,Tryz.ntmps295;go_wp2_with (go_at_call 298;refine HT.1.m2 fun w1 h1=>?_;simp only [two];obtain ⟨hp,bm,bp,h1⟩:=h1.XI;have hlb:=h1.lt 0 rfl;have H1:=zk (Heap.nAt (n:=w1.heap.size) h1 (.cells #[.int .i64 (i:Int),.int .i64 p2] 353) rfl);have HP:=zk hp;clear h1 hp);obtain ⟨W2,hW2⟩:∃W2,w1.alloc (.cells #[.int .i64 (i:Int),.int .i64 p2] 353)=W2:=⟨_,rfl⟩;have h2:=H1.1;rw [hW2] at h2⊢;have x0:=h2.cB2 0 rfl;have hp:=HP.1;have hlc:=h2.lt 1 rfl;have ch2:W2.cell? ⟨b,i,none⟩=some (.int .i64 m0):=h2.cell 1 i rfl (HMA.1 hp rfl);have cf2:∀j,W2.frozen? ⟨b,j,none⟩=false:=fun j=>h2.frz 1 j rfl;have H2:=zk h2;clear h2 hp;go_still_tail 13,(by kernel_rfl);change wpList _ _ _ _ _ W2.drew;go_wp2_with fail;have h3:=(H2.1.sAt 1 i (.int .i64 (wrap64 (m0-p2))) rfl).drew;have hp3:=HP.1;have e3:=Qn.Qty (bm:=bm) (bp:=bp) hp3 hi8 (wrap64 (m0-p2)) (QI t.resv id) t.paid;have h3:Heap w0 (.pts w1.heap.size (.cells #[.int .i64 (i:Int),.int .i64 p2] 353)::.pts b (.cells (Qn.cells ⟨t.money.set i (wrap64 (m0-p2)),t.till,QI t.resv id,t.paid⟩ bm bp) 105)::.map bm (Qx two (QI t.resv id))::.map bp (Qx (Value.int .i64) t.paid)::R) (W2.setCell ⟨b,i,none⟩ (.int .i64 (wrap64 (m0-p2)))).drew:=by
   rw [←e3];exact h3
  have ok3:Qn.ok ⟨t.money.set i (wrap64 (m0-p2)),t.till,QI t.resv id,t.paid⟩:=⟨by rw [List.length_set];exact hp3.m8,hp3.keys,hp3.keys2,hp3.item⟩;generalize (W2.setCell ⟨b,i,none⟩ (.int .i64 (wrap64 (m0-p2)))).drew=W3 at h3⊢;clear x0 hlc ch2 cf2 hp3 e3;have x0:=h3.cB2 0 rfl;have hlc:=h3.lt 1 rfl;have ct:W3.cell? ⟨b,8,none⟩=some (.int .i64 t.till):=h3.cell 1 8 rfl (Qn.ZV ok3 0);have cf3:∀j,W3.frozen? ⟨b,j,none⟩=false:=fun j=>h3.frz 1 j rfl;have H3:=zk h3;have OK3:=zk ok3;clear h3 ok3;go_still_tail 9,(by kernel_rfl);change wpList _ _ _ _ _ W3.drew;go_wp2_with fail;have ok3:=OK3.1;have e4:=Qn.Qxf (bm:=bm) (bp:=bp) ok3 (wrap64 (t.till+p2)) (QI t.resv id) t.paid;have h4:Heap w0 (.pts w1.heap.size (.cells #[.int .i64 (i:Int),.int .i64 p2] 353)::.pts b (.cells (Qn.cells ⟨t.money.set i (wrap64 (m0-p2)),wrap64 (t.till+p2),QI t.resv id,t.paid⟩ bm bp) 105)::.map bm (Qx two (QI t.resv id))::.map bp (Qx (Value.int .i64) t.paid)::R) (W3.setCell ⟨b,8,none⟩ (.int .i64 (wrap64 (t.till+p2)))).drew:=by
   have:=(H3.1.sAt 1 8 (.int .i64 (wrap64 (t.till+p2))) rfl).drew;rw [←e4];exact this
  have ok4:Qn.ok ⟨t.money.set i (wrap64 (m0-p2)),wrap64 (t.till+p2),QI t.resv id,t.paid⟩:=⟨ok3.m8,ok3.keys,ok3.keys2,ok3.item⟩;generalize (W3.setCell ⟨b,8,none⟩ (.int .i64 (wrap64 (t.till+p2)))).drew=W4 at h4⊢;clear x0 hlc ct cf3 e4 ok3;have x0:=h4.cB2 0 rfl;have hlc:=h4.lt 1 rfl;have c10:W4.cell? ⟨b,10,none⟩=some (.map (some bp)):=h4.cell 1 10 rfl (Qn.ZV ok4 2);have H4:=zk h4;have OK4:=zk ok4;clear h4 ok4;go_still_tail 7,(by kernel_rfl);change wpList _ _ _ _ _ W4.drew;go_wp2_with (at_mapUpdate;refine wlp H4.1.drew 3 bp _ rfl rfl _ _ _ 67 3 rfl Tryz.underlying67 rfl id rfl _ rfl (by omega) (by omega) hnn.1 ?_;intro w5 h5 _;have H5:=zk h5;clear h5);go_ret;rw [HE.1];refine ⟨rfl,?_⟩;have ok4:=OK4.1;have h6:=H5.1.rm 0 rfl;refine Heap.Zv (bm:=bm) (bp:=bp) ⟨ok4.m8,ok4.keys,ok4.keys2.put _ h0 h999,ok4.item⟩ ?_;rw [Xt];exact h6
end Go.Proofs.YtlnghlamnehfjaaGreatDoor.S
