/- Contracts and plain laws of the program, part N25. -/
import Derived.Test.YtlnghlamnehfjaaGreatDoorN01
import Derived.Test.YtlnghlamnehfjaaGreatDoorN06
import Derived.Test.YtlnghlamnehfjaaGreatDoorN10
import Derived.StillTailTactics
import Derived.Deep.QuietTactic
import Derived.BigQuiet
set_option linter.unusedVariables false
set_option linter.unusedSimpArgs false
set_option maxRecDepth 100000
set_option maxHeartbeats 64000000
namespace Go.Proofs.YtlnghlamnehfjaaGreatDoor.S
open Go.RowKit Go.Maps
theorem Heap.rm {w0 w:World} {A:SA} {l:List SA} (h:Heap w0 l w) (i:Nat) (e:l[i]? =some A):Heap w0 (l.eraseIdx i) w:=(h.frt i e).drop
theorem sub_any (a b:Int) (w:World):Calls Tryz.prog 275 #[.int .i64 a,.int .i64 b] w fun e w'=>e=.returned (.tuple #[.int .i64 (sub a b).1,.int .i64 (sub a b).2])∧w=w':=by
 by_cases h:0≤a∧a≤1000000000
 ·exact sub_ok a b w h.1 h.2
 ·by_cases h1:0≤a
  ·have h2:¬a≤1000000000:=by omega
   have hd2:decide (a≤1000000000)=false:=by simpa using h2
   go_enter Tryz.func275,Tryz.ntmps275;go_wp2
   go_ret2
   exact ⟨by simp [sub,may, *],rfl⟩
  ·have hd2:decide (0≤a)=false:=by simpa using h1
   go_enter Tryz.func275,Tryz.ntmps275;go_wp2
   go_ret2
   exact ⟨by simp [sub,may, *],rfl⟩
abbrev Two:=Int×Int
def two (p:Two):Value:=.agg #[.int .i64 p.1,.int .i64 p.2]
structure StockB where
 hand:List Int
 free:List Int
 resv:IM Two
structure StockB.ok (t:StockB):Prop where
 h8:t.hand.length=8
 f8:t.free.length=8
 keys:KeysOk t.resv
 item:∀p∈t.resv,0≤p.2.1∧p.2.1<8
def StockB.cells (t:StockB) (bm:Nat):Array Value:=(t.hand.map (Value.int .i64)++(t.free.map (Value.int .i64)++ [Value.map (some bm)])).toArray
def SA.stock (b:Nat) (t:StockB):SA:=.when t.ok (.ex fun bm=>.star (.pts b (.cells (t.cells bm) 217)) (.map bm (mval two t.resv)))
section
variable {w0 w:World} {b bm:Nat} {t:StockB} {R:List SA}
theorem Heap.open_stock (h:Heap w0 (.stock b t::R) w):t.ok∧∃bm,Heap w0 (.pts b (.cells (t.cells bm) 217)::.map bm (mval two t.resv)::R) w:=by
 obtain ⟨hp,h⟩:=h.unwhen;obtain ⟨bm,h⟩:=h.unex;exact ⟨hp,bm,h.unstar⟩
theorem Heap.shut_stock (hp:t.ok) (h:Heap w0 (.pts b (.cells (t.cells bm) 217)::.map bm (mval two t.resv)::R) w):Heap w0 (.stock b t::R) w:=
 Heap.rewhen hp (Heap.reex (f:=fun bm=>.star (.pts b (.cells (t.cells bm) 217)) (.map bm (mval two t.resv))) bm h.restar)
theorem StockB.hand_at (h:t.ok) {i:Nat} (hi:i<8):(t.cells bm)[i]? =some (.int .i64 (t.hand.getD i 0)):=by
 have h8:=h.h8;simp only [StockB.cells,List.getElem?_toArray];rw [List.getElem?_append_left (by simp;omega),List.getElem?_map,List.getD_eq_getElem?_getD];rw [List.getElem?_eq_getElem (by omega)];rfl
theorem StockB.free_at (h:t.ok) {i:Nat} (hi:i<8):(t.cells bm)[8+i]? =some (.int .i64 (t.free.getD i 0)):=by
 have h8:=h.h8;have f8:=h.f8;simp only [StockB.cells,List.getElem?_toArray];rw [List.getElem?_append_right (by simp;omega),List.length_map,h8,Nat.add_sub_cancel_left,List.getElem?_append_left (by simp;omega),List.getElem?_map,List.getD_eq_getElem?_getD];rw [List.getElem?_eq_getElem (by omega)];rfl
theorem StockB.map_at (h:t.ok):(t.cells bm)[16]? =some (.map (some bm)):=by
 have h8:=h.h8;have f8:=h.f8;simp only [StockB.cells,List.getElem?_toArray];rw [List.getElem?_append_right (by simp;omega),List.length_map,h8,List.getElem?_append_right (by simp;omega),List.length_map,f8];rfl
theorem StockB.set_hand (h:t.ok) {i:Nat} (hi:i<8) (x:Int) (r:IM Two):(t.cells bm).setIfInBounds i (.int .i64 x)=({t with hand:=t.hand.set i x,resv:=r}:StockB).cells bm:=by
 have h8:=h.h8;apply Array.ext';simp only [StockB.cells,Array.toList_setIfInBounds];rw [List.set_append_left _ _ (by simp;omega),List.map_set]
theorem StockB.set_free (h:t.ok) {i:Nat} (hi:i<8) (x:Int) (r:IM Two):(t.cells bm).setIfInBounds (8+i) (.int .i64 x)=({t with free:=t.free.set i x,resv:=r}:StockB).cells bm:=by
 have h8:=h.h8;have f8:=h.f8;apply Array.ext';simp only [StockB.cells,Array.toList_setIfInBounds];rw [List.set_append_right _ _ (by simp;omega),List.length_map,h8,Nat.add_sub_cancel_left,List.set_append_left _ _ (by simp;omega),List.map_set]
end
theorem zero358:∀w,(zeroValue 358).run Tryz.prog w=.ok (two (0,0)) w:=fun _=>by kernel_rfl
def StockB.take (t:StockB) (id:Int):Two×Int×StockB:=
 match mget t.resv id with
 |some p=>(p,0,{t with resv:=mdel t.resv id})
 |none=>((0,0),6,t)
set_option maxHeartbeats 1000000 in
theorem stake_ok {w0 w:World} {b:Nat} {t:StockB} {R:List SA} (h:Heap w0 (.stock b t::R) w) (id:Int) (h0:1≤id) (h1:id≤999):
 Calls Tryz.prog 312 #[.pointer (some ⟨b,0,none⟩),.int .i64 id] w fun e w'=>e=.returned (.tuple #[two (t.take id).1,.int .i64 (t.take id).2.1])∧Heap w0 (.stock b (t.take id).2.2::R) w':=by
 obtain ⟨hp,bm,h⟩:=h.open_stock;have c16:w.cell? ⟨b,16,none⟩=some (.map (some bm)):=h.cell 0 16 rfl (StockB.map_at hp);have hlb:=h.lt 0 rfl;have HP:=zk hp;have H:=zk h;have H1:=zk (Heap.nAt (n:=w.heap.size) h (.cells #[.int .i64 0,.int .i64 0] 358) rfl);have hg:mget (mval two t.resv) id=(mget t.resv id).map two:=mget_mval _ _ _;clear h hp;cases hm:mget t.resv id with
 |none=>
  have HM:=zk hm;rw [hm] at hg;clear hm;go_enter Tryz.func312,Tryz.ntmps312;go_wp2_with (at_lookup;refine wll H1.out 2 bm _ rfl rfl _ _ 215 358 true rfl Tryz.underlying215 _ zero358 rfl id rfl (by omega) (by omega) ?_;rw [hg];simp only [Option.map_none,Option.getD_none,Option.isSome_none,if_true,two]);have HF:=Heap.nAt (n:=w.heap.size+1) H1.out (.cells #[.int .i64 0,.int .i64 0] 358) (by simp);obtain ⟨z0,z1,zf⟩:=HF.cB2 1 rfl;refine bodyPost_ret (v:=.tuple #[.agg #[.int .i64 0,.int .i64 0],.int .i64 6]) (by simp [results,Tryz.results312,go_sem,z0,z1]) rfl ⟨by simp [StockB.take,HM.out,two],?_⟩;rw [show (t.take id).2.2=t by simp [StockB.take,HM.out]];exact Heap.shut_stock (bm:=bm) HP.out ((HF.rm 0 rfl).rm 0 rfl)
 |some p=>
  have HM:=zk hm;rw [hm] at hg;clear hm;obtain ⟨p1,p2⟩:=p;have H2:=zk (Heap.nAt (n:=w.heap.size+1) H1.out (.cells #[.int .i64 p1,.int .i64 p2] 358) (by simp));go_enter Tryz.func312,Tryz.ntmps312;go_wp2_with (first|(at_lookup;refine wll H1.out 2 bm _ rfl rfl _ _ 215 358 true rfl Tryz.underlying215 _ zero358 rfl id rfl (by omega) (by omega) ?_;rw [hg];simp only [Option.map_some,Option.getD_some,Option.isSome_some,if_true,two])|(at_delete;refine wpList_del H2.out 3 bm _ rfl rfl _ _ 215 358 rfl Tryz.underlying215 rfl id rfl (by omega) (by omega) ?_;intro w3 h3 _;obtain ⟨y0,y1,yf⟩:=h3.cB2 0 rfl;obtain ⟨x0,x1,xf⟩:=h3.cB2 1 rfl;have hlc:=h3.lt 1 rfl;have H3:=zk h3;clear h3));have HF:=(H3.out.sAt 1 0 (.int .i64 p1) rfl).sAt 1 1 (.int .i64 p2) rfl;obtain ⟨z0,z1,zf⟩:=HF.cB2 1 rfl;refine bodyPost_ret (v:=.tuple #[.agg #[.int .i64 p1,.int .i64 p2],.int .i64 0]) (by simp [results,Tryz.results312,go_sem,z0,z1]) rfl ⟨by simp [StockB.take,HM.out,two],?_⟩;rw [show (t.take id).2.2= {t with resv:=mdel t.resv id} by simp [StockB.take,HM.out]];have hp:=HP.out;have h9:=(HF.rm 0 rfl).rm 0 rfl;refine Heap.shut_stock (bm:=bm) ⟨hp.h8,hp.f8,hp.keys.del id,fun p h=>hp.item p (mem_mdel h)⟩ ?_;rw [mval_mdel];exact h9
def StockB.commit (t:StockB) (id:Int):Int×StockB:=
 ((t.take id).2.1,if (t.take id).2.1=0 then {(t.take id).2.2 with hand:=t.hand.set (t.take id).1.1.toNat (wrap64 (t.hand.getD (t.take id).1.1.toNat 0-(t.take id).1.2))} else (t.take id).2.2)
def StockB.release (t:StockB) (id:Int):Int×StockB:=
 ((t.take id).2.1,if (t.take id).2.1=0 then {(t.take id).2.2 with free:=t.free.set (t.take id).1.1.toNat (wrap64 (t.free.getD (t.take id).1.1.toNat 0+(t.take id).1.2))} else (t.take id).2.2)
set_option maxHeartbeats 1000000 in
theorem scommit_ok {w0 w:World} {b:Nat} {t:StockB} {R:List SA} (h:Heap w0 (.stock b t::R) w) (id:Int) (h0:1≤id) (h1:id≤999):
 Calls Tryz.prog 309 #[.pointer (some ⟨b,0,none⟩),.int .i64 id] w fun e w'=>e=.returned (.int .i64 (t.commit id).1)∧Heap w0 (.stock b (t.commit id).2::R) w':=by
 have HT:=zk (stake_ok h id h0 h1);have hok:=h.open_stock.1;cases hm:mget t.resv id with
 |none=>
  have e1:t.take id=((0,0),6,t):=by simp [StockB.take,hm]
  have HE:=zk e1;rw [e1] at HT;clear h e1 hm;go_enter Tryz.func309,Tryz.ntmps309;go_wp2_with (go_at_call 312;refine HT.out.mono ?_;rintro e w1 ⟨rfl,h1⟩;simp only [two];have H1:=zk h1;clear h1);go_ret;refine ⟨by simp [StockB.commit,HE.out],?_⟩;rw [show (t.commit id).2=t by simp [StockB.commit,HE.out]];exact H1.out.alloc _
 |some p=>
  obtain ⟨p1,p2⟩:=p;have e1:t.take id=((p1,p2),0,{t with resv:=mdel t.resv id}):=by simp [StockB.take,hm]
  have hit:0≤p1∧p1<8:=hok.item _ (mget_mem hm);obtain ⟨i,rfl⟩:∃i:Nat,p1=(i:Int):=⟨p1.toNat,by have:=hit.1;omega⟩;have hi8:i<8:=by have:=hit.2;omega
  have HE:=zk e1;rw [e1] at HT;have hi0:(0:Int)≤(i:Int):=by omega
  have hi1:(i:Int)<8:=by omega
  clear h e1 hm hit;go_enter Tryz.func309,Tryz.ntmps309;go_wp2_with (go_at_call 312;refine HT.out.mono ?_;rintro e w1 ⟨rfl,h1⟩;simp only [two];obtain ⟨hp,bm,h1⟩:=h1.open_stock;have hlb:=h1.lt 0 rfl;have ch:w1.cell? ⟨b,i,none⟩=some (.int .i64 (t.hand.getD i 0)):=h1.cell 0 i rfl (StockB.hand_at hp hi8);have H1:=zk (Heap.nAt (n:=w1.heap.size) h1 (.cells #[.int .i64 (i:Int),.int .i64 p2] 358) rfl);have HP:=zk hp;clear h1 hp);obtain ⟨W2,hW2⟩:∃W2,w1.alloc (.cells #[.int .i64 (i:Int),.int .i64 p2] 358)=W2:=⟨_,rfl⟩;have h2:=H1.out;rw [hW2] at h2⊢;obtain ⟨x0,x1,xf⟩:=h2.cB2 0 rfl;have hp:=HP.out;have hlc:=h2.lt 1 rfl;have ch2:W2.cell? ⟨b,i,none⟩=some (.int .i64 (t.hand.getD i 0)):=h2.cell 1 i rfl (StockB.hand_at hp hi8);have cf2:W2.frozen? ⟨b,i,none⟩=false:=h2.frz 1 i rfl;have H2:=zk h2;clear h2 ch hp;go_still_tail 13,(by kernel_rfl);change wpList _ _ _ _ _ W2.drew;go_wp2_with (fail);go_ret;refine ⟨by simp [StockB.commit,HE.out],?_⟩;rw [show (t.commit id).2= {t with hand:=t.hand.set i (wrap64 (t.hand.getD i 0-p2)),resv:=mdel t.resv id} by simp [StockB.commit,HE.out]];have hp:=HP.out;have h9:=(H2.out.drew.sAt 1 i (.int .i64 (wrap64 (t.hand.getD i 0-p2))) rfl).rm 0 rfl;refine Heap.shut_stock (bm:=bm) ⟨by simp [hp.h8],hp.f8,hp.keys,hp.item⟩ ?_;have h10:=StockB.set_hand (bm:=bm) hp hi8 (wrap64 (t.hand.getD i 0-p2)) (mdel t.resv id);rw [←h10];exact h9
set_option maxHeartbeats 1000000 in
theorem srelease_ok {w0 w:World} {b:Nat} {t:StockB} {R:List SA} (h:Heap w0 (.stock b t::R) w) (id:Int) (h0:1≤id) (h1:id≤999):
 Calls Tryz.prog 310 #[.pointer (some ⟨b,0,none⟩),.int .i64 id] w fun e w'=>e=.returned (.int .i64 (t.release id).1)∧Heap w0 (.stock b (t.release id).2::R) w':=by
 have HT:=zk (stake_ok h id h0 h1);have hok:=h.open_stock.1;cases hm:mget t.resv id with
 |none=>
  have e1:t.take id=((0,0),6,t):=by simp [StockB.take,hm]
  have HE:=zk e1;rw [e1] at HT;clear h e1 hm;go_enter Tryz.func310,Tryz.ntmps310;go_wp2_with (go_at_call 312;refine HT.out.mono ?_;rintro e w1 ⟨rfl,h1⟩;simp only [two];have H1:=zk h1;clear h1);go_ret;refine ⟨by simp [StockB.release,HE.out],?_⟩;rw [show (t.release id).2=t by simp [StockB.release,HE.out]];exact H1.out.alloc _
 |some p=>
  obtain ⟨p1,p2⟩:=p;have e1:t.take id=((p1,p2),0,{t with resv:=mdel t.resv id}):=by simp [StockB.take,hm]
  have hit:0≤p1∧p1<8:=hok.item _ (mget_mem hm);obtain ⟨i,rfl⟩:∃i:Nat,p1=(i:Int):=⟨p1.toNat,by have:=hit.1;omega⟩;have hi8:i<8:=by have:=hit.2;omega
  have HE:=zk e1;rw [e1] at HT;have hi0:(0:Int)≤(i:Int):=by omega
  have hi1:(i:Int)<8:=by omega
  clear h e1 hm hit;go_enter Tryz.func310,Tryz.ntmps310;go_wp2_with (go_at_call 312;refine HT.out.mono ?_;rintro e w1 ⟨rfl,h1⟩;simp only [two];obtain ⟨hp,bm,h1⟩:=h1.open_stock;have hlb:=h1.lt 0 rfl;have ch:w1.cell? ⟨b,8+i,none⟩=some (.int .i64 (t.free.getD i 0)):=h1.cell 0 (8+i) rfl (StockB.free_at hp hi8);have H1:=zk (Heap.nAt (n:=w1.heap.size) h1 (.cells #[.int .i64 (i:Int),.int .i64 p2] 358) rfl);have HP:=zk hp;clear h1 hp);obtain ⟨W2,hW2⟩:∃W2,w1.alloc (.cells #[.int .i64 (i:Int),.int .i64 p2] 358)=W2:=⟨_,rfl⟩;have h2:=H1.out;rw [hW2] at h2⊢;obtain ⟨x0,x1,xf⟩:=h2.cB2 0 rfl;have hp:=HP.out;have hlc:=h2.lt 1 rfl;have ch2:W2.cell? ⟨b,8+i,none⟩=some (.int .i64 (t.free.getD i 0)):=h2.cell 1 (8+i) rfl (StockB.free_at hp hi8);have cf2:W2.frozen? ⟨b,8+i,none⟩=false:=h2.frz 1 (8+i) rfl;have H2:=zk h2;clear h2 ch hp;go_still_tail 13,(by kernel_rfl);change wpList _ _ _ _ _ W2.drew;go_wp2_with (fail);go_ret;refine ⟨by simp [StockB.release,HE.out],?_⟩;rw [show (t.release id).2= {t with free:=t.free.set i (wrap64 (t.free.getD i 0+p2)),resv:=mdel t.resv id} by simp [StockB.release,HE.out]];have hp:=HP.out;have h9:=(H2.out.drew.sAt 1 (8+i) (.int .i64 (wrap64 (t.free.getD i 0+p2))) rfl).rm 0 rfl;refine Heap.shut_stock (bm:=bm) ⟨hp.h8,by simp [hp.f8],hp.keys,hp.item⟩ ?_;have h10:=StockB.set_free (bm:=bm) hp hi8 (wrap64 (t.free.getD i 0+p2)) (mdel t.resv id);rw [←h10];exact h9
def StockB.reserve (t:StockB) (id:Int) (i:Nat) (q:Int):Int×StockB:=
 if (decide (q=0)|| !may q)=true then (1,t) else if (mget t.resv id).isSome=true then (8,t) else
 if (sub (t.free.getD i 0) q).2=0 then (0,{t with free:=t.free.set i (sub (t.free.getD i 0) q).1,resv:=mput t.resv id ((i:Int),q)}) else ((sub (t.free.getD i 0) q).2,t)
theorem item_ok (i:Nat) (hi:i<8) (w:World):Calls Tryz.prog 313 #[.int .i64 (i:Int)] w fun e w'=>e=.returned (.bool true)∧w=w':=by
 have h0:(0:Int)≤(i:Int):=by omega
 have h1:(i:Int)<8:=by omega
 go_enter Tryz.func313,Tryz.ntmps313;go_wp2;go_ret;exact ⟨rfl,rfl⟩
set_option maxHeartbeats 2000000 in
theorem sreserve_ok {w0 w:World} {b:Nat} {t:StockB} {R:List SA} (h:Heap w0 (.stock b t::R) w) (id:Int) (i:Nat) (q:Int) (h0:1≤id) (h1:id≤999) (hi:i<8):
 Calls Tryz.prog 311 #[.pointer (some ⟨b,0,none⟩),.int .i64 id,.int .i64 (i:Int),.int .i64 q] w fun e w'=>e=.returned (.int .i64 (t.reserve id i q).1)∧Heap w0 (.stock b (t.reserve id i q).2::R) w':=by
 have HH:=zk h;obtain ⟨hp,bm,h⟩:=h.open_stock;have c16:w.cell? ⟨b,16,none⟩=some (.map (some bm)):=h.cell 0 16 rfl (StockB.map_at hp);have cfr:w.cell? ⟨b,8+i,none⟩=some (.int .i64 (t.free.getD i 0)):=h.cell 0 (8+i) rfl (StockB.free_at hp hi);have cff:w.frozen? ⟨b,8+i,none⟩=false:=h.frz 0 (8+i) rfl;have hlb:=h.lt 0 rfl;have HP:=zk hp;have H:=zk h;have hg:mget (mval two t.resv) id=(mget t.resv id).map two:=mget_mval _ _ _;have HI:As (∀W,Calls Tryz.prog 313 #[.int .i64 (i:Int)] W fun e w'=>e=.returned (.bool true)∧W=w'):=⟨item_ok i hi⟩;have HM:As (∀W,Calls Tryz.prog 113 #[.int .i64 q] W fun e w'=>e=.returned (.bool (may q))∧W=w'):=⟨may_ok q⟩;have HS:As (∀W,Calls Tryz.prog 275 #[.int .i64 (t.free.getD i 0),.int .i64 q] W fun e w'=>e=.returned (.tuple #[.int .i64 (sub (t.free.getD i 0) q).1,.int .i64 (sub (t.free.getD i 0) q).2])∧W=w'):=⟨sub_any _ q⟩;have hi0:(0:Int)≤(i:Int):=by omega
 have hi1:(i:Int)<8:=by omega
 clear h hp;by_cases hz:q=0
 ·subst hz;go_enter Tryz.func311,Tryz.ntmps311;go_wp2_with (go_at_call 313;refine (HI.out _).mono ?_;rintro e w' ⟨rfl,rfl⟩);go_ret;exact ⟨by simp [StockB.reserve],by rw [show (t.reserve id i 0).2=t by simp [StockB.reserve]];exact HH.out⟩
 ·have hz1:(q==0)=false:=by simpa using hz
  cases hm:may q
  ·have HB:=zk hm;rw [hm] at HM;have HZ:=zk hz;clear hm hz;go_enter Tryz.func311,Tryz.ntmps311;go_wp2_with (first|(go_at_call 313;refine (HI.out _).mono ?_;rintro e w' ⟨rfl,rfl⟩)|(go_at_call 113;refine (HM.out _).mono ?_;rintro e w' ⟨rfl,rfl⟩));go_ret;exact ⟨by simp [StockB.reserve,HB.out],by rw [show (t.reserve id i q).2=t by simp [StockB.reserve,HB.out]];exact HH.out⟩
  ·have HB:As (¬(decide (q=0)|| !may q)=true):=⟨by simp [hm,hz]⟩;rw [hm] at HM;clear hm hz;cases hget:mget t.resv id with
   |some p=>
    obtain ⟨p1,p2⟩:=p;have HG:=zk hget;rw [hget] at hg;clear hget;go_enter Tryz.func311,Tryz.ntmps311;go_wp2_with (first|(go_at_call 313;refine (HI.out _).mono ?_;rintro e w' ⟨rfl,rfl⟩)|(go_at_call 113;refine (HM.out _).mono ?_;rintro e w' ⟨rfl,rfl⟩)|(at_lookup;refine wll H.out 1 bm _ rfl rfl _ _ 215 358 true rfl Tryz.underlying215 _ zero358 rfl id rfl (by omega) (by omega) ?_;rw [hg];simp only [Option.map_some,Option.getD_some,Option.isSome_some,if_true,two]));go_ret;exact ⟨by simp [StockB.reserve,HB.out,HG.out],by rw [show (t.reserve id i q).2=t by simp [StockB.reserve,HB.out,HG.out]];exact HH.out.alloc _⟩
   |none=>
    have HG:=zk hget;rw [hget] at hg;clear hget;cases hs:sub (t.free.getD i 0) q with
    |mk left e=>
     rw [hs] at HS;have HE:=zk hs;clear hs;by_cases he:e=0
     ·subst he;have hnn:As (List.length (mval two t.resv)<1000000):=⟨by have:=HP.out.keys.len;simp only [mval,List.length_map];omega⟩;go_enter Tryz.func311,Tryz.ntmps311;go_wp2_with (first|(go_at_call 313;refine (HI.out _).mono ?_;rintro e w' ⟨rfl,rfl⟩)|(go_at_call 113;refine (HM.out _).mono ?_;rintro e w' ⟨rfl,rfl⟩)|(go_at_call 275;refine (HS.out _).mono ?_;rintro e w' ⟨rfl,rfl⟩)|(at_lookup;refine wll H.out 1 bm _ rfl rfl _ _ 215 358 true rfl Tryz.underlying215 _ zero358 rfl id rfl (by omega) (by omega) ?_;rw [hg];simp only [Option.map_none,Option.getD_none,Option.isSome_none,if_true,two]));obtain ⟨W2,hW2⟩:∃W2,w.alloc (.cells #[.int .i64 0,.int .i64 0] 358)=W2:=⟨_,rfl⟩;have h2:=H.out.alloc (.cells #[.int .i64 0,.int .i64 0] 358);rw [hW2] at h2⊢;have hp:=HP.out;clear c16 cfr cff hlb;have c16:W2.cell? ⟨b,16,none⟩=some (.map (some bm)):=h2.cell 0 16 rfl (StockB.map_at hp);have cfr:W2.cell? ⟨b,8+i,none⟩=some (.int .i64 (t.free.getD i 0)):=h2.cell 0 (8+i) rfl (StockB.free_at hp hi);have cff:W2.frozen? ⟨b,8+i,none⟩=false:=h2.frz 0 (8+i) rfl;have hlb:=h2.lt 0 rfl;have H2:=zk h2;clear h2 hp;refine wro0 [(0,.f),(1,.f),(2,.f),(3,.f),(4,.f),(5,.s),(6,.f),(7,.f),(8,.f),(9,.f),(10,.f),(11,.f),(12,.f),(13,.f),(14,.e),(15,.e),(16,.f),(17,.e)] ?_;repeat (first
       |(refine vg rfl rfl ?_;apply ex2;intro w' hw';go_simp;rfl;go_simp)
       |(refine vs_ rfl (fun K hK=>?_);go_simp;refine hK _ ?_;clear hK K)
       |(refine ve rfl rfl ?_;go_wp2_with (first|(refine wpList_entry (H2.out.drew.sAt 0 (8+i) _ rfl) 1 bm _ rfl rfl _ _ 215 358 rfl Tryz.underlying215 _ zero358 rfl id rfl (by omega) (by omega) hnn.out ?_;intro st w3 H3 hg3;have H3:=zk H3;clear hg3)|(refine wpList_estore H3.out 1 bm _ id st rfl rfl _ _ _ 215 rfl rfl rfl _ rfl ?_;intro w4 H4 hg4;have H4:=zk H4;clear hg4));refine ⟨trivial,?_⟩))
      refine vn ?_;go_simp;go_wp2_with (fail);go_ret;have hr:t.reserve id i q=(0,{t with free:=t.free.set i left,resv:=mput t.resv id ((i:Int),q)}):=by unfold StockB.reserve;rw [if_neg HB.out,if_neg (by simp [HG.out]),HE.out,if_pos rfl]
      rw [hr];refine ⟨rfl,?_⟩;have hp:=HP.out;refine Heap.shut_stock (bm:=bm) ⟨hp.h8,by simp [hp.f8],hp.keys.put _ h0 h1,?_⟩ ?_
      ·intro p hp2;rcases mem_mput hp2 with rfl|hp2
       ·exact ⟨hi0,hi1⟩
       ·exact hp.item p hp2
      ·have h9:=H4.out;have h10:=StockB.set_free (bm:=bm) hp hi left (mput t.resv id ((i:Int),q));rw [←h10,mval_mput];exact h9
     ·have he1:(e==0)=false:=by simpa using he
      have HEE:=zk he;clear he;go_enter Tryz.func311,Tryz.ntmps311;go_wp2_with (first|(go_at_call 313;refine (HI.out _).mono ?_;rintro e w' ⟨rfl,rfl⟩)|(go_at_call 113;refine (HM.out _).mono ?_;rintro e w' ⟨rfl,rfl⟩)|(go_at_call 275;refine (HS.out _).mono ?_;rintro e w' ⟨rfl,rfl⟩)|(at_lookup;refine wll H.out 1 bm _ rfl rfl _ _ 215 358 true rfl Tryz.underlying215 _ zero358 rfl id rfl (by omega) (by omega) ?_;rw [hg];simp only [Option.map_none,Option.getD_none,Option.isSome_none,if_true,two]));go_ret;have hr:t.reserve id i q=(e,t):=by unfold StockB.reserve;rw [if_neg HB.out,if_neg (by simp [HG.out]),HE.out,if_neg HEE.out]
      rw [hr];exact ⟨rfl,HH.out.alloc _⟩
def stock0:StockB:=⟨[60,5,0,0,0,0,0,0],[60,5,0,0,0,0,0,0],[]⟩
structure PurseB where
 money:List Int
 till:Int
 resv:IM Two
 paid:IM Int
structure PurseB.ok (t:PurseB):Prop where
 m8:t.money.length=8
 keys:KeysOk t.resv
 keys2:KeysOk t.paid
 item:∀p∈t.resv,0≤p.2.1∧p.2.1<8
def PurseB.cells (t:PurseB) (bm bp:Nat):Array Value:=(t.money.map (Value.int .i64)++ [Value.int .i64 t.till,Value.map (some bm),Value.map (some bp)]).toArray
def SA.purse (b:Nat) (t:PurseB):SA:=.when t.ok (.ex fun bm=>.ex fun bp=>.star (.pts b (.cells (t.cells bm bp) 105)) (.star (.map bm (mval two t.resv)) (.map bp (mval (Value.int .i64) t.paid))))
section
variable {w0 w:World} {b bm bp:Nat} {t:PurseB} {R:List SA}
theorem Heap.open_purse (h:Heap w0 (.purse b t::R) w):t.ok∧∃bm bp,Heap w0 (.pts b (.cells (t.cells bm bp) 105)::.map bm (mval two t.resv)::.map bp (mval (Value.int .i64) t.paid)::R) w:=by
 obtain ⟨hp,h⟩:=h.unwhen;obtain ⟨bm,h⟩:=h.unex;obtain ⟨bp,h⟩:=h.unex;exact ⟨hp,bm,bp,(h.unstar.frt 1 rfl).unstar.frt 2 rfl⟩
theorem Heap.shut_purse (hp:t.ok) (h:Heap w0 (.pts b (.cells (t.cells bm bp) 105)::.map bm (mval two t.resv)::.map bp (mval (Value.int .i64) t.paid)::R) w):Heap w0 (.purse b t::R) w:=
 Heap.rewhen hp (Heap.reex (f:=fun bm=>.ex fun bp=>.star (.pts b (.cells (t.cells bm bp) 105)) (.star (.map bm (mval two t.resv)) (.map bp (mval (Value.int .i64) t.paid)))) bm
  (Heap.reex (f:=fun bp=>.star (.pts b (.cells (t.cells bm bp) 105)) (.star (.map bm (mval two t.resv)) (.map bp (mval (Value.int .i64) t.paid)))) bp
    (Heap.restar ((Heap.restar (h.frt 1 rfl |>.frt 2 rfl |>.frt 1 rfl)).frt 1 rfl))))
theorem PurseB.money_at (h:t.ok) {i:Nat} (hi:i<8):(t.cells bm bp)[i]? =some (.int .i64 (t.money.getD i 0)):=by
 have h8:=h.m8;simp only [PurseB.cells,List.getElem?_toArray];rw [List.getElem?_append_left (by simp;omega),List.getElem?_map,List.getD_eq_getElem?_getD];rw [List.getElem?_eq_getElem (by omega)];rfl
theorem PurseB.tail_at (h:t.ok) (j:Nat):(t.cells bm bp)[8+j]? = [Value.int .i64 t.till,Value.map (some bm),Value.map (some bp)][j]?:=by
 have h8:=h.m8;simp only [PurseB.cells,List.getElem?_toArray];rw [List.getElem?_append_right (by simp;omega),List.length_map,h8,Nat.add_sub_cancel_left]
theorem PurseB.set_money (h:t.ok) {i:Nat} (hi:i<8) (x:Int) (r:IM Two) (p:IM Int):(t.cells bm bp).setIfInBounds i (.int .i64 x)=({t with money:=t.money.set i x,resv:=r,paid:=p}:PurseB).cells bm bp:=by
 have h8:=h.m8;apply Array.ext';simp only [PurseB.cells,Array.toList_setIfInBounds];rw [List.set_append_left _ _ (by simp;omega),List.map_set]
theorem PurseB.set_till (h:t.ok) (x:Int) (r:IM Two) (p:IM Int):(t.cells bm bp).setIfInBounds 8 (.int .i64 x)=({t with till:=x,resv:=r,paid:=p}:PurseB).cells bm bp:=by
 have h8:=h.m8;apply Array.ext';simp only [PurseB.cells,Array.toList_setIfInBounds];rw [List.set_append_right _ _ (by simp;omega),List.length_map,h8];rfl
end
theorem zero353:∀w,(zeroValue 353).run Tryz.prog w=.ok (two (0,0)) w:=fun _=>by kernel_rfl
def PurseB.take (t:PurseB) (id:Int):Two×Int×PurseB:=
 match mget t.resv id with
 |some p=>(p,0,{t with resv:=mdel t.resv id})
 |none=>((0,0),6,t)
set_option maxHeartbeats 1000000 in
theorem ptake_ok {w0 w:World} {b:Nat} {t:PurseB} {R:List SA} (h:Heap w0 (.purse b t::R) w) (id:Int) (h0:1≤id) (h1:id≤999):
 Calls Tryz.prog 298 #[.pointer (some ⟨b,0,none⟩),.int .i64 id] w fun e w'=>e=.returned (.tuple #[two (t.take id).1,.int .i64 (t.take id).2.1])∧Heap w0 (.purse b (t.take id).2.2::R) w':=by
 obtain ⟨hp,bm,bp,h⟩:=h.open_purse;have c9:w.cell? ⟨b,9,none⟩=some (.map (some bm)):=h.cell 0 9 rfl (PurseB.tail_at hp 1);have hlb:=h.lt 0 rfl;have HP:=zk hp;have H:=zk h;have H1:=zk (Heap.nAt (n:=w.heap.size) h (.cells #[.int .i64 0,.int .i64 0] 353) rfl);have hg:mget (mval two t.resv) id=(mget t.resv id).map two:=mget_mval _ _ _;clear h hp;cases hm:mget t.resv id with
 |none=>
  have HM:=zk hm;rw [hm] at hg;clear hm;go_enter Tryz.func298,Tryz.ntmps298;go_wp2_with (at_lookup;refine wll H1.out 2 bm _ rfl rfl _ _ 103 353 true rfl Tryz.underlying103 _ zero353 rfl id rfl (by omega) (by omega) ?_;rw [hg];simp only [Option.map_none,Option.getD_none,Option.isSome_none,if_true,two]);have HF:=Heap.nAt (n:=w.heap.size+1) H1.out (.cells #[.int .i64 0,.int .i64 0] 353) (by simp);obtain ⟨z0,z1,zf⟩:=HF.cB2 1 rfl;refine bodyPost_ret (v:=.tuple #[.agg #[.int .i64 0,.int .i64 0],.int .i64 6]) (by simp [results,Tryz.results298,go_sem,z0,z1]) rfl ⟨by simp [PurseB.take,HM.out,two],?_⟩;rw [show (t.take id).2.2=t by simp [PurseB.take,HM.out]];exact Heap.shut_purse (bm:=bm) (bp:=bp) HP.out ((HF.rm 0 rfl).rm 0 rfl)
 |some p=>
  have HM:=zk hm;rw [hm] at hg;clear hm;obtain ⟨p1,p2⟩:=p;have H2:=zk (Heap.nAt (n:=w.heap.size+1) H1.out (.cells #[.int .i64 p1,.int .i64 p2] 353) (by simp));go_enter Tryz.func298,Tryz.ntmps298;go_wp2_with (first|(at_lookup;refine wll H1.out 2 bm _ rfl rfl _ _ 103 353 true rfl Tryz.underlying103 _ zero353 rfl id rfl (by omega) (by omega) ?_;rw [hg];simp only [Option.map_some,Option.getD_some,Option.isSome_some,if_true,two])|(at_delete;refine wpList_del H2.out 3 bm _ rfl rfl _ _ 103 353 rfl Tryz.underlying103 rfl id rfl (by omega) (by omega) ?_;intro w3 h3 _;obtain ⟨y0,y1,yf⟩:=h3.cB2 0 rfl;obtain ⟨x0,x1,xf⟩:=h3.cB2 1 rfl;have hlc:=h3.lt 1 rfl;have H3:=zk h3;clear h3));have HF:=(H3.out.sAt 1 0 (.int .i64 p1) rfl).sAt 1 1 (.int .i64 p2) rfl;obtain ⟨z0,z1,zf⟩:=HF.cB2 1 rfl;refine bodyPost_ret (v:=.tuple #[.agg #[.int .i64 p1,.int .i64 p2],.int .i64 0]) (by simp [results,Tryz.results298,go_sem,z0,z1]) rfl ⟨by simp [PurseB.take,HM.out,two],?_⟩;rw [show (t.take id).2.2= {t with resv:=mdel t.resv id} by simp [PurseB.take,HM.out]];have hp:=HP.out;have h9:=(HF.rm 0 rfl).rm 0 rfl;refine Heap.shut_purse (bm:=bm) (bp:=bp) ⟨hp.m8,hp.keys.del id,hp.keys2,fun p h=>hp.item p (mem_mdel h)⟩ ?_;rw [mval_mdel];exact h9
def PurseB.void (t:PurseB) (id:Int):Int×PurseB:=((t.take id).2.1,(t.take id).2.2)
theorem pvoid_ok {w0 w:World} {b:Nat} {t:PurseB} {R:List SA} (h:Heap w0 (.purse b t::R) w) (id:Int) (h0:1≤id) (h1:id≤999):
 Calls Tryz.prog 296 #[.pointer (some ⟨b,0,none⟩),.int .i64 id] w fun e w'=>e=.returned (.int .i64 (t.void id).1)∧Heap w0 (.purse b (t.void id).2::R) w':=by
 have HT:=zk (ptake_ok h id h0 h1);have HV:=zk (show t.void id=((t.take id).2.1,(t.take id).2.2) from rfl);generalize t.take id=tk at *;obtain ⟨⟨q1,q2⟩,e2,t2⟩:=tk;clear h;go_enter Tryz.func296,Tryz.ntmps296;go_wp2_with (go_at_call 298;refine HT.out.mono ?_;rintro e w1 ⟨rfl,h1⟩;simp only [two];have H1:=zk h1;clear h1);go_ret;exact ⟨by rw [HV.out];rfl,by rw [HV.out];exact H1.out.alloc _⟩
theorem client_ok (i:Nat) (hi:i<8) (w:World):Calls Tryz.prog 299 #[.int .i64 (i:Int)] w fun e w'=>e=.returned (.bool true)∧w=w':=by
 have h0:(0:Int)≤(i:Int):=by omega
 have h1:(i:Int)<8:=by omega
 go_enter Tryz.func299,Tryz.ntmps299;go_wp2;go_ret;exact ⟨rfl,rfl⟩
theorem till_ok {w0 w:World} {b:Nat} {t:PurseB} {R:List SA} (h:Heap w0 (.purse b t::R) w):Calls Tryz.prog 24 #[.pointer (some ⟨b,0,none⟩)] w fun e w'=>e=.returned (.int .i64 t.till)∧w=w':=by
 obtain ⟨hp,bm,bp,h⟩:=h.open_purse;have c8:w.cell? ⟨b,8,none⟩=some (.int .i64 t.till):=h.cell 0 8 rfl (PurseB.tail_at hp 0);clear h hp;go_enter Tryz.func24,Tryz.ntmps24;go_wp2;go_ret;exact ⟨rfl,rfl⟩
def PurseB.capture (t:PurseB) (id:Int):Int×PurseB:=
 match mget t.resv id with
 |some p=>(0,{money:=t.money.set p.1.toNat (wrap64 (t.money.getD p.1.toNat 0-p.2)),till:=wrap64 (t.till+p.2),resv:=mdel t.resv id,paid:=mput t.paid id p.2})
 |none=>(6,t)
set_option maxHeartbeats 2000000 in
theorem pcapture_ok {w0 w:World} {b:Nat} {t:PurseB} {R:List SA} (h:Heap w0 (.purse b t::R) w) (id:Int) (h0:1≤id) (h1:id≤999):
 Calls Tryz.prog 295 #[.pointer (some ⟨b,0,none⟩),.int .i64 id] w fun e w'=>e=.returned (.int .i64 (t.capture id).1)∧Heap w0 (.purse b (t.capture id).2::R) w':=by
 have HT:=zk (ptake_ok h id h0 h1);have h999:=h1;have hok:=h.open_purse.1;cases hm:mget t.resv id with
 |none=>
  have e1:t.take id=((0,0),6,t):=by simp [PurseB.take,hm]
  have HE:=zk (show t.capture id=(6,t) by simp [PurseB.capture,hm]);rw [e1] at HT;clear h e1 hm;go_enter Tryz.func295,Tryz.ntmps295;go_wp2_with (go_at_call 298;refine HT.out.mono ?_;rintro e w1 ⟨rfl,h1⟩;simp only [two];have H1:=zk h1;clear h1);go_ret;rw [HE.out];exact ⟨rfl,H1.out.alloc _⟩
 |some p=>
  obtain ⟨p1,p2⟩:=p;have e1:t.take id=((p1,p2),0,{t with resv:=mdel t.resv id}):=by simp [PurseB.take,hm]
  have hit:0≤p1∧p1<8:=hok.item _ (mget_mem hm);obtain ⟨i,rfl⟩:∃i:Nat,p1=(i:Int):=⟨p1.toNat,by have:=hit.1;omega⟩;have hi8:i<8:=by have:=hit.2;omega
  have HE:=zk (show t.capture id=(0,{money:=t.money.set i (wrap64 (t.money.getD i 0-p2)),till:=wrap64 (t.till+p2),resv:=mdel t.resv id,paid:=mput t.paid id p2}) by simp [PurseB.capture,hm]);rw [e1] at HT;have HMA:As (∀{u:PurseB} {bm bp:Nat},u.ok→u.money=t.money→(u.cells bm bp)[i]? =some (.int .i64 (t.money.getD i 0))):=⟨fun hu e=>by rw [←e];exact PurseB.money_at hu hi8⟩;generalize t.money.getD i 0=m0 at *;have hi0:(0:Int)≤(i:Int):=by omega
  have hi1:(i:Int)<8:=by omega
  have hnn:As (List.length (mval (Value.int .i64) t.paid)<1000000):=⟨by have:=hok.keys2.len;simp only [mval,List.length_map];omega⟩;clear h e1 hm hit hok;go_enter Tryz.func295,Tryz.ntmps295;go_wp2_with (go_at_call 298;refine HT.out.mono ?_;rintro e w1 ⟨rfl,h1⟩;simp only [two];obtain ⟨hp,bm,bp,h1⟩:=h1.open_purse;have hlb:=h1.lt 0 rfl;have H1:=zk (Heap.nAt (n:=w1.heap.size) h1 (.cells #[.int .i64 (i:Int),.int .i64 p2] 353) rfl);have HP:=zk hp;clear h1 hp);obtain ⟨W2,hW2⟩:∃W2,w1.alloc (.cells #[.int .i64 (i:Int),.int .i64 p2] 353)=W2:=⟨_,rfl⟩;have h2:=H1.out;rw [hW2] at h2⊢;obtain ⟨x0,x1,xf⟩:=h2.cB2 0 rfl;have hp:=HP.out;have hlc:=h2.lt 1 rfl;have ch2:W2.cell? ⟨b,i,none⟩=some (.int .i64 m0):=h2.cell 1 i rfl (HMA.out hp rfl);have cf2:∀j,W2.frozen? ⟨b,j,none⟩=false:=fun j=>h2.frz 1 j rfl;have H2:=zk h2;clear h2 hp;go_still_tail 13,(by kernel_rfl);change wpList _ _ _ _ _ W2.drew;go_wp2_with (fail);have h3:=(H2.out.sAt 1 i (.int .i64 (wrap64 (m0-p2))) rfl).drew;have hp3:=HP.out;have e3:=PurseB.set_money (bm:=bm) (bp:=bp) hp3 hi8 (wrap64 (m0-p2)) (mdel t.resv id) t.paid;have h3:Heap w0 (.pts w1.heap.size (.cells #[.int .i64 (i:Int),.int .i64 p2] 353)::.pts b (.cells (PurseB.cells ⟨t.money.set i (wrap64 (m0-p2)),t.till,mdel t.resv id,t.paid⟩ bm bp) 105)::.map bm (mval two (mdel t.resv id))::.map bp (mval (Value.int .i64) t.paid)::R) (W2.setCell ⟨b,i,none⟩ (.int .i64 (wrap64 (m0-p2)))).drew:=by
   rw [←e3];exact h3
  have ok3:PurseB.ok ⟨t.money.set i (wrap64 (m0-p2)),t.till,mdel t.resv id,t.paid⟩:=⟨by rw [List.length_set];exact hp3.m8,hp3.keys,hp3.keys2,hp3.item⟩;generalize (W2.setCell ⟨b,i,none⟩ (.int .i64 (wrap64 (m0-p2)))).drew=W3 at h3⊢;clear x0 x1 xf hlc ch2 cf2 hp3 e3;obtain ⟨x0,x1,xf⟩:=h3.cB2 0 rfl;have hlc:=h3.lt 1 rfl;have ct:W3.cell? ⟨b,8,none⟩=some (.int .i64 t.till):=h3.cell 1 8 rfl (PurseB.tail_at ok3 0);have cf3:∀j,W3.frozen? ⟨b,j,none⟩=false:=fun j=>h3.frz 1 j rfl;have H3:=zk h3;have OK3:=zk ok3;clear h3 ok3;go_still_tail 9,(by kernel_rfl);change wpList _ _ _ _ _ W3.drew;go_wp2_with (fail);have ok3:=OK3.out;have e4:=PurseB.set_till (bm:=bm) (bp:=bp) ok3 (wrap64 (t.till+p2)) (mdel t.resv id) t.paid;have h4:Heap w0 (.pts w1.heap.size (.cells #[.int .i64 (i:Int),.int .i64 p2] 353)::.pts b (.cells (PurseB.cells ⟨t.money.set i (wrap64 (m0-p2)),wrap64 (t.till+p2),mdel t.resv id,t.paid⟩ bm bp) 105)::.map bm (mval two (mdel t.resv id))::.map bp (mval (Value.int .i64) t.paid)::R) (W3.setCell ⟨b,8,none⟩ (.int .i64 (wrap64 (t.till+p2)))).drew:=by
   have:=(H3.out.sAt 1 8 (.int .i64 (wrap64 (t.till+p2))) rfl).drew;rw [←e4];exact this
  have ok4:PurseB.ok ⟨t.money.set i (wrap64 (m0-p2)),wrap64 (t.till+p2),mdel t.resv id,t.paid⟩:=⟨ok3.m8,ok3.keys,ok3.keys2,ok3.item⟩;generalize (W3.setCell ⟨b,8,none⟩ (.int .i64 (wrap64 (t.till+p2)))).drew=W4 at h4⊢;clear x0 x1 xf hlc ct cf3 e4 ok3;obtain ⟨x0,x1,xf⟩:=h4.cB2 0 rfl;have hlc:=h4.lt 1 rfl;have c10:W4.cell? ⟨b,10,none⟩=some (.map (some bp)):=h4.cell 1 10 rfl (PurseB.tail_at ok4 2);have H4:=zk h4;have OK4:=zk ok4;clear h4 ok4;go_still_tail 7,(by kernel_rfl);change wpList _ _ _ _ _ W4.drew;go_wp2_with (at_mapUpdate;refine wlp H4.out.drew 3 bp _ rfl rfl _ _ _ 67 3 rfl Tryz.underlying67 rfl id rfl _ rfl (by omega) (by omega) hnn.out ?_;intro w5 h5 _;have H5:=zk h5;clear h5);go_ret;rw [HE.out];refine ⟨rfl,?_⟩;have ok4:=OK4.out;have h6:=H5.out.rm 0 rfl;refine Heap.shut_purse (bm:=bm) (bp:=bp) ⟨ok4.m8,ok4.keys,ok4.keys2.put _ h0 h999,ok4.item⟩ ?_;rw [mval_mput];exact h6
end Go.Proofs.YtlnghlamnehfjaaGreatDoor.S
