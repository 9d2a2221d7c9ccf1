/- Contracts and plain laws of the program, part N29. -/
import Derived.Test.YtlnghlamnehfjaaGreatDoorN01
import Derived.Test.YtlnghlamnehfjaaGreatDoorN11
import Derived.Test.YtlnghlamnehfjaaGreatDoorN23
import Derived.Test.YtlnghlamnehfjaaGreatDoorN26
import Derived.Test.YtlnghlamnehfjaaGreatDoorN27
import Derived.Test.YtlnghlamnehfjaaGreatDoorN28
set_option linter.unusedVariables false
set_option linter.unusedSimpArgs false
set_option maxRecDepth 100000
set_option maxHeartbeats 64000000
namespace Go.Proofs.YtlnghlamnehfjaaGreatDoor.S
open Go.RowKit Go.Maps
inductive BookM where
 |goods (t:StockB)
 |money (t:PurseB)
def SA.bookm (bb:Nat):BookM→SA
 |.goods t=>.stock bb t
 |.money t=>.purse bb t
def BookM.iv (bb:Nat):BookM→Value
 |.goods _=>.iface 186 (.agg #[.pointer (some ⟨bb,0,none⟩)])
 |.money _=>.iface 100 (.agg #[.pointer (some ⟨bb,0,none⟩)])
def BookM.fine:BookM→Prop
 |.goods _=>True
 |.money t=>t.fine
def BookM.take:BookM→Int→Nat→Int→Bool×BookM
 |.goods t,id,i,q=>(decide ((t.reserve id i q).1=0),.goods (t.reserve id i q).2)
 |.money t,id,i,q=>(decide ((t.allow id i q).1=0),.money (t.allow id i q).2)
def BookM.gives:BookM→Int→BookM
 |.goods t,id=>.goods (t.commit id).2
 |.money t,id=>.money (t.capture id).2
def BookM.lets:BookM→Int→BookM
 |.goods t,id=>.goods (t.release id).2
 |.money t,id=>.money (t.void id).2
theorem PurseB.fine.mono {t u:PurseB} (h:t.fine) (hs:∀p∈u.resv,p∈t.resv∨(0≤p.2.2∧p.2.2≤1000000000)):u.fine:=fun p hp=>(hs p hp).elim (h p) id
theorem BookM.fine.take {k:BookM} (h:k.fine) {id:Int} {i:Nat} {q:Int} (hq0:0<q) (hq1:q≤1000000000):(k.take id i q).2.fine:=by
 cases k with
 |goods t=>trivial
 |money t=>
  show (t.allow id i q).2.fine
  refine PurseB.fine.mono h ?_;unfold PurseB.allow;intro p hp;split at hp
  ·exact .inl hp
  ·split at hp
   ·exact .inl hp
   ·split at hp
    ·exact .inl hp
    ·split at hp
     ·exact .inl hp
     ·rcases mem_mput hp with rfl|hp
      ·exact .inr ⟨by simp only;omega,hq1⟩
      ·exact .inl hp
theorem BookM.fine.gives {k:BookM} (h:k.fine) {id:Int}:(k.gives id).fine:=by
 cases k with
 |goods t=>trivial
 |money t=>
  show (t.capture id).2.fine
  refine PurseB.fine.mono h ?_;unfold PurseB.capture;intro p hp;split at hp
  ·exact .inl (mem_mdel hp)
  ·exact .inl hp
theorem BookM.fine.lets {k:BookM} (h:k.fine) {id:Int}:(k.lets id).fine:=by
 cases k with
 |goods t=>trivial
 |money t=>
  show (t.take id).2.2.fine
  refine PurseB.fine.mono h ?_;unfold PurseB.take;intro p hp;split at hp
  ·exact .inl (mem_mdel hp)
  ·exact .inl hp
theorem gtake_ok {w0 w:World} {b:Nat} {t:StockB} {R:List SA} (h:Heap w0 (.stock b t::R) w) (id:Int) (i:Nat) (q:Int) (h0:1≤id) (h1:id≤999) (hi:i<8) (hq0:0<q) (hq1:q≤1000000000):
 Calls Tryz.prog 308 #[.agg #[.pointer (some ⟨b,0,none⟩)],.int .i64 id,.int .i64 (i:Int),.int .i64 q] w fun e w'=>e=.returned (.bool (decide ((t.reserve id i q).1=0)))∧Heap w0 (.stock b (t.reserve id i q).2::R) w':=by
 have HC:=zk (sreserve_ok (h.alloc (.cells #[.pointer (some ⟨b,0,none⟩)] 186)) id i q h0 h1 hi);generalize t.reserve id i q=p at *;obtain ⟨r,u⟩:=p;clear h;go_enter Tryz.func308,Tryz.ntmps308;go_wp2_with (go_at_call 311;refine HC.out.mono ?_;rintro e w1 ⟨rfl,h1⟩;have H1:=zk h1;clear h1);go_ret;exact ⟨by simp only [decide_eq_decide];rfl,H1.out⟩
theorem mtake_ok {w0 w:World} {b:Nat} {t:PurseB} {R:List SA} (h:Heap w0 (.purse b t::R) w) (hf:t.fine) (id:Int) (i:Nat) (q:Int) (h0:1≤id) (h1:id≤999) (hi:i<8) (hq0:0<q) (hq1:q≤1000000000):
 Calls Tryz.prog 294 #[.agg #[.pointer (some ⟨b,0,none⟩)],.int .i64 id,.int .i64 (i:Int),.int .i64 q] w fun e w'=>e=.returned (.bool (decide ((t.allow id i q).1=0)))∧Heap w0 (.purse b (t.allow id i q).2::R) w':=by
 have HC:=zk (pallow_ok (h.alloc (.cells #[.pointer (some ⟨b,0,none⟩)] 100)) hf id i q h0 h1 hi hq0 hq1);generalize t.allow id i q=p at *;obtain ⟨r,u⟩:=p;clear h;go_enter Tryz.func294,Tryz.ntmps294;go_wp2_with (go_at_call 297;refine HC.out.mono ?_;rintro e w1 ⟨rfl,h1⟩;have H1:=zk h1;clear h1);go_ret;exact ⟨by simp only [decide_eq_decide];rfl,H1.out⟩
theorem ggives_ok {w0 w:World} {b:Nat} {t:StockB} {R:List SA} (h:Heap w0 (.stock b t::R) w) (id:Int) (h0:1≤id) (h1:id≤999):
 Calls Tryz.prog 306 #[.agg #[.pointer (some ⟨b,0,none⟩)],.int .i64 id] w fun e w'=>e=.returned (.tuple #[])∧Heap w0 (.stock b (t.commit id).2::R) w':=by
 have HC:=zk (scommit_ok (h.alloc (.cells #[.pointer (some ⟨b,0,none⟩)] 186)) id h0 h1);generalize t.commit id=p at *;obtain ⟨r,u⟩:=p;clear h;go_enter Tryz.func306,Tryz.ntmps306;go_wp2_with (go_at_call 309;refine HC.out.mono ?_;rintro e w1 ⟨rfl,h1⟩;have H1:=zk h1;clear h1);go_end0;exact ⟨rfl,H1.out⟩
theorem glets_ok {w0 w:World} {b:Nat} {t:StockB} {R:List SA} (h:Heap w0 (.stock b t::R) w) (id:Int) (h0:1≤id) (h1:id≤999):
 Calls Tryz.prog 307 #[.agg #[.pointer (some ⟨b,0,none⟩)],.int .i64 id] w fun e w'=>e=.returned (.tuple #[])∧Heap w0 (.stock b (t.release id).2::R) w':=by
 have HC:=zk (srelease_ok (h.alloc (.cells #[.pointer (some ⟨b,0,none⟩)] 186)) id h0 h1);generalize t.release id=p at *;obtain ⟨r,u⟩:=p;clear h;go_enter Tryz.func307,Tryz.ntmps307;go_wp2_with (go_at_call 310;refine HC.out.mono ?_;rintro e w1 ⟨rfl,h1⟩;have H1:=zk h1;clear h1);go_end0;exact ⟨rfl,H1.out⟩
theorem mgives_ok {w0 w:World} {b:Nat} {t:PurseB} {R:List SA} (h:Heap w0 (.purse b t::R) w) (id:Int) (h0:1≤id) (h1:id≤999):
 Calls Tryz.prog 292 #[.agg #[.pointer (some ⟨b,0,none⟩)],.int .i64 id] w fun e w'=>e=.returned (.tuple #[])∧Heap w0 (.purse b (t.capture id).2::R) w':=by
 have HC:=zk (pcapture_ok (h.alloc (.cells #[.pointer (some ⟨b,0,none⟩)] 100)) id h0 h1);generalize t.capture id=p at *;obtain ⟨r,u⟩:=p;clear h;go_enter Tryz.func292,Tryz.ntmps292;go_wp2_with (go_at_call 295;refine HC.out.mono ?_;rintro e w1 ⟨rfl,h1⟩;have H1:=zk h1;clear h1);go_end0;exact ⟨rfl,H1.out⟩
theorem mlets_ok {w0 w:World} {b:Nat} {t:PurseB} {R:List SA} (h:Heap w0 (.purse b t::R) w) (id:Int) (h0:1≤id) (h1:id≤999):
 Calls Tryz.prog 293 #[.agg #[.pointer (some ⟨b,0,none⟩)],.int .i64 id] w fun e w'=>e=.returned (.tuple #[])∧Heap w0 (.purse b (t.void id).2::R) w':=by
 have HC:=zk (pvoid_ok (h.alloc (.cells #[.pointer (some ⟨b,0,none⟩)] 100)) id h0 h1);generalize t.void id=p at *;obtain ⟨r,u⟩:=p;clear h;go_enter Tryz.func293,Tryz.ntmps293;go_wp2_with (go_at_call 296;refine HC.out.mono ?_;rintro e w1 ⟨rfl,h1⟩;have H1:=zk h1;clear h1);go_end0;exact ⟨rfl,H1.out⟩
structure Keeper where
 node:Int
 j:Jrn
 book:BookM
 st:IM Int
def BookM.isGoods:BookM→Bool
 |.goods _=>true
 |.money _=>false
structure Keeper.ok (k:Keeper):Prop where
 node:k.node=1∨k.node=2
 keys:KeysOk k.st
 st:∀p∈k.st,St p.2
 fine:k.book.fine
def initL (node:Int):List Value:=if node=1 then [.int .i64 60,.int .i64 5] else [.int .i64 900,.int .i64 40]
def initB (node:Int):BookM:=if node=1 then .goods stock0 else .money purse0
structure KpA where
 g:Nat
 cap:Nat
 bb:Nat
 bm:Nat
def SA.kpx (b bj:Nat) (k:Keeper):SA:=.when k.ok (.ex fun p:KpA=>.all [.pts b (.cells #[.int .i64 k.node,.slice (some ⟨p.g,0,none⟩) 2 p.cap,.pointer (some ⟨bj,0,none⟩),k.book.iv p.bb,.map (some p.bm)] 91),.slc (.slice (some ⟨p.g,0,none⟩) 2 p.cap) 3 1 2 (initL k.node),.bookm p.bb k.book,.map p.bm (mval (Value.int .i64) k.st)])
def SA.keeper (b:Nat) (k:Keeper):SA:=.ex fun bj:Nat=>.all [.kpx b bj k,.jrn bj k.j]
section
variable {w0 w:World} {b bj g cap bb bm:Nat} {k:Keeper} {R:List SA}
theorem Heap.open_kpx (h:Heap w0 (.kpx b bj k::R) w):k.ok∧∃g cap bb bm,Heap w0 (.pts b (.cells #[.int .i64 k.node,.slice (some ⟨g,0,none⟩) 2 cap,.pointer (some ⟨bj,0,none⟩),k.book.iv bb,.map (some bm)] 91)::.slc (.slice (some ⟨g,0,none⟩) 2 cap) 3 1 2 (initL k.node)::.bookm bb k.book::.map bm (mval (Value.int .i64) k.st)::R) w:=by
 obtain ⟨hp,h⟩:=h.unwhen;obtain ⟨p,h⟩:=h.unex;exact ⟨hp,p.g,p.cap,p.bb,p.bm,Heap.spread h⟩
theorem Heap.shut_kpx (hp:k.ok) (h:Heap w0 (.pts b (.cells #[.int .i64 k.node,.slice (some ⟨g,0,none⟩) 2 cap,.pointer (some ⟨bj,0,none⟩),k.book.iv bb,.map (some bm)] 91)::.slc (.slice (some ⟨g,0,none⟩) 2 cap) 3 1 2 (initL k.node)::.bookm bb k.book::.map bm (mval (Value.int .i64) k.st)::R) w):Heap w0 (.kpx b bj k::R) w:=
 Heap.rewhen hp (Heap.reex (f:=fun p:KpA=>.all [.pts b (.cells #[.int .i64 k.node,.slice (some ⟨p.g,0,none⟩) 2 p.cap,.pointer (some ⟨bj,0,none⟩),k.book.iv p.bb,.map (some p.bm)] 91),.slc (.slice (some ⟨p.g,0,none⟩) 2 p.cap) 3 1 2 (initL k.node),.bookm p.bb k.book,.map p.bm (mval (Value.int .i64) k.st)]) ⟨g,cap,bb,bm⟩ (Heap.gather (l:= [_,_,_,_]) h))
theorem Heap.kpx_of (h:Heap w0 (.keeper b k::R) w):∃bj,Heap w0 (.kpx b bj k::.jrn bj k.j::R) w:=by
 obtain ⟨bj,h⟩:=h.unex;exact ⟨bj,Heap.spread h⟩
theorem Heap.kpx_to (h:Heap w0 (.kpx b bj k::.jrn bj k.j::R) w):Heap w0 (.keeper b k::R) w:=
 Heap.reex (f:=fun bj:Nat=>.all [.kpx b bj k,.jrn bj k.j]) bj (Heap.gather (l:= [_,_]) h)
end
theorem Heap.kpx_j {w0 w:World} {b bj:Nat} {k:Keeper} {R:List SA} (j':Jrn) (h:Heap w0 (.kpx b bj k::R) w):Heap w0 (.kpx b bj {k with j:=j'}::R) w:=by
 obtain ⟨hp,g,cap,bb,bm,h⟩:=h.open_kpx;exact Heap.shut_kpx (g:=g) (cap:=cap) (bb:=bb) (bm:=bm) (k:= {k with j:=j'}) ⟨hp.node,hp.keys,hp.st,hp.fine⟩ h
theorem kstate_ok {w0 w:World} {b bj:Nat} {k:Keeper} {R:List SA} (h:Heap w0 (.kpx b bj k::R) w) (id:Int) (h0: -9223372036854775808≤id) (h1:id≤9223372036854775807):
 Calls Tryz.prog 17 #[.pointer (some ⟨b,0,none⟩),.int .i64 id] w fun e w'=>e=.returned (.int .i64 (mgi k.st id))∧w=w':=by
 obtain ⟨hp,g,cap,bb,bm,h⟩:=h.open_kpx;obtain ⟨c0,c1,c2,c3,c4,cf⟩:=h.cB5 0 rfl;have H:=zk h;clear h hp;go_enter Tryz.func17,Tryz.ntmps17;go_wp2_with (at_lookup;refine wli H.out 3 _ _ rfl rfl _ _ 67 rfl Tryz.underlying67 rfl id rfl h0 h1 ?_);go_ret;exact ⟨rfl,rfl⟩
theorem kdown_ok {w0 w:World} {b:Nat} {k:Keeper} {R:List SA} (h:Heap w0 (.keeper b k::R) w):
 Calls Tryz.prog 19 #[.pointer (some ⟨b,0,none⟩)] w fun e w'=>e=.returned (.bool k.j.down)∧w=w':=by
 obtain ⟨bj,h⟩:=h.kpx_of;have HD:=zk (jdown_ok (h.frt 1 rfl));obtain ⟨hp,g,cap,bb,bm,h⟩:=h.open_kpx;obtain ⟨c0,c1,c2,c3,c4,cf⟩:=h.cB5 0 rfl;clear h hp;go_enter Tryz.func19,Tryz.ntmps19;go_wp2_with (go_at_call 37;refine HD.out.mono ?_;rintro e w' ⟨rfl,rfl⟩);go_ret;exact ⟨rfl,rfl⟩
theorem kother_ok {w0 w:World} {b bj:Nat} {k:Keeper} {R:List SA} (h:Heap w0 (.kpx b bj k::R) w):
 Calls Tryz.prog 110 #[.pointer (some ⟨b,0,none⟩)] w fun e w'=>e=.returned (.int .i64 (3-k.node))∧w=w':=by
 obtain ⟨hp,g,cap,bb,bm,h⟩:=h.open_kpx;obtain ⟨c0,c1,c2,c3,c4,cf⟩:=h.cB5 0 rfl;have hn:=hp.node;clear h hp;generalize k.node=n at *;rcases hn with rfl|rfl;all_goals
  go_enter Tryz.func110,Tryz.ntmps110;go_wp2;go_ret;exact ⟨rfl,rfl⟩
theorem kid_ok (n:Int) (h0:1≤n) (h1:n≤999) (w:World):Calls Tryz.prog 104 #[.int .i64 n] w fun e w'=>e=.returned (.bool true)∧w=w':=by
 have h0':decide (1≤n)=true:=by simpa using h0
 have h1':decide (n≤999)=true:=by simpa using h1
 go_enter Tryz.func104,Tryz.ntmps104;go_wp2;go_ret;exact ⟨by simp [h1],rfl⟩
def Keeper.forget (k:Keeper):Keeper:= {k with book:=initB k.node,st:= []}
theorem kforgetP_ok {w0 w:World} {b bj g cap:Nat} {R:List SA} {node:Int} {v3 v4:Value} (hn:node=1∨node=2) (h:Heap w0 (.pts b (.cells #[.int .i64 node,.slice (some ⟨g,0,none⟩) 2 cap,.pointer (some ⟨bj,0,none⟩),v3,v4] 91)::.slc (.slice (some ⟨g,0,none⟩) 2 cap) 3 1 2 (initL node)::R) w):
 Calls Tryz.prog 76 #[.pointer (some ⟨b,0,none⟩)] w fun e w'=>e=.returned (.tuple #[])∧∃bb bm,Heap w0 (.pts b (.cells #[.int .i64 node,.slice (some ⟨g,0,none⟩) 2 cap,.pointer (some ⟨bj,0,none⟩),(initB node).iv bb,.map (some bm)] 91)::.slc (.slice (some ⟨g,0,none⟩) 2 cap) 3 1 2 (initL node)::.bookm bb (initB node)::.map bm []::R) w':=by
 obtain ⟨c0,c1,c2,c3,c4,cf⟩:=h.cB5 0 rfl;have hlb:=h.lt 0 rfl;have hmm:= @run_makeMap Tryz.prog;have H:=zk h;clear h;rcases hn with rfl|rfl
 ·have h2:=((H.out.sAt 0 4 (.map (some w.heap.size)) rfl).newMapAt (n:=w.heap.size) (by simp [World.setCell])).frt 2 rfl;have HN:=zk (snew_ok h2);clear h2;go_enter Tryz.func76,Tryz.ntmps76;go_wp2_with (go_at_call 115;refine HN.out.mono ?_;rintro e w1 ⟨bb,rfl,h1⟩;clear c0 c1 c2 c3 c4 cf hlb;obtain ⟨c0,c1,c2,c3,c4,cf⟩:=h1.cB5 3 rfl;have hlb:=h1.lt 3 rfl;have H1:=zk h1;clear h1);go_end0;refine ⟨rfl,bb,w.heap.size,?_⟩;have h9:=H1.out.sAt 3 3 (.iface 186 (.agg #[.pointer (some ⟨bb,0,none⟩)])) rfl;exact ((h9.frt 3 rfl).frt 2 rfl).frt 1 rfl
 ·have h2:=((H.out.sAt 0 4 (.map (some w.heap.size)) rfl).newMapAt (n:=w.heap.size) (by simp [World.setCell])).frt 2 rfl;have HN:=zk (pnew_ok h2);clear h2;go_enter Tryz.func76,Tryz.ntmps76;go_wp2_with (go_at_call 116;refine HN.out.mono ?_;rintro e w1 ⟨bb,rfl,h1⟩;clear c0 c1 c2 c3 c4 cf hlb;obtain ⟨c0,c1,c2,c3,c4,cf⟩:=h1.cB5 3 rfl;have hlb:=h1.lt 3 rfl;have H1:=zk h1;clear h1);go_end0;refine ⟨rfl,bb,w.heap.size,?_⟩;have h9:=H1.out.sAt 3 3 (.iface 100 (.agg #[.pointer (some ⟨bb,0,none⟩)])) rfl;exact ((h9.frt 3 rfl).frt 2 rfl).frt 1 rfl
theorem initB_fine (n:Int):(initB n).fine:=by
 unfold initB;split
 ·trivial
 ·show PurseB.fine purse0
  intro p hp;simp [purse0] at hp
theorem kforget_ok {w0 w:World} {b bj:Nat} {k:Keeper} {R:List SA} (h:Heap w0 (.kpx b bj k::R) w):
 Calls Tryz.prog 76 #[.pointer (some ⟨b,0,none⟩)] w fun e w'=>e=.returned (.tuple #[])∧Heap w0 (.kpx b bj k.forget::R) w':=by
 obtain ⟨hp,g,cap,bb,bm,h⟩:=h.open_kpx;refine (kforgetP_ok hp.node h).mono ?_;rintro e w' ⟨rfl,bb2,bm2,h2⟩;refine ⟨rfl,Heap.shut_kpx (g:=g) (cap:=cap) (bb:=bb2) (bm:=bm2) ⟨hp.node,KeysOk.nil,by simp [Keeper.forget],initB_fine _⟩ ?_⟩;have h3:=(h2.frt 4 rfl).drop;exact ((h3.frt 4 rfl).drop)
def Keeper.crash (k:Keeper) (stay:Int):Keeper:=if k.j.down=true then k else ({k with j:=k.j.crash stay}:Keeper).forget
theorem kcrash_ok {w0 w:World} {b:Nat} {k:Keeper} {R:List SA} (h:Heap w0 (.keeper b k::R) w) (stay torn:Int):
 Calls Tryz.prog 214 #[.pointer (some ⟨b,0,none⟩),.int .i64 stay,.int .i64 torn] w fun en w'=>en=.returned (.tuple #[])∧Heap w0 (.keeper b (k.crash stay)::R) w':=by
 have HH:=zk h;have HD:=zk (kdown_ok h);obtain ⟨bj,h⟩:=h.kpx_of;have hx:=h;obtain ⟨hp,g,cap,bb,bm,hx⟩:=hx.open_kpx;obtain ⟨c0,c1,c2,c3,c4,cf⟩:=hx.cB5 0 rfl;have HS:As (k.crash stay=if k.j.down=true then k else ({k with j:=k.j.crash stay}:Keeper).forget):=⟨rfl⟩;cases hd:k.j.down
 ·have HC:=zk (jcrash_ok (h.frt 1 rfl) hd stay torn);rw [hd] at HD HS;clear h hx hp hd;go_enter Tryz.func214,Tryz.ntmps214;go_wp2_with (first|(go_at_call 19;refine HD.out.mono ?_;rintro e w' ⟨rfl,rfl⟩)|(go_at_call 217;refine HC.out.mono ?_;rintro e w1 ⟨⟨cv,rfl⟩,h1⟩;have H1:=zk ((h1.frt 1 rfl).kpx_j (k.j.crash stay));clear h1)|(go_at_call 76;refine (kforget_ok H1.out).mono ?_;rintro e w2 ⟨rfl,h2⟩;have H2:=zk h2;clear h2));go_end0;rw [HS.out];exact ⟨rfl,Heap.kpx_to (bj:=bj) H2.out⟩
 ·rw [hd] at HD HS;clear h hx hp hd;go_enter Tryz.func214,Tryz.ntmps214;go_wp2_with (go_at_call 19;refine HD.out.mono ?_;rintro e w' ⟨rfl,rfl⟩);refine bodyPost_ret (results_none rfl _ _ _) rfl ⟨rfl,?_⟩;rw [HS.out];exact HH.out
theorem wpList_ins {w0 w:World} {l:List SA} {ops:Array Oper} {rest:List Oper} {o:Oper} {a:Act} {Q:Exit→Act→World→Prop} (h:Heap w0 l w) (i:Nat) (b:Nat) (m:IM Value) (e:l[i]? =some (.map b m)) (hg:o.guard=none) (x y u:Operand) (t te:TypeId) (hop:o.op=Op.insert t x y u)
 (ht:Tryz.prog.underlying t=some (.map 3 te)) (hm:a.eval x=.map (some b)) (k:Int) (hk:a.eval y=.int .i64 k) (v:Value) (hv:a.eval u=v) (h0: -9223372036854775808≤k) (h1:k≤9223372036854775807) (hn:m.length<1000000)
 (hK:∀w',Heap w0 (l.set i (.map b (mput m k v))) w'→w.grownBy w' (some b)→wpList Tryz.prog ops Q rest (a.put o.dst undef) w'):wpList Tryz.prog ops Q (o::rest) a w:=by
 refine wpList_plain hg fun K hK'=>?_;obtain ⟨w',hr,ho,hgr⟩:=(h.owns i e).update int3 ht (by unfold maxLen;omega) (keyOf_int_mk Tryz.underlying3 (key_wf h0 h1)) (val:=v) (d:=.held v) (ps:= []) rfl;rw [DD_put] at ho;unfold Oper.wp;simp [execOp,hop,hm,hk,hv,hr,Result.andThen];exact hK' _ _ (hK w' (h.mapTurned i e ho hgr) hgr)
def kindsM:IM Value:= [(1,.string Kd.ready.str),(2,.string Kd.yes.str),(3,.string Kd.no.str),(4,.string Kd.fyes.str),(5,.string Kd.fno.str)]
theorem kinds_ok {w0 w:World} {R:List SA} (h:Heap w0 R w):Calls Tryz.prog 136 #[] w fun e w'=>∃b,e=.returned (.map (some b))∧Heap w0 (.map b kindsM::R) w':=by
 have H:=zk h;have hmm:= @run_makeMap Tryz.prog;have H0:=zk h.newMap;clear h;go_enter Tryz.func136,Tryz.ntmps136;go_wp2_with (first
  |(refine wpList_ins H0.out 0 w.heap.size [] rfl rfl _ _ _ 208 9 rfl Tryz.underlying208 rfl 1 rfl (.string Kd.ready.str) rfl (by decide) (by decide) (by decide) ?_;intro w1 h1 _;have H1:=zk h1;clear h1)
  |(refine wpList_ins H1.out 0 w.heap.size (mput [] 1 (.string Kd.ready.str)) rfl rfl _ _ _ 208 9 rfl Tryz.underlying208 rfl 2 rfl (.string Kd.yes.str) rfl (by decide) (by decide) (by decide) ?_;intro w2 h2 _;have H2:=zk h2;clear h2)
  |(refine wpList_ins H2.out 0 w.heap.size (mput (mput [] 1 (.string Kd.ready.str)) 2 (.string Kd.yes.str)) rfl rfl _ _ _ 208 9 rfl Tryz.underlying208 rfl 3 rfl (.string Kd.no.str) rfl (by decide) (by decide) (by decide) ?_;intro w3 h3 _;have H3:=zk h3;clear h3)
  |(refine wpList_ins H3.out 0 w.heap.size (mput (mput (mput [] 1 (.string Kd.ready.str)) 2 (.string Kd.yes.str)) 3 (.string Kd.no.str)) rfl rfl _ _ _ 208 9 rfl Tryz.underlying208 rfl 4 rfl (.string Kd.fyes.str) rfl (by decide) (by decide) (by decide) ?_;intro w4 h4 _;have H4:=zk h4;clear h4)
  |(refine wpList_ins H4.out 0 w.heap.size (mput (mput (mput (mput [] 1 (.string Kd.ready.str)) 2 (.string Kd.yes.str)) 3 (.string Kd.no.str)) 4 (.string Kd.fyes.str)) rfl rfl _ _ _ 208 9 rfl Tryz.underlying208 rfl 5 rfl (.string Kd.fno.str) rfl (by decide) (by decide) (by decide) ?_;intro w5 h5 _;have H5:=zk h5;clear h5))
 go_ret;exact ⟨_,rfl,H5.out⟩
theorem zKp41 {P:Prop} (h:P:=by
 clear hm;go_wp2_with (fail);go_roundg cnt2
 case measure=>exact HLT.out
 case rel=>exact ⟨_,⟨by simp [HL.out,sameKey_int]⟩,⟨H3.out⟩⟩):P:=h
theorem zKp42 {P:Prop} (h:P:=by
 refine vn ?_;go_simp;clear c0 c1 c2 c3 c4 cf x0 x1 x2 xf hlb;obtain ⟨x0,x1,x2,xf⟩:=H4.out.cB3 2 rfl;obtain ⟨c0,c1,c2,c3,c4,cf⟩:=H4.out.cB5 3 rfl;have hlb:=H4.out.lt 3 rfl;go_wp2_with (go_at_call 161;refine (vdecided_ok 1 _ (by unfold St;omega)).mono ?_;rintro e w' ⟨rfl,rfl⟩;simp only [vDecided]);refine wro0 [(0,.f),(1,.f),(2,.f),(3,.s),(4,.f),(5,.s),(6,.f),(7,.e)] ?_;repeat (first
  |(refine vg rfl rfl ?_;apply ex2;intro w' hw';go_simp;rfl;go_simp)
  |(refine vs_ rfl (fun K hK=>?_);go_simp;refine hK _ ?_;clear hK K)
  |(refine ve rfl rfl ?_;refine wlp H4.out.drew 5 bm _ rfl rfl _ _ _ 67 3 rfl Tryz.underlying67 rfl id rfl (.int .i64 1) rfl (by omega) (by omega) hnn.out ?_;intro w5 h5 _;have H5:=zk h5;clear h5;go_wp2_with (fail);refine ⟨trivial,?_⟩;go_simp))
 refine vn ?_;go_simp;go_wp2_with (fail);rw [Exit.noGoto_normal];go_end0;refine ⟨rfl,?_⟩;have he:k.plays ⟨.ready,id,[(a:Int),q]⟩= {k with book:=(k.book.take id a q).2,st:=mput k.st id 1}:=by simp [Keeper.plays]
 rw [he];have hp:=HP.out;refine Heap.shut_kpx (g:=g) (cap:=cap) (bb:=bb) (bm:=bm) ⟨hp.node,hp.keys.put _ h0 h1,?_,HP.out.fine.take hq0 hq1⟩ ?_
 ·intro p hpp;rcases mem_mput hpp with rfl|hpp
  ·unfold St;omega
  ·exact hp.st p hpp
 simp only [HBK.out];rw [mval_mput];have h9:=((H5.out.frt 1 rfl).drop.frt 1 rfl).drop;exact ((h9.frt 2 rfl).frt 2 rfl |>.perm (List.Perm.refl _))):P:=h
theorem zKp43 {P:Prop} (h:P:=by
 refine vn ?_;go_simp;clear c0 c1 c2 c3 c4 cf x0 x1 x2 xf hlb;obtain ⟨x0,x1,x2,xf⟩:=H4.out.cB3 2 rfl;obtain ⟨c0,c1,c2,c3,c4,cf⟩:=H4.out.cB5 3 rfl;have hlb:=H4.out.lt 3 rfl;go_wp2_with (fail);refine wro0 [(0,.f),(1,.f),(2,.f),(3,.s),(4,.f),(5,.s),(6,.f),(7,.e)] ?_;repeat (first
  |(refine vg rfl rfl ?_;apply ex2;intro w' hw';go_simp;rfl;go_simp)
  |(refine vs_ rfl (fun K hK=>?_);go_simp;refine hK _ ?_;clear hK K)
  |(refine ve rfl rfl ?_;refine wlp H4.out.drew 5 bm _ rfl rfl _ _ _ 67 3 rfl Tryz.underlying67 rfl id rfl (.int .i64 4) rfl (by omega) (by omega) hnn.out ?_;intro w5 h5 _;have H5:=zk h5;clear h5;go_wp2_with (fail);refine ⟨trivial,?_⟩;go_simp))
 refine vn ?_;go_simp;go_wp2_with (fail);rw [Exit.noGoto_normal];go_end0;refine ⟨rfl,?_⟩;have he:k.plays ⟨.fyes,id,[]⟩= {k with book:=k.book.gives id,st:=mput k.st id 4}:=by simp [Keeper.plays]
 rw [he];have hp:=HP.out;refine Heap.shut_kpx (g:=g) (cap:=cap) (bb:=bb) (bm:=bm) ⟨hp.node,hp.keys.put _ h0 h1,?_,HP.out.fine.gives⟩ ?_
 ·intro p hpp;rcases mem_mput hpp with rfl|hpp
  ·unfold St;omega
  ·exact hp.st p hpp
 simp only [HBK.out];rw [mval_mput];have h9:=((H5.out.frt 1 rfl).drop.frt 1 rfl).drop;exact ((h9.frt 2 rfl).frt 2 rfl |>.perm (List.Perm.refl _))):P:=h
theorem zKp44 {P:Prop} (h:P:=by
 refine vn ?_;go_simp;clear c0 c1 c2 c3 c4 cf x0 x1 x2 xf hlb;obtain ⟨x0,x1,x2,xf⟩:=H4.out.cB3 2 rfl;obtain ⟨c0,c1,c2,c3,c4,cf⟩:=H4.out.cB5 3 rfl;have hlb:=H4.out.lt 3 rfl;go_wp2_with (fail);refine wro0 [(0,.f),(1,.f),(2,.f),(3,.s),(4,.f),(5,.s),(6,.f),(7,.e)] ?_;repeat (first
  |(refine vg rfl rfl ?_;apply ex2;intro w' hw';go_simp;rfl;go_simp)
  |(refine vs_ rfl (fun K hK=>?_);go_simp;refine hK _ ?_;clear hK K)
  |(refine ve rfl rfl ?_;refine wlp H4.out.drew 5 bm _ rfl rfl _ _ _ 67 3 rfl Tryz.underlying67 rfl id rfl (.int .i64 2) rfl (by omega) (by omega) hnn.out ?_;intro w5 h5 _;have H5:=zk h5;clear h5;go_wp2_with (fail);refine ⟨trivial,?_⟩;go_simp))
 refine vn ?_;go_simp;go_wp2_with (fail);rw [Exit.noGoto_normal];go_end0;refine ⟨rfl,?_⟩;have he:k.plays ⟨.yes,id,[]⟩= {k with book:=k.book.gives id,st:=mput k.st id 2}:=by simp [Keeper.plays]
 rw [he];have hp:=HP.out;refine Heap.shut_kpx (g:=g) (cap:=cap) (bb:=bb) (bm:=bm) ⟨hp.node,hp.keys.put _ h0 h1,?_,HP.out.fine.gives⟩ ?_
 ·intro p hpp;rcases mem_mput hpp with rfl|hpp
  ·unfold St;omega
  ·exact hp.st p hpp
 simp only [HBK.out];rw [mval_mput];have h9:=((H5.out.frt 1 rfl).drop.frt 1 rfl).drop;exact ((h9.frt 2 rfl).frt 2 rfl |>.perm (List.Perm.refl _))):P:=h
theorem zKp45 {P:Prop} (h:P:=by
 refine vn ?_;go_simp;clear c0 c1 c2 c3 c4 cf x0 x1 x2 xf hlb;obtain ⟨x0,x1,x2,xf⟩:=H4.out.cB3 2 rfl;obtain ⟨c0,c1,c2,c3,c4,cf⟩:=H4.out.cB5 3 rfl;have hlb:=H4.out.lt 3 rfl;go_wp2_with (fail);refine wro0 [(0,.f),(1,.f),(2,.f),(3,.s),(4,.f),(5,.s),(6,.f),(7,.e)] ?_;repeat (first
  |(refine vg rfl rfl ?_;apply ex2;intro w' hw';go_simp;rfl;go_simp)
  |(refine vs_ rfl (fun K hK=>?_);go_simp;refine hK _ ?_;clear hK K)
  |(refine ve rfl rfl ?_;refine wlp H4.out.drew 5 bm _ rfl rfl _ _ _ 67 3 rfl Tryz.underlying67 rfl id rfl (.int .i64 5) rfl (by omega) (by omega) hnn.out ?_;intro w5 h5 _;have H5:=zk h5;clear h5;go_wp2_with (fail);refine ⟨trivial,?_⟩;go_simp))
 refine vn ?_;go_simp;go_wp2_with (fail);rw [Exit.noGoto_normal];go_end0;refine ⟨rfl,?_⟩;have he:k.plays ⟨.fno,id,[]⟩= {k with book:=k.book.lets id,st:=mput k.st id 5}:=by simp [Keeper.plays]
 rw [he];have hp:=HP.out;refine Heap.shut_kpx (g:=g) (cap:=cap) (bb:=bb) (bm:=bm) ⟨hp.node,hp.keys.put _ h0 h1,?_,HP.out.fine.lets⟩ ?_
 ·intro p hpp;rcases mem_mput hpp with rfl|hpp
  ·unfold St;omega
  ·exact hp.st p hpp
 simp only [HBK.out];rw [mval_mput];have h9:=((H5.out.frt 1 rfl).drop.frt 1 rfl).drop;exact ((h9.frt 2 rfl).frt 2 rfl |>.perm (List.Perm.refl _))):P:=h
theorem zKp46 {P:Prop} (h:P:=by
 refine vn ?_;go_simp;clear c0 c1 c2 c3 c4 cf x0 x1 x2 xf hlb;obtain ⟨x0,x1,x2,xf⟩:=H4.out.cB3 2 rfl;obtain ⟨c0,c1,c2,c3,c4,cf⟩:=H4.out.cB5 3 rfl;have hlb:=H4.out.lt 3 rfl;go_wp2_with (fail);refine wro0 [(0,.f),(1,.f),(2,.f),(3,.s),(4,.f),(5,.s),(6,.f),(7,.e)] ?_;repeat (first
  |(refine vg rfl rfl ?_;apply ex2;intro w' hw';go_simp;rfl;go_simp)
  |(refine vs_ rfl (fun K hK=>?_);go_simp;refine hK _ ?_;clear hK K)
  |(refine ve rfl rfl ?_;refine wlp H4.out.drew 5 bm _ rfl rfl _ _ _ 67 3 rfl Tryz.underlying67 rfl id rfl (.int .i64 3) rfl (by omega) (by omega) hnn.out ?_;intro w5 h5 _;have H5:=zk h5;clear h5;go_wp2_with (fail);refine ⟨trivial,?_⟩;go_simp))
 refine vn ?_;go_simp;go_wp2_with (fail);rw [Exit.noGoto_normal];go_end0;refine ⟨rfl,?_⟩;have he:k.plays ⟨.no,id,[]⟩= {k with book:=k.book.lets id,st:=mput k.st id 3}:=by simp [Keeper.plays]
 rw [he];have hp:=HP.out;refine Heap.shut_kpx (g:=g) (cap:=cap) (bb:=bb) (bm:=bm) ⟨hp.node,hp.keys.put _ h0 h1,?_,HP.out.fine.lets⟩ ?_
 ·intro p hpp;rcases mem_mput hpp with rfl|hpp
  ·unfold St;omega
  ·exact hp.st p hpp
 simp only [HBK.out];rw [mval_mput];have h9:=((H5.out.frt 1 rfl).drop.frt 1 rfl).drop;exact ((h9.frt 2 rfl).frt 2 rfl |>.perm (List.Perm.refl _))):P:=h
def Keeper.plays (k:Keeper) (e:Entry):Keeper:=
 match e.kd,e.n with
 |.ready,[a,q]=> {k with book:=(k.book.take e.id a.toNat q).2,st:=mput k.st e.id 1}
 |.yes,_=> {k with book:=k.book.gives e.id,st:=mput k.st e.id 2}
 |.no,_=> {k with book:=k.book.lets e.id,st:=mput k.st e.id 3}
 |.fyes,_=> {k with book:=k.book.gives e.id,st:=mput k.st e.id 4}
 |.fno,_=> {k with book:=k.book.lets e.id,st:=mput k.st e.id 5}
 |_,_=>k
theorem kindsM_get {k:Int} {v:Value} (h:mget kindsM k=some v):(k=1∧v=.string Kd.ready.str)∨(k=2∧v=.string Kd.yes.str)∨(k=3∧v=.string Kd.no.str)∨(k=4∧v=.string Kd.fyes.str)∨(k=5∧v=.string Kd.fno.str):=by
 have:=mget_mem h;simp only [kindsM,List.mem_cons,Prod.mk.injEq,List.not_mem_nil,or_false] at this;exact this
theorem gtake_meth (v:Value) (W:World):(method 463 186 v "wharfinger/keeper.take").run Tryz.prog W=.ok (308,v) W:=by kernel_rfl
theorem ggives_meth (v:Value) (W:World):(method 463 186 v "wharfinger/keeper.gives").run Tryz.prog W=.ok (306,v) W:=by kernel_rfl
theorem glets_meth (v:Value) (W:World):(method 463 186 v "wharfinger/keeper.lets").run Tryz.prog W=.ok (307,v) W:=by kernel_rfl
theorem mtake_meth (v:Value) (W:World):(method 463 100 v "wharfinger/keeper.take").run Tryz.prog W=.ok (294,v) W:=by kernel_rfl
theorem mgives_meth (v:Value) (W:World):(method 463 100 v "wharfinger/keeper.gives").run Tryz.prog W=.ok (292,v) W:=by kernel_rfl
theorem mlets_meth (v:Value) (W:World):(method 463 100 v "wharfinger/keeper.lets").run Tryz.prog W=.ok (293,v) W:=by kernel_rfl
set_option maxHeartbeats 16000000 in
theorem kplaysX_ready {w0 w:World} {b bj:Nat} {k:Keeper} {R:List SA} (a:Nat) (q:Int) (v:Value) (h:Heap w0 (.kpx b bj k::.slc v 3 1 2 [.int .i64 (a:Int),.int .i64 q]::R) w) (id:Int) (h0:1≤id) (h1:id≤999) (ha:a<8) (hq0:0<q) (hq1:q≤1000000000):
 Calls Tryz.prog 138 #[.pointer (some ⟨b,0,none⟩),.agg #[.string Kd.ready.str,.int .i64 id,v]] w fun en w'=>en=.returned (.tuple #[])∧Heap w0 (.kpx b bj (k.plays ⟨.ready,id,[(a:Int),q]⟩)::.slc v 3 1 2 [.int .i64 (a:Int),.int .i64 q]::R) w':=by
 obtain ⟨gv,capv,rfl, -, -⟩:=row_two (h.row 1 rfl);obtain ⟨hp,g,cap,bb,bm,h⟩:=h.open_kpx;have HP:=zk hp;have hnn:As (List.length (mval (Value.int .i64) k.st)<1000000):=⟨by have:=hp.keys.len;simp only [mval,List.length_map];omega⟩;have HO:=Heap.nAt (n:=w.heap.size) h (.cells #[.string Kd.ready.str,.int .i64 id,(.slice (some ⟨gv,0,none⟩) 2 capv)] 171) rfl;obtain ⟨W1,hW1⟩:∃W1,w.alloc (.cells #[.string Kd.ready.str,.int .i64 id,(.slice (some ⟨gv,0,none⟩) 2 capv)] 171)=W1:=⟨_,rfl⟩;rw [hW1] at HO;have HK:=zk (kinds_ok HO);have n1:(Kd.ready.str.toList==Kd.ready.str.toList)=true:=by kernel_rfl
 have n2:(Kd.yes.str.toList==Kd.ready.str.toList)=false:=by kernel_rfl
 have n3:(Kd.no.str.toList==Kd.ready.str.toList)=false:=by kernel_rfl
 have n4:(Kd.fyes.str.toList==Kd.ready.str.toList)=false:=by kernel_rfl
 have n5:(Kd.fno.str.toList==Kd.ready.str.toList)=false:=by kernel_rfl
 clear h HO hp;go_enter Tryz.func138,Tryz.ntmps138;go_wp2_with (fail);go_step3;go_wp2_with (fail);go_step3;go_wp2_with (first|(go_at_call 136;refine HK.out.mono ?_;rintro e w1 ⟨bk,rfl,h1⟩;have H1:=zk h1;clear h1)|(refine wpList_rng H1.out 0 bk _ rfl rfl _ 208 9 rfl Tryz.underlying208 rfl ?_;intro r w2 h2;have H2:=zk h2;clear h2;go_simp))
 go_loopg [4] (Maps.size (DD kindsM)) (fun gk p wr=>∃left:Lit→Bool,As (left (.int .i64 1)=true)∧As (Heap w0 (.rng bk r kindsM left gk::.pts w.heap.size (.cells #[.string Kd.ready.str,.int .i64 id,(.slice (some ⟨gv,0,none⟩) 2 capv)] 171)::.pts b (.cells #[.int .i64 k.node,.slice (some ⟨g,0,none⟩) 2 cap,.pointer (some ⟨bj,0,none⟩),k.book.iv bb,.map (some bm)] 91)::.slc (.slice (some ⟨g,0,none⟩) 2 cap) 3 1 2 (initL k.node)::.bookm bb k.book::.map bm (mval (Value.int .i64) k.st)::.slc (.slice (some ⟨gv,0,none⟩) 2 capv) 3 1 2 [.int .i64 (a:Int),.int .i64 q]::R) wr))
 case atStart=>exact ⟨_,⟨by rw [DD_has];rfl⟩,H2⟩
 case round=>
  obtain ⟨left,HL,HR⟩:=hrel;clear H1 H2 HK;go_wp2_with (refine wpList_nxt HR.out 0 bk r _ left gk rfl rfl _ rfl rfl ?done ?more)
  case done=>
   intro hd;have:=HL.out;rw [hd] at this;cases this
  case more=>
   intro kk c w3 cnt2 hlk hm hlt h3 hen;have HLT:=zk hlt;obtain ⟨x0,x1,x2,xf⟩:=h3.cB3 1 rfl;obtain ⟨c0,c1,c2,c3,c4,cf⟩:=h3.cB5 2 rfl;have hlb:=h3.lt 2 rfl;have hrow:=h3.row 6 rfl;have y0:w3.cell? ⟨gv,0,none⟩=some (.int .i64 (a:Int)):=hrow.cellAt 0 (by decide);have y1:w3.cell? ⟨gv,1,none⟩=some (.int .i64 q):=hrow.cellAt 1 (by decide);have hgb:gv<w3.heap.size:=World.block_lt_of_cell? _ _ y0;clear hrow;have H3:=zk h3;clear hlt hlk h3;rcases kindsM_get hm with ⟨rfl,rfl⟩|⟨rfl,rfl⟩|⟨rfl,rfl⟩|⟨rfl,rfl⟩|⟨rfl,rfl⟩
   ·clear hm;rcases hbk:k.book with t|t
    ·simp only [hbk,BookM.iv] at c3;have hme:=gtake_meth (.agg #[.pointer (some ⟨bb,0,none⟩)]);have HBK:=zk hbk;have H3:=zk H3.out;simp only [hbk,SA.bookm,BookM.iv] at H3;go_wp2_with (fail);refine wro0 [(0,.f),(1,.f),(2,.f),(3,.s),(4,.f),(5,.s),(6,.f),(7,.s),(8,.f),(9,.s),(10,.f),(11,.s),(12,.f),(13,.s),(14,.f),(15,.f),(16,.e)] ?_;repeat (first
      |(refine vg rfl rfl ?_;apply ex2;intro w' hw';go_simp;rfl;go_simp)
      |(refine vs_ rfl (fun K hK=>?_);go_simp;refine hK _ ?_;clear hK K)
      |(refine ve rfl rfl ?_;go_wp2_with (go_at_call 308;refine (gtake_ok (H3.out.drew.frt 4 rfl) id a q h0 h1 ha hq0 hq1).mono ?_;rintro e w4 ⟨rfl,h4⟩;have H4:=zk h4;clear h4);refine ⟨trivial,?_⟩;go_simp))
     exact zKp42
    ·simp only [hbk,BookM.iv] at c3;have HFM:As t.fine:=⟨by have:=HP.out.fine;rw [hbk] at this;exact this⟩;have hme:=mtake_meth (.agg #[.pointer (some ⟨bb,0,none⟩)]);have HBK:=zk hbk;have H3:=zk H3.out;simp only [hbk,SA.bookm,BookM.iv] at H3;go_wp2_with (fail);refine wro0 [(0,.f),(1,.f),(2,.f),(3,.s),(4,.f),(5,.s),(6,.f),(7,.s),(8,.f),(9,.s),(10,.f),(11,.s),(12,.f),(13,.s),(14,.f),(15,.f),(16,.e)] ?_;repeat (first
      |(refine vg rfl rfl ?_;apply ex2;intro w' hw';go_simp;rfl;go_simp)
      |(refine vs_ rfl (fun K hK=>?_);go_simp;refine hK _ ?_;clear hK K)
      |(refine ve rfl rfl ?_;go_wp2_with (go_at_call 294;refine (mtake_ok (H3.out.drew.frt 4 rfl) HFM.out id a q h0 h1 ha hq0 hq1).mono ?_;rintro e w4 ⟨rfl,h4⟩;have H4:=zk h4;clear h4);refine ⟨trivial,?_⟩;go_simp))
     exact zKp42
   ·exact zKp41
   ·exact zKp41
   ·exact zKp41
   ·exact zKp41
set_option maxHeartbeats 16000000 in
theorem kplaysX_yes {w0 w:World} {b bj:Nat} {k:Keeper} {R:List SA} (h:Heap w0 (.kpx b bj k::R) w) (id:Int) (h0:1≤id) (h1:id≤999) (v:Value) (hv:v.oneCell'=true):
 Calls Tryz.prog 138 #[.pointer (some ⟨b,0,none⟩),.agg #[.string Kd.yes.str,.int .i64 id,v]] w fun en w'=>en=.returned (.tuple #[])∧Heap w0 (.kpx b bj (k.plays ⟨.yes,id,[]⟩)::R) w':=by
 obtain ⟨hp,g,cap,bb,bm,h⟩:=h.open_kpx;have HP:=zk hp;have hnn:As (List.length (mval (Value.int .i64) k.st)<1000000):=⟨by have:=hp.keys.len;simp only [mval,List.length_map];omega⟩;have HO:=Heap.nAt (n:=w.heap.size) h (.cells #[.string Kd.yes.str,.int .i64 id,v] 171) rfl;obtain ⟨W1,hW1⟩:∃W1,w.alloc (.cells #[.string Kd.yes.str,.int .i64 id,v] 171)=W1:=⟨_,rfl⟩;rw [hW1] at HO;have HK:=zk (kinds_ok HO);have n1:(Kd.ready.str.toList==Kd.yes.str.toList)=false:=by kernel_rfl
 have n2:(Kd.yes.str.toList==Kd.yes.str.toList)=true:=by kernel_rfl
 have n3:(Kd.no.str.toList==Kd.yes.str.toList)=false:=by kernel_rfl
 have n4:(Kd.fyes.str.toList==Kd.yes.str.toList)=false:=by kernel_rfl
 have n5:(Kd.fno.str.toList==Kd.yes.str.toList)=false:=by kernel_rfl
 clear h HO hp;go_enter Tryz.func138,Tryz.ntmps138;go_wp2_with (fail);go_step3;go_wp2_with (fail);go_step3;go_wp2_with (first|(go_at_call 136;refine HK.out.mono ?_;rintro e w1 ⟨bk,rfl,h1⟩;have H1:=zk h1;clear h1)|(refine wpList_rng H1.out 0 bk _ rfl rfl _ 208 9 rfl Tryz.underlying208 rfl ?_;intro r w2 h2;have H2:=zk h2;clear h2;go_simp))
 go_loopg [4] (Maps.size (DD kindsM)) (fun gk p wr=>∃left:Lit→Bool,As (left (.int .i64 2)=true)∧As (Heap w0 (.rng bk r kindsM left gk::.pts w.heap.size (.cells #[.string Kd.yes.str,.int .i64 id,v] 171)::.pts b (.cells #[.int .i64 k.node,.slice (some ⟨g,0,none⟩) 2 cap,.pointer (some ⟨bj,0,none⟩),k.book.iv bb,.map (some bm)] 91)::.slc (.slice (some ⟨g,0,none⟩) 2 cap) 3 1 2 (initL k.node)::.bookm bb k.book::.map bm (mval (Value.int .i64) k.st)::R) wr))
 case atStart=>exact ⟨_,⟨by rw [DD_has];rfl⟩,H2⟩
 case round=>
  obtain ⟨left,HL,HR⟩:=hrel;clear H1 H2 HK;go_wp2_with (refine wpList_nxt HR.out 0 bk r _ left gk rfl rfl _ rfl rfl ?done ?more)
  case done=>
   intro hd;have:=HL.out;rw [hd] at this;cases this
  case more=>
   intro kk c w3 cnt2 hlk hm hlt h3 hen;have HLT:=zk hlt;obtain ⟨x0,x1,x2,xf⟩:=h3.cB3 1 rfl;obtain ⟨c0,c1,c2,c3,c4,cf⟩:=h3.cB5 2 rfl;have hlb:=h3.lt 2 rfl;have H3:=zk h3;clear hlt hlk h3;rcases kindsM_get hm with ⟨rfl,rfl⟩|⟨rfl,rfl⟩|⟨rfl,rfl⟩|⟨rfl,rfl⟩|⟨rfl,rfl⟩
   ·exact zKp41
   ·clear hm;rcases hbk:k.book with t|t
    ·simp only [hbk,BookM.iv] at c3;have hme:=ggives_meth (.agg #[.pointer (some ⟨bb,0,none⟩)]);have HBK:=zk hbk;have H3:=zk H3.out;simp only [hbk,SA.bookm,BookM.iv] at H3;go_wp2_with (go_at_call 161;refine (vdecided_ok 2 _ (by unfold St;omega)).mono ?_;rintro e w' ⟨rfl,rfl⟩;simp only [vDecided]);refine wro0 [(0,.f),(1,.f),(2,.f),(3,.s),(4,.f),(5,.s),(6,.e)] ?_;repeat (first
      |(refine vg rfl rfl ?_;apply ex2;intro w' hw';go_simp;rfl;go_simp)
      |(refine vs_ rfl (fun K hK=>?_);go_simp;refine hK _ ?_;clear hK K)
      |(refine ve rfl rfl ?_;go_wp2_with (go_at_call 306;refine (ggives_ok (H3.out.drew.frt 4 rfl) id h0 h1).mono ?_;rintro e w4 ⟨rfl,h4⟩;have H4:=zk h4;clear h4);refine ⟨trivial,?_⟩;go_simp))
     exact zKp44
    ·simp only [hbk,BookM.iv] at c3;have HFM:As t.fine:=⟨by have:=HP.out.fine;rw [hbk] at this;exact this⟩;have hme:=mgives_meth (.agg #[.pointer (some ⟨bb,0,none⟩)]);have HBK:=zk hbk;have H3:=zk H3.out;simp only [hbk,SA.bookm,BookM.iv] at H3;go_wp2_with (go_at_call 161;refine (vdecided_ok 2 _ (by unfold St;omega)).mono ?_;rintro e w' ⟨rfl,rfl⟩;simp only [vDecided]);refine wro0 [(0,.f),(1,.f),(2,.f),(3,.s),(4,.f),(5,.s),(6,.e)] ?_;repeat (first
      |(refine vg rfl rfl ?_;apply ex2;intro w' hw';go_simp;rfl;go_simp)
      |(refine vs_ rfl (fun K hK=>?_);go_simp;refine hK _ ?_;clear hK K)
      |(refine ve rfl rfl ?_;go_wp2_with (go_at_call 292;refine (mgives_ok (H3.out.drew.frt 4 rfl) id h0 h1).mono ?_;rintro e w4 ⟨rfl,h4⟩;have H4:=zk h4;clear h4);refine ⟨trivial,?_⟩;go_simp))
     exact zKp44
   ·exact zKp41
   ·exact zKp41
   ·exact zKp41
set_option maxHeartbeats 16000000 in
theorem kplaysX_no {w0 w:World} {b bj:Nat} {k:Keeper} {R:List SA} (h:Heap w0 (.kpx b bj k::R) w) (id:Int) (h0:1≤id) (h1:id≤999) (v:Value) (hv:v.oneCell'=true):
 Calls Tryz.prog 138 #[.pointer (some ⟨b,0,none⟩),.agg #[.string Kd.no.str,.int .i64 id,v]] w fun en w'=>en=.returned (.tuple #[])∧Heap w0 (.kpx b bj (k.plays ⟨.no,id,[]⟩)::R) w':=by
 obtain ⟨hp,g,cap,bb,bm,h⟩:=h.open_kpx;have HP:=zk hp;have hnn:As (List.length (mval (Value.int .i64) k.st)<1000000):=⟨by have:=hp.keys.len;simp only [mval,List.length_map];omega⟩;have HO:=Heap.nAt (n:=w.heap.size) h (.cells #[.string Kd.no.str,.int .i64 id,v] 171) rfl;obtain ⟨W1,hW1⟩:∃W1,w.alloc (.cells #[.string Kd.no.str,.int .i64 id,v] 171)=W1:=⟨_,rfl⟩;rw [hW1] at HO;have HK:=zk (kinds_ok HO);have n1:(Kd.ready.str.toList==Kd.no.str.toList)=false:=by kernel_rfl
 have n2:(Kd.yes.str.toList==Kd.no.str.toList)=false:=by kernel_rfl
 have n3:(Kd.no.str.toList==Kd.no.str.toList)=true:=by kernel_rfl
 have n4:(Kd.fyes.str.toList==Kd.no.str.toList)=false:=by kernel_rfl
 have n5:(Kd.fno.str.toList==Kd.no.str.toList)=false:=by kernel_rfl
 clear h HO hp;go_enter Tryz.func138,Tryz.ntmps138;go_wp2_with (fail);go_step3;go_wp2_with (fail);go_step3;go_wp2_with (first|(go_at_call 136;refine HK.out.mono ?_;rintro e w1 ⟨bk,rfl,h1⟩;have H1:=zk h1;clear h1)|(refine wpList_rng H1.out 0 bk _ rfl rfl _ 208 9 rfl Tryz.underlying208 rfl ?_;intro r w2 h2;have H2:=zk h2;clear h2;go_simp))
 go_loopg [4] (Maps.size (DD kindsM)) (fun gk p wr=>∃left:Lit→Bool,As (left (.int .i64 3)=true)∧As (Heap w0 (.rng bk r kindsM left gk::.pts w.heap.size (.cells #[.string Kd.no.str,.int .i64 id,v] 171)::.pts b (.cells #[.int .i64 k.node,.slice (some ⟨g,0,none⟩) 2 cap,.pointer (some ⟨bj,0,none⟩),k.book.iv bb,.map (some bm)] 91)::.slc (.slice (some ⟨g,0,none⟩) 2 cap) 3 1 2 (initL k.node)::.bookm bb k.book::.map bm (mval (Value.int .i64) k.st)::R) wr))
 case atStart=>exact ⟨_,⟨by rw [DD_has];rfl⟩,H2⟩
 case round=>
  obtain ⟨left,HL,HR⟩:=hrel;clear H1 H2 HK;go_wp2_with (refine wpList_nxt HR.out 0 bk r _ left gk rfl rfl _ rfl rfl ?done ?more)
  case done=>
   intro hd;have:=HL.out;rw [hd] at this;cases this
  case more=>
   intro kk c w3 cnt2 hlk hm hlt h3 hen;have HLT:=zk hlt;obtain ⟨x0,x1,x2,xf⟩:=h3.cB3 1 rfl;obtain ⟨c0,c1,c2,c3,c4,cf⟩:=h3.cB5 2 rfl;have hlb:=h3.lt 2 rfl;have H3:=zk h3;clear hlt hlk h3;rcases kindsM_get hm with ⟨rfl,rfl⟩|⟨rfl,rfl⟩|⟨rfl,rfl⟩|⟨rfl,rfl⟩|⟨rfl,rfl⟩
   ·exact zKp41
   ·exact zKp41
   ·clear hm;rcases hbk:k.book with t|t
    ·simp only [hbk,BookM.iv] at c3;have hme:=glets_meth (.agg #[.pointer (some ⟨bb,0,none⟩)]);have HBK:=zk hbk;have H3:=zk H3.out;simp only [hbk,SA.bookm,BookM.iv] at H3;go_wp2_with (go_at_call 161;refine (vdecided_ok 3 _ (by unfold St;omega)).mono ?_;rintro e w' ⟨rfl,rfl⟩;simp only [vDecided]);refine wro0 [(0,.f),(1,.f),(2,.f),(3,.s),(4,.f),(5,.s),(6,.e)] ?_;repeat (first
      |(refine vg rfl rfl ?_;apply ex2;intro w' hw';go_simp;rfl;go_simp)
      |(refine vs_ rfl (fun K hK=>?_);go_simp;refine hK _ ?_;clear hK K)
      |(refine ve rfl rfl ?_;go_wp2_with (go_at_call 307;refine (glets_ok (H3.out.drew.frt 4 rfl) id h0 h1).mono ?_;rintro e w4 ⟨rfl,h4⟩;have H4:=zk h4;clear h4);refine ⟨trivial,?_⟩;go_simp))
     exact zKp46
    ·simp only [hbk,BookM.iv] at c3;have HFM:As t.fine:=⟨by have:=HP.out.fine;rw [hbk] at this;exact this⟩;have hme:=mlets_meth (.agg #[.pointer (some ⟨bb,0,none⟩)]);have HBK:=zk hbk;have H3:=zk H3.out;simp only [hbk,SA.bookm,BookM.iv] at H3;go_wp2_with (go_at_call 161;refine (vdecided_ok 3 _ (by unfold St;omega)).mono ?_;rintro e w' ⟨rfl,rfl⟩;simp only [vDecided]);refine wro0 [(0,.f),(1,.f),(2,.f),(3,.s),(4,.f),(5,.s),(6,.e)] ?_;repeat (first
      |(refine vg rfl rfl ?_;apply ex2;intro w' hw';go_simp;rfl;go_simp)
      |(refine vs_ rfl (fun K hK=>?_);go_simp;refine hK _ ?_;clear hK K)
      |(refine ve rfl rfl ?_;go_wp2_with (go_at_call 293;refine (mlets_ok (H3.out.drew.frt 4 rfl) id h0 h1).mono ?_;rintro e w4 ⟨rfl,h4⟩;have H4:=zk h4;clear h4);refine ⟨trivial,?_⟩;go_simp))
     exact zKp46
   ·exact zKp41
   ·exact zKp41
set_option maxHeartbeats 16000000 in
theorem kplaysX_fyes {w0 w:World} {b bj:Nat} {k:Keeper} {R:List SA} (h:Heap w0 (.kpx b bj k::R) w) (id:Int) (h0:1≤id) (h1:id≤999) (v:Value) (hv:v.oneCell'=true):
 Calls Tryz.prog 138 #[.pointer (some ⟨b,0,none⟩),.agg #[.string Kd.fyes.str,.int .i64 id,v]] w fun en w'=>en=.returned (.tuple #[])∧Heap w0 (.kpx b bj (k.plays ⟨.fyes,id,[]⟩)::R) w':=by
 obtain ⟨hp,g,cap,bb,bm,h⟩:=h.open_kpx;have HP:=zk hp;have hnn:As (List.length (mval (Value.int .i64) k.st)<1000000):=⟨by have:=hp.keys.len;simp only [mval,List.length_map];omega⟩;have HO:=Heap.nAt (n:=w.heap.size) h (.cells #[.string Kd.fyes.str,.int .i64 id,v] 171) rfl;obtain ⟨W1,hW1⟩:∃W1,w.alloc (.cells #[.string Kd.fyes.str,.int .i64 id,v] 171)=W1:=⟨_,rfl⟩;rw [hW1] at HO;have HK:=zk (kinds_ok HO);have n1:(Kd.ready.str.toList==Kd.fyes.str.toList)=false:=by kernel_rfl
 have n2:(Kd.yes.str.toList==Kd.fyes.str.toList)=false:=by kernel_rfl
 have n3:(Kd.no.str.toList==Kd.fyes.str.toList)=false:=by kernel_rfl
 have n4:(Kd.fyes.str.toList==Kd.fyes.str.toList)=true:=by kernel_rfl
 have n5:(Kd.fno.str.toList==Kd.fyes.str.toList)=false:=by kernel_rfl
 clear h HO hp;go_enter Tryz.func138,Tryz.ntmps138;go_wp2_with (fail);go_step3;go_wp2_with (fail);go_step3;go_wp2_with (first|(go_at_call 136;refine HK.out.mono ?_;rintro e w1 ⟨bk,rfl,h1⟩;have H1:=zk h1;clear h1)|(refine wpList_rng H1.out 0 bk _ rfl rfl _ 208 9 rfl Tryz.underlying208 rfl ?_;intro r w2 h2;have H2:=zk h2;clear h2;go_simp))
 go_loopg [4] (Maps.size (DD kindsM)) (fun gk p wr=>∃left:Lit→Bool,As (left (.int .i64 4)=true)∧As (Heap w0 (.rng bk r kindsM left gk::.pts w.heap.size (.cells #[.string Kd.fyes.str,.int .i64 id,v] 171)::.pts b (.cells #[.int .i64 k.node,.slice (some ⟨g,0,none⟩) 2 cap,.pointer (some ⟨bj,0,none⟩),k.book.iv bb,.map (some bm)] 91)::.slc (.slice (some ⟨g,0,none⟩) 2 cap) 3 1 2 (initL k.node)::.bookm bb k.book::.map bm (mval (Value.int .i64) k.st)::R) wr))
 case atStart=>exact ⟨_,⟨by rw [DD_has];rfl⟩,H2⟩
 case round=>
  obtain ⟨left,HL,HR⟩:=hrel;clear H1 H2 HK;go_wp2_with (refine wpList_nxt HR.out 0 bk r _ left gk rfl rfl _ rfl rfl ?done ?more)
  case done=>
   intro hd;have:=HL.out;rw [hd] at this;cases this
  case more=>
   intro kk c w3 cnt2 hlk hm hlt h3 hen;have HLT:=zk hlt;obtain ⟨x0,x1,x2,xf⟩:=h3.cB3 1 rfl;obtain ⟨c0,c1,c2,c3,c4,cf⟩:=h3.cB5 2 rfl;have hlb:=h3.lt 2 rfl;have H3:=zk h3;clear hlt hlk h3;rcases kindsM_get hm with ⟨rfl,rfl⟩|⟨rfl,rfl⟩|⟨rfl,rfl⟩|⟨rfl,rfl⟩|⟨rfl,rfl⟩
   ·exact zKp41
   ·exact zKp41
   ·exact zKp41
   ·clear hm;rcases hbk:k.book with t|t
    ·simp only [hbk,BookM.iv] at c3;have hme:=ggives_meth (.agg #[.pointer (some ⟨bb,0,none⟩)]);have HBK:=zk hbk;have H3:=zk H3.out;simp only [hbk,SA.bookm,BookM.iv] at H3;go_wp2_with (go_at_call 161;refine (vdecided_ok 4 _ (by unfold St;omega)).mono ?_;rintro e w' ⟨rfl,rfl⟩;simp only [vDecided]);refine wro0 [(0,.f),(1,.f),(2,.f),(3,.s),(4,.f),(5,.s),(6,.e)] ?_;repeat (first
      |(refine vg rfl rfl ?_;apply ex2;intro w' hw';go_simp;rfl;go_simp)
      |(refine vs_ rfl (fun K hK=>?_);go_simp;refine hK _ ?_;clear hK K)
      |(refine ve rfl rfl ?_;go_wp2_with (go_at_call 306;refine (ggives_ok (H3.out.drew.frt 4 rfl) id h0 h1).mono ?_;rintro e w4 ⟨rfl,h4⟩;have H4:=zk h4;clear h4);refine ⟨trivial,?_⟩;go_simp))
     exact zKp43
    ·simp only [hbk,BookM.iv] at c3;have HFM:As t.fine:=⟨by have:=HP.out.fine;rw [hbk] at this;exact this⟩;have hme:=mgives_meth (.agg #[.pointer (some ⟨bb,0,none⟩)]);have HBK:=zk hbk;have H3:=zk H3.out;simp only [hbk,SA.bookm,BookM.iv] at H3;go_wp2_with (go_at_call 161;refine (vdecided_ok 4 _ (by unfold St;omega)).mono ?_;rintro e w' ⟨rfl,rfl⟩;simp only [vDecided]);refine wro0 [(0,.f),(1,.f),(2,.f),(3,.s),(4,.f),(5,.s),(6,.e)] ?_;repeat (first
      |(refine vg rfl rfl ?_;apply ex2;intro w' hw';go_simp;rfl;go_simp)
      |(refine vs_ rfl (fun K hK=>?_);go_simp;refine hK _ ?_;clear hK K)
      |(refine ve rfl rfl ?_;go_wp2_with (go_at_call 292;refine (mgives_ok (H3.out.drew.frt 4 rfl) id h0 h1).mono ?_;rintro e w4 ⟨rfl,h4⟩;have H4:=zk h4;clear h4);refine ⟨trivial,?_⟩;go_simp))
     exact zKp43
   ·exact zKp41
set_option maxHeartbeats 16000000 in
theorem kplaysX_fno {w0 w:World} {b bj:Nat} {k:Keeper} {R:List SA} (h:Heap w0 (.kpx b bj k::R) w) (id:Int) (h0:1≤id) (h1:id≤999) (v:Value) (hv:v.oneCell'=true):
 Calls Tryz.prog 138 #[.pointer (some ⟨b,0,none⟩),.agg #[.string Kd.fno.str,.int .i64 id,v]] w fun en w'=>en=.returned (.tuple #[])∧Heap w0 (.kpx b bj (k.plays ⟨.fno,id,[]⟩)::R) w':=by
 obtain ⟨hp,g,cap,bb,bm,h⟩:=h.open_kpx;have HP:=zk hp;have hnn:As (List.length (mval (Value.int .i64) k.st)<1000000):=⟨by have:=hp.keys.len;simp only [mval,List.length_map];omega⟩;have HO:=Heap.nAt (n:=w.heap.size) h (.cells #[.string Kd.fno.str,.int .i64 id,v] 171) rfl;obtain ⟨W1,hW1⟩:∃W1,w.alloc (.cells #[.string Kd.fno.str,.int .i64 id,v] 171)=W1:=⟨_,rfl⟩;rw [hW1] at HO;have HK:=zk (kinds_ok HO);have n1:(Kd.ready.str.toList==Kd.fno.str.toList)=false:=by kernel_rfl
 have n2:(Kd.yes.str.toList==Kd.fno.str.toList)=false:=by kernel_rfl
 have n3:(Kd.no.str.toList==Kd.fno.str.toList)=false:=by kernel_rfl
 have n4:(Kd.fyes.str.toList==Kd.fno.str.toList)=false:=by kernel_rfl
 have n5:(Kd.fno.str.toList==Kd.fno.str.toList)=true:=by kernel_rfl
 clear h HO hp;go_enter Tryz.func138,Tryz.ntmps138;go_wp2_with (fail);go_step3;go_wp2_with (fail);go_step3;go_wp2_with (first|(go_at_call 136;refine HK.out.mono ?_;rintro e w1 ⟨bk,rfl,h1⟩;have H1:=zk h1;clear h1)|(refine wpList_rng H1.out 0 bk _ rfl rfl _ 208 9 rfl Tryz.underlying208 rfl ?_;intro r w2 h2;have H2:=zk h2;clear h2;go_simp))
 go_loopg [4] (Maps.size (DD kindsM)) (fun gk p wr=>∃left:Lit→Bool,As (left (.int .i64 5)=true)∧As (Heap w0 (.rng bk r kindsM left gk::.pts w.heap.size (.cells #[.string Kd.fno.str,.int .i64 id,v] 171)::.pts b (.cells #[.int .i64 k.node,.slice (some ⟨g,0,none⟩) 2 cap,.pointer (some ⟨bj,0,none⟩),k.book.iv bb,.map (some bm)] 91)::.slc (.slice (some ⟨g,0,none⟩) 2 cap) 3 1 2 (initL k.node)::.bookm bb k.book::.map bm (mval (Value.int .i64) k.st)::R) wr))
 case atStart=>exact ⟨_,⟨by rw [DD_has];rfl⟩,H2⟩
 case round=>
  obtain ⟨left,HL,HR⟩:=hrel;clear H1 H2 HK;go_wp2_with (refine wpList_nxt HR.out 0 bk r _ left gk rfl rfl _ rfl rfl ?done ?more)
  case done=>
   intro hd;have:=HL.out;rw [hd] at this;cases this
  case more=>
   intro kk c w3 cnt2 hlk hm hlt h3 hen;have HLT:=zk hlt;obtain ⟨x0,x1,x2,xf⟩:=h3.cB3 1 rfl;obtain ⟨c0,c1,c2,c3,c4,cf⟩:=h3.cB5 2 rfl;have hlb:=h3.lt 2 rfl;have H3:=zk h3;clear hlt hlk h3;rcases kindsM_get hm with ⟨rfl,rfl⟩|⟨rfl,rfl⟩|⟨rfl,rfl⟩|⟨rfl,rfl⟩|⟨rfl,rfl⟩
   ·exact zKp41
   ·exact zKp41
   ·exact zKp41
   ·exact zKp41
   ·clear hm;rcases hbk:k.book with t|t
    ·simp only [hbk,BookM.iv] at c3;have hme:=glets_meth (.agg #[.pointer (some ⟨bb,0,none⟩)]);have HBK:=zk hbk;have H3:=zk H3.out;simp only [hbk,SA.bookm,BookM.iv] at H3;go_wp2_with (go_at_call 161;refine (vdecided_ok 5 _ (by unfold St;omega)).mono ?_;rintro e w' ⟨rfl,rfl⟩;simp only [vDecided]);refine wro0 [(0,.f),(1,.f),(2,.f),(3,.s),(4,.f),(5,.s),(6,.e)] ?_;repeat (first
      |(refine vg rfl rfl ?_;apply ex2;intro w' hw';go_simp;rfl;go_simp)
      |(refine vs_ rfl (fun K hK=>?_);go_simp;refine hK _ ?_;clear hK K)
      |(refine ve rfl rfl ?_;go_wp2_with (go_at_call 307;refine (glets_ok (H3.out.drew.frt 4 rfl) id h0 h1).mono ?_;rintro e w4 ⟨rfl,h4⟩;have H4:=zk h4;clear h4);refine ⟨trivial,?_⟩;go_simp))
     exact zKp45
    ·simp only [hbk,BookM.iv] at c3;have HFM:As t.fine:=⟨by have:=HP.out.fine;rw [hbk] at this;exact this⟩;have hme:=mlets_meth (.agg #[.pointer (some ⟨bb,0,none⟩)]);have HBK:=zk hbk;have H3:=zk H3.out;simp only [hbk,SA.bookm,BookM.iv] at H3;go_wp2_with (go_at_call 161;refine (vdecided_ok 5 _ (by unfold St;omega)).mono ?_;rintro e w' ⟨rfl,rfl⟩;simp only [vDecided]);refine wro0 [(0,.f),(1,.f),(2,.f),(3,.s),(4,.f),(5,.s),(6,.e)] ?_;repeat (first
      |(refine vg rfl rfl ?_;apply ex2;intro w' hw';go_simp;rfl;go_simp)
      |(refine vs_ rfl (fun K hK=>?_);go_simp;refine hK _ ?_;clear hK K)
      |(refine ve rfl rfl ?_;go_wp2_with (go_at_call 293;refine (mlets_ok (H3.out.drew.frt 4 rfl) id h0 h1).mono ?_;rintro e w4 ⟨rfl,h4⟩;have H4:=zk h4;clear h4);refine ⟨trivial,?_⟩;go_simp))
     exact zKp45
inductive KpE:Entry→Prop where
 |ready (id:Int) (a:Nat) (q:Int) (h0:1≤id) (h1:id≤999) (ha:a<8) (hq0:0<q) (hq1:q≤1000000000):KpE ⟨.ready,id,[(a:Int),q]⟩
 |yes (id:Int) (h0:1≤id) (h1:id≤999):KpE ⟨.yes,id,[]⟩
 |no (id:Int) (h0:1≤id) (h1:id≤999):KpE ⟨.no,id,[]⟩
 |fyes (id:Int) (h0:1≤id) (h1:id≤999):KpE ⟨.fyes,id,[]⟩
 |fno (id:Int) (h0:1≤id) (h1:id≤999):KpE ⟨.fno,id,[]⟩
theorem KpE.ok {e:Entry} (h:KpE e):e.ok:=by
 cases h with
 |ready id a q h0 h1 ha hq0 hq1=>exact ⟨by simp only;omega,h1,by simp,by simp [numOk];omega⟩
 |yes id h0 h1=>exact ⟨by simp only;omega,h1,by simp,by simp⟩
 |no id h0 h1=>exact ⟨by simp only;omega,h1,by simp,by simp⟩
 |fyes id h0 h1=>exact ⟨by simp only;omega,h1,by simp,by simp⟩
 |fno id h0 h1=>exact ⟨by simp only;omega,h1,by simp,by simp⟩
theorem kplaysX_ok {w0 w:World} {b bj:Nat} {k:Keeper} {R:List SA} {e:Entry} {v:Value} (h:Heap w0 (.kpx b bj k::.slc v 3 1 e.n.length (e.n.map (Value.int .i64))::R) w) (he:KpE e):
 Calls Tryz.prog 138 #[.pointer (some ⟨b,0,none⟩),.agg #[.string e.kd.str,.int .i64 e.id,v]] w fun en w'=>en=.returned (.tuple #[])∧Heap w0 (.kpx b bj (k.plays e)::.slc v 3 1 e.n.length (e.n.map (Value.int .i64))::R) w':=by
 cases he with
 |ready id a q h0 h1 ha hq0 hq1=>exact kplaysX_ready a q v h id h0 h1 ha hq0 hq1
 |yes id h0 h1=>exact kplaysX_yes h id h0 h1 v (h.slc_one 1 rfl)
 |no id h0 h1=>exact kplaysX_no h id h0 h1 v (h.slc_one 1 rfl)
 |fyes id h0 h1=>exact kplaysX_fyes h id h0 h1 v (h.slc_one 1 rfl)
 |fno id h0 h1=>exact kplaysX_fno h id h0 h1 v (h.slc_one 1 rfl)
theorem kplays_j (k:Keeper) (e:Entry):(k.plays e).j=k.j:=by unfold Keeper.plays;split<;>rfl
theorem kplays_node (k:Keeper) (e:Entry):(k.plays e).node=k.node:=by unfold Keeper.plays;split<;>rfl
def stOf:Kd→Int
 |.ready=>1
 |.yes=>2
 |.no=>3
 |.fyes=>4
 |.fno=>5
 |_=>0
theorem kinds_at {e:Entry} (h:KpE e):mget kindsM (stOf e.kd)=some (.string e.kd.str):=by cases h<;>rfl
theorem stOf_rng (k:Kd):0≤stOf k∧stOf k≤5:=by cases k<;>decide
theorem zero9:∀w,(zeroValue 9).run Tryz.prog w=.ok (.string ⟨#[]⟩) w:=fun _=>by kernel_rfl
def Keeper.notes (k:Keeper) (e:Entry):Bool×Keeper:=
 if k.j.room≤(k.j.es.length:Int) then (false,k) else (true,({k with j:=(k.j.add e).2.sync}:Keeper).plays e)
set_option maxHeartbeats 4000000 in
theorem knotes_ok {w0 w:World} {b:Nat} {k:Keeper} {R:List SA} {e:Entry} {v:Value} (h:Heap w0 (.keeper b k::.slc v 3 1 e.n.length (e.n.map (Value.int .i64))::R) w) (he:KpE e) (hd:k.j.down=false):
 Calls Tryz.prog 106 #[.pointer (some ⟨b,0,none⟩),.int .i64 e.id,.int .i64 (stOf e.kd),v] w fun en w'=>en=.returned (.bool (k.notes e).1)∧Heap w0 (.keeper b (k.notes e).2::.slc v 3 1 e.n.length (e.n.map (Value.int .i64))::R) w':=by
 obtain ⟨bj,h⟩:=h.kpx_of;obtain ⟨hp,g,cap,bb,bm,h⟩:=h.open_kpx;have HP:=zk hp;have HK:=zk (kinds_ok h);have HS:As (k.notes e=if k.j.room≤(k.j.es.length:Int) then (false,k) else (true,({k with j:=(k.j.add e).2.sync}:Keeper).plays e)):=⟨rfl⟩;have HE:=zk he;have HD:=zk hd;have HLK:=zk (kinds_at he);have hs0:=(stOf_rng e.kd).1;have hs1:=(stOf_rng e.kd).2;obtain ⟨av,capv,rfl⟩:=vS2 (h.row 5 rfl);generalize hst:stOf e.kd=sn at *;clear h hp he hst;by_cases hr:k.j.room≤(k.j.es.length:Int)
 ·have HR:=zk hr;have ha:k.j.add e=(5,k.j):=by simp [Jrn.add,hr]
  have HA1:As ((k.j.add e).1=5):=⟨by rw [ha]⟩;have HF:As ((k.j.add e).2=k.j):=⟨by rw [ha]⟩;clear ha hr hd;go_enter Tryz.func106,Tryz.ntmps106;go_wp2_with (first|(go_at_call 136;refine HK.out.mono ?_;rintro en w1 ⟨bk,rfl,h1⟩;have H1:=zk h1;clear h1)|(at_lookup;refine wll H1.out 0 bk _ rfl rfl _ _ 208 9 false rfl Tryz.underlying208 _ zero9 rfl sn rfl (by omega) (by omega) ?_;rw [HLK.out];simp only [Option.getD_some,if_false,Bool.false_eq_true]));have hn:=Heap.nAt (n:=w1.heap.size) H1.out (.cells #[.string e.kd.str,.int .i64 e.id,.slice av e.n.length capv] 171) rfl;obtain ⟨W3,hW3⟩:∃W3,w1.alloc (.cells #[.string e.kd.str,.int .i64 e.id,.slice av e.n.length capv] 171)=W3:=⟨_,rfl⟩;rw [hW3] at hn⊢;generalize w1.heap.size=pe at hn⊢;obtain ⟨z0,z1,z2,zf⟩:=hn.cB3 0 rfl;obtain ⟨c0,c1,c2,c3,c4,cf⟩:=hn.cB5 2 rfl;have hlb:=hn.lt 2 rfl;have hlz:=hn.lt 0 rfl;have H3:=zk hn;clear hn hW3;refine wro0 [(0,.f),(1,.f),(2,.f),(3,.s),(4,.s),(5,.e),(6,.f)] ?_;repeat (first
   |(refine vg rfl rfl ?_;apply ex2;intro w' hw';go_simp;rfl;go_simp)
   |(refine vs_ rfl (fun K hK=>?_);go_simp;refine hK _ ?_;clear hK K)
   |(refine ve rfl rfl ?_;go_wp2_with (go_at_call 137;refine (jadd_ok (H3.out.drew.frt 6 rfl) HD.out e HE.out.ok _ (H3.out.drew.row 7 rfl)).mono ?_;rintro en w4 ⟨rfl,h4⟩;rw [HA1.out];have H4:=zk h4;clear h4);refine ⟨trivial,?_⟩;go_simp))
  refine vn ?_;go_simp;clear c0 c1 c2 c3 c4 cf z0 z1 z2 zf hlb hlz;obtain ⟨c0,c1,c2,c3,c4,cf⟩:=H4.out.cB5 3 rfl;obtain ⟨z0,z1,z2,zf⟩:=H4.out.cB3 1 rfl;have hlb:=H4.out.lt 3 rfl;go_wp2_with (fail);go_ret;rw [HS.out,if_pos HR.out];refine ⟨rfl,?_⟩;have h9:=H4.out;rw [HF.out] at h9;have h8:=(((h9.frt 1 rfl).drop.frt 1 rfl).drop.frt 4 rfl).frt 4 rfl |>.frt 4 rfl |>.frt 4 rfl;exact Heap.kpx_to (Heap.shut_kpx (g:=g) (cap:=cap) (bb:=bb) (bm:=bm) HP.out h8)
 ·have HR:=zk hr;have HD2:As ((k.j.add e).2.down=false):=⟨by simp [Jrn.add,hr];exact hd⟩;have HA1:As ((k.j.add e).1=0):=⟨by simp [Jrn.add,hr]⟩;clear hr hd;go_enter Tryz.func106,Tryz.ntmps106;go_wp2_with (first|(go_at_call 136;refine HK.out.mono ?_;rintro en w1 ⟨bk,rfl,h1⟩;have H1:=zk h1;clear h1)|(at_lookup;refine wll H1.out 0 bk _ rfl rfl _ _ 208 9 false rfl Tryz.underlying208 _ zero9 rfl sn rfl (by omega) (by omega) ?_;rw [HLK.out];simp only [Option.getD_some,if_false,Bool.false_eq_true]));have hn:=Heap.nAt (n:=w1.heap.size) H1.out (.cells #[.string e.kd.str,.int .i64 e.id,.slice av e.n.length capv] 171) rfl;obtain ⟨W3,hW3⟩:∃W3,w1.alloc (.cells #[.string e.kd.str,.int .i64 e.id,.slice av e.n.length capv] 171)=W3:=⟨_,rfl⟩;rw [hW3] at hn⊢;generalize w1.heap.size=pe at hn⊢;obtain ⟨z0,z1,z2,zf⟩:=hn.cB3 0 rfl;obtain ⟨c0,c1,c2,c3,c4,cf⟩:=hn.cB5 2 rfl;have hlb:=hn.lt 2 rfl;have hlz:=hn.lt 0 rfl;have H3:=zk hn;clear hn hW3;refine wro0 [(0,.f),(1,.f),(2,.f),(3,.s),(4,.s),(5,.e),(6,.f)] ?_;repeat (first
   |(refine vg rfl rfl ?_;apply ex2;intro w' hw';go_simp;rfl;go_simp)
   |(refine vs_ rfl (fun K hK=>?_);go_simp;refine hK _ ?_;clear hK K)
   |(refine ve rfl rfl ?_;go_wp2_with (go_at_call 137;refine (jadd_ok (H3.out.drew.frt 6 rfl) HD.out e HE.out.ok _ (H3.out.drew.row 7 rfl)).mono ?_;rintro en w4 ⟨rfl,h4⟩;rw [HA1.out];have H4:=zk h4;clear h4);refine ⟨trivial,?_⟩;go_simp))
  refine vn ?_;go_simp;clear c0 c1 c2 c3 c4 cf z0 z1 z2 zf hlb hlz;obtain ⟨c0,c1,c2,c3,c4,cf⟩:=H4.out.cB5 3 rfl;obtain ⟨z0,z1,z2,zf⟩:=H4.out.cB3 1 rfl;have hlb:=H4.out.lt 3 rfl;go_wp2_with (first|(go_at_call 133;refine (jsync_ok H4.out HD2.out).mono ?_;rintro en w5 ⟨rfl,h5⟩;clear c0 c1 c2 c3 c4 cf z0 z1 z2 zf hlb;obtain ⟨c0,c1,c2,c3,c4,cf⟩:=h5.cB5 3 rfl;obtain ⟨z0,z1,z2,zf⟩:=h5.cB3 1 rfl;have hlb:=h5.lt 3 rfl;have H5:=zk (((Heap.shut_kpx (g:=g) (cap:=cap) (bb:=bb) (bm:=bm) HP.out ((((h5.frt 1 rfl).drop.frt 1 rfl).drop.frt 4 rfl).frt 4 rfl |>.frt 4 rfl |>.frt 4 rfl)).kpx_j ((k.j.add e).2.sync)).frt 2 rfl |>.frt 1 rfl);clear h5)|(go_at_call 138;refine (kplaysX_ok H5.out HE.out).mono ?_;rintro en w6 ⟨rfl,h6⟩;have H6:=zk h6;clear h6));go_ret;rw [HS.out,if_neg (Int.not_le.2 HR.out)];refine ⟨rfl,Heap.kpx_to (bj:=bj) ?_⟩;rw [kplays_j];exact (H6.out.frt 2 rfl).frt 1 rfl
end Go.Proofs.YtlnghlamnehfjaaGreatDoor.S
namespace Go.Proofs.YtlnghlamnehfjaaGreatDoor.S
open Go.RowKit Go.Maps
attribute [local go_sem] Oper.semAt_some
def Keeper.replay (k:Keeper) (es:List Entry):Keeper:=es.foldl Keeper.plays k
def Keeper.start (k:Keeper):Keeper:=if k.j.down=true then (({k with j:=k.j.recover}:Keeper).forget).replay k.j.es else k
theorem kreplay_j (k:Keeper) (es:List Entry):(k.replay es).j=k.j:=by
 induction es generalizing k with
 |nil=>rfl
 |cons e r ih=>exact (ih (k.plays e)).trans (kplays_j k e)
theorem kreplay_succ (k:Keeper) (es:List Entry) {n:Nat} {e:Entry} (h:es[n]? =some e):k.replay (es.take (n+1))=(k.replay (es.take n)).plays e:=by
 obtain ⟨hk,rfl⟩:=List.getElem?_eq_some_iff.1 h;unfold Keeper.replay;rw [List.take_succ_eq_append_getElem hk,List.foldl_append];rfl
set_option maxHeartbeats 4000000 in
theorem kstart_ok {w0 w:World} {b:Nat} {k:Keeper} {R:List SA} (h:Heap w0 (.keeper b k::R) w) (hes:∀e∈k.j.es,KpE e):
 Calls Tryz.prog 216 #[.pointer (some ⟨b,0,none⟩)] w fun en w'=>en=.returned (.tuple #[])∧Heap w0 (.keeper b k.start::R) w':=by
 have HH:=zk h;have HB:=zk (h.new (.cells #[.pointer (some ⟨b,0,none⟩)] 40));have HDN:=zk (kdown_ok (HB.out.frt 1 rfl));have HS:As (k.start=if k.j.down=true then (({k with j:=k.j.recover}:Keeper).forget).replay k.j.es else k):=⟨rfl⟩;have HES:=zk hes;clear hes;obtain ⟨bj,h2⟩:=(HB.out.frt 1 rfl).kpx_of;have H2:=zk h2;obtain ⟨hp,g,cap,bb,bm,h3⟩:=h2.open_kpx;obtain ⟨c0,c1,c2,c3,c4,cf⟩:=h3.cB5 0 rfl;have hlb:=h3.lt 0 rfl;clear h h2 hp h3;cases hd:k.j.down
 ·rw [hd] at HS HDN;clear hd;refine cmk Tryz.func216 rfl ?_;simp only [Tryz.ntmps216,List.size_toArray,List.length_cons,List.length_nil,Nat.reduceAdd,Nat.reduceSub,Array.replicate_succ,Array.replicate_zero,List.push_toArray,List.append_toArray,List.nil_append,List.cons_append];go_wp2_with (go_at_call 19;refine HDN.out.mono ?_;rintro e w' ⟨rfl,rfl⟩);refine ⟨_,results_none rfl _ _ _,rfl,?_⟩;rw [HS.out];exact HH.out.alloc _
 ·have HREC:As (∀W L,Heap w0 (.jrn bj k.j::L) W→Calls Tryz.prog 220 #[.pointer (some ⟨bj,0,none⟩)] W fun e w'=>∃n,e=.returned (.int .i64 n)∧Heap w0 (.jrn bj k.j.recover::L) w'):=⟨fun W L h=>jrecover_ok h hd⟩;rw [hd] at HS HDN;clear hd;refine cmk Tryz.func216 rfl ?_;simp only [Tryz.ntmps216,List.size_toArray,List.length_cons,List.length_nil,Nat.reduceAdd,Nat.reduceSub,Array.replicate_succ,Array.replicate_zero,List.push_toArray,List.append_toArray,List.nil_append,List.cons_append];go_wp2_with (first|(go_at_call 19;refine HDN.out.mono ?_;rintro e w' ⟨rfl,rfl⟩)|(go_at_call 220;refine (HREC.out _ _ (H2.out.frt 1 rfl)).mono ?_;rintro e w1 ⟨nr,rfl,h1⟩;have H4:=zk ((h1.frt 1 rfl).kpx_j k.j.recover);clear c0 c1 c2 c3 c4 cf hlb;obtain ⟨x0,xf⟩:=h1.cB1 2 rfl;clear h1)|(go_at_call 76;refine (kforget_ok H4.out).mono ?_;rintro e w2 ⟨rfl,h2⟩;clear x0 xf;have H5:=zk h2;obtain ⟨hp2,g2,cap2,bb2,bm2,h3⟩:=h2.open_kpx;obtain ⟨c0,c1,c2,c3,c4,cf⟩:=h3.cB5 0 rfl;obtain ⟨x0,xf⟩:=h3.cB1 5 rfl;have hlb:=h3.lt 0 rfl;clear h2 h3 hp2)|(go_at_call 221;refine (all_ok H5.out bj).mono ?_;rintro e w3 ⟨bx,rfl,h3⟩;have H6:=zk h3;clear h3));clear c0 c1 c2 c3 c4 cf hlb x0 xf;have hje:(({k with j:=k.j.recover}:Keeper).forget).j.es=k.j.es:=rfl;have hjr:(({k with j:=k.j.recover}:Keeper).forget).j=k.j.recover:=rfl;generalize hs1:({k with j:=k.j.recover}:Keeper).forget=s1 at *;rw [←hjr] at H6;refine wp_rangeGB rfl (enters_of Tryz.func227 (by kernel_rfl) rfl) rfl _ _ R s1.j.es _ (all_gives w0 bx bj s1.j) (fun n=>.all [.pts w.heap.size (.cells #[.pointer (some ⟨b,0,none⟩)] 40),.kpx b bj (s1.replay (s1.j.es.take n))]) ?h0 2 (entN (fun n=>.all [.pts w.heap.size (.cells #[.pointer (some ⟨b,0,none⟩)] 40),.kpx b bj (s1.replay (s1.j.es.take n))])) ?assign ?body ?done
  case h0=>
   exact Heap.gather (l:= [_,_]) ((H6.out.frt 1 rfl).frt 3 rfl)
  case assign=>
   intro l n x v X W K hk h hK;obtain ⟨u,rfl,h2⟩:=give_open h;have hK2:=hK _ _ (entN_shut (h2.new (.cells #[.string x.kd.str,.int .i64 x.id,u] 171)));have hsh:=h2.shp 0 rfl;clear hK h h2;rcases hsh with ⟨rfl, -, -⟩|⟨g,cap,rfl, -, -, -⟩;all_goals
    simp [gAct,roundAct] at hK2;simp only [roundAct]
    gi_wp2
    exact hK2
  case body=>
   intro l n x v p X W hk h;obtain ⟨u,rfl,h2⟩:=entN_open h;have h3:=Heap.spread (l:= [_,_]) (h2.frt 2 rfl);have hse:KpE x:=HES.out x (by rw [←hje];exact List.mem_of_getElem? hk);have HSE:=zk hse;have HSU:=zk (kreplay_succ s1 s1.j.es hk);obtain ⟨x0,xf⟩:=h3.cB1 0 rfl;obtain ⟨e0,e1,e2,ef⟩:=h3.cB3 2 rfl;have H7:=zk ((h3.frt 3 rfl).frt 2 rfl);clear h h2 h3 hk hse;generalize s1.replay (s1.j.es.take n)=sk at *;simp only [gAct,roundAct]
   gi_wp2_with (refine ⟨trivial,(CallsIn.inRound l (callsIn_wide.2 (kplaysX_ok H7.out HSE.out))).mono ?_⟩;rintro en w4 ⟨rfl,h4⟩;have H8:=zk h4;clear h4)
   show Heap w0 _ _
   rw [HSU.out];exact Heap.gather (l:= [_,_]) ((((H8.out.frt 1 rfl).drop.frt 2 rfl).drop).frt 1 rfl)
  case done=>
   intro D W h;have h2:=Heap.spread (l:= [_,_]) h;have HZ:=h2.putAt 2 rfl (.deferred none);have HT:=zk (h2.at 2 rfl);have HY:=zk ((((HZ.drop.frt 1 rfl).drop).frt 1 rfl).drop);clear h h2 HZ;go_wp2;refine ⟨by simp,.inl ⟨_,_,rfl,run_takeDeferred HT.out,?_⟩⟩;refine ⟨_,results_none rfl _ _ _,rfl,?_⟩;rw [HS.out];simp only [if_true];have h9:=HY.out;rw [List.take_length,hje] at h9;refine Heap.kpx_to (bj:=bj) ?_;rw [kreplay_j];exact h9
end Go.Proofs.YtlnghlamnehfjaaGreatDoor.S
namespace Go.Proofs.YtlnghlamnehfjaaGreatDoor.S
open Go.RowKit Go.Maps
theorem eq53_some (g n cap:Nat) (W:World):(binOp .eql 53 (.slice (some ⟨g,0,none⟩) n cap) (.slice none 0 0)).run Tryz.prog W=.ok (.bool false) W:=by kernel_rfl
theorem iclone_ok {w0 w:World} {R:List SA} (h:Heap w0 R w) (x y:Int) (v:Value) (hr:w.ownsRow 0 3 1 v 2 [.int .i64 x,.int .i64 y]):
 Calls Tryz.prog 75 #[v] w fun e w'=>∃g cap,e=.returned (.slice (some ⟨g,0,none⟩) 2 cap)∧Heap w0 (.slc (.slice (some ⟨g,0,none⟩) 2 cap) 3 1 2 [.int .i64 x,.int .i64 y]::R) w':=by
 have H:=zk h;obtain ⟨i0,hi0,hi1,hi2,hi3⟩:=info_parts info3;have HI:=zk (And.intro hi0 (And.intro hi1 (And.intro hi2 hi3)));clear hi0 hi1 hi2 hi3;obtain ⟨g,cap,rfl,g0,g1⟩:=row_two hr;have hgb:g<w.heap.size:=World.block_lt_of_cell? w _ g0;have HX:As (∀(j:Nat) u,([.int .i64 x,.int .i64 y]:List Value)[j]? =some u→w.cell? ⟨g,j,none⟩=some u):=⟨fun j u hu=>by
  rcases j with _|_|j
  ·rw [g0];exact hu
  ·rw [g1];exact hu
  ·simp at hu⟩
 have HGB:=zk hgb;have HN:=zk (Heap.asSlc (k:=0) (size:=1) (H.out.new (.cells #[] 3)) (by decide) rfl);clear hr h g0 g1 hgb;have hbe:=eq53_some g 2 cap;go_enter Tryz.func75,Tryz.ntmps75;go_wp2_with (at_builtin;refine wla HN.out 0 _ 3 1 0 [] rfl rfl _ _ 53 rfl i0 _ 8 Tryz.underlying53 HI.out.1 HI.out.2.1 HI.out.2.2.1 HI.out.2.2.2 rfl (by decide) rfl ⟨g,0,none⟩ 2 cap [.int .i64 x,.int .i64 y] rfl rfl (fun j u hu=>by rw [addr_add];have:=HX.out j u hu;rw [←this];exact (Below.refl _ w).alloc (Nat.le_refl _) _ |>.cell (p:=⟨g,j,none⟩) HGB.out) (fun u hu=>by simp at hu;rcases hu with rfl|rfl<;>rfl) (by decide) (by decide) (by decide) ?_;intro g2 cap2 w2 h2 _;have H2:=zk h2;clear h2);go_ret;exact ⟨g2,cap2,rfl,H2.out⟩
theorem kclone_ok {w0 w:World} {R:List SA} (h:Heap w0 R w) (node:Int) (v:Value) (hr:w.ownsRow 0 3 1 v 2 (initL node)):
 Calls Tryz.prog 75 #[v] w fun e w'=>∃g cap,e=.returned (.slice (some ⟨g,0,none⟩) 2 cap)∧Heap w0 (.slc (.slice (some ⟨g,0,none⟩) 2 cap) 3 1 2 (initL node)::R) w':=by
 unfold initL at *;by_cases hn:node=1
 ·rw [if_pos hn] at *;exact iclone_ok h 60 5 v hr
 ·rw [if_neg hn] at *;exact iclone_ok h 900 40 v hr
theorem knew_ok {w0 w:World} {R:List SA} (h:Heap w0 R w) (node room:Int) (v:Value) (hn:node=1∨node=2) (hr:w.ownsRow 0 3 1 v 2 (initL node)) (hr0:1≤room) (hr1:room≤4096):
 Calls Tryz.prog 42 #[.int .i64 node,v,.int .i64 room] w fun e w'=>∃b,e=.returned (.pointer (some ⟨b,0,none⟩))∧Heap w0 (.keeper b ⟨node,⟨room,[],0,false⟩,initB node,[]⟩::R) w':=by
 have HC:=zk (kclone_ok h node v hr);have HNO:=zk hn;obtain ⟨av,cv,rfl⟩:=vS2 hr;clear h hr;have hfor:As (∀{W:World} {b bj g cap:Nat} {L:List SA},Heap w0 (.pts b (.cells #[.int .i64 node,.slice (some ⟨g,0,none⟩) 2 cap,.pointer (some ⟨bj,0,none⟩),.nilIface,.map none] 91)::.slc (.slice (some ⟨g,0,none⟩) 2 cap) 3 1 2 (initL node)::L) W→Calls Tryz.prog 76 #[.pointer (some ⟨b,0,none⟩)] W fun e w'=>e=.returned (.tuple #[])∧∃bb bm,Heap w0 (.pts b (.cells #[.int .i64 node,.slice (some ⟨g,0,none⟩) 2 cap,.pointer (some ⟨bj,0,none⟩),(initB node).iv bb,.map (some bm)] 91)::.slc (.slice (some ⟨g,0,none⟩) 2 cap) 3 1 2 (initL node)::.bookm bb (initB node)::.map bm []::L) w'):=⟨fun h=>kforgetP_ok hn h⟩;have HL:As (∀W (b:Nat) L,Heap w0 L W→True):=⟨fun _ _ _ _=>trivial⟩;have hfin:As (∀(b bj g cap bb bm:Nat) (W:World),Heap w0 (.pts b (.cells #[.int .i64 node,.slice (some ⟨g,0,none⟩) 2 cap,.pointer (some ⟨bj,0,none⟩),(initB node).iv bb,.map (some bm)] 91)::.slc (.slice (some ⟨g,0,none⟩) 2 cap) 3 1 2 (initL node)::.bookm bb (initB node)::.map bm []::.jrn bj ⟨room,[],0,false⟩::R) W→Heap w0 (.keeper b ⟨node,⟨room,[],0,false⟩,initB node,[]⟩::R) W):=⟨fun b bj g cap bb bm W h=>Heap.kpx_to (bj:=bj) (Heap.shut_kpx (k:=⟨node,⟨room,[],0,false⟩,initB node,[]⟩) (g:=g) (cap:=cap) (bb:=bb) (bm:=bm) ⟨hn,KeysOk.nil,by simp,initB_fine _⟩ h)⟩;generalize hIL:initL node=il at *;generalize hIB:initB node=ib at *;clear hIL hIB;rcases hn with rfl|rfl;all_goals
  go_enter Tryz.func42,Tryz.ntmps42;go_wp2_with (first|(go_at_call 75;refine HC.out.mono ?_;rintro e w1 ⟨g,cap,rfl,h1⟩;have H1:=zk h1;clear h1)|(go_at_call 73;refine (jnew_ok H1.out room hr0 hr1).mono ?_;rintro e w2 ⟨bj,rfl,h2⟩;have H2:=zk h2;clear h2)|(go_at_call 76;refine (hfor.out ((H2.out.new _).frt 2 rfl |>.frt 1 rfl)).mono ?_;rintro e w3 ⟨rfl,bb,bm,h3⟩;have H3:=zk h3;clear h3));go_ret;exact ⟨_,rfl,hfin.out _ _ _ _ _ _ _ H3.out⟩
def Keeper.ring (k:Keeper) (id:Int):List Msg:=if k.j.down=true then [] else if mgi k.st id=1 then [⟨12,k.node,0,id,0,0,0⟩,⟨12,k.node,3-k.node,id,0,0,0⟩] else []
def Keeper.force (k:Keeper) (id:Int) (yes:Bool):Int×Keeper:=
 if k.j.down=true then (10,k) else if mgi k.st id=1 then (if (k.notes ⟨if yes=true then .fyes else .fno,id,[]⟩).1=true then 0 else 5,(k.notes ⟨if yes=true then .fyes else .fno,id,[]⟩).2) else (7,k)
set_option maxHeartbeats 4000000 in
theorem kforce_ok {w0 w:World} {b:Nat} {k:Keeper} {R:List SA} (h:Heap w0 (.keeper b k::R) w) (id:Int) (h0:1≤id) (h1:id≤999) (yes:Bool):
 Calls Tryz.prog 65 #[.pointer (some ⟨b,0,none⟩),.int .i64 id,.bool yes] w fun en w'=>en=.returned (.int .i64 (k.force id yes).1)∧Heap w0 (.keeper b (k.force id yes).2::R) w':=by
 have HH:=zk h;have HDN:=zk (kdown_ok h);have HID:=zk (kid_ok id h0 h1);obtain ⟨bj,hx⟩:=h.kpx_of;have HST:=zk (kstate_ok hx id (by omega) (by omega));have hs:St (mgi k.st id):=by
  obtain ⟨hp, -⟩:=hx.open_kpx;cases hm:mget k.st id with
  |none=>simp [mgi,hm,St]
  |some s=>simp [mgi,hm];exact hp.st _ (mget_mem hm)
 have HF:=zk (fun W=>force_ok (mgi k.st id) yes W hs);have HN:As (k.j.down=false→∀W,Heap w0 (.keeper b k::R) W→Calls Tryz.prog 106 #[.pointer (some ⟨b,0,none⟩),.int .i64 id,.int .i64 (if yes=true then 4 else 5),.slice none 0 0] W fun en w'=>en=.returned (.bool (k.notes ⟨if yes=true then .fyes else .fno,id,[]⟩).1)∧Heap w0 (.keeper b (k.notes ⟨if yes=true then .fyes else .fno,id,[]⟩).2::R) w'):=⟨fun hd W hW=>by
  cases yes
  ·refine (knotes_ok (e:=⟨.fno,id,[]⟩) ((hW.nRw 3 1).frt 1 rfl) (.fno id h0 h1) hd).mono ?_;rintro en w' ⟨rfl,h'⟩;exact ⟨rfl,(h'.frt 1 rfl).drop⟩
  ·refine (knotes_ok (e:=⟨.fyes,id,[]⟩) ((hW.nRw 3 1).frt 1 rfl) (.fyes id h0 h1) hd).mono ?_;rintro en w' ⟨rfl,h'⟩;exact ⟨rfl,(h'.frt 1 rfl).drop⟩⟩
 have HS:As (k.force id yes=if k.j.down=true then (10,k) else if mgi k.st id=1 then (if (k.notes ⟨if yes=true then .fyes else .fno,id,[]⟩).1=true then 0 else 5,(k.notes ⟨if yes=true then .fyes else .fno,id,[]⟩).2) else (7,k)):=⟨rfl⟩;clear h hx hs;cases hd:k.j.down
 ·rw [hd] at HDN HS;have HN2:=zk (HN.out hd _ HH.out);clear hd HN;generalize k.notes ⟨if yes=true then .fyes else .fno,id,[]⟩=nt at *;obtain ⟨nb,ns⟩:=nt;generalize mgi k.st id=s at *;by_cases hs1:s=1
  ·subst hs1;cases yes<;>cases nb
   all_goals
    simp only [fForce,two3,if_true,Bool.false_eq_true,if_false,eq_self_iff_true,↓reduceIte] at HF HN2 HS;go_enter Tryz.func65,Tryz.ntmps65;go_wp2_with (first|(go_at_call 19;refine HDN.out.mono ?_;rintro e w' ⟨rfl,rfl⟩)|(go_at_call 104;refine (HID.out _).mono ?_;rintro e w' ⟨rfl,rfl⟩)|(go_at_call 17;refine HST.out.mono ?_;rintro e w' ⟨rfl,rfl⟩)|(go_at_call 105;refine (HF.out _).mono ?_;rintro e w' ⟨rfl,rfl⟩)|(go_at_call 106;refine HN2.out.mono ?_;rintro e w1 ⟨rfl,h1⟩;have H1:=zk h1;clear h1));go_ret;rw [HS.out];exact ⟨rfl,H1.out⟩
  ·have HS1:=zk hs1;simp only [fForce,two3,if_neg hs1] at HF;clear hs1 HN2;go_enter Tryz.func65,Tryz.ntmps65;go_wp2_with (first|(go_at_call 19;refine HDN.out.mono ?_;rintro e w' ⟨rfl,rfl⟩)|(go_at_call 104;refine (HID.out _).mono ?_;rintro e w' ⟨rfl,rfl⟩)|(go_at_call 17;refine HST.out.mono ?_;rintro e w' ⟨rfl,rfl⟩)|(go_at_call 105;refine (HF.out _).mono ?_;rintro e w' ⟨rfl,rfl⟩));go_ret;rw [HS.out];simp only [Bool.false_eq_true,if_false,if_neg HS1.out];exact ⟨rfl,HH.out⟩
 ·rw [hd] at HDN HS;clear hd HN;go_enter Tryz.func65,Tryz.ntmps65;go_wp2_with (go_at_call 19;refine HDN.out.mono ?_;rintro e w' ⟨rfl,rfl⟩);go_ret;rw [HS.out];exact ⟨rfl,HH.out⟩
end Go.Proofs.YtlnghlamnehfjaaGreatDoor.S
namespace Go
section
variable {P:Program} {ops:Array Oper} {C:World→Prop} {Q:Act→World→Prop} {r:List (Nat×Mk)} {a:Act} {w:World} {i:Nat} {o:Oper}
theorem vgo (ho:ops[i]? =some o) (hw:Region.wanted o (yielded ops a.tmps)=false) (hn:wpOrd P ops C Q r (a.put o.dst undef) w):wpOrd P ops C Q ((i,.f)::r) a w:=
 ⟨o,undef,ho,fun w' _=>.inr ⟨hw,rfl⟩,hn⟩
theorem veo (ho:ops[i]? =some o) (hw:Region.wanted o (yielded ops a.tmps)=false) (hn:C w∧wpOrd P ops C Q r (a.put o.dst undef) w):wpOrd P ops C Q ((i,.e)::r) a w:=by
 show effOp P ops C i _ a w
 unfold effOp wpOp;simp only [ho,hw];exact hn
end
end Go
namespace Go.Proofs.YtlnghlamnehfjaaGreatDoor.S
open Go.RowKit Go.Maps
def Keeper.can (k:Keeper) (kind id a q:Int):Bool×Keeper:=
 if kind=6∧mgi k.st id=0 then ((k.book.take id a.toNat q).1,{k with book:=if (k.book.take id a.toNat q).1=true then (k.book.take id a.toNat q).2.lets id else (k.book.take id a.toNat q).2}) else (false,k)
set_option maxHeartbeats 16000000 in
theorem kcan_ok {w0 w:World} {b bj:Nat} {k:Keeper} {R:List SA} (h:Heap w0 (.kpx b bj k::R) w) (kind frm tt id step a q:Int) (h0:1≤id) (h1:id≤999) (hm:kind=6→0≤a∧a<8∧0<q∧q≤1000000000):
 Calls Tryz.prog 219 #[.pointer (some ⟨b,0,none⟩),.agg #[.int .i64 kind,.int .i64 frm,.int .i64 tt,.int .i64 id,.int .i64 step,.int .i64 a,.int .i64 q]] w fun en w'=>en=.returned (.bool (k.can kind id a q).1)∧Heap w0 (.kpx b bj (k.can kind id a q).2::R) w':=by
 have HH:=zk h;obtain ⟨hp,g,cap,bb,bm,h⟩:=h.open_kpx;have HP:=zk hp;have hb:=h.new (.cells #[.int .i64 kind,.int .i64 frm,.int .i64 tt,.int .i64 id,.int .i64 step,.int .i64 a,.int .i64 q] 113);obtain ⟨W1,hW1⟩:∃W1,w.alloc (.cells #[.int .i64 kind,.int .i64 frm,.int .i64 tt,.int .i64 id,.int .i64 step,.int .i64 a,.int .i64 q] 113)=W1:=⟨_,rfl⟩;have HA:=HH.out.alloc (.cells #[.int .i64 kind,.int .i64 frm,.int .i64 tt,.int .i64 id,.int .i64 step,.int .i64 a,.int .i64 q] 113);rw [hW1] at hb HA;have HAL:=zk HA;clear HA;have HS:As (k.can kind id a q=if kind=6∧mgi k.st id=0 then ((k.book.take id a.toNat q).1,{k with book:=if (k.book.take id a.toNat q).1=true then (k.book.take id a.toNat q).2.lets id else (k.book.take id a.toNat q).2}) else (false,k)):=⟨rfl⟩;obtain ⟨x0,x1,x2,x3,x4,x5,x6,xf⟩:=hb.cB7 0 rfl;obtain ⟨c0,c1,c2,c3,c4,cf⟩:=hb.cB5 1 rfl;have hlb:=hb.lt 1 rfl;have hlx:=hb.lt 0 rfl;have hlk:=run_look (hb.drew.owns 4 rfl) false Tryz.underlying67 (zero3 _) (k:=id) (by omega) (by omega);rw [mget_int] at hlk;simp only [Bool.false_eq_true,if_false] at hlk;have HB:=zk hb;clear h hb hp;by_cases hk:kind=6
 ·obtain ⟨ha0,ha1,hq0,hq1⟩:=hm hk;obtain ⟨a',rfl⟩:∃n:Nat,a=(n:Int):=⟨a.toNat,by omega⟩;have ha':a'<8:=by omega
  subst hk;clear hm;by_cases hs:mgi k.st id=0
  ·rw [hs] at hlk;have HSS:=zk hs;clear hs;rcases hbk:k.book with t|t
   ·simp only [hbk,BookM.iv] at c3;have hmt:=gtake_meth (.agg #[.pointer (some ⟨bb,0,none⟩)]);have hml:=glets_meth (.agg #[.pointer (some ⟨bb,0,none⟩)]);have HBK:=zk hbk;have H3:=zk HB.out;simp only [hbk,SA.bookm,BookM.iv] at H3;have HT:As (k.book.take id a' q=(decide ((t.reserve id a' q).1=0),.goods (t.reserve id a' q).2)):=⟨by rw [hbk];rfl⟩;have hfn:=HP.out.fine.take (id:=id) (i:=a') hq0 hq1;have HFN:=zk hfn;clear hbk hfn;cases hok:decide ((t.reserve id a' q).1=0)
    ·have HOK:=zk hok;clear hok;go_enter Tryz.func219,Tryz.ntmps219;go_wp2;refine wro0 [(0,.f),(1,.s),(2,.f),(3,.f),(4,.f),(5,.f),(6,.f),(7,.s),(8,.f),(9,.s),(10,.s),(11,.f),(12,.f),(13,.f),(14,.f),(15,.f),(16,.f),(17,.s),(18,.f),(19,.s),(20,.f),(21,.s),(22,.f),(23,.s),(24,.e),(25,.f),(26,.f)] ?_;repeat (first
      |(refine vg rfl rfl ?_;apply ex2;intro w' hw';go_simp;rfl;go_simp)
      |(refine vgw rfl rfl ?_;apply ex2;intro w' hw';go_simp;rfl;go_simp)
      |(refine vgo rfl rfl ?_;go_simp)
      |(refine vs_ rfl (fun K hK=>?_);go_simp;refine hK _ ?_;clear hK K)
      |(refine vew rfl rfl ?_;go_wp2_with (go_at_call 308;refine (gtake_ok (H3.out.drew.frt 3 rfl) id a' q h0 h1 ha' hq0 hq1).mono ?_;rintro e w4 ⟨rfl,h4⟩;rw [HOK.out];have H4:=zk h4;clear h4);refine ⟨trivial,?_⟩;go_simp))
     refine vn ?_;go_simp;go_wp2_with (fail);go_ret;rw [HS.out,if_pos ⟨trivial,HSS.out⟩,show (((a':Nat):Int)).toNat=a' by omega];have HF2:=HFN.out;rw [HT.out,HOK.out] at HF2⊢;refine ⟨rfl,?_⟩;simp only [Bool.false_eq_true,if_false];have hp:=HP.out;refine Heap.shut_kpx (k:= {k with book:=.goods (t.reserve id a' q).2}) (g:=g) (cap:=cap) (bb:=bb) (bm:=bm) ⟨hp.node,hp.keys,hp.st,HF2⟩ ?_;have h9:=(H4.out.frt 1 rfl).drop;simp only [HBK.out];exact ((h9.frt 2 rfl).frt 2 rfl)
    ·have HOK:=zk hok;clear hok;go_enter Tryz.func219,Tryz.ntmps219;go_wp2;refine wro0 [(0,.f),(1,.s),(2,.f),(3,.f),(4,.f),(5,.f),(6,.f),(7,.s),(8,.f),(9,.s),(10,.s),(11,.f),(12,.f),(13,.f),(14,.f),(15,.f),(16,.f),(17,.s),(18,.f),(19,.s),(20,.f),(21,.s),(22,.f),(23,.s),(24,.e),(25,.f),(26,.f)] ?_;repeat (first
      |(refine vg rfl rfl ?_;apply ex2;intro w' hw';go_simp;rfl;go_simp)
      |(refine vgw rfl rfl ?_;apply ex2;intro w' hw';go_simp;rfl;go_simp)
      |(refine vgo rfl rfl ?_;go_simp)
      |(refine vs_ rfl (fun K hK=>?_);go_simp;refine hK _ ?_;clear hK K)
      |(refine vew rfl rfl ?_;go_wp2_with (go_at_call 308;refine (gtake_ok (H3.out.drew.frt 3 rfl) id a' q h0 h1 ha' hq0 hq1).mono ?_;rintro e w4 ⟨rfl,h4⟩;rw [HOK.out];have H4:=zk h4;clear h4);refine ⟨trivial,?_⟩;go_simp))
     refine vn ?_;go_simp;clear c0 c1 c2 c3 c4 cf x0 x1 x2 x3 x4 x5 x6 xf hlb hlx;obtain ⟨x0,x1,x2,x3,x4,x5,x6,xf⟩:=H4.out.cB7 1 rfl;obtain ⟨c0,c1,c2,c3,c4,cf⟩:=H4.out.cB5 2 rfl;have hlb:=H4.out.lt 2 rfl;go_wp2_with (fail);refine wro0 [(0,.f),(1,.f),(2,.f),(3,.s),(4,.f),(5,.s),(6,.e)] ?_;repeat (first
      |(refine vg rfl rfl ?_;apply ex2;intro w' hw';go_simp;rfl;go_simp)
      |(refine vs_ rfl (fun K hK=>?_);go_simp;refine hK _ ?_;clear hK K)
      |(refine ve rfl rfl ?_;go_wp2_with (go_at_call 307;refine (glets_ok (H4.out.drew) id h0 h1).mono ?_;rintro e w5 ⟨rfl,h5⟩;have H5:=zk h5;clear h5);refine ⟨trivial,?_⟩;go_simp))
     refine vn ?_;go_simp;go_wp2_with (fail);go_ret;rw [HS.out,if_pos ⟨trivial,HSS.out⟩,show (((a':Nat):Int)).toNat=a' by omega];have HF2:=BookM.fine.lets HFN.out (id:=id);rw [HT.out,HOK.out] at HF2⊢;refine ⟨rfl,?_⟩;simp only [if_true];have hp:=HP.out;refine Heap.shut_kpx (k:= {k with book:=BookM.lets (.goods (t.reserve id a' q).2) id}) (g:=g) (cap:=cap) (bb:=bb) (bm:=bm) ⟨hp.node,hp.keys,hp.st,HF2⟩ ?_;have h9:=(H5.out.frt 1 rfl).drop;simp only [HBK.out];exact ((h9.frt 2 rfl).frt 2 rfl)
   ·simp only [hbk,BookM.iv] at c3;have hmt:=mtake_meth (.agg #[.pointer (some ⟨bb,0,none⟩)]);have hml:=mlets_meth (.agg #[.pointer (some ⟨bb,0,none⟩)]);have HBK:=zk hbk;have H3:=zk HB.out;simp only [hbk,SA.bookm,BookM.iv] at H3;have HFM:As t.fine:=⟨by have:=HP.out.fine;rw [hbk] at this;exact this⟩;have HT:As (k.book.take id a' q=(decide ((t.allow id a' q).1=0),.money (t.allow id a' q).2)):=⟨by rw [hbk];rfl⟩;have hfn:=HP.out.fine.take (id:=id) (i:=a') hq0 hq1;have HFN:=zk hfn;clear hbk hfn;cases hok:decide ((t.allow id a' q).1=0)
    ·have HOK:=zk hok;clear hok;go_enter Tryz.func219,Tryz.ntmps219;go_wp2;refine wro0 [(0,.f),(1,.s),(2,.f),(3,.f),(4,.f),(5,.f),(6,.f),(7,.s),(8,.f),(9,.s),(10,.s),(11,.f),(12,.f),(13,.f),(14,.f),(15,.f),(16,.f),(17,.s),(18,.f),(19,.s),(20,.f),(21,.s),(22,.f),(23,.s),(24,.e),(25,.f),(26,.f)] ?_;repeat (first
      |(refine vg rfl rfl ?_;apply ex2;intro w' hw';go_simp;rfl;go_simp)
      |(refine vgw rfl rfl ?_;apply ex2;intro w' hw';go_simp;rfl;go_simp)
      |(refine vgo rfl rfl ?_;go_simp)
      |(refine vs_ rfl (fun K hK=>?_);go_simp;refine hK _ ?_;clear hK K)
      |(refine vew rfl rfl ?_;go_wp2_with (go_at_call 294;refine (mtake_ok (H3.out.drew.frt 3 rfl) HFM.out id a' q h0 h1 ha' hq0 hq1).mono ?_;rintro e w4 ⟨rfl,h4⟩;rw [HOK.out];have H4:=zk h4;clear h4);refine ⟨trivial,?_⟩;go_simp))
     refine vn ?_;go_simp;go_wp2_with (fail);go_ret;rw [HS.out,if_pos ⟨trivial,HSS.out⟩,show (((a':Nat):Int)).toNat=a' by omega];have HF2:=HFN.out;rw [HT.out,HOK.out] at HF2⊢;refine ⟨rfl,?_⟩;simp only [Bool.false_eq_true,if_false];have hp:=HP.out;refine Heap.shut_kpx (k:= {k with book:=.money (t.allow id a' q).2}) (g:=g) (cap:=cap) (bb:=bb) (bm:=bm) ⟨hp.node,hp.keys,hp.st,HF2⟩ ?_;have h9:=(H4.out.frt 1 rfl).drop;simp only [HBK.out];exact ((h9.frt 2 rfl).frt 2 rfl)
    ·have HOK:=zk hok;clear hok;go_enter Tryz.func219,Tryz.ntmps219;go_wp2;refine wro0 [(0,.f),(1,.s),(2,.f),(3,.f),(4,.f),(5,.f),(6,.f),(7,.s),(8,.f),(9,.s),(10,.s),(11,.f),(12,.f),(13,.f),(14,.f),(15,.f),(16,.f),(17,.s),(18,.f),(19,.s),(20,.f),(21,.s),(22,.f),(23,.s),(24,.e),(25,.f),(26,.f)] ?_;repeat (first
      |(refine vg rfl rfl ?_;apply ex2;intro w' hw';go_simp;rfl;go_simp)
      |(refine vgw rfl rfl ?_;apply ex2;intro w' hw';go_simp;rfl;go_simp)
      |(refine vgo rfl rfl ?_;go_simp)
      |(refine vs_ rfl (fun K hK=>?_);go_simp;refine hK _ ?_;clear hK K)
      |(refine vew rfl rfl ?_;go_wp2_with (go_at_call 294;refine (mtake_ok (H3.out.drew.frt 3 rfl) HFM.out id a' q h0 h1 ha' hq0 hq1).mono ?_;rintro e w4 ⟨rfl,h4⟩;rw [HOK.out];have H4:=zk h4;clear h4);refine ⟨trivial,?_⟩;go_simp))
     refine vn ?_;go_simp;clear c0 c1 c2 c3 c4 cf x0 x1 x2 x3 x4 x5 x6 xf hlb hlx;obtain ⟨x0,x1,x2,x3,x4,x5,x6,xf⟩:=H4.out.cB7 1 rfl;obtain ⟨c0,c1,c2,c3,c4,cf⟩:=H4.out.cB5 2 rfl;have hlb:=H4.out.lt 2 rfl;go_wp2_with (fail);refine wro0 [(0,.f),(1,.f),(2,.f),(3,.s),(4,.f),(5,.s),(6,.e)] ?_;repeat (first
      |(refine vg rfl rfl ?_;apply ex2;intro w' hw';go_simp;rfl;go_simp)
      |(refine vs_ rfl (fun K hK=>?_);go_simp;refine hK _ ?_;clear hK K)
      |(refine ve rfl rfl ?_;go_wp2_with (go_at_call 293;refine (mlets_ok (H4.out.drew) id h0 h1).mono ?_;rintro e w5 ⟨rfl,h5⟩;have H5:=zk h5;clear h5);refine ⟨trivial,?_⟩;go_simp))
     refine vn ?_;go_simp;go_wp2_with (fail);go_ret;rw [HS.out,if_pos ⟨trivial,HSS.out⟩,show (((a':Nat):Int)).toNat=a' by omega];have HF2:=BookM.fine.lets HFN.out (id:=id);rw [HT.out,HOK.out] at HF2⊢;refine ⟨rfl,?_⟩;simp only [if_true];have hp:=HP.out;refine Heap.shut_kpx (k:= {k with book:=BookM.lets (.money (t.allow id a' q).2) id}) (g:=g) (cap:=cap) (bb:=bb) (bm:=bm) ⟨hp.node,hp.keys,hp.st,HF2⟩ ?_;have h9:=(H5.out.frt 1 rfl).drop;simp only [HBK.out];exact ((h9.frt 2 rfl).frt 2 rfl)
  ·have HSS:=zk hs;generalize hsg:mgi k.st id=s at *;have hsb:(s==0)=false:=by simpa using hs
   clear hs hsg;go_enter Tryz.func219,Tryz.ntmps219;go_wp2;refine wro0 [(0,.f),(1,.s),(2,.f),(3,.f),(4,.f),(5,.f),(6,.f),(7,.s),(8,.f),(9,.s),(10,.s),(11,.f),(12,.f),(13,.f),(14,.f),(15,.f),(16,.f),(17,.s),(18,.f),(19,.s),(20,.f),(21,.s),(22,.f),(23,.s),(24,.e),(25,.f),(26,.f)] ?_;repeat (first
    |(refine vg rfl rfl ?_;apply ex2;intro w' hw';go_simp;rfl;go_simp)
    |(refine vgw rfl rfl ?_;apply ex2;intro w' hw';go_simp;rfl;go_simp)
    |(refine vgo rfl rfl ?_;go_simp)
    |(refine vs_ rfl (fun K hK=>?_);go_simp;refine hK _ ?_;clear hK K)
    |(refine veo rfl rfl ⟨trivial,?_⟩;go_simp))
   refine vn ?_;go_simp;go_wp2_with (fail);go_ret;rw [HS.out,if_neg (fun hh=>HSS.out hh.2)];exact ⟨rfl,HAL.out.drew⟩
 ·have hkb:(kind==6)=false:=by simpa using hk
  have HK:=zk hk;clear hk hm hlk;go_enter Tryz.func219,Tryz.ntmps219;go_wp2;refine wro0 [(0,.f),(1,.s),(2,.f),(3,.f),(4,.f),(5,.f),(6,.f),(7,.s),(8,.f),(9,.s),(10,.s),(11,.f),(12,.f),(13,.f),(14,.f),(15,.f),(16,.f),(17,.s),(18,.f),(19,.s),(20,.f),(21,.s),(22,.f),(23,.s),(24,.e),(25,.f),(26,.f)] ?_;repeat (first
   |(refine vg rfl rfl ?_;apply ex2;intro w' hw';go_simp;rfl;go_simp)
   |(refine vgw rfl rfl ?_;apply ex2;intro w' hw';go_simp;rfl;go_simp)
   |(refine vgo rfl rfl ?_;go_simp)
   |(refine vs_ rfl (fun K hK=>?_);go_simp;refine hK _ ?_;clear hK K)
   |(refine veo rfl rfl ⟨trivial,?_⟩;go_simp))
  refine vn ?_;go_simp;go_wp2_with (fail);go_ret;rw [HS.out,if_neg (fun hh=>HK.out hh.1)];exact ⟨rfl,HAL.out.drew⟩
set_option maxHeartbeats 4000000 in
theorem kring_ok {w0 w:World} {b:Nat} {k:Keeper} {R:List SA} (h:Heap w0 (.keeper b k::R) w) (id:Int) (h0:1≤id) (h1:id≤999):
 Calls Tryz.prog 69 #[.pointer (some ⟨b,0,none⟩),.int .i64 id] w fun e w'=>∃v',e=.returned v'∧Heap w0 (.slc v' 113 7 (k.ring id).length (mcells (k.ring id))::.keeper b k::R) w':=by
 have HH:=zk h;have HDN:=zk (kdown_ok h);obtain ⟨bj,hx⟩:=h.kpx_of;have HST:=zk (kstate_ok hx id (by omega) (by omega));have HOT:As (∀W L,Heap w0 (.keeper b k::L) W→Calls Tryz.prog 110 #[.pointer (some ⟨b,0,none⟩)] W fun e w'=>e=.returned (.int .i64 (3-k.node))∧W=w'):=⟨fun W L h=>by
  obtain ⟨bj,hx⟩:=h.kpx_of;exact kother_ok hx⟩
 obtain ⟨hp,g,cap,bb,bm,hx⟩:=hx.open_kpx;obtain ⟨c0,c1,c2,c3,c4,cf⟩:=hx.cB5 0 rfl;have hlb:=hx.lt 0 rfl;have HR:As (k.ring id=if k.j.down=true then [] else if mgi k.st id=1 then [⟨12,k.node,0,id,0,0,0⟩,⟨12,k.node,3-k.node,id,0,0,0⟩] else []):=⟨rfl⟩;generalize k.ring id=rg at *;clear h hx hp;cases hd:k.j.down
 ·rw [hd] at HDN HR;clear hd;simp only [Bool.false_eq_true,if_false] at HR;generalize mgi k.st id=s at *;by_cases hs:s=1
  ·subst hs;simp only [if_true,↓reduceIte] at HR;have hA:=HH.out.new (.cells #[.int .i64 12,.int .i64 k.node,.int .i64 0,.int .i64 id,.int .i64 0,.int .i64 0,.int .i64 0] 113);have HA:=zk (Heap.nAt (n:=w.heap.size+1) hA (.cells #[.int .i64 12,.int .i64 k.node,.int .i64 0,.int .i64 id,.int .i64 0,.int .i64 0,.int .i64 0] 113) (by simp));clear hA;go_enter Tryz.func69,Tryz.ntmps69;go_wp2_with (first|(go_at_call 19;refine HDN.out.mono ?_;rintro e w' ⟨rfl,rfl⟩)|(go_at_call 17;refine HST.out.mono ?_;rintro e w' ⟨rfl,rfl⟩)|(go_at_call 110;refine (HOT.out _ _ (HA.out.frt 2 rfl)).mono ?_;rintro e w' ⟨rfl,rfl⟩));go_ret;refine ⟨_,rfl,?_⟩;rw [HR.out];have h4:=Heap.nAt (n:=w.heap.size+1) (HH.out.new (.cells #[.int .i64 12,.int .i64 k.node,.int .i64 0,.int .i64 id,.int .i64 0,.int .i64 0,.int .i64 0] 113)) (.cells #[.int .i64 12,.int .i64 k.node,.int .i64 (3-k.node),.int .i64 id,.int .i64 0,.int .i64 0,.int .i64 0] 113) (by simp);have h5:=Heap.nAt (n:=w.heap.size+1+1) h4 (.cells #[.int .i64 12,.int .i64 k.node,.int .i64 0,.int .i64 id,.int .i64 0,.int .i64 0,.int .i64 0,.int .i64 12,.int .i64 k.node,.int .i64 (3-k.node),.int .i64 id,.int .i64 0,.int .i64 0,.int .i64 0] 113) (by simp);have h6:=Heap.asSlc (k:=2) (size:=7) h5 (by decide) rfl;exact ((h6.frt 1 rfl).drop.frt 1 rfl).drop
  ·have hsb:(s != 1)=true:=by simpa using hs
   simp only [if_neg hs] at HR;clear hs;go_enter Tryz.func69,Tryz.ntmps69;go_wp2_with (first|(go_at_call 19;refine HDN.out.mono ?_;rintro e w' ⟨rfl,rfl⟩)|(go_at_call 17;refine HST.out.mono ?_;rintro e w' ⟨rfl,rfl⟩));go_ret;refine ⟨_,rfl,?_⟩;rw [HR.out];exact HH.out.nRw 113 7
 ·rw [hd] at HDN HR;clear hd;simp only [if_true] at HR;go_enter Tryz.func69,Tryz.ntmps69;go_wp2_with (go_at_call 19;refine HDN.out.mono ?_;rintro e w' ⟨rfl,rfl⟩);go_ret;refine ⟨_,rfl,?_⟩;rw [HR.out];exact HH.out.nRw 113 7
theorem assert_money (v:Value) (W:World):(Instr.typeAssert (.iface 100 v) 89 100 true).run Tryz.prog W=.ok (.tuple #[v,.bool true]) W:=by kernel_rfl
theorem kmoney_ok {w0 w:World} {b bj:Nat} {k:Keeper} {R:List SA} (h:Heap w0 (.kpx b bj k::R) w) (t:PurseB) (ht:k.book=.money t):
 Calls Tryz.prog 23 #[.pointer (some ⟨b,0,none⟩)] w fun e w'=>∃g cap bb bm,e=.returned (.pointer (some ⟨bb,0,none⟩))∧Heap w0 (.pts b (.cells #[.int .i64 k.node,.slice (some ⟨g,0,none⟩) 2 cap,.pointer (some ⟨bj,0,none⟩),k.book.iv bb,.map (some bm)] 91)::.slc (.slice (some ⟨g,0,none⟩) 2 cap) 3 1 2 (initL k.node)::.bookm bb k.book::.map bm (mval (Value.int .i64) k.st)::R) w':=by
 obtain ⟨hp,g,cap,bb,bm,h⟩:=h.open_kpx;obtain ⟨c0,c1,c2,c3,c4,cf⟩:=h.cB5 0 rfl;have H:=zk h;rw [ht] at c3;simp only [BookM.iv] at c3;have hta:=assert_money (.agg #[.pointer (some ⟨bb,0,none⟩)]);clear h hp ht;go_enter Tryz.func23,Tryz.ntmps23;go_wp2;go_ret;exact ⟨g,cap,bb,bm,rfl,H.out.alloc _⟩
theorem ckeeper_ok (n:Int) (hn:n=1∨n=2) (w:World):Calls Tryz.prog 284 #[.int .i64 n] w fun e w'=>e=.returned (.tuple #[.int .i64 (n-1),.bool true])∧w=w':=by
 rcases hn with rfl|rfl
 ·go_enter Tryz.func284,Tryz.ntmps284;go_wp2;exact bodyPost_ret (v:=.tuple #[.int .i64 0,.bool true]) (by simp [results,Tryz.results284,go_sem]) rfl ⟨rfl,rfl⟩
 ·go_enter Tryz.func284,Tryz.ntmps284;go_wp2;exact bodyPost_ret (v:=.tuple #[.int .i64 1,.bool true]) (by simp [results,Tryz.results284,go_sem]) rfl ⟨rfl,rfl⟩
theorem cey {w0 w:World} {R:List SA} (h:Heap w0 R w) (s:ByteArray) (id:Int) (a:Option Addr) (m c:Nat):
 Calls Tryz.prog 101 #[.string s,.int .i64 id,.slice a m c] w fun e w'=>e=.returned (.agg #[.string s,.int .i64 id,.slice a m c])∧Heap w0 R w':=by
 have hb:=h.new (.cells #[.string s,.int .i64 id,.slice a m c] 171);obtain ⟨z0,z1,z2,zf⟩:=hb.cB3 0 rfl;have HZ:=zk (And.intro z0 (And.intro z1 z2));have HB:=zk hb.drop;clear h hb z0 z1 z2 zf;go_enter Tryz.func101,Tryz.ntmps101;go_wp2;obtain ⟨z0,z1,z2⟩:=HZ.out;exact bodyPost_ret (v:=.agg #[.string s,.int .i64 id,.slice a m c]) (by simp [results,Tryz.results101,go_sem,z0,z1,z2]) rfl ⟨rfl,HB.out⟩
def kEnt (s id a q:Int):Entry:=if s=1 then ⟨.ready,id,[a,q]⟩ else if s=2 then ⟨.yes,id,[]⟩ else ⟨.no,id,[]⟩
def Keeper.handle (k:Keeper) (m:Msg):List Msg×Keeper:=
 if k.j.down=true then ([],k) else
 let c:=k.can m.kind m.id m.a m.b
 let x:=vNext (mgi k.st m.id) m.kind c.1
 let p:=if x.1=mgi k.st m.id then (true,c.2) else c.2.notes (kEnt x.1 m.id m.a m.b)
 (if p.1=false then [] else if x.2=0 then [] else [⟨x.2,k.node,if x.2=11∨x.2=17 then 0 else m.frm,m.id,0,0,0⟩],p.2)
theorem can_node (k:Keeper) (kind id a q:Int):(k.can kind id a q).2.node=k.node∧(k.can kind id a q).2.st=k.st∧(k.can kind id a q).2.j=k.j:=by
 unfold Keeper.can;split<;>exact ⟨rfl,rfl,rfl⟩
theorem vNext_cases (s kd:Int) (can:Bool) (h:St s):(vNext s kd can).1=s∨((vNext s kd can).1=1∧kd=6∧s=0)∨(vNext s kd can).1=2∨(vNext s kd can).1=3:=by
 unfold vNext vAsked vCommits vAborts vTells;by_cases h6:kd=6
 ·rw [if_pos h6];by_cases h0:s=0
  ·rw [if_pos h0];cases can
   ·exact .inr (.inr (.inr rfl))
   ·exact .inr (.inl ⟨rfl,h6,h0⟩)
  ·rw [if_neg h0];split
   ·exact .inl rfl
   ·split<;>exact .inl rfl
 ·rw [if_neg h6];split
  ·split
   ·exact .inr (.inr (.inl rfl))
   ·split
    ·exact .inl rfl
    ·split<;>exact .inl rfl
  ·split
   ·split
    ·exact .inr (.inr (.inr rfl))
    ·split
     ·exact .inl rfl
     ·split<;>exact .inl rfl
   ·split
    ·split
     ·exact .inr (.inr (.inr rfl))
     ·split<;>exact .inl rfl
    ·exact .inl rfl
end Go.Proofs.YtlnghlamnehfjaaGreatDoor.S
