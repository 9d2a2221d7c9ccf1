/- Contracts and plain laws of the program, part N17. -/
import Derived.Test.YtlnghlamnehfjaaGreatDoorN01
import Derived.StillTailTactics
import Derived.Deep.QuietTactic
import Derived.BigQuiet
set_option linter.unusedVariables false
set_option linter.unusedSimpArgs false
set_option maxRecDepth 100000
set_option maxHeartbeats 64000000
namespace Go.Proofs.YtlnghlamnehfjaaGreatDoor.S
open Go.RowKit Go.Maps
structure Tower where
 tries:Int
 left:IM Int
def SA.tower (b:Nat) (t:Tower):SA:=.ex fun bm=>.star (.pts b (.cells #[.int .i64 t.tries,.map (some bm)] 207)) (.map bm (mval (Value.int .i64) t.left))
theorem Heap.open_tower {w0 w:World} {b:Nat} {t:Tower} {R:List SA} (h:Heap w0 (.tower b t::R) w):∃bm,Heap w0 (.pts b (.cells #[.int .i64 t.tries,.map (some bm)] 207)::.map bm (mval (Value.int .i64) t.left)::R) w:=by
 obtain ⟨bm,h⟩:=h.unex;exact ⟨bm,h.unstar⟩
theorem Heap.shut_tower {w0 w:World} {b bm:Nat} {t:Tower} {R:List SA} (h:Heap w0 (.pts b (.cells #[.int .i64 t.tries,.map (some bm)] 207)::.map bm (mval (Value.int .i64) t.left)::R) w):Heap w0 (.tower b t::R) w:=
 Heap.reex (f:=fun bm=>.star (.pts b (.cells #[.int .i64 t.tries,.map (some bm)] 207)) (.map bm (mval (Value.int .i64) t.left))) bm h.restar
def Tower.has (t:Tower) (id:Int):Bool:=(mget t.left id).isSome
theorem has_ok {w0 w:World} {b:Nat} {t:Tower} {R:List SA} (h:Heap w0 (.tower b t::R) w) (id:Int) (h0: -9223372036854775808≤id) (h1:id≤9223372036854775807):
 Calls Tryz.prog 134 #[.pointer (some ⟨b,0,none⟩),.int .i64 id] w fun e w'=>e=.returned (.bool (t.has id))∧w=w':=by
 obtain ⟨bm,h⟩:=h.open_tower;have c1:=h.cell 0 1 rfl rfl;have H:=zk h;clear h;go_enter Tryz.func134,Tryz.ntmps134;go_wp2_with (at_lookup;refine wpList_has_int H.out 1 _ _ rfl rfl _ _ 67 rfl Tryz.underlying67 rfl id rfl h0 h1 ?_);go_ret;exact ⟨rfl,rfl⟩
def Tower.hang (t:Tower) (id:Int):Tower:=if 1≤id∧id≤999∧t.has id=false then {t with left:=mput t.left id t.tries} else t
def Tower.cut (t:Tower) (id:Int):Tower:=if t.has id=true then {t with left:=mdel t.left id} else t
def Tower.again (t:Tower) (id:Int):Tower:=if t.has id=true then {t with left:=mput t.left id t.tries} else t
def Tower.ring (t:Tower) (id:Int):Bool×Bool×Tower:=
 if t.has id=false then (false,false,t) else if mgi t.left id=0 then (true,true,t) else (true,false,{t with left:=mput t.left id (wrap64 (mgi t.left id-1))})
theorem cut_ok {w0 w:World} {b:Nat} {t:Tower} {R:List SA} (h:Heap w0 (.tower b t::R) w) (id:Int) (h0: -9223372036854775808≤id) (h1:id≤9223372036854775807):
 Calls Tryz.prog 103 #[.pointer (some ⟨b,0,none⟩),.int .i64 id] w fun e w'=>e=.returned (.bool (t.has id))∧Heap w0 (.tower b (t.cut id)::R) w':=by
 have HH:=zk h;obtain ⟨bm,h⟩:=h.open_tower;have c1:=h.cell 0 1 rfl rfl;have H:=zk h;clear h;have hc:=has_ok HH.out id h0 h1;cases hb:t.has id
 ·have HB:=zk hb;rw [hb] at hc;have HC:=zk hc;clear hb hc;go_enter Tryz.func103,Tryz.ntmps103;go_wp2_with (go_at_call 134;refine HC.out.mono ?_;rintro e w' ⟨rfl,rfl⟩);go_ret;exact ⟨rfl,by rw [show t.cut id=t by simp [Tower.cut,HB.out]];exact HH.out⟩
 ·have HB:=zk hb;rw [hb] at hc;have HC:=zk hc;clear hb hc;go_enter Tryz.func103,Tryz.ntmps103;go_wp2_with (first|(go_at_call 134;refine HC.out.mono ?_;rintro e w' ⟨rfl,rfl⟩)|(at_delete;refine wpList_del H.out 1 _ _ rfl rfl _ _ 67 3 rfl Tryz.underlying67 rfl id rfl h0 h1 ?_;intro w2 h2 _;have H2:=zk h2;clear h2));go_ret;exact ⟨rfl,by rw [show t.cut id= {t with left:=mdel t.left id} by simp [Tower.cut,HB.out]];exact Heap.shut_tower (bm:=bm) (by rw [mval_mdel];exact H2.out)⟩
theorem ring_ok {w0 w:World} {b:Nat} {t:Tower} {R:List SA} (h:Heap w0 (.tower b t::R) w) (id:Int) (h0: -9223372036854775808≤id) (h1:id≤9223372036854775807) (hn:As (t.left.length<1000000)):
 Calls Tryz.prog 107 #[.pointer (some ⟨b,0,none⟩),.int .i64 id] w fun e w'=>e=.returned (.tuple #[.bool (t.ring id).1,.bool (t.ring id).2.1])∧Heap w0 (.tower b (t.ring id).2.2::R) w':=by
 have HH:=zk h;obtain ⟨bm,h⟩:=h.open_tower;have c1:=h.cell 0 1 rfl rfl;have H:=zk h;clear h;have hc:=has_ok HH.out id h0 h1;cases hb:t.has id
 ·have HB:=zk hb;rw [hb] at hc;have HC:=zk hc;clear hb hc;go_enter Tryz.func107,Tryz.ntmps107;go_wp2_with (go_at_call 134;refine HC.out.mono ?_;rintro e w' ⟨rfl,rfl⟩)
  go_ret2
  exact ⟨by simp [Tower.ring,HB.out],by rw [show (t.ring id).2.2=t by simp [Tower.ring,HB.out]];exact HH.out⟩
 ·have HB:=zk hb;rw [hb] at hc;have HC:=zk hc;clear hb hc;by_cases hz:mgi t.left id=0
  ·have hz1:(mgi t.left id==0)=true:=by simpa using hz
   have HZ:=zk hz;clear hz;go_enter Tryz.func107,Tryz.ntmps107;go_wp2_with (first|(go_at_call 134;refine HC.out.mono ?_;rintro e w' ⟨rfl,rfl⟩)|(at_lookup;refine wli H.out 1 _ _ rfl rfl _ _ 67 rfl Tryz.underlying67 rfl id rfl h0 h1 ?_))
   go_ret2
   exact ⟨by simp [Tower.ring,HB.out,HZ.out],by rw [show (t.ring id).2.2=t by simp [Tower.ring,HB.out,HZ.out]];exact HH.out⟩
  ·have hz1:(mgi t.left id==0)=false:=by simpa using hz
   have HZ:=zk hz;clear hz;go_enter Tryz.func107,Tryz.ntmps107;go_wp2_with (first|(go_at_call 134;refine HC.out.mono ?_;rintro e w' ⟨rfl,rfl⟩)|(at_lookup;refine wli H.out 1 _ _ rfl rfl _ _ 67 rfl Tryz.underlying67 rfl id rfl h0 h1 ?_)|(at_mapUpdate;refine wlp H.out 1 _ _ rfl rfl _ _ _ 67 3 rfl Tryz.underlying67 rfl id rfl _ rfl h0 h1 (by simpa [mval] using hn.out) ?_;intro w2 h2 _;have H2:=zk h2;clear h2))
   go_ret2
   exact ⟨by simp [Tower.ring,HB.out,HZ.out],by
    rw [show (t.ring id).2.2= {t with left:=mput t.left id (wrap64 (mgi t.left id-1))} by simp [Tower.ring,HB.out,HZ.out]];exact Heap.shut_tower (bm:=bm) (by rw [mval_mput];exact H2.out)⟩
theorem again_ok {w0 w:World} {b:Nat} {t:Tower} {R:List SA} (h:Heap w0 (.tower b t::R) w) (id:Int) (h0: -9223372036854775808≤id) (h1:id≤9223372036854775807) (hn:As (t.left.length<1000000)):
 Calls Tryz.prog 108 #[.pointer (some ⟨b,0,none⟩),.int .i64 id] w fun e w'=>e=.returned (.bool (t.has id))∧Heap w0 (.tower b (t.again id)::R) w':=by
 have HH:=zk h;obtain ⟨bm,h⟩:=h.open_tower;have c0:=h.cell 0 0 rfl rfl;have c1:=h.cell 0 1 rfl rfl;have H:=zk h;clear h;have hc:=has_ok HH.out id h0 h1;cases hb:t.has id
 ·have HB:=zk hb;rw [hb] at hc;have HC:=zk hc;clear hb hc;go_enter Tryz.func108,Tryz.ntmps108;go_wp2_with (go_at_call 134;refine HC.out.mono ?_;rintro e w' ⟨rfl,rfl⟩);go_ret;exact ⟨rfl,by rw [show t.again id=t by simp [Tower.again,HB.out]];exact HH.out⟩
 ·have HB:=zk hb;rw [hb] at hc;have HC:=zk hc;clear hb hc;go_enter Tryz.func108,Tryz.ntmps108;go_wp2_with (go_at_call 134;refine HC.out.mono ?_;rintro e w' ⟨rfl,rfl⟩);go_still_tail 9,(by kernel_rfl);change wpList _ _ _ _ _ w.drew;go_wp2_with (at_mapUpdate;refine wlp H.out.drew 1 _ _ rfl rfl _ _ _ 67 3 rfl Tryz.underlying67 rfl id rfl _ rfl h0 h1 (by simpa [mval] using hn.out) ?_;intro w2 h2 _;have H2:=zk h2;clear h2);go_ret;exact ⟨rfl,by
   rw [show t.again id= {t with left:=mput t.left id t.tries} by simp [Tower.again,HB.out]];exact Heap.shut_tower (bm:=bm) (by rw [mval_mput];exact H2.out)⟩
theorem hang_ok {w0 w:World} {b:Nat} {t:Tower} {R:List SA} (h:Heap w0 (.tower b t::R) w) (id:Int) (h0:1≤id) (h1:id≤999) (hn:As (t.left.length<1000000)):
 Calls Tryz.prog 130 #[.pointer (some ⟨b,0,none⟩),.int .i64 id] w fun e w'=>e=.returned (.bool (!t.has id))∧Heap w0 (.tower b (t.hang id)::R) w':=by
 have HH:=zk h;obtain ⟨bm,h⟩:=h.open_tower;have c0:=h.cell 0 0 rfl rfl;have c1:=h.cell 0 1 rfl rfl;have H:=zk h;clear h;have hc:=has_ok HH.out id (by omega) (by omega);cases hb:t.has id
 ·have HB:=zk hb;rw [hb] at hc;have HC:=zk hc;clear hb hc;go_enter Tryz.func130,Tryz.ntmps130;go_wp2_with (go_at_call 134;refine HC.out.mono ?_;rintro e w' ⟨rfl,rfl⟩);go_still_tail 9,(by kernel_rfl);change wpList _ _ _ _ _ w.drew;go_wp2_with (at_mapUpdate;refine wlp H.out.drew 1 _ _ rfl rfl _ _ _ 67 3 rfl Tryz.underlying67 rfl id rfl _ rfl (by omega) (by omega) (by simpa [mval] using hn.out) ?_;intro w2 h2 _;have H2:=zk h2;clear h2);go_ret;exact ⟨rfl,by
   rw [show t.hang id= {t with left:=mput t.left id t.tries} by simp [Tower.hang,HB.out];omega];exact Heap.shut_tower (bm:=bm) (by rw [mval_mput];exact H2.out)⟩
 ·have HB:=zk hb;rw [hb] at hc;have HC:=zk hc;clear hb hc;go_enter Tryz.func130,Tryz.ntmps130;go_wp2_with (go_at_call 134;refine HC.out.mono ?_;rintro e w' ⟨rfl,rfl⟩);go_ret;exact ⟨rfl,by rw [show t.hang id=t by simp [Tower.hang,HB.out]];exact HH.out⟩
def NewTower (w0:World) (R:List SA) (tries:Int) (e:Ending) (w':World):Prop:=∃b,e=.returned (.pointer (some ⟨b,0,none⟩))∧Heap w0 (.tower b ⟨tries,[]⟩::R) w'
theorem tower_new_ok {w0 w:World} {R:List SA} (h:Heap w0 R w) (tries:Int) (h0:1≤tries) (h1:tries≤20):
 Calls Tryz.prog 141 #[.int .i64 tries] w (NewTower w0 R tries):=by
 have H:=zk h;clear h;have hmm:= @run_makeMap Tryz.prog;rcases (show tries=1∨1<tries by omega) with rfl|h2;all_goals
  go_enter Tryz.func141,Tryz.ntmps141;go_wp2;go_ret;exact ⟨_,rfl,Heap.shut_tower (bm:=w.heap.size+1) (Heap.nAt (Heap.newMapAt (H.out.alloc _) (by simp)) _ (by simp))⟩
end Go.Proofs.YtlnghlamnehfjaaGreatDoor.S
