/- Part Q17. -/
import Derived.Test.YtlnghlamnehfjaaGreatDoorQ01
import Derived.StillTailTactics
import Derived.Deep.QuietTactic
import Derived.BigQuiet
set_option linter.unusedVariables false
set_option linter.unusedSimpArgs false
set_option maxRecDepth 100000
set_option maxHeartbeats 64000000
namespace Go.Proofs.YtlnghlamnehfjaaGreatDoor.S
open Go.RowKit Go.Maps
structure Qy where
 tries:Int
 left:IM Int
def SA.tower (b:Nat) (t:Qy):SA:=.ex fun bm=>.star (.pts b (.cells #[t.tries,.map (some bm)] 207)) (.map bm (Qx (Value.int .i64) t.left))
theorem Heap.Vw {w0 w:World} {b:Nat} {t:Qy} {R:List SA} (h:Heap w0 (.tower b t::R) w):∃bm,Heap w0 (.pts b (.cells #[t.tries,.map (some bm)] 207)::.map bm (Qx (Value.int .i64) t.left)::R) w:=by
 obtain ⟨bm,h⟩:=h.YL;exact ⟨bm,h.XF⟩
theorem Heap.Vu {w0 w:World} {b bm:Nat} {t:Qy} {R:List SA} (h:Heap w0 (.pts b (.cells #[t.tries,.map (some bm)] 207)::.map bm (Qx (Value.int .i64) t.left)::R) w):Heap w0 (.tower b t::R) w:=
 Heap.Yr (f:=fun bm=>.star (.pts b (.cells #[t.tries,.map (some bm)] 207)) (.map bm (Qx (Value.int .i64) t.left))) bm h.Xx
def Qy.has (t:Qy) (id:Int):Bool:=(Qc t.left id).isSome
theorem Qhx {w0 w:World} {b:Nat} {t:Qy} {R:List SA} (h:Heap w0 (.tower b t::R) w) (id:Int) (h0: -9223372036854775808≤id) (h1:id≤9223372036854775807):
 CE 134 #[b,id] w (.bool (t.has id)):=by
 obtain ⟨bm,h⟩:=h.Vw;have c1:=h.cell 0 1 rfl rfl;have H:=zk h;clear h;go_enter Tryz.func134,Tryz.ntmps134;go_wp2_with (at_lookup;refine Yi H.1 1 _ _ rfl rfl _ _ 67 rfl Tryz.underlying67 rfl id rfl h0 h1 ?_);go_ret;exact ⟨rfl,rfl⟩
def Qy.hang (t:Qy) (id:Int):Qy:=if 1≤id∧id≤999∧t.has id=false then {t with left:=Qt t.left id t.tries} else t
def Qy.cut (t:Qy) (id:Int):Qy:=if t.has id=true then {t with left:=QI t.left id} else t
def Qy.again (t:Qy) (id:Int):Qy:=if t.has id=true then {t with left:=Qt t.left id t.tries} else t
def Qy.ring (t:Qy) (id:Int):Bool×Bool×Qy:=
 if t.has id=false then (false,false,t) else if mgi t.left id=0 then (true,true,t) else (true,false,{t with left:=Qt t.left id (wrap64 (mgi t.left id-1))})
theorem QEb {w0 w:World} {b:Nat} {t:Qy} {R:List SA} (h:Heap w0 (.tower b t::R) w) (id:Int) (h0: -9223372036854775808≤id) (h1:id≤9223372036854775807):
 CH 103 #[b,id] w (.bool (t.has id)) w0 (.tower b (t.cut id)::R):=by
 have HH:=zk h;obtain ⟨bm,h⟩:=h.Vw;have c1:=h.cell 0 1 rfl rfl;have H:=zk h;clear h;have hc:=Qhx HH.1 id h0 h1;cases hb:t.has id
 ·have HB:=zk hb;rw [hb] at hc;have HC:=zk hc;clear hb hc;go_enter Tryz.func103,Tryz.ntmps103;go_wp2_with (go_at_call 134;refine HC.1.m0 ?_);go_ret;exact ⟨rfl,by rw [show t.cut id=t by simp [Qy.cut,HB.1]];exact HH.1⟩
 ·have HB:=zk hb;rw [hb] at hc;have HC:=zk hc;clear hb hc;go_enter Tryz.func103,Tryz.ntmps103;go_wp2_with (first|(go_at_call 134;refine HC.1.m0 ?_)|(at_delete;refine Zl H.1 1 _ _ rfl rfl _ _ 67 3 rfl Tryz.underlying67 rfl id rfl h0 h1 ?_;intro w2 h2 _;have H2:=zk h2;clear h2));go_ret;exact ⟨rfl,by rw [show t.cut id= {t with left:=QI t.left id} by simp [Qy.cut,HB.1]];exact Heap.Vu (bm:=bm) (by rw [Vd];exact H2.1)⟩
theorem QAa {w0 w:World} {b:Nat} {t:Qy} {R:List SA} (h:Heap w0 (.tower b t::R) w) (id:Int) (h0: -9223372036854775808≤id) (h1:id≤9223372036854775807) (hn:As (t.left.length<1000000)):
 CH 107 #[b,id] w (.tuple #[.bool (t.ring id).1,.bool (t.ring id).2.1]) w0 (.tower b (t.ring id).2.2::R):=by
 have HH:=zk h;obtain ⟨bm,h⟩:=h.Vw;have c1:=h.cell 0 1 rfl rfl;have H:=zk h;clear h;have hc:=Qhx HH.1 id h0 h1;cases hb:t.has id
 ·have HB:=zk hb;rw [hb] at hc;have HC:=zk hc;clear hb hc;go_enter Tryz.func107,Tryz.ntmps107;go_wp2_with (go_at_call 134;refine HC.1.m0 ?_)
  go_ret2
  exact ⟨by simp [Qy.ring,HB.1],by rw [show (t.ring id).2.2=t by simp [Qy.ring,HB.1]];exact HH.1⟩
 ·have HB:=zk hb;rw [hb] at hc;have HC:=zk hc;clear hb hc;by_cases hz:mgi t.left id=0
  ·have hz1:(mgi t.left id==0)=true:=by simpa using hz
   have HZ:=zk hz;clear hz;go_enter Tryz.func107,Tryz.ntmps107;go_wp2_with (first|(go_at_call 134;refine HC.1.m0 ?_)|(at_lookup;refine wli H.1 1 _ _ rfl rfl _ _ 67 rfl Tryz.underlying67 rfl id rfl h0 h1 ?_))
   go_ret2
   exact ⟨by simp [Qy.ring,HB.1,HZ.1],by rw [show (t.ring id).2.2=t by simp [Qy.ring,HB.1,HZ.1]];exact HH.1⟩
  ·have hz1:(mgi t.left id==0)=false:=by simpa using hz
   have HZ:=zk hz;clear hz;go_enter Tryz.func107,Tryz.ntmps107;go_wp2_with (first|(go_at_call 134;refine HC.1.m0 ?_)|(at_lookup;refine wli H.1 1 _ _ rfl rfl _ _ 67 rfl Tryz.underlying67 rfl id rfl h0 h1 ?_)|(at_mapUpdate;refine wlp H.1 1 _ _ rfl rfl _ _ _ 67 3 rfl Tryz.underlying67 rfl id rfl _ rfl h0 h1 (by simpa [Qx] using hn.1) ?_;intro w2 h2 _;have H2:=zk h2;clear h2))
   go_ret2
   exact ⟨by simp [Qy.ring,HB.1,HZ.1],by
    rw [show (t.ring id).2.2= {t with left:=Qt t.left id (wrap64 (mgi t.left id-1))} by simp [Qy.ring,HB.1,HZ.1]];exact Heap.Vu (bm:=bm) (by rw [Xt];exact H2.1)⟩
theorem Qk9 {w0 w:World} {b:Nat} {t:Qy} {R:List SA} (h:Heap w0 (.tower b t::R) w) (id:Int) (h0: -9223372036854775808≤id) (h1:id≤9223372036854775807) (hn:As (t.left.length<1000000)):
 CH 108 #[b,id] w (.bool (t.has id)) w0 (.tower b (t.again id)::R):=by
 have HH:=zk h;obtain ⟨bm,h⟩:=h.Vw;have c0:=h.cell 0 0 rfl rfl;have c1:=h.cell 0 1 rfl rfl;have H:=zk h;clear h;have hc:=Qhx HH.1 id h0 h1;cases hb:t.has id
 ·have HB:=zk hb;rw [hb] at hc;have HC:=zk hc;clear hb hc;go_enter Tryz.func108,Tryz.ntmps108;go_wp2_with (go_at_call 134;refine HC.1.m0 ?_);go_ret;exact ⟨rfl,by rw [show t.again id=t by simp [Qy.again,HB.1]];exact HH.1⟩
 ·have HB:=zk hb;rw [hb] at hc;have HC:=zk hc;clear hb hc;go_enter Tryz.func108,Tryz.ntmps108;go_wp2_with (go_at_call 134;refine HC.1.m0 ?_);go_still_tail 9,(by kernel_rfl);change wpList _ _ _ _ _ w.drew;go_wp2_with (at_mapUpdate;refine wlp H.1.drew 1 _ _ rfl rfl _ _ _ 67 3 rfl Tryz.underlying67 rfl id rfl _ rfl h0 h1 (by simpa [Qx] using hn.1) ?_;intro w2 h2 _;have H2:=zk h2;clear h2);go_ret;exact ⟨rfl,by
   rw [show t.again id= {t with left:=Qt t.left id t.tries} by simp [Qy.again,HB.1]];exact Heap.Vu (bm:=bm) (by rw [Xt];exact H2.1)⟩
theorem Qqm {w0 w:World} {b:Nat} {t:Qy} {R:List SA} (h:Heap w0 (.tower b t::R) w) (id:Int) (h0:1≤id) (h1:id≤999) (hn:As (t.left.length<1000000)):
 CH 130 #[b,id] w (.bool (!t.has id)) w0 (.tower b (t.hang id)::R):=by
 have HH:=zk h;obtain ⟨bm,h⟩:=h.Vw;have c0:=h.cell 0 0 rfl rfl;have c1:=h.cell 0 1 rfl rfl;have H:=zk h;clear h;have hc:=Qhx HH.1 id (by omega) (by omega);cases hb:t.has id
 ·have HB:=zk hb;rw [hb] at hc;have HC:=zk hc;clear hb hc;go_enter Tryz.func130,Tryz.ntmps130;go_wp2_with (go_at_call 134;refine HC.1.m0 ?_);go_still_tail 9,(by kernel_rfl);change wpList _ _ _ _ _ w.drew;go_wp2_with (at_mapUpdate;refine wlp H.1.drew 1 _ _ rfl rfl _ _ _ 67 3 rfl Tryz.underlying67 rfl id rfl _ rfl (by omega) (by omega) (by simpa [Qx] using hn.1) ?_;intro w2 h2 _;have H2:=zk h2;clear h2);go_ret;exact ⟨rfl,by
   rw [show t.hang id= {t with left:=Qt t.left id t.tries} by simp [Qy.hang,HB.1];omega];exact Heap.Vu (bm:=bm) (by rw [Xt];exact H2.1)⟩
 ·have HB:=zk hb;rw [hb] at hc;have HC:=zk hc;clear hb hc;go_enter Tryz.func130,Tryz.ntmps130;go_wp2_with (go_at_call 134;refine HC.1.m0 ?_);go_ret;exact ⟨rfl,by rw [show t.hang id=t by simp [Qy.hang,HB.1]];exact HH.1⟩
def Qxn (w0:World) (R:List SA) (tries:Int) (e:Ending) (w':World):Prop:=∃b,e=.returned (.pointer (some ⟨b,0,none⟩))∧Heap w0 (.tower b ⟨tries,[]⟩::R) w'
theorem Qir {w0 w:World} {R:List SA} (h:Heap w0 R w) (tries:Int) (h0:1≤tries) (h1:tries≤20):
 Calls Tryz.prog 141 #[tries] w (Qxn w0 R tries):=by
 have H:=zk h;clear h;have hmm:= @run_makeMap Tryz.prog;rcases (show tries=1∨1<tries by omega) with rfl|h2;all_goals
  go_enter Tryz.func141,Tryz.ntmps141;go_wp2;go_ret;exact ⟨_,rfl,Heap.Vu (bm:=w.heap.size+1) (Heap.nAt (Heap.YC (H.1.alloc _) (by simp)) _ (by simp))⟩
end Go.Proofs.YtlnghlamnehfjaaGreatDoor.S
