/- Part Q21. -/
import Derived.Test.YtlnghlamnehfjaaGreatDoorQ04
import Derived.Test.YtlnghlamnehfjaaGreatDoorQ20
set_option linter.unusedVariables false
set_option linter.unusedSimpArgs false
set_option maxRecDepth 100000
set_option maxHeartbeats 64000000
namespace Go.Proofs.YtlnghlamnehfjaaGreatDoor.S
open Go.RowKit Go.Maps
def bi (b:Bool):Value:=.int .i64 (if b=true then 1 else 0)
def SA.tally (b:Nat) (s0 s1:Bool):SA:=.ex fun g=>.star (.pts b (.cells #[.slice (some ⟨g,0,none⟩) 2 2,.bool false,.bool false] 266)) (.pts g (.cells #[bi s0,bi s1] 3))
section
variable {w0 w:World} {b g:Nat} {s0 s1:Bool} {R:List SA}
theorem Heap.KJ (h:Heap w0 (.tally b s0 s1::R) w):∃g,Heap w0 (.pts b (.cells #[.slice (some ⟨g,0,none⟩) 2 2,.bool false,.bool false] 266)::.pts g (.cells #[bi s0,bi s1] 3)::R) w:=by
 obtain ⟨g,h⟩:=h.YL;exact ⟨g,h.XF⟩
theorem Heap.Ux (h:Heap w0 (.pts b (.cells #[.slice (some ⟨g,0,none⟩) 2 2,.bool false,.bool false] 266)::.pts g (.cells #[bi s0,bi s1] 3)::R) w):Heap w0 (.tally b s0 s1::R) w:=
 Heap.Yr (f:=fun g=>.star (.pts b (.cells #[.slice (some ⟨g,0,none⟩) 2 2,.bool false,.bool false] 266)) (.pts g (.cells #[bi s0,bi s1] 3))) g h.Xx
end
theorem QAr {w0 w:World} {R:List SA} (h:Heap w0 R w):Calls Tryz.prog 181 #[.int .i64 2] w fun e w'=>∃b,e=.returned (.pointer (some ⟨b,0,none⟩))∧Heap w0 (.tally b false false::R) w':=by
 have H:=zk h;clear h;have hmx:max (1:Int) (min 2 64)=2:=by decide
 obtain ⟨i0,hi0,hi1,hi2,hi3⟩:=info_parts info3;have hmk:∀W:World,(Instr.makeSlice 53 (.int .i64 2) (.int .i64 2)).run Tryz.prog W=.ok (.slice (some ⟨W.heap.size,0,none⟩) 2 2) (W.alloc (.cells #[.int .i64 0,.int .i64 0] 3)):=fun W=>by
  have:=run_makeSlice (P:=Tryz.prog) (w:=W) 53 3 i0 _ Tryz.underlying53 hi0 hi1 .i64 .i64 2 2 (by omega) (by omega) (by rw [hi2];decide) (by rw [hi3];decide) (by decide);rw [hi2,show madeCells (Value.int .i64 0).cells (Int.toNat 2*1)= #[.int .i64 0,.int .i64 0] by kernel_rfl] at this;exact this
 clear hi0 hi1 hi2 hi3;go_enter Tryz.func181,Tryz.ntmps181;go_wp2;go_ret;exact ⟨_,rfl,Heap.Ux (g:=w.heap.size) (Heap.nAt (n:=w.heap.size+1) (Heap.nAt (n:=w.heap.size) H.1 (.cells #[.int .i64 0,.int .i64 0] 3) rfl) _ (by simp))⟩
def waits (s0 s1:Bool) (k:Nat):List Int:=(if 0<k∧s0=false then [0] else [])++(if 1<k∧s1=false then [1] else [])
theorem FM {w0 w:World} {b:Nat} {s0 s1:Bool} {R:List SA} (h:Heap w0 (.tally b s0 s1::R) w):
 Calls Tryz.prog 287 #[b] w fun e w'=>∃v,e=.returned v∧Heap w0 (.slc v 3 1 (waits s0 s1 2).length ((waits s0 s1 2).map (Value.int .i64))::.tally b s0 s1::R) w':=by
 obtain ⟨g,h⟩:=h.KJ;obtain ⟨c0,c1,c2,cf⟩:=h.cB3 0 rfl;have H:=zk (h.nRw 3 1);clear h c2;obtain ⟨i0,hi0,hi1,hi2,hi3⟩:=info_parts info3;have HI:=zk (And.intro hi0 (And.intro hi1 (And.intro hi2 hi3)));clear hi0 hi1 hi2 hi3;go_enter Tryz.func287,Tryz.ntmps287;go_wp2
 go_loopg [3,4,5,19] 2 (fun gk v3 v4 v5 i wr=>∃(k:Nat) (v:Value),v3=v∧i=.int .i64 k∧k≤2∧As (gk+k=2)∧As (Heap w0 (.slc v 3 1 (waits s0 s1 k).length ((waits s0 s1 k).map (Value.int .i64))::.pts b (.cells #[.slice (some ⟨g,0,none⟩) 2 2,.bool false,.bool false] 266)::.pts g (.cells #[bi s0,bi s1] 3)::R) wr))
 case atStart=>exact ⟨0,_,rfl,rfl,by omega,⟨rfl⟩,H⟩
 case round=>
  obtain ⟨k,v,hv,rfl,hk,HG,H2⟩:=hrel;have hS:=H2.1.shp 0 rfl;have hlw:(waits s0 s1 k).length≤2:=by unfold waits;split<;>split<;>simp
  rcases (show k=0∨k=1∨k=2 by omega) with rfl|rfl|rfl
  ·have y0:wr.cell? ⟨g,0,none⟩=some (bi s0):=H2.1.cell 2 0 rfl rfl;cases s0
   ·have y1:wr.cell? ⟨g,0,none⟩=some (.int .i64 0):=y0;have HE:As ((waits false s1 1).length=(waits false s1 0).length+1∧(waits false s1 1).map (Value.int .i64)=(waits false s1 0).map (Value.int .i64)++ [.int .i64 0]):=⟨by simp [waits]⟩;clear y0;rcases hS with ⟨rfl,hz, -⟩|⟨g1,cap1,rfl, -, -, -⟩;all_goals
     subst hv;try clear hz
     generalize hL:(waits false s1 0).length=L at *;clear hL;go_wp2_with (at_builtin;refine wla (H2.1.alloc _) 0 _ 3 1 L _ rfl rfl _ _ 53 rfl i0 _ 8 Tryz.underlying53 HI.1.1 HI.1.2.1 HI.1.2.2.1 HI.1.2.2.2 rfl (by decide) rfl ⟨wr.heap.size,0,none⟩ 1 1 [.int .i64 0] rfl rfl (cell_one_new _ _ _) (by simp [Value.oneCell']) (by omega) (by decide) (by omega) ?_;intro g2 cap2 w5 h5 _;have H5:=zk h5;clear h5);go_roundg 1
     case measure=>have:=HG.1;omega
     case rel=>exact ⟨1,.slice (some ⟨g2,0,none⟩) (L+1) cap2,rfl,by go_num,by omega,⟨rfl⟩,⟨by rw [HE.1.1,HE.1.2];exact H5.1⟩⟩
   ·have y1:wr.cell? ⟨g,0,none⟩=some (.int .i64 1):=y0;clear y0;go_wp2;go_roundg 1
    case measure=>have:=HG.1;omega
    case rel=>exact ⟨1,v,hv,by go_num,by omega,⟨rfl⟩,H2⟩
  ·have y0:wr.cell? ⟨g,1,none⟩=some (bi s1):=H2.1.cell 2 1 rfl rfl;cases s1
   ·have y1:wr.cell? ⟨g,1,none⟩=some (.int .i64 0):=y0;have HE:As ((waits s0 false 2).length=(waits s0 false 1).length+1∧(waits s0 false 2).map (Value.int .i64)=(waits s0 false 1).map (Value.int .i64)++ [.int .i64 1]):=⟨by simp [waits]⟩;clear y0;rcases hS with ⟨rfl,hz, -⟩|⟨g1,cap1,rfl, -, -, -⟩;all_goals
     subst hv;try clear hz
     generalize hL:(waits s0 false 1).length=L at *;clear hL;go_wp2_with (at_builtin;refine wla (H2.1.alloc _) 0 _ 3 1 L _ rfl rfl _ _ 53 rfl i0 _ 8 Tryz.underlying53 HI.1.1 HI.1.2.1 HI.1.2.2.1 HI.1.2.2.2 rfl (by decide) rfl ⟨wr.heap.size,0,none⟩ 1 1 [.int .i64 1] rfl rfl (cell_one_new _ _ _) (by simp [Value.oneCell']) (by omega) (by decide) (by omega) ?_;intro g2 cap2 w5 h5 _;have H5:=zk h5;clear h5);go_roundg 0
     case measure=>have:=HG.1;omega
     case rel=>exact ⟨2,.slice (some ⟨g2,0,none⟩) (L+1) cap2,rfl,by go_num,by omega,⟨rfl⟩,⟨by rw [HE.1.1,HE.1.2];exact H5.1⟩⟩
   ·have y1:wr.cell? ⟨g,1,none⟩=some (.int .i64 1):=y0;clear y0;go_wp2;go_roundg 0
    case measure=>have:=HG.1;omega
    case rel=>exact ⟨2,v,hv,by go_num,by omega,⟨rfl⟩,⟨by have:=H2.1;simpa [waits] using this⟩⟩
  ·go_wp2;go_ret;exact ⟨v,by rw [←hv];rfl,(Heap.Ux (R:=.slc v 3 1 (waits s0 s1 2).length ((waits s0 s1 2).map (Value.int .i64))::R) (H2.1.frt 1 rfl |>.frt 2 rfl |>.frt 1 rfl)).frt 1 rfl⟩
theorem Qlo {w0 w:World} {b:Nat} {s0:Bool} {R:List SA} (h:Heap w0 (.tally b s0 false::R) w):
 CH 289 #[b,.int .i64 0,.bool true] w (.bool true) w0 (.tally b true false::R):=by
 obtain ⟨g,h⟩:=h.KJ;obtain ⟨c0,c1,c2,cf⟩:=h.cB3 0 rfl;obtain ⟨g0,g1,gf⟩:=h.cB2 1 rfl;have hlb:=h.lt 0 rfl;have hlg:=h.lt 1 rfl;have hne:=h.ne 0 1 (by decide) rfl rfl;have HT:As (Heap w0 (.tally b true false::R) (w.setCell ⟨g,0,none⟩ (.int .i64 1))):=⟨Heap.Ux (h.sAt 1 0 (.int .i64 1) rfl)⟩;have HW:=zk (FM HT.1);clear h c2;cases s0;all_goals
  first
   |have y0:w.cell? ⟨g,0,none⟩=some (.int .i64 0):=g0
   |have y0:w.cell? ⟨g,0,none⟩=some (.int .i64 1):=g0
  clear g0 g1;go_enter Tryz.func289,Tryz.ntmps289;go_wp2_with (go_at_call 287;refine HW.1.mono ?_;rintro e w1 ⟨v,rfl,h1⟩;rcases h1.shp 0 rfl with ⟨_,hz,_⟩|⟨g1,cap1,rfl, -, -, -⟩; · cases hz);go_ret;exact ⟨rfl,h1.drop⟩
theorem Qjj {w0 w:World} {b:Nat} {s1:Bool} {R:List SA} (h:Heap w0 (.tally b false s1::R) w):
 CH 289 #[b,.int .i64 1,.bool true] w (.bool true) w0 (.tally b false true::R):=by
 obtain ⟨g,h⟩:=h.KJ;obtain ⟨c0,c1,c2,cf⟩:=h.cB3 0 rfl;obtain ⟨g0,g1,gf⟩:=h.cB2 1 rfl;have hlb:=h.lt 0 rfl;have hlg:=h.lt 1 rfl;have hne:=h.ne 0 1 (by decide) rfl rfl;have HT:As (Heap w0 (.tally b false true::R) (w.setCell ⟨g,1,none⟩ (.int .i64 1))):=⟨Heap.Ux (h.sAt 1 1 (.int .i64 1) rfl)⟩;have HW:=zk (FM HT.1);clear h c2;cases s1;all_goals
  first
   |have y0:w.cell? ⟨g,1,none⟩=some (.int .i64 0):=g1
   |have y0:w.cell? ⟨g,1,none⟩=some (.int .i64 1):=g1
  clear g0 g1;go_enter Tryz.func289,Tryz.ntmps289;go_wp2_with (go_at_call 287;refine HW.1.mono ?_;rintro e w1 ⟨v,rfl,h1⟩;rcases h1.shp 0 rfl with ⟨_,hz,_⟩|⟨g1,cap1,rfl, -, -, -⟩; · cases hz);go_ret;exact ⟨rfl,h1.drop⟩
end Go.Proofs.YtlnghlamnehfjaaGreatDoor.S
