/- Part Q28. -/
import Derived.Test.YtlnghlamnehfjaaGreatDoorQ25
import Derived.Deep.LoopGhost
set_option linter.unusedVariables false
set_option linter.unusedSimpArgs false
set_option maxRecDepth 100000
set_option maxHeartbeats 64000000
namespace Go.Proofs.YtlnghlamnehfjaaGreatDoor.S
open Go.RowKit Go.Maps
def zi (n:Int):Value:=.int .i64 n
def Qia (bm:Nat) (x y:Int):Array Value:= #[.int .i64 x,.int .i64 y,.int .i64 0,.int .i64 0,.int .i64 0,.int .i64 0,.int .i64 0,.int .i64 0,.int .i64 0,.int .i64 0,.int .i64 0,.int .i64 0,.int .i64 0,.int .i64 0,.int .i64 0,.int .i64 0,.map (some bm)]
theorem Qyr (bm:Nat):((((((((Qia bm 60 5).setIfInBounds 8 (zi 60)).setIfInBounds 9 (zi 5)).setIfInBounds 10 (zi 0)).setIfInBounds 11 (zi 0)).setIfInBounds 12 (zi 0)).setIfInBounds 13 (zi 0)).setIfInBounds 14 (zi 0)).setIfInBounds 15 (zi 0)=Qah.cells bm:=by
 apply Array.ext';simp only [Qia,zi,Qp.cells,Qah,Array.toList_setIfInBounds,List.set_cons_succ,List.set_cons_zero,List.map_cons,List.map_nil,List.cons_append,List.nil_append]
theorem QAp {w0 w:World} {R:List SA} {g cap:Nat} (h:Heap w0 (.slc (.slice (some ⟨g,0,none⟩) 2 cap) 3 1 2 [.int .i64 60,.int .i64 5]::R) w):
 Calls Tryz.prog 115 #[.slice (some ⟨g,0,none⟩) 2 cap] w fun e w'=>∃b,e=.returned (.pointer (some ⟨b,0,none⟩))∧Heap w0 (.Zj b Qah::.slc (.slice (some ⟨g,0,none⟩) 2 cap) 3 1 2 [.int .i64 60,.int .i64 5]::R) w':=by
 have H:=zk h;clear h;have hmm:= @run_makeMap Tryz.prog;have H1:=zk (Heap.nAt (n:=w.heap.size+1) (Heap.YC H.1 (n:=w.heap.size) rfl) (.cells (Qia w.heap.size 0 0) 217) (by simp));go_enter Tryz.func115,Tryz.ntmps115;go_wp2
 go_loopg [4,11] 2 (fun gk p i wr=>∃k:Nat,i=.int .i64 k∧k≤2∧As (gk+k=2)∧As (Heap w0 (.pts (w.heap.size+1) (.cells (Qia w.heap.size (if 0<k then 60 else 0) (if 1<k then 5 else 0)) 217)::.map w.heap.size []::.slc (.slice (some ⟨g,0,none⟩) 2 cap) 3 1 2 [.int .i64 60,.int .i64 5]::R) wr))
 case atStart=>exact ⟨0,rfl,by omega,⟨rfl⟩,H1⟩
 case round=>
  obtain ⟨k,rfl,hk,HG,H2⟩:=hrel;have hlb:=H2.1.lt 0 rfl;have cf:∀j,wr.frozen? ⟨w.heap.size+1,j,none⟩=false:=fun j=>H2.1.frz 0 j rfl;obtain ⟨x0,x1⟩:wr.cell? ⟨g,0,none⟩=some (.int .i64 60)∧wr.cell? ⟨g,1,none⟩=some (.int .i64 5):=by
   rcases H2.1.shp 2 rfl with ⟨hv,_⟩|⟨g',cap',hv,_,_,hcs⟩;cases hv;cases hv;exact ⟨hcs 0 _ rfl,hcs 1 _ rfl⟩
  rcases (show k=0∨k=1∨k=2 by omega) with rfl|rfl|rfl
  ·have y0:wr.cell? ⟨w.heap.size+1,0,none⟩=some (.int .i64 0):=H2.1.cell 0 0 rfl rfl;go_wp2;go_still_tail 11,(by kernel_rfl);change wpList _ _ _ _ _ wr.drew;go_wp2;go_roundg 1
   case measure=>have:=HG.1;omega
   case rel=>exact ⟨1,by go_num,by omega,⟨rfl⟩,⟨H2.1.drew.sAt 0 0 _ rfl⟩⟩
  ·have y0:wr.cell? ⟨w.heap.size+1,1,none⟩=some (.int .i64 0):=H2.1.cell 0 1 rfl rfl;go_wp2;go_still_tail 11,(by kernel_rfl);change wpList _ _ _ _ _ wr.drew;go_wp2;go_roundg 0
   case measure=>have:=HG.1;omega
   case rel=>exact ⟨2,by go_num,by omega,⟨rfl⟩,⟨H2.1.drew.sAt 0 1 _ rfl⟩⟩
  ·have h3:=H2.1;simp only [Nat.zero_lt_two,if_true,Nat.one_lt_two] at h3;have y0:wr.cell? ⟨w.heap.size+1,0,none⟩=some (.int .i64 60):=h3.cell 0 0 rfl rfl;have y1:wr.cell? ⟨w.heap.size+1,1,none⟩=some (.int .i64 5):=h3.cell 0 1 rfl rfl;have y2:wr.cell? ⟨w.heap.size+1,2,none⟩=some (.int .i64 0):=h3.cell 0 2 rfl rfl;have y3:wr.cell? ⟨w.heap.size+1,3,none⟩=some (.int .i64 0):=h3.cell 0 3 rfl rfl;have y4:wr.cell? ⟨w.heap.size+1,4,none⟩=some (.int .i64 0):=h3.cell 0 4 rfl rfl;have y5:wr.cell? ⟨w.heap.size+1,5,none⟩=some (.int .i64 0):=h3.cell 0 5 rfl rfl;have y6:wr.cell? ⟨w.heap.size+1,6,none⟩=some (.int .i64 0):=h3.cell 0 6 rfl rfl;have y7:wr.cell? ⟨w.heap.size+1,7,none⟩=some (.int .i64 0):=h3.cell 0 7 rfl rfl;have f8:wr.cell? ⟨w.heap.size+1,8,none⟩=some (.int .i64 0):=h3.cell 0 8 rfl rfl;have f9:wr.cell? ⟨w.heap.size+1,9,none⟩=some (.int .i64 0):=h3.cell 0 9 rfl rfl;have f10:wr.cell? ⟨w.heap.size+1,10,none⟩=some (.int .i64 0):=h3.cell 0 10 rfl rfl;have f11:wr.cell? ⟨w.heap.size+1,11,none⟩=some (.int .i64 0):=h3.cell 0 11 rfl rfl;have f12:wr.cell? ⟨w.heap.size+1,12,none⟩=some (.int .i64 0):=h3.cell 0 12 rfl rfl;have f13:wr.cell? ⟨w.heap.size+1,13,none⟩=some (.int .i64 0):=h3.cell 0 13 rfl rfl;have f14:wr.cell? ⟨w.heap.size+1,14,none⟩=some (.int .i64 0):=h3.cell 0 14 rfl rfl;have f15:wr.cell? ⟨w.heap.size+1,15,none⟩=some (.int .i64 0):=h3.cell 0 15 rfl rfl;have H3:=zk h3;clear h3;go_wp2;go_ret;have h4:=(((((((H3.1.set 8 (zi 60)).set 9 (zi 5)).set 10 (zi 0)).set 11 (zi 0)).set 12 (zi 0)).set 13 (zi 0)).set 14 (zi 0)).set 15 (zi 0);rw [Qyr] at h4;exact ⟨w.heap.size+1,rfl,Heap.Zt (bm:=w.heap.size) (t:=Qah) ⟨rfl,rfl,Ql.nil,by simp [Qah]⟩ h4⟩
def TT:Qn:=⟨[900,40,0,0,0,0,0,0],0,[],[]⟩
def Qiu (bm bp:Nat) (x y:Int):Array Value:= #[.int .i64 x,.int .i64 y,.int .i64 0,.int .i64 0,.int .i64 0,.int .i64 0,.int .i64 0,.int .i64 0,.int .i64 0,.map (some bm),.map (some bp)]
theorem Qyf (bm bp:Nat):Qiu bm bp 900 40=TT.cells bm bp:=by
 apply Array.ext';simp only [Qiu,Qn.cells,TT,List.map_cons,List.map_nil,List.cons_append,List.nil_append]
theorem Qzh {w0 w:World} {R:List SA} {g cap:Nat} (h:Heap w0 (.slc (.slice (some ⟨g,0,none⟩) 2 cap) 3 1 2 [.int .i64 900,.int .i64 40]::R) w):
 Calls Tryz.prog 116 #[.slice (some ⟨g,0,none⟩) 2 cap] w fun e w'=>∃b,e=.returned (.pointer (some ⟨b,0,none⟩))∧Heap w0 (.purse b TT::.slc (.slice (some ⟨g,0,none⟩) 2 cap) 3 1 2 [.int .i64 900,.int .i64 40]::R) w':=by
 have H:=zk h;clear h;have hmm:= @run_makeMap Tryz.prog;have H1:=zk (Heap.nAt (n:=w.heap.size+1+1) (Heap.YC (Heap.YC H.1 (n:=w.heap.size) rfl) (n:=w.heap.size+1) (by simp)) (.cells (Qiu w.heap.size (w.heap.size+1) 0 0) 105) (by simp));go_enter Tryz.func116,Tryz.ntmps116;go_wp2
 go_loopg [4,12] 2 (fun gk p i wr=>∃k:Nat,i=.int .i64 k∧k≤2∧As (gk+k=2)∧As (Heap w0 (.pts (w.heap.size+1+1) (.cells (Qiu w.heap.size (w.heap.size+1) (if 0<k then 900 else 0) (if 1<k then 40 else 0)) 105)::.map (w.heap.size+1) []::.map w.heap.size []::.slc (.slice (some ⟨g,0,none⟩) 2 cap) 3 1 2 [.int .i64 900,.int .i64 40]::R) wr))
 case atStart=>exact ⟨0,rfl,by omega,⟨rfl⟩,H1⟩
 case round=>
  obtain ⟨k,rfl,hk,HG,H2⟩:=hrel;have hlb:=H2.1.lt 0 rfl;have cf:∀j,wr.frozen? ⟨w.heap.size+1+1,j,none⟩=false:=fun j=>H2.1.frz 0 j rfl;obtain ⟨x0,x1⟩:wr.cell? ⟨g,0,none⟩=some (.int .i64 900)∧wr.cell? ⟨g,1,none⟩=some (.int .i64 40):=by
   rcases H2.1.shp 3 rfl with ⟨hv,_⟩|⟨g',cap',hv,_,_,hcs⟩;cases hv;cases hv;exact ⟨hcs 0 _ rfl,hcs 1 _ rfl⟩
  rcases (show k=0∨k=1∨k=2 by omega) with rfl|rfl|rfl
  ·have y0:wr.cell? ⟨w.heap.size+1+1,0,none⟩=some (.int .i64 0):=H2.1.cell 0 0 rfl rfl;go_wp2;go_still_tail 11,(by kernel_rfl);change wpList _ _ _ _ _ wr.drew;go_wp2;go_roundg 1
   case measure=>have:=HG.1;omega
   case rel=>exact ⟨1,by go_num,by omega,⟨rfl⟩,⟨H2.1.drew.sAt 0 0 _ rfl⟩⟩
  ·have y0:wr.cell? ⟨w.heap.size+1+1,1,none⟩=some (.int .i64 0):=H2.1.cell 0 1 rfl rfl;go_wp2;go_still_tail 11,(by kernel_rfl);change wpList _ _ _ _ _ wr.drew;go_wp2;go_roundg 0
   case measure=>have:=HG.1;omega
   case rel=>exact ⟨2,by go_num,by omega,⟨rfl⟩,⟨H2.1.drew.sAt 0 1 _ rfl⟩⟩
  ·have h3:=H2.1;simp only [Nat.zero_lt_two,if_true,Nat.one_lt_two,Qyf] at h3;have H3:=zk h3;clear h3;go_wp2;go_ret;exact ⟨w.heap.size+1+1,rfl,Heap.Zv (bm:=w.heap.size) (bp:=w.heap.size+1) (t:=TT) ⟨rfl,Ql.nil,Ql.nil,by simp [TT]⟩ (((H3.1.frt 1 rfl).frt 2 rfl).frt 2 rfl)⟩
end Go.Proofs.YtlnghlamnehfjaaGreatDoor.S
