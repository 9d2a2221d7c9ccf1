/- Part Q22. -/
import Derived.Test.YtlnghlamnehfjaaGreatDoorQ09
import Derived.Test.YtlnghlamnehfjaaGreatDoorQ20
set_option linter.unusedVariables false
set_option linter.unusedSimpArgs false
set_option maxRecDepth 100000
set_option maxHeartbeats 64000000
namespace Go.Proofs.YtlnghlamnehfjaaGreatDoor.S
open Go.RowKit Go.Maps
theorem QA3:(Tryz.prog.info? 191).map (fun i=>(i.zero,i.size,i.bytes))=some (some (.agg #[.int .i64 0,.int .i64 0,.int .i64 0]),3,24):=by kernel_rfl
def Yc (l:List Pc) (id:Int) (item:Nat) (q:Int):Int×List Pc:=
 if (decide (q=0)|| !may q)=true then (1,l) else if VU l id=true then (8,l) else (0,l++ [⟨id,item,q⟩])
theorem Qag {w0 w:World} {b:Nat} {l:List Pc} {R:List SA} (h:Heap w0 (.XA b l::R) w) (id:Int) (item:Nat) (q:Int) (h0:1≤id) (h1:id≤999) (hi:item<8) (hn:l.length<5000):
 CH 264 #[b,id,.int .i64 (item:Int),.int .i64 q] w (.int .i64 (Yc l id item q).1) w0 (.XA b (Yc l id item q).2::R):=by
 have HH:=zk h;have HF:=zk (Qhb h id);have HM:As (∀W,CE 113 #[.int .i64 q] W (.bool (may q))):=⟨FU q⟩;have hi0:(0:Int)≤(item:Int):=by omega
 have hi1:(item:Int)<8:=by omega
 obtain ⟨hp,v,h⟩:=h.ZX;have hss:=h.shp 1 rfl;have H:=zk h;have HN:=zk hn;clear h hp hn;by_cases hz:q=0
 ·subst hz;go_enter Tryz.func264,Tryz.ntmps264;go_wp2;go_ret;exact ⟨by simp [Yc],by rw [show (Yc l id item 0).2=l by simp [Yc]];exact HH.1⟩
 ·have hz1:(q==0)=false:=by simpa using hz
  cases hm:may q
  ·have HB:As (Yc l id item q=(1,l)):=⟨by simp [Yc,hm]⟩;rw [hm] at HM;clear hm hz;go_enter Tryz.func264,Tryz.ntmps264;go_wp2_with (go_at_call 113;refine (HM.1 _).m0 ?_);go_ret;rw [HB.1];exact ⟨rfl,HH.1⟩
  ·cases hq:VU l id
   ·have HB:As (Yc l id item q=(0,l++ [⟨id,item,q⟩])):=⟨by simp [Yc,hm,hq,hz]⟩;have hd:decide (0≤ZQ l id)=false:=hq;rw [hm] at HM;clear hm hz hq;generalize ZQ l id=f at *;obtain ⟨i0,hi0',hz0,hz1',hz2⟩:=info_parts QA3;have HI:=zk (And.intro hi0' (And.intro hz0 (And.intro hz1' hz2)));clear hi0' hz0 hz1' hz2;rcases hss with ⟨rfl,hy,hx⟩|⟨g,cap,rfl,hy,hx⟩;all_goals
     clear hy hx;go_enter Tryz.func264,Tryz.ntmps264;go_wp2_with (first|(go_at_call 113;refine (HM.1 _).m0 ?_)|(go_at_call 119;refine HF.1.m2 fun w1 hb=>?_;have h1:=H.1.below hb;obtain ⟨c0,cf⟩:=h1.cB1 0 rfl;have hlb:=h1.lt 0 rfl;have H1:=zk h1;clear h1 hb)|(at_builtin;refine wla (H1.1.alloc _) 1 _ 191 3 l.length _ rfl rfl _ _ 180 rfl i0 _ 24 Tryz.underlying180 HI.1.1 HI.1.2.1 HI.1.2.2.1 HI.1.2.2.2 rfl (by decide) rfl ⟨w1.heap.size,0,none⟩ 1 1 [.int .i64 id,.int .i64 (item:Int),.int .i64 q] rfl rfl (Qhn _ _ _ _ (by simp)) (by simp [Value.oneCell']) (by have:=HN.1;omega) (by decide) (by omega) ?_;intro g2 cap2 w5 h5 _;clear c0 cf hlb;obtain ⟨c0,cf⟩:=h5.cB1 0 rfl;have hlb:=h5.lt 0 rfl;have H5:=zk h5;clear h5));go_ret;rw [HB.1];refine ⟨rfl,?_⟩;have h6:=H5.1.sAt 0 0 (.slice (some ⟨g2,0,none⟩) (l.length+1) cap2) rfl;refine Heap.Dr (v:=.slice (some ⟨g2,0,none⟩) (l.length+1) cap2) (by have:=HN.1;simp;omega) ?_;rw [show (l++ [(⟨id,item,q⟩:Pc)]).length=l.length+1 by simp,show ZL (l++ [(⟨id,item,q⟩:Pc)])=ZL l++ [.int .i64 id,.int .i64 (item:Int),.int .i64 q] by simp [ZL,Pc.cells]];exact h6
   ·have HB:As (Yc l id item q=(8,l)):=⟨by simp [Yc,hm,hq,hz]⟩;have hd:decide (0≤ZQ l id)=true:=hq;rw [hm] at HM;clear hm hz hq;generalize ZQ l id=f at *;clear hss;go_enter Tryz.func264,Tryz.ntmps264;go_wp2_with (first|(go_at_call 113;refine (HM.1 _).m0 ?_)|(go_at_call 119;refine HF.1.m2 fun w1 hb=>?_;have H1:=zk (HH.1.below hb);clear hb));go_ret;rw [HB.1];exact ⟨rfl,H1.1⟩
end Go.Proofs.YtlnghlamnehfjaaGreatDoor.S
