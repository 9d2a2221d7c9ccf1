/- Contracts and plain laws of the program, part N22. -/
import Derived.Test.YtlnghlamnehfjaaGreatDoorN09
import Derived.Test.YtlnghlamnehfjaaGreatDoorN20
set_option linter.unusedVariables false
set_option linter.unusedSimpArgs false
set_option maxRecDepth 100000
set_option maxHeartbeats 64000000
namespace Go.Proofs.YtlnghlamnehfjaaGreatDoor.S
open Go.RowKit Go.Maps
theorem info191:(Tryz.prog.info? 191).map (fun i=>(i.zero,i.size,i.bytes))=some (some (.agg #[.int .i64 0,.int .i64 0,.int .i64 0]),3,24):=by kernel_rfl
def pship (l:List Pc) (id:Int) (item:Nat) (q:Int):Int×List Pc:=
 if (decide (q=0)|| !may q)=true then (1,l) else if phas l id=true then (8,l) else (0,l++ [⟨id,item,q⟩])
set_option maxHeartbeats 1000000 in
theorem pcship_ok {w0 w:World} {b:Nat} {l:List Pc} {R:List SA} (h:Heap w0 (.parcels b l::R) w) (id:Int) (item:Nat) (q:Int) (h0:1≤id) (h1:id≤999) (hi:item<8) (hn:l.length<5000):
 Calls Tryz.prog 264 #[.pointer (some ⟨b,0,none⟩),.int .i64 id,.int .i64 (item:Int),.int .i64 q] w fun e w'=>e=.returned (.int .i64 (pship l id item q).1)∧Heap w0 (.parcels b (pship l id item q).2::R) w':=by
 have HH:=zk h;have HF:=zk (pcfind_ok h id);have HM:As (∀W,Calls Tryz.prog 113 #[.int .i64 q] W fun e w'=>e=.returned (.bool (may q))∧W=w'):=⟨may_ok q⟩;have hi0:(0:Int)≤(item:Int):=by omega
 have hi1:(item:Int)<8:=by omega
 obtain ⟨hp,v,h⟩:=h.open_parcels;have hss:=h.shp 1 rfl;have H:=zk h;have HN:=zk hn;clear h hp hn;by_cases hz:q=0
 ·subst hz;go_enter Tryz.func264,Tryz.ntmps264;go_wp2;go_ret;exact ⟨by simp [pship],by rw [show (pship l id item 0).2=l by simp [pship]];exact HH.out⟩
 ·have hz1:(q==0)=false:=by simpa using hz
  cases hm:may q
  ·have HB:As (pship l id item q=(1,l)):=⟨by simp [pship,hm]⟩;rw [hm] at HM;clear hm hz;go_enter Tryz.func264,Tryz.ntmps264;go_wp2_with (go_at_call 113;refine (HM.out _).mono ?_;rintro e w' ⟨rfl,rfl⟩);go_ret;rw [HB.out];exact ⟨rfl,HH.out⟩
  ·cases hq:phas l id
   ·have HB:As (pship l id item q=(0,l++ [⟨id,item,q⟩])):=⟨by simp [pship,hm,hq,hz]⟩;have hd:decide (0≤pfind l id)=false:=hq;rw [hm] at HM;clear hm hz hq;generalize pfind l id=f at *;obtain ⟨i0,hi0',hz0,hz1',hz2⟩:=info_parts info191;have HI:=zk (And.intro hi0' (And.intro hz0 (And.intro hz1' hz2)));clear hi0' hz0 hz1' hz2;rcases hss with ⟨rfl,hy,hx⟩|⟨g,cap,rfl,hy,hx⟩;all_goals
     clear hy hx;go_enter Tryz.func264,Tryz.ntmps264;go_wp2_with (first|(go_at_call 113;refine (HM.out _).mono ?_;rintro e w' ⟨rfl,rfl⟩)|(go_at_call 119;refine HF.out.mono ?_;rintro e w1 ⟨rfl,hb⟩;have h1:=H.out.below hb;obtain ⟨c0,cf⟩:=h1.cB1 0 rfl;have hlb:=h1.lt 0 rfl;have H1:=zk h1;clear h1 hb)|(at_builtin;refine wla (H1.out.alloc _) 1 _ 191 3 l.length _ rfl rfl _ _ 180 rfl i0 _ 24 Tryz.underlying180 HI.out.1 HI.out.2.1 HI.out.2.2.1 HI.out.2.2.2 rfl (by decide) rfl ⟨w1.heap.size,0,none⟩ 1 1 [.int .i64 id,.int .i64 (item:Int),.int .i64 q] rfl rfl (cells_new _ _ _ _ (by simp)) (by simp [Value.oneCell']) (by have:=HN.out;omega) (by decide) (by omega) ?_;intro g2 cap2 w5 h5 _;clear c0 cf hlb;obtain ⟨c0,cf⟩:=h5.cB1 0 rfl;have hlb:=h5.lt 0 rfl;have H5:=zk h5;clear h5));go_ret;rw [HB.out];refine ⟨rfl,?_⟩;have h6:=H5.out.sAt 0 0 (.slice (some ⟨g2,0,none⟩) (l.length+1) cap2) rfl;refine Heap.shut_parcels (v:=.slice (some ⟨g2,0,none⟩) (l.length+1) cap2) (by have:=HN.out;simp;omega) ?_;rw [show (l++ [(⟨id,item,q⟩:Pc)]).length=l.length+1 by simp,show pcells (l++ [(⟨id,item,q⟩:Pc)])=pcells l++ [.int .i64 id,.int .i64 (item:Int),.int .i64 q] by simp [pcells,Pc.cells]];exact h6
   ·have HB:As (pship l id item q=(8,l)):=⟨by simp [pship,hm,hq,hz]⟩;have hd:decide (0≤pfind l id)=true:=hq;rw [hm] at HM;clear hm hz hq;generalize pfind l id=f at *;clear hss;go_enter Tryz.func264,Tryz.ntmps264;go_wp2_with (first|(go_at_call 113;refine (HM.out _).mono ?_;rintro e w' ⟨rfl,rfl⟩)|(go_at_call 119;refine HF.out.mono ?_;rintro e w1 ⟨rfl,hb⟩;have H1:=zk (HH.out.below hb);clear hb));go_ret;rw [HB.out];exact ⟨rfl,H1.out⟩
end Go.Proofs.YtlnghlamnehfjaaGreatDoor.S
