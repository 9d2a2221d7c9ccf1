/- Part Q20. -/
import Derived.Test.YtlnghlamnehfjaaGreatDoorQ08
import Derived.Deep.DeepCutAuto
import Derived.Deep.CutBlock
import Derived.BigRegion
set_option linter.unusedVariables false
set_option linter.unusedSimpArgs false
set_option maxRecDepth 100000
set_option maxHeartbeats 64000000
namespace Go.Proofs.YtlnghlamnehfjaaGreatDoor.S
open Go.RowKit Go.Maps
theorem Qhn (w:World) (n:Nat) (cs:Array Value) (T:TypeId) (hn:n=w.heap.size):∀(j:Nat) u,cs.toList[j]? =some u→(w.alloc (.cells cs T)).cell? ((⟨n,0,none⟩:Addr).add j)=some u:=by
 intro j u hu;subst hn;have e:(⟨w.heap.size,0,none⟩:Addr).add j=⟨w.heap.size,j,none⟩:=by unfold Addr.add;split<;>simp_all
 rw [e,World.cell?_alloc_new];simpa using hu
theorem Qil {w0 w:World} {R:List SA} (g n cap:Nat) (l:List Msg) (h:Heap w0 (.slc (.slice (some ⟨g,0,none⟩) n cap) 113 7 n (Qk l)::R) w) (hi:0<n) (hn:As (n=l.length)):
 Calls Tryz.prog 81 #[.slice (some ⟨g,0,none⟩) n cap,.int .i64 0,.int .i64 1] w fun e w'=>e=.returned (.slice (some ⟨g,0,none⟩) (n-1) cap)∧
  Heap w0 (.slc (.slice (some ⟨g,0,none⟩) (n-1) cap) 113 7 (n-1) (Qk (l.drop 1))::R) w':=by
 have:=Qfh g n cap 0 l h hi hn;rw [List.drop_one];simpa using this
theorem Qwj {w0 w:World} {b:Nat} {p:Post} {ms:List Msg} {vs:Value} {R:List SA} (h:Heap w0 (.post b p::.slc vs 113 7 ms.length (Qk ms)::R) w) (hms:ms.length<1000):
 CH 66 #[b,vs] w (.tuple #[]) w0 (.post b (p.puts ms)::.slc vs 113 7 ms.length (Qk ms)::R):=by
 obtain ⟨i0,hi0,hz0,hz1,hz2⟩:=info_parts DZ;have HI:=zk (And.intro hi0 (And.intro hz0 (And.intro hz1 hz2)));clear hi0 hz0 hz1 hz2;have H:=zk h;rcases h.shp 1 rfl with ⟨rfl,hn,hx⟩|⟨g,cap,rfl,hnc,hcm,hx⟩
 ·have hn0:ms= []:=List.eq_nil_of_length_eq_zero hn;subst hn0;clear h hms hx hn;go_enter Tryz.func66,Tryz.ntmps66;go_wp2
  go_loopg [10] 0 (fun gk v wr=>v=.int .i64 0∧wr=w)
  case atStart=>exact ⟨rfl,rfl⟩
  case round=>
   obtain ⟨rfl,rfl⟩:=hrel;go_wp2;go_end0;exact ⟨rfl,H.1⟩
 ·clear h hx;go_enter Tryz.func66,Tryz.ntmps66;go_wp2
  go_loopg [10] ms.length (fun gk v wr=>∃k:Nat,v=.int .i64 k∧k≤ms.length∧As (gk+k=ms.length)∧As (Heap w0 (.post b (p.puts (ms.take k))::.slc (.slice (some ⟨g,0,none⟩) ms.length cap) 113 7 ms.length (Qk ms)::R) wr))
  case atStart=>exact ⟨0,rfl,Nat.zero_le _,⟨rfl⟩,H⟩
  case round=>
   obtain ⟨k,rfl,hk,HG,HR⟩:=hrel;clear H;by_cases hlt:k<ms.length
   ·obtain ⟨q,hq⟩:∃q,q=p.puts (ms.take k):=⟨_,rfl⟩;have HQ:As (p.puts (ms.take (k+1))=q.put ms[k]):=⟨by rw [hq];unfold Post.puts;rw [List.take_succ_eq_append_getElem hlt,List.foldl_append];rfl⟩;have hr:=HR.1;rw [←hq] at hr;clear HR hq;obtain ⟨hp,v,hr⟩:=hr.YU;have c0:=hr.cB3 0 rfl;have hx:∀(j:Nat) u,(Qk ms)[j]? =some u→wr.cell? ⟨g,j,none⟩=some u:=by
     rcases hr.shp 2 rfl with ⟨h,_⟩|⟨g',cap',h,_,_,hx⟩;cases h;simp only [Value.slice.injEq,Option.some.injEq,Addr.mk.injEq] at h;obtain ⟨⟨rfl,_⟩,_,rfl⟩:=h;exact hx
    have x0:wr.cell? ⟨g,k*7,none⟩=_:=hx (k*7+0) _ (mcg ms k 0 hlt (by omega));have x1:=hx (k*7+1) _ (mcg ms k 1 hlt (by omega));have x2:=hx (k*7+2) _ (mcg ms k 2 hlt (by omega));have x3:=hx (k*7+3) _ (mcg ms k 3 hlt (by omega));have x4:=hx (k*7+4) _ (mcg ms k 4 hlt (by omega));have x5:=hx (k*7+5) _ (mcg ms k 5 hlt (by omega));have x6:=hx (k*7+6) _ (mcg ms k 6 hlt (by omega));clear hx;have hb:=hr.lt 0 rfl;have hgb:=World.block_lt_of_cell? wr _ x0;have HR:=zk hr;have HP:=zk hp;generalize ms[k]=m at *;clear hr hp
    go_upto_region 4 with (fail)
    go_cut [] (fun wx=>∃g2 cap2,As (Heap w0 (.pts b (.cells #[.int .i64 q.most,.slice (some ⟨g2,0,none⟩) (q.l.length+1) cap2,.int .i64 q.lost] 86)::.slc (.slice (some ⟨g2,0,none⟩) (q.l.length+1) cap2) 113 7 (q.l.length+1) (Qk q.l++Msg.cells m)::.slc (.slice (some ⟨g,0,none⟩) ms.length cap) 113 7 ms.length (Qk ms)::R) wx))
    case first=>
     go_region_law (refine Qzb (((HR.1.alloc _).alloc _).drew) 1 v 113 7 q.l.length (Qk q.l) rfl rfl _ _ 84 rfl i0 _ 56 Tryz.underlying84 HI.1.1 HI.1.2.1 HI.1.2.2.1 HI.1.2.2.2 rfl (by decide) rfl ⟨wr.heap.size+1,0,none⟩ 1 1 (Msg.cells m) rfl rfl (Qhn _ _ _ _ (by simp)) (by simp [Msg.cells,Value.oneCell']) ⟨by have:=HP.1.2.1;have:=HP.1.2.2.1;omega⟩ (by decide) (by omega) ?_;intro g2 cap2 w2 h2 _;have d0:=h2.cB3 0 rfl;have H2:=zk h2;clear h2)
     all_goals
      go_wp2_with fail
      go_meet
      exact ⟨g2,cap2,⟨H2.1.sAt 0 1 _ rfl⟩⟩
    case rest=>
     obtain ⟨g2,cap2,H2⟩:=hcut;have d0:=H2.1.cB3 0 rfl;have hok:=HP.1;have HK:=zk (Post.QD6 HP.1 m);have hl0:0≤q.lost:=hok.2.2.2.1;have hl1:q.lost≤1000000:=hok.2.2.2.2;by_cases hroom:(q.l.length:Int)+1≤q.most
     ·have HF:As (q.put m= {q with l:=q.l++ [m]}):=⟨if_pos hroom⟩;have hd:decide (q.most<(q.l.length:Int)+1)=false:=by simpa using hroom
      clear hok;go_wp2_with fail;go_quiet (fail);go_wp2;go_roundg (ms.length-(k+1))
      case measure=>have:=HG.1;omega
      case rel=>
       refine ⟨k+1,by go_num,by omega,⟨by omega⟩,⟨?_⟩⟩;rw [HQ.1];have hk2:=HK.1;rw [HF.1] at hk2⊢;refine Heap.Jw hk2 (v:=.slice (some ⟨g2,0,none⟩) (q.l.length+1) cap2) ?_;simp only [List.length_append,List.length_cons,List.length_nil,Nat.zero_add,ZE];exact H2.1.drewN _
     ·have HF:As (q.put m= {q with l:=(q.l++ [m]).drop 1,lost:=min (q.lost+1) 1000000}):=⟨if_neg hroom⟩;have hd:decide (q.most<(q.l.length:Int)+1)=true:=by simp;omega
      clear hok;go_wp2_with fail;go_quiet (fail);go_wp2_with (go_at_call 81;refine (Qil g2 (q.l.length+1) cap2 (q.l++ [m]) (by rw [ZE];exact Heap.frt (H2.1.drewN _) 1 rfl) (by omega) ⟨by simp⟩).mono ?_;rintro e w3 ⟨rfl,h3⟩;have e0:=h3.cB3 1 rfl;have H3:=zk h3;clear h3);all_goals
       go_roundg (ms.length-(k+1))
       case measure=>have:=HG.1;omega
       case rel=>
        refine ⟨k+1,by go_num,by omega,⟨by omega⟩,⟨?_⟩⟩;rw [HQ.1];have hk2:=HK.1;rw [HF.1] at hk2⊢;refine Heap.Jw hk2 (v:=.slice (some ⟨g2,0,none⟩) q.l.length cap2) ?_;refine Heap.imp (Heap.sAt (Heap.sAt H3.1 1 1 _ rfl) 1 2 _ rfl) (fun hf=>?_);simp only [List.length_drop,List.length_append,List.length_cons,List.length_nil,Nat.zero_add,Nat.add_sub_cancel];try (first|rw [Int.min_eq_left (by omega)]|rw [Int.min_eq_right (by omega)])
        exact hf.frt 1 rfl
   ·have HE:As (ms.take k=ms):=⟨List.take_of_length_le (by omega)⟩;go_wp2;go_end0;exact ⟨rfl,by have:=HR.1;rw [HE.1] at this;exact this⟩
theorem Qtz {w0 w:World} {b:Nat} {p:Post} {R:List SA} (h:Heap w0 (.post b p::R) w) (i:Nat) (hi:i<p.l.length):
 CH 67 #[b,.int .i64 i] w (.bool true) w0 (.post b (p.put p.l[i])::R):=by
 have HH:=zk h;have HC:As (∀{w':World},Heap w0 (.post b p::R) w'→Calls Tryz.prog 80 #[b,.int .i64 i] w' fun e w''=>e=.returned (.bool true)∧w'=w''):=⟨fun h=>by
  have:=Qbw h i
  rwa [show p.has i=true by simp [Post.has,hi]] at this⟩
 obtain ⟨hp,v,h⟩:=h.YU;have c1:w.cell? ⟨b,1,none⟩=some v:=h.cell 0 1 rfl rfl;obtain ⟨g,cap,rfl,hnc,hcm,hx⟩:∃g cap,v=.slice (some ⟨g,0,none⟩) p.l.length cap∧p.l.length≤cap∧cap≤maxLen∧(∀(j:Nat) u,(Qk p.l)[j]? =some u→w.cell? ⟨g,j,none⟩=some u):=by
  rcases h.shp 1 rfl with ⟨_,hn,_⟩|h;omega;exact h
 have x0:w.cell? ⟨g,i*7,none⟩=_:=hx (i*7+0) _ (mcg p.l i 0 hi (by omega));have x1:=hx (i*7+1) _ (mcg p.l i 1 hi (by omega));have x2:=hx (i*7+2) _ (mcg p.l i 2 hi (by omega));have x3:=hx (i*7+3) _ (mcg p.l i 3 hi (by omega));have x4:=hx (i*7+4) _ (mcg p.l i 4 hi (by omega));have x5:=hx (i*7+5) _ (mcg p.l i 5 hi (by omega));have x6:=hx (i*7+6) _ (mcg p.l i 6 hi (by omega));clear hx h hp;go_enter Tryz.func67,Tryz.ntmps67;go_wp2_with (first|(go_at_call 80;refine (HC.1 HH.1).m0 ?_)|(go_at_call 66;(refine (Qwj (ms:= [p.l[i]]) (Heap.frt (Heap.XJ (size:=7) (k:=1) (Heap.nAt (n:=w.heap.size) HH.1 _ rfl) (by decide) rfl) 1 rfl) (by simp)).m1 fun w2 H2=>?_)));go_ret;exact ⟨rfl,(H2.1.frt 1 rfl).drop⟩
theorem Qje {w0 w:World} {b:Nat} {p:Post} {R:List SA} (h:Heap w0 (.post b p::R) w) (i:Int) (hi:p.has i=false):
 CE 67 #[b,.int .i64 i] w (.bool false):=by
 have hc:=Qbw h i;rw [hi] at hc;have HC:=zk hc;clear hc hi h;go_enter Tryz.func67,Tryz.ntmps67;go_wp2_with (go_at_call 80;refine (HC.1).m0 ?_);go_ret;exact ⟨rfl,rfl⟩
theorem Qs8 {w0 w:World} {b:Nat} {p:Post} {R:List SA} (h:Heap w0 (.post b p::R) w) (i:Int) (hi:p.has i=false):
 CH 50 #[b,.int .i64 i] w (.tuple #[.agg z7.toArray,.bool false]) w0 (.post b p::R):=by
 have HC:As (∀{w':World},Heap w0 (.post b p::R) w'→Calls Tryz.prog 80 #[b,.int .i64 i] w' fun e w''=>e=.returned (.bool false)∧w'=w''):=⟨fun h=>by
  have:=Qbw h i
  rwa [hi] at this⟩
 have HH:=zk h;clear hi h;go_enter Tryz.func50,Tryz.ntmps50;go_wp2_with (go_at_call 80;refine (HC.1 (HH.1.alloc _)).m0 ?_);refine bodyPost_ret (v:=.tuple #[.agg #[.int .i64 0,.int .i64 0,.int .i64 0,.int .i64 0,.int .i64 0,.int .i64 0,.int .i64 0],.bool false]) (by simp [results,Tryz.results50,go_sem]) rfl ⟨rfl,?_⟩;exact HH.1.alloc _
def Qz7 (w0:World) (R:List SA) (e:Ending) (w':World):Prop:=∃b,e=.returned (.pointer (some ⟨b,0,none⟩))∧Heap w0 (.post b ⟨256,[],0⟩::R) w'
theorem pnw {w0 w:World} {R:List SA} (h:Heap w0 R w):Calls Tryz.prog 41 #[.int .i64 256] w (Qz7 w0 R):=by
 have H:=zk h;clear h;go_enter Tryz.func41,Tryz.ntmps41;go_wp2;go_ret;exact ⟨_,rfl,Heap.Jw ⟨by decide,by decide,by decide,by decide,by decide⟩ (Heap.frt (Heap.nRw (Heap.nAt (n:=w.heap.size) H.1 _ rfl) 113 7) 1 rfl)⟩
end Go.Proofs.YtlnghlamnehfjaaGreatDoor.S
