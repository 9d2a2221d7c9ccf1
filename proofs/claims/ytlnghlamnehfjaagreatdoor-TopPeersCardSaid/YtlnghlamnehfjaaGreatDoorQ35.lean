/- Part Q35. -/
import Derived.Test.YtlnghlamnehfjaaGreatDoorQ31
import Derived.Test.YtlnghlamnehfjaaGreatDoorQ34
set_option linter.unusedVariables false
set_option linter.unusedSimpArgs false
set_option maxRecDepth 100000
set_option maxHeartbeats 64000000
namespace Go.Proofs.YtlnghlamnehfjaaGreatDoor.S
open Go.RowKit Go.Maps
open Go.Sort Go.Shelf
theorem Qob (m:IM Value):intKeys (DD m)=m.map (·.1):=by
 simp only [intKeys,DD,List.map_map];rfl
theorem Qlc {V:Type} {m:IM V} (hk:m.Pairwise (fun a b=>a.1<b.1)) {ss:List Int} (hp:ss.Perm (m.map (·.1))):ss.mergeSort (fun x y=>decide (x≤y))=m.map (·.1):=by
 have h1:(ss.mergeSort (fun x y=>decide (x≤y))).Perm (m.map (·.1)):=(List.mergeSort_perm _ _).trans hp;have h2:(ss.mergeSort (fun x y=>decide (x≤y))).Pairwise (fun x y=>x≤y):=by
  have:=List.pairwise_mergeSort (le:=fun x y:Int=>decide (x≤y)) (fun a b c h1 h2=>by simp at *;omega) (fun a b=>by simp;omega) ss;exact this.imp (fun h=>by simpa using h)
 have h3:(m.map (·.1)).Pairwise (fun x y:Int=>x≤y):=(List.pairwise_map.2 hk).imp (fun h=>by omega);exact List.Perm.eq_of_pairwise (fun a b _ _ h h'=>by omega) h2 h3 h1
theorem Qv9 (mb:Option Nat) (w:World):Calls Tryz.prog 56 #[.map mb] w fun e w'=>e=.returned (.func (.func 90) #[] #[.pointer (some ⟨w.heap.size,0,none⟩)])∧w'=w.alloc (.cells #[.map mb] 118):=
 callsIn_wide.1 (AnyZI.keys_in Tryz.QBp Fence.wide 5 trivial rfl mb w)
theorem Qzc (mb:Option Nat) (w:World):Calls Tryz.prog 118 #[.map mb] w fun e w'=>e=.returned (.func (.func 142) #[] #[.pointer (some ⟨w.heap.size,0,none⟩)])∧w'=w.alloc (.cells #[.map mb] 67):=
 callsIn_wide.1 (AnyZI.keys_in Tryz.QCm Fence.wide 5 trivial rfl mb w)
theorem QE4 (m:Nat):AnyZI.SortsIn Tryz.prog Tryz.Qas Fence.wide m:=
 ⟨fun blk off cap ss W hH hblk hsz=>callsIn_wide.2 (AnyM.slices_Sort_int Tryz.QDb blk off cap ss W hH hblk hsz),
  fun p cap W=>callsIn_wide.2 (AnyM.slices_Sort_int_none Tryz.QDb p cap W)⟩
theorem Qxp:encZ=Value.int .i64:=rfl
theorem Qhi {w0 w:World} {L:List SA} {m:IM Value} (h:Heap w0 L w) (hk:Ql m) (g bx:Nat) (eg:∀args w,(callFunc g args).run Tryz.prog w=.ok (.enter g args) w)
 (hs:SeqGives Fence.wide 2 Tryz.prog g #[bx] encZ (fun ss=>ss.Perm (intKeys (DD m))) (Maps.size (DD m)) w):
 Calls Tryz.prog 55 #[.func (.func g) #[] #[bx]] w fun e w'=>∃v,e=.returned v∧Heap w0 (.slc v 3 1 m.length ((m.map (·.1)).map (Value.int .i64))::L) w':=by
 have hl:=hk.len;have hsz:Maps.size (DD m)=m.length:=Qi1 m;have cS:=AnyZI.sorted_in Tryz.Qzy Fence.wide 5 trivial trivial trivial trivial rfl (by omega) (QE4 _) (enters_of Tryz.func89 (by kernel_rfl) rfl) g #[bx] trivial eg _ _ (by rw [hsz];unfold maxLen;omega) (by rw [hsz];omega) w hs;refine (callsIn_wide.1 cS).mono ?_;rintro e w' ⟨v,ss,rfl,hS,hrow, -,hb⟩;rw [Qob] at hS;rw [Qlc hk.1 hS,Qxp] at hrow;have hlen:ss.length=m.length:=by rw [hS.length_eq,List.length_map]
 rw [hlen] at hrow;exact ⟨v,rfl,h.newRow hb hrow⟩
theorem seqA {w0 w:World} {L:List SA} {b bx:Nat} {m:IM Value} (h:Heap w0 (.pts bx (.cells #[.map (some b)] 118)::L) w) (i:Nat) (e:L[i]? =some (.map b m)):
 SeqGives Fence.wide 2 Tryz.prog 90 #[bx] encZ (fun ss=>ss.Perm (intKeys (DD m))) (Maps.size (DD m)) w:=
 AnyZI.keys_gives (ρ:=Tryz.Qg9) {Tryz.QBp with} Fence.wide _ trivial rfl (by omega) bx b m.length (DD m) w (h.lt 0 rfl) (h.cell 0 0 rfl rfl) (h.owns (i+1) (by simpa using e))
theorem seqB {w0 w:World} {L:List SA} {b bx:Nat} {m:IM Value} (h:Heap w0 (.pts bx (.cells #[.map (some b)] 67)::L) w) (i:Nat) (e:L[i]? =some (.map b m)):
 SeqGives Fence.wide 2 Tryz.prog 142 #[bx] encZ (fun ss=>ss.Perm (intKeys (DD m))) (Maps.size (DD m)) w:=
 AnyZI.keys_gives (ρ:=Tryz.Qfv) {Tryz.QCm with} Fence.wide _ trivial rfl (by omega) bx b m.length (DD m) w (h.lt 0 rfl) (h.cell 0 0 rfl rfl) (h.owns (i+1) (by simpa using e))
theorem YD (w0:World) (bx:Nat) (v:Value) (l:List Int) (hl:l.length≤100000):
 Uu w0 87 #[bx] [.pts bx (.cells #[v] 53),.slc v 3 1 l.length (l.map (Value.int .i64))] l encI:=by
 intro n y J Jx R W hY h;have HY:=zk hY;have H:=zk h;obtain ⟨d0,df0⟩:=h.cB1 1 rfl;obtain ⟨a,cap,rfl⟩:=vS2 (h.row 2 rfl);have HC:As (∀(W:World) (j:Nat) (L:List SA),Heap w0 (.slc (.slice a l.length cap) 3 1 l.length (l.map (Value.int .i64))::L) W→(h:j<l.length)→∃g,a=some ⟨g,0,none⟩∧W.cell? ⟨g,j,none⟩=some (.int .i64 l[j])):=⟨fun W j L h hj=>by
  obtain ⟨a',cap',e,hcap⟩:=ZY (h.row 0 rfl) (by simp);cases e;obtain ⟨g,h1,h2⟩:=hcap j (by simpa using hj);exact ⟨g,h1,by rw [h2];simp⟩⟩
 clear h hY;have hdp:Fence.wide.depth=none:=rfl;have hwf:∀f,Fence.wide.fn f=True:=fun _=>rfl;refine callsIn_of_wp Tryz.func87 rfl trivial ?_ rfl;simp only [Tryz.ntmps87,List.size_toArray,List.length_cons,List.length_nil,Nat.reduceAdd,Nat.reduceSub,Array.replicate_succ,Array.replicate_zero,List.push_toArray,List.append_toArray,List.nil_append,List.cons_append]
 gi_wp2
 gi_loopw [4,7] (fun q p wr=>∃k:Nat,p=.int .i64 (k:Int)∧k≤l.length∧As (Heap w0 (J k::.pts bx (.cells #[.slice a l.length cap] 53)::.slc (.slice a l.length cap) 3 1 l.length (l.map (Value.int .i64))::R) wr)) (fun q p wr=>l.length-(intOf p).toNat)
 case atStart=>exact ⟨0,by simp,by omega,H⟩
 case round=>
  obtain ⟨k,rfl,hk,H1⟩:=hrel;clear d0 df0;by_cases hlt:k<l.length
  ·obtain ⟨g,rfl,hcw⟩:=HC.1 wr k _ (H1.1.frt 2 rfl) hlt;obtain ⟨fn,tmps,assign,body,hy,hR⟩:=HY.1 k l[k] (List.getElem?_eq_getElem hlt) _ _ H1.1;have HR:=zk hR;have hml1:(k:Int)<(l.length:Int):=by omega
   have hm0:(0:Int)≤(k:Int):=by omega
   have HM:=zk hlt;simp only [encI] at hy;generalize l[k]=b at *;clear hR
   gi_wp2
   refine HR.1.mono ?_;rintro en W4 (⟨rfl,h4⟩|⟨rfl,h4⟩)
   ·have H4:=zk h4;clear h4
    gi_wp2
    refine ⟨⟨k+1,rfl,by omega,H4⟩,?_⟩;simp [intOf];omega
   ·have H4:=zk h4;clear h4
    gi_wp2
    refine bodyPost_ret (results_none rfl _ _ _) rfl ⟨⟨_,rfl⟩,.inr ⟨k,HM.1,H4.1⟩⟩
  ·obtain rfl:k=l.length:=by omega
   gi_wp2
   go_end0;exact ⟨⟨_,rfl⟩,.inl H1.1⟩
theorem Qzo {w0 w:World} {L:List SA} {b:Nat} {m:IM Value} (h:Heap w0 L w) (i:Nat) (e:L[i]? =some (.map b m)) (hk:Ql m):
 Calls Tryz.prog 55 #[.func (.func 90) #[] #[.pointer (some ⟨w.heap.size,0,none⟩)]] (w.alloc (.cells #[.map (some b)] 118)) fun e w'=>∃v,e=.returned v∧Heap w0 (.slc v 3 1 m.length ((m.map (·.1)).map (Value.int .i64))::L) w':=by
 have h2:=h.new (.cells #[.map (some b)] 118);exact Qhi h2.drop hk 90 w.heap.size (enters_of Tryz.func90 (by kernel_rfl) rfl) (seqA h2 i e)
theorem Qzm {w0 w:World} {L:List SA} {b:Nat} {m:IM Value} (h:Heap w0 L w) (i:Nat) (e:L[i]? =some (.map b m)) (hk:Ql m):
 Calls Tryz.prog 55 #[.func (.func 142) #[] #[.pointer (some ⟨w.heap.size,0,none⟩)]] (w.alloc (.cells #[.map (some b)] 67)) fun e w'=>∃v,e=.returned v∧Heap w0 (.slc v 3 1 m.length ((m.map (·.1)).map (Value.int .i64))::L) w':=by
 have h2:=h.new (.cells #[.map (some b)] 67);exact Qhi h2.drop hk 142 w.heap.size (enters_of Tryz.func142 (by kernel_rfl) rfl) (seqB h2 i e)
def Qx0 (w0:World) (l:List Int) (R:List SA) (e:Ending) (w':World):Prop:=∃bx v,e=.returned (.func (.func 87) #[] #[.pointer (some ⟨bx,0,none⟩)])∧Heap w0 (.pts bx (.cells #[v] 53)::.slc v 3 1 l.length (l.map (Value.int .i64))::R) w'
end Go.Proofs.YtlnghlamnehfjaaGreatDoor.S
