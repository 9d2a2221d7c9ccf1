/- Part Q16. -/
import Derived.Test.YtlnghlamnehfjaaGreatDoorQ10
import Derived.Test.YtlnghlamnehfjaaGreatDoorQ15
set_option linter.unusedVariables false
set_option linter.unusedSimpArgs false
set_option maxRecDepth 100000
set_option maxHeartbeats 64000000
namespace Go.Proofs.YtlnghlamnehfjaaGreatDoor.S
open Go.RowKit Go.Maps
attribute [local go_sem] Oper.semAt_some
def Jrn.recover (j:Jrn):Jrn:= {j with sure:=j.es.length,down:=false}
theorem VI {w0 w:World} {b:Nat} {j:Jrn} {R:List SA} (h:Heap w0 (.jrn b j::R) w) (hd:j.down=true):
 Calls Tryz.prog 220 #[b] w fun e w'=>∃n,e=.returned (.int .i64 n)∧Heap w0 (.jrn b j.recover::R) w':=by
 have H:=zk h;obtain ⟨hp,ls,v,hl,h⟩:=h.Yp;have hp':=zk hp;obtain ⟨c0,c1,c2,c3,cf⟩:=h.Zh 0 rfl;rw [hd] at c3;have HA:=zk (Qdy (Heap.nAt (n:=w.heap.size) H.1 (.cells #[.int .i64 0] 3) rfl) b);clear h hp hl c0 c1 c2 cf;refine cmk Tryz.func220 rfl ?_;simp only [Tryz.ntmps220,List.size_toArray,List.length_cons,List.length_nil,Nat.reduceAdd,Nat.reduceSub,Array.replicate_succ,Array.replicate_zero,List.push_toArray,List.append_toArray,List.nil_append,List.cons_append];go_wp2_with (go_at_call 221;refine HA.1.mono ?_;rintro en w1 ⟨bx,rfl,h1⟩;have H1:=zk h1;clear h1);refine Qgt rfl (enters_of Tryz.func227 (by kernel_rfl) rfl) rfl _ _ R j.es _ (Uh w0 bx b j) (fun k=>.pts w.heap.size (.cells #[.int .i64 k] 3)) H1.1.swap [] ?assign ?body ?done
 case assign=>
  intro l v W K hK
  gi_wp2
  exact hK
 case body=>
  intro l k x v X W hx h;simp only [QK];have hk1:(k:Int)≤4096:=by
   have h1:=(List.getElem?_eq_some_iff.1 hx).1;have h2:=hp'.1.len;have h3:=hp'.1.r1;omega
  have hk0:(0:Int)≤(k:Int):=by omega
  have h:=h.drop;obtain ⟨p0,pf⟩:=h.cB1 0 rfl;have hlb:=h.lt 0 rfl;have H2:=zk h;clear h
  gi_wp2
  exact H2.1.sAt 0 0 _ rfl
 case done=>
  intro D W h;obtain ⟨hp,ls,v,hl,h⟩:=(h.frt 3 rfl).Yp;obtain ⟨c0,c1,c2,c3,cf⟩:=h.Zh 0 rfl;obtain ⟨t0,tf⟩:=h.cB1 2 rfl;have hlb:=h.lt 0 rfl;have hK:=h.at 3 rfl;have H2:=zk h;have hll:j.es.length≤ls.length:=by
   obtain ⟨tl,e1,_⟩:=hl;rw [e1];simp
  have hl2:=Jrn.Fp hp hl;have HL:=zk hl;rcases h.shp 1 rfl with ⟨rfl,hz, -⟩|⟨g,cap,rfl,hn,hcap, -⟩
  ·have he:j.es= []:=List.eq_nil_of_length_eq_zero (by omega);have hz2:ls.length=0:=hz;have hsl:∀W,(Instr.slice 142 (.slice none 0 0) none (some (.int .i64 0)) none).run Tryz.prog W=.ok (.slice none 0 0) W:=by
    intro W;have he:Tryz.prog.elem 142=9:=by kernel_rfl
    have ht:Tryz.prog.underlying 142=some (.slice (Tryz.prog.elem 142)):=by rw [he];exact Tryz.underlying142
    have hz:(Go.sizeOf 9).run Tryz.prog W=.ok 1 W:=by kernel_rfl
    rw [run_slice_h W 142 _ _ _ ht .i64 _ (by omega) (by omega),he,hz];rfl
   have ht0:W.cell? ⟨w.heap.size,0,none⟩=some (.int .i64 0):=by rw [t0,he];rfl
   have HE:=zk (And.intro he hz2);clear h hp hl hll he hz hz2 t0;go_wp2_with fail;go_quiet (fail);go_wp2_with fail;have H3:=H2.1.drewN nq;generalize W.drewN nq=W2 at H3⊢;clear c0 c1 c2 c3 cf ht0 tf hlb hK;obtain ⟨c0,c1,c2,c3,cf⟩:=H3.Zh 0 rfl;obtain ⟨t0,tf⟩:=H3.cB1 2 rfl;have ht0:W2.cell? ⟨w.heap.size,0,none⟩=some (.int .i64 0):=by rw [t0,HE.1.1];rfl
   clear t0;have hlb:=H3.lt 0 rfl;have H4:=zk H3;clear H3;refine wro (fun W'=>W'.cell? ⟨w.heap.size,0,none⟩=some (.int .i64 0)) [(0,.f),(1,.f),(2,.f),(3,.f),(4,.f),(5,.f),(6,.s),(7,.s),(8,.f),(9,.f),(10,.f),(11,.f),(12,.e),(13,.f),(14,.f),(15,.e),(16,.f),(17,.f),(18,.e)] ht0 ?_;repeat (first
    |refine vR ?_
    |(refine ve rfl rfl ?_;go_wp2_with fail;refine ⟨?_,?_⟩
      ·go_simp))
   refine vn ?_;go_wp2_with fail;have HZ:=(((H4.1.sAt 0 1 (.slice none 0 0) rfl).sAt 0 2 (.int .i64 0) rfl).sAt 0 3 (.bool false) rfl).drew;refine ⟨by simp,.inl ⟨_,_,rfl,run_takeDeferred (HZ.at 3 rfl),?_⟩⟩;refine ⟨_,results_tmp rfl _ _ _,_,rfl,?_⟩;have HY:=HZ.putAt 3 rfl (.deferred none);have hp:=hp'.1;have hr:j.recover=⟨j.room,[],0,false⟩:=by simp [Jrn.recover,HE.1.1]
   rw [hr];have hle:=hp.len;rw [HE.1.1] at hle;refine Heap.Qb0 (n:=0) (v:=.slice none 0 0) ⟨hp.r0,hp.r1,by simp,hle,Nat.le_refl _⟩ rfl ?_;have hls:ls= []:=List.eq_nil_of_length_eq_zero HE.1.2;have h9:=((HY.rmA 2 rfl).rmA 2 rfl).rmA 2 rfl;rw [hls] at h9;exact h9
  ·have hn1:(j.es.length:Int)≤(ls.length:Int):=by omega
   have hn2:(ls.length:Int)≤(cap:Int):=by omega
   have hn3:(0:Int)≤(j.es.length:Int):=by omega
   have hsl:=fun W2=>Qre (g:=g) (Nat.le_trans hll hn) ls.length W2;clear h hp hl hll hn hcap;go_wp2_with fail;go_quiet (fail);go_wp2_with fail;have H3:=H2.1.drewN nq;generalize W.drewN nq=W2 at H3⊢;clear c0 c1 c2 c3 cf t0 tf hlb hK;obtain ⟨c0,c1,c2,c3,cf⟩:=H3.Zh 0 rfl;obtain ⟨t0,tf⟩:=H3.cB1 2 rfl;have hlb:=H3.lt 0 rfl;have H4:=zk H3;clear H3;refine wro (fun W'=>W'.cell? ⟨w.heap.size,0,none⟩=some (.int .i64 (j.es.length:Nat))) [(0,.f),(1,.f),(2,.f),(3,.f),(4,.f),(5,.f),(6,.s),(7,.s),(8,.f),(9,.f),(10,.f),(11,.f),(12,.e),(13,.f),(14,.f),(15,.e),(16,.f),(17,.f),(18,.e)] t0 ?_;repeat (first
    |refine vR ?_
    |(refine ve rfl rfl ?_;go_wp2_with fail;refine ⟨?_,?_⟩
      ·go_simp))
   refine vn ?_;go_wp2_with fail;have HZ:=(((H4.1.sAt 0 1 (.slice (some ⟨g,0,none⟩) j.es.length cap) rfl).sAt 0 2 (.int .i64 (j.es.length:Nat)) rfl).sAt 0 3 (.bool false) rfl).drew;refine ⟨by simp,.inl ⟨_,_,rfl,run_takeDeferred (HZ.at 3 rfl),?_⟩⟩;refine ⟨_,results_tmp rfl _ _ _,_,rfl,?_⟩;have HY:=HZ.putAt 3 rfl (.deferred none);have hE:ls.take (j.es.length*1)=j.es.map Entry.line:=by
    obtain ⟨tl,e1,_⟩:=HL.1;rw [e1,Nat.mul_one,List.take_left' (by simp)]
   have HX:=Heap.Qww (HY.swap) j.es.length (by omega);rw [strs,←List.map_take,hE] at HX;have hp:=hp'.1;exact Heap.Qb0 (j:=j.recover) ⟨hp.r0,hp.r1,hp.es,hp.len,Nat.le_refl _⟩ rfl (((HX.swap.rmA 2 rfl).rmA 2 rfl).rmA 2 rfl)
end Go.Proofs.YtlnghlamnehfjaaGreatDoor.S
