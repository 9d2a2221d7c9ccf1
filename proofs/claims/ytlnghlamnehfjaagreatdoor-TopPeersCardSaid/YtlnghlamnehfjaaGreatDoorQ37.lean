/- Part Q37. -/
import Derived.Test.YtlnghlamnehfjaaGreatDoorQ10
import Derived.OrdersIn
import Derived.OwnWalkIn
import Derived.RangeFuncCalls
set_option linter.unusedVariables false
set_option linter.unusedSimpArgs false
set_option maxRecDepth 100000
set_option maxHeartbeats 64000000
namespace Go
section
variable {P:Program} {ops:Array Oper} {C:World→Prop} {Q:Exit→Act→World→Prop}
theorem Qiy {l n:Nat} {row:String} {args:Array Value} {w:World} {R:Value→World→Prop} (h:Rows P row args w R):RowsIn (Fence.wide.inRound l) n P row args w R:=
 fun c cs _=>let ⟨v,w',r,s⟩:=h c cs;⟨v,w',r,by rw [fenced_inRound];exact stepsIn_wide.2 s⟩
theorem QAz {l n:Nat} {o:Oper} {a:Act} {w:World} {K:Act→World→Prop} (hd:∀c,o.op≠ .defer c) (hq:¬LetsOut Q) (h:o.wp P a w K Q∨(o.asks P a w∧LetsOut Q)):o.wpIn (Fence.wide.inRound l) n P a w K Q:=by
 rcases h with h|⟨_,h⟩
 case inr=>exact absurd h hq
 unfold Oper.wpIn;refine ⟨fun f _=>trivial,?_⟩;rw [Oper.semAt_plain _ _ _ hd];unfold Oper.wp at h;generalize (execOp a.eval o).run P w=r at *;cases r with
 |ok x w'=>
  cases x<;>simp only [Oper.upon,Oper.uponIn] at h⊢
  case enter f args=>exact ⟨fun e=>by simp [Fence.wide] at e,CallsIn.inRound l (callsIn_wide.2 h)⟩
  case row row args=>exact ⟨fun e=>by simp [Fence.wide] at e,Qiy h⟩
  all_goals first|exact h|exact h.elim
 |halt x w'=>cases x<;>simp only [Oper.upon,Oper.uponIn] at h⊢ <;>first|exact h|exact h.elim
theorem Dj {l n:Nat} {md:Region.Mode} (hd:∀(i:Nat) (o:Oper) c,ops[i]? =some o→o.op≠ .defer c) (hq:¬LetsOut Q):∀(fuel:Nat) (listed:Array Bool) (a:Act) (w:World),wpAny P md ops Q fuel listed a w→wpAnyIn (Fence.wide.inRound l) n P md ops Q fuel listed a w
 |0,_,_,_,h=>h
 |fuel+1,listed,a,w,h=>⟨h.1,fun i hi=>by
  have h2:=h.2 i hi;unfold wpOp at h2;unfold wpOpIn;split;rename_i ho;simp only [ho] at h2;exact Dj hd hq fuel _ a w h2;rename_i o ho;simp only [ho] at h2;split;rename_i hw;simp only [hw,if_true] at h2;exact Oper.wpIn_mono (fun a w=>Dj hd hq fuel _ a w) (QAz (fun c=>hd i o c ho) hq h2);rename_i hw;simp only [hw] at h2;exact ⟨fun f _=>trivial,Dj hd hq fuel _ _ w h2⟩⟩
def Region.Qin (ops:Array Oper):Bool:=ops.all fun o=>match o.op with
 |.defer _=>false
 |_=>true
theorem Qh6 (h:Region.Qin ops=true) (i:Nat) (o:Oper) (c:Call) (ho:ops[i]? =some o):o.op≠ .defer c:=by
 intro e;unfold Region.Qin at h;rw [Array.all_eq_true_iff_forall_mem] at h;have:=h o (Array.mem_of_getElem? ho);rw [e] at this;cases this
theorem Qbi {id l n:Nat} {Q:Exit→Act→World→Prop} {a:Act} {w:World} {lo:List Oper} (C:World→Prop) (ord:List (Nat×Mk)) (hm:P.follows .mixedOrders=true)
 (hB:(Region.noSelect lo.toArray&&(ord.length==lo.length)&&Region.Qbh .any lo.toArray (Region.Dh ord) ord (Array.replicate lo.length false))=true) (hD:Region.Qin lo.toArray=true) (hq:¬LetsOut Q)
 (hC:C {w with drawn:=w.drawn+1}) (h:XU P lo.toArray C (fun a' w'=>Q .normal a' w') ord a {w with drawn:=w.drawn+1}):(Code.region id lo.toArray true).wpIn (Fence.wide.inRound l) n P Q a w:=by
 simp only [Bool.and_eq_true,beq_iff_eq] at hB;refine wpIn_region_any hm (Dj (fun i o c ho=>Qh6 hD i o c ho) hq _ _ _ _ (Yt (eff:=Region.Dh ord) (C:=C) (Q:=fun a' w'=>Q .normal a' w') (fun _ _ h=>h) _ _ _ _ ?_));have:=Vs (md:=.any) hB.1.1 ord (Array.replicate lo.length false) a _ (by simp) hC hB.2 h;rw [hB.1.2] at this;simpa using this
end
end Go
