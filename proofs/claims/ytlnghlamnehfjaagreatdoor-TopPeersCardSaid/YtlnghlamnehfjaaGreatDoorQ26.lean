/- Part Q26. -/
import Derived.Test.YtlnghlamnehfjaaGreatDoorQ01
import Derived.Maps.RangeWalk
set_option linter.unusedVariables false
set_option linter.unusedSimpArgs false
set_option maxRecDepth 100000
set_option maxHeartbeats 64000000
namespace Go.Proofs.YtlnghlamnehfjaaGreatDoor.S
open Go.RowKit Go.Maps
def SA.rng (b r:Nat) (m:IM Value) (left:Lit→Bool) (cnt:Nat):SA where
 holds F w:=(∀k,F k↔k=b∨k=r)∧w.ranges Tryz.prog 3 HV b r m.length (DD m) left cnt
 here h hk:=by
  obtain ⟨h1,h2⟩:=h;rcases (h1 _).1 hk with rfl|rfl;exact h2.owns.lt;exact h2.lt
 loc h e:=by
  obtain ⟨h1,es,clock,since,seen,c0,hb,F,hs,hD,hr,rest⟩:=h;exact ⟨h1,es,clock,since,seen,c0,(e _ ((h1 _).2 (.inl rfl))).trans hb,F,hs,hD,(e _ ((h1 _).2 (.inr rfl))).trans hr,rest⟩
section
variable {w0 w:World} {l:List SA} {ops:Array Oper} {rest:List Oper} {o:Oper} {a:Act} {Q:Exit→Act→World→Prop}
theorem KM (h:Heap w0 l w) (i:Nat) (b:Nat) (m:IM Value) (e:l[i]? =some (.map b m)) (hg:o.guard=none) (x:Operand) (t te:TypeId) (hop:o.op=Op.range t x)
 (ht:Tryz.prog.underlying t=some (.map 3 te)) (hm:a.eval x=.map (some b))
 (hK:∀r w',Heap w0 (l.set i (.rng b r m (Maps.has (DD m)) (Maps.size (DD m)))) w'→wpList Tryz.prog ops Q rest (a.put o.dst (.pointer (some ⟨r,0,none⟩))) w'):wpList Tryz.prog ops Q (o::rest) a w:=by
 refine wpList_range_own w hg x t hop 3 te TF ht HV b m.length (DD m) hm (h.owns i e) ?_;intro w' hr hgr hsz;refine hK w.heap.size w' ?_;refine Heap.perm (l:=.rng b w.heap.size m (Maps.has (DD m)) (Maps.size (DD m))::l.eraseIdx i) ?_ (Vm e);refine (h.frt i e).turn hgr.os hgr.tape hgr.output hgr.size (fun F hF=>⟨fun k hk hn=>hgr.block k hk (by simp),fun k=>k=b∨k=w.heap.size,⟨fun _=>Iff.rfl,hr⟩,fun k hk=>?_⟩);rcases hk with rfl|rfl;exact .inl ((hF.1 _).2 rfl);exact .inr (Nat.le_refl _)
theorem YO (h:Heap w0 l w) (i:Nat) (b r:Nat) (m:IM Value) (left:Lit→Bool) (cnt:Nat) (e:l[i]? =some (.rng b r m left cnt)) (hg:o.guard=none) (it:Operand) (hop:o.op=Op.next it false) (hit:a.eval it=.pointer (some ⟨r,0,none⟩))
 (hDone:(∀k:Int,left (.int .i64 k)=false)→wpList Tryz.prog ops Q rest (a.put o.dst (.tuple #[.bool false])) w)
 (hMore:∀(k:Int) (v:Value) (w':World) (cnt':Nat),left (.int .i64 k)=true→Qc m k=some v→cnt'<cnt→Heap w0 (l.set i (.rng b r m (fun z=>left z&& !z.sameKey (.int .i64 k)) cnt')) w'→
   (Instr.entry (.pointer (some ⟨r,0,none⟩))).run Tryz.prog w'=.ok (.tuple #[.int .i64 k,v]) w'→wpList Tryz.prog ops Q rest (a.put o.dst (.tuple #[.bool true,.int .i64 k,v])) w'):wpList Tryz.prog ops Q (o::rest) a w:=by
 obtain ⟨hb,F,hF,F1,F2,h1,h2,⟨hf,hr⟩,hl⟩:=h.frt i e;refine wpList_next_ranges w hg it hop 3 TF HV (fun x:Int=>Value.int .i64 x) (fun v:Value=>v) ?_ (fun v y _=>⟨v,rfl⟩) b r m.length (DD m) left cnt hit hr (fun _ hn=>hDone (fun k=>hn _)) ?_;intro key kl hkey;obtain ⟨x,rfl,_⟩:=Maps.keyOf_int_inv Tryz.underlying3 hkey;exact ⟨x,rfl⟩
 ·intro x c kl y w' cnt' hk hlk hv hat hr' hlt hgr hsz hen;obtain ⟨x',ex,rfl,hwx⟩:=Maps.keyOf_int_inv Tryz.underlying3 hk;cases ex;have hy:y=(.held c,[]):=(Option.some.inj hv).symm;have hm:Qc m x=some c:=by
   have h1:=hat (.held (.int .i64 0));have h2:=hat (.held (.bool true));rw [Qwm,hy] at h1 h2;simp only [DataW.held.injEq] at h1 h2;cases hh:Qc m x with
   |some u=>rw [hh] at h1;exact congrArg some h1
   |none=>rw [hh] at h1 h2;simp at h1 h2;rw [←h1] at h2;cases h2
  refine hMore x c w' cnt' hlk hm hlt ?_ hen;refine Heap.perm (l:=.rng b r m (fun z=>left z&& !z.sameKey (.int .i64 x)) cnt'::l.eraseIdx i) ?_ (Vm e);exact (h.frt i e).turn hgr.os hgr.tape hgr.output hgr.size (fun F hF=>⟨fun k hk hn=>hgr.block k hk (fun e=>hn ((hF.1 k).2 (.inr (Option.some.inj e)))),F,⟨hF.1,hr'⟩,fun k hk=>.inl hk⟩)
theorem Heap.Qqh {b r:Nat} {m:IM Value} {left:Lit→Bool} {cnt:Nat} (h:Heap w0 (.rng b r m left cnt::l) w):Heap w0 (.map b m::l) w:=
 h.turn rfl rfl rfl (Nat.le_refl _) (fun F hF=>⟨fun _ _ _=>rfl,fun k=>k=b,⟨fun _=>Iff.rfl,hF.2.owns⟩,fun k hk=>.inl ((hF.1 k).2 (.inl hk))⟩)
end
end Go.Proofs.YtlnghlamnehfjaaGreatDoor.S
