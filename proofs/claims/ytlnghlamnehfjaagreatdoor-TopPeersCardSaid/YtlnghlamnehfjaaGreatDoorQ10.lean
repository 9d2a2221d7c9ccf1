/- Part Q10. -/
import Derived.Still
import Derived.StillTail
import Derived.Tactics
import Derived.KernelRfl
set_option linter.unusedVariables false
set_option linter.unusedSimpArgs false
set_option maxRecDepth 100000
set_option maxHeartbeats 64000000
namespace Go
section
variable {P:Program} {ops:Array Oper} {md:Region.Mode} {C:World→Prop}
def YieldsIn' (P:Program) (ops:Array Oper) (w:World) (o:Oper) (v:Value) (a:Act):Prop:=
 (Region.wanted o (yielded ops a.tmps)=true∧((execOp a.eval o).run P w=.ok (.value v) w∨((execOp a.eval o).run P w=.ok .skip w∧v=undef)))∨
 (Region.wanted o (yielded ops a.tmps)=false∧v=undef)
theorem YieldsIn'.at {w:World} {o:Oper} {v:Value} {a:Act} (h:YieldsIn' P ops w o v a):YieldsAt P ops w o v a:=by
 rcases h with ⟨h,h1|h1⟩|h;exact .inl ⟨h,.inl h1⟩;exact .inl ⟨h,.inr (.inl h1)⟩;exact .inr h
theorem YieldsIn'.of_same {w:World} {o:Oper} {v:Value} {a a':Act} (hy:YieldsIn' P ops w o v a) (he:execOp a'.eval o=execOp a.eval o)
 (hw:Region.wanted o (yielded ops a'.tmps)=Region.wanted o (yielded ops a.tmps)):YieldsIn' P ops w o v a':=by
 unfold YieldsIn' at *;rw [he,hw];exact hy
def Xn (P:Program) (ops:Array Oper) (C:World→Prop) (o:Oper) (v:Value) (a:Act):Prop:=∀w,C w→YieldsIn' P ops w o v a
theorem Xn.of_same {o:Oper} {v:Value} {a a':Act} (hy:Xn P ops C o v a) (he:execOp a'.eval o=execOp a.eval o)
 (hw:Region.wanted o (yielded ops a'.tmps)=Region.wanted o (yielded ops a.tmps)):Xn P ops C o v a':=fun w h=>(hy w h).of_same he hw
abbrev noQ:Exit→Act→World→Prop:=fun _ _ _=>False
def XV (P:Program) (ops:Array Oper) (C:World→Prop) (i:Nat) (K:Act→World→Prop) (a:Act) (w:World):Prop:=wpOp P ops noQ i (fun a' w'=>C w'∧K a' w') a w
def VM (P:Program) (md:Region.Mode) (ops:Array Oper) (eff:Nat→Bool) (C:World→Prop) (Q:Act→World→Prop):Nat→Array Bool→Act→World→Prop
 |0,listed,a,w=>Region.ready md ops listed= []∧Q a w
 |fuel+1,listed,a,w=>
  (Region.ready md ops listed= []→Q a w)∧
  ∀i∈Region.ready md ops listed,if eff i=true then XV P ops C i (VM P md ops eff C Q fuel (listed.setIfInBounds i true)) a w
   else stOp P ops w i (fun a'=>VM P md ops eff C Q fuel (listed.setIfInBounds i true) a' w) a
theorem Qze {o:Oper} {a:Act} {w:World} {K:Act→World→Prop} {Q:Exit→Act→World→Prop} (h:o.wp P a w K noQ):o.wp P a w K Q:=by
 unfold Oper.wp at *;generalize (execOp a.eval o).run P w=r at *;cases r with
 |ok n w'=>
  cases n<;>simp only [Oper.upon] at h⊢
  case enter f args=>
   refine Calls.mono h fun e w'' he=>?_;cases e with
   |returned u=>exact he
   |panicked c=>exact he.elim
   |outgrown=>exact absurd he (by simp [LetsOut,noQ])
  all_goals first|exact h|exact h.elim
 |halt x w'=>cases x<;>simp only [Oper.upon] at h⊢ <;>first|exact h.elim|exact h
theorem Qb9 {i:Nat} {a:Act} {w:World} {K:Act→World→Prop} {Q:Exit→Act→World→Prop} (h:wpOp P ops noQ i K a w):wpOp P ops Q i K a w:=by
 unfold wpOp at *;split;simpa [*] using h;rename_i o ho;simp only [ho] at h;split;rename_i hw;simp only [hw,if_true] at h;rcases h with h|⟨_,h⟩;exact .inl (Qze h);exact absurd h (by simp [LetsOut,noQ]);rename_i hw;simp only [hw] at h;exact h
theorem Yt {eff:Nat→Bool} {Q:Act→World→Prop} {Q':Exit→Act→World→Prop} (hQ:∀a w,Q a w→Q' .normal a w):∀(fuel:Nat) (listed:Array Bool) (a:Act) (w:World),
 VM P md ops eff C Q fuel listed a w→wpAny P md ops Q' fuel listed a w
 |0,_,_,_,h=>⟨h.1,hQ _ _ h.2⟩
 |fuel+1,_,a,w,h=>⟨fun h0=>hQ _ _ (h.1 h0),fun i hi=>by
  have h2:=h.2 i hi;split at h2;exact Qb9 (wpOp_mono (fun a' w' hk=>Yt hQ fuel _ a' w' hk.2) h2);exact wpOp_of_stOp (fun a' hk=>Yt hQ fuel _ a' w hk) h2⟩
theorem Jr {j:Nat} {oi oj:Oper} {v:Value} (hj:ops[j]? =some oj) (hap:oi.apart ops oj=true)
 (hsi:∀cs b,oi.op≠ .select cs b) (hsj:∀cs b,oj.op≠ .select cs b) {K:Act→World→Prop} {a:Act} {w:World}
 (hy:Xn P ops C oi v a) (h:XV P ops C j K (a.put oi.dst v) w):
 XV P ops C j (fun a' w'=>Xn P ops C oi v a'∧K (a'.put oi.dst v) w') a w:=by
 obtain ⟨h1,h2,h3⟩:=Oper.apart_spec hap;have keep:∀(a:Act),Xn P ops C oi v a→∀u,Xn P ops C oi v (a.put oj.dst u):=fun a hy u=>
  hy.of_same (execOp_put oi hsi a oj.dst u h3) (wanted_put oi a oj.dst u h3)
 have keepD:∀d,Xn P ops C oi v {a with defers:=d::a.defers}:=fun d=>hy.of_same rfl rfl;unfold XV wpOp at *;simp only [hj] at *;rw [wanted_put oj a oi.dst v h1] at h;split
 ·rename_i hw;simp only [hw,if_true] at h;rcases h with h|⟨hasks,hlets⟩
  case inr=>exact absurd hlets (by simp [LetsOut,noQ])
  refine .inl ?_;unfold Oper.wp at *;rw [execOp_put oj hsj a oi.dst v h1] at h;generalize (execOp a.eval oj).run P w=r at *;cases r with
  |ok n w'=>
   cases n<;>simp only [Oper.upon] at h⊢
   case value u=>exact ⟨h.1,keep a hy u,by rw [←Act.put_comm a v u h2];exact h.2⟩
   case skip=>exact ⟨h.1,keep a hy _,by rw [←Act.put_comm a v undef h2];exact h.2⟩
   case defer d=>
    refine ⟨h.1,keep _ (keepD d) _,?_⟩;rw [←Act.put_comm _ v undef h2,←Act.put_defers];exact h.2
   case enter f args=>
    refine Calls.mono h fun e w'' he=>?_;cases e with
    |returned u=>exact ⟨he.1,keep a hy u,by rw [←Act.put_comm a v u h2];exact he.2⟩
    |panicked c=>exact he.elim
    |outgrown=>exact he
   case row row args=>exact Rows.mono h fun u w'' he=>⟨he.1,keep a hy u,by rw [←Act.put_comm a v u h2];exact he.2⟩
  |halt x w'=>cases x<;>simp only [Oper.upon] at h⊢ <;>exact h
 rename_i hw;simp only [hw] at h;exact ⟨h.1,keep a hy _,by rw [←Act.put_comm a v undef h2];exact h.2⟩
theorem Qad {w:World} {j:Nat} {oi oj:Oper} {v:Value} (hj:ops[j]? =some oj) (hap:oi.apart ops oj=true)
 (hsi:∀cs b,oi.op≠ .select cs b) (hsj:∀cs b,oj.op≠ .select cs b) {K:Act→Prop} {a:Act}
 (hy:Xn P ops C oi v a) (h:stOp P ops w j K (a.put oi.dst v)):
 stOp P ops w j (fun a'=>Xn P ops C oi v a'∧K (a'.put oi.dst v)) a:=by
 obtain ⟨h1,h2,h3⟩:=Oper.apart_spec hap;have keep:∀(a:Act),Xn P ops C oi v a→∀u,Xn P ops C oi v (a.put oj.dst u):=fun a hy u=>
  hy.of_same (execOp_put oi hsi a oj.dst u h3) (wanted_put oi a oj.dst u h3)
 unfold stOp at *;simp only [hj] at *;rw [wanted_put oj a oi.dst v h1] at h;split
 ·rename_i hw;simp only [hw,if_true] at h;unfold Oper.still at *;rw [execOp_put oj hsj a oi.dst v h1] at h;generalize (execOp a.eval oj).run P w=r at *;cases r with
  |ok n w'=>
   cases n<;>simp only [Oper.stillUpon] at h⊢
   case value u=>exact ⟨h.1,keep a hy u,by rw [←Act.put_comm a v u h2];exact h.2⟩
   case skip=>exact ⟨h.1,keep a hy _,by rw [←Act.put_comm a v undef h2];exact h.2⟩
   case enter f args=>obtain ⟨hw',u,hc,hn⟩:=h;exact ⟨hw',u,hc,keep a hy u,by rw [←Act.put_comm a v u h2];exact hn⟩
  |halt x w'=>simp only [Oper.stillUpon] at h
 rename_i hw;simp only [hw] at h;exact ⟨keep a hy _,by rw [←Act.put_comm a v undef h2];exact h⟩
theorem JL {i:Nat} {oj:Oper} {listed:Array Bool} (hr:i∈Region.ready md ops listed) (hall:∀e∈oj.after,Region.binds md e=true→listed.getD e.on false=true):
 ∀e∈oj.after,Region.binds md e=true→e.on≠i:=fun e he hb heq=>by
 have h1:=hall e he hb;have h0:=(mem_ready.1 hr).1;rw [heq] at h1;rcases Nat.lt_or_ge i listed.size with h'|h';simp [h'] at h0 h1;rw [h0] at h1;cases h1;simp [Array.getElem?_eq_none h'] at h1
theorem Qaj {eff:Nat→Bool} {Q:Act→World→Prop} {i:Nat} {oi:Oper} {v:Value} (hi:ops[i]? =some oi) (hsel:∀(j:Nat) (o:Oper) cs b,ops[j]? =some o→o.op≠ .select cs b) (hei:eff i=false):
 ∀(fuel:Nat) (listed:Array Bool) (a:Act) (w:World),C w→
  (∀j oj,ops[j]? =some oj→j≠i→listed.getD j true=false→(∀e∈oj.after,Region.binds md e=true→e.on≠i)→oi.apart ops oj=true)→
  i∈Region.ready md ops listed→Xn P ops C oi v a→
  VM P md ops eff C Q fuel (listed.setIfInBounds i true) (a.put oi.dst v) w→VM P md ops eff C Q (fuel+1) listed a w:=by
 intro fuel
 induction fuel with
 |zero=>
  intro listed a w hC _ hr hy H;refine ⟨fun h=>(by rw [h] at hr;cases hr),fun j hj=>?_⟩;by_cases hji:j=i;subst hji;rw [if_neg (by simp [hei])];exact (hy w hC).at.stOp hi H;have:=ready_mono hj hji;rw [H.1] at this;cases this
 |succ fuel ih=>
  intro listed a w hC hfree hr hy H;refine ⟨fun h=>(by rw [h] at hr;cases hr),fun j hj=>?_⟩;by_cases hji:j=i;subst hji;rw [if_neg (by simp [hei])];exact (hy w hC).at.stOp hi H
  ·have h1:=H.2 j (ready_mono hj hji);obtain ⟨hjun,oj,hoj,hall⟩:=mem_ready.1 hj;have hap:=hfree j oj hoj hji hjun (JL hr hall);have hfree':∀k ok,ops[k]? =some ok→k≠i→(listed.setIfInBounds j true).getD k true=false→
    (∀e∈ok.after,Region.binds md e=true→e.on≠i)→oi.apart ops ok=true:=fun k ok hk hki hun hno=>by
    refine hfree k ok hk hki ?_ hno;by_cases hjk:j=k;subst hjk;exact hjun;rw [getD_set_ne true hjk] at hun;exact hun
   split at h1;rename_i hej;rw [if_pos hej];have h2:=Jr hoj hap (fun cs b=>hsel i oi cs b hi) (fun cs b=>hsel j oj cs b hoj) hy h1;refine wpOp_mono (fun a' w' h3=>⟨h3.1,ih (listed.setIfInBounds j true) a' w' h3.1 hfree' (ready_mono hr (Ne.symm hji)) h3.2.1 ?_⟩) h2;rw [Array.setIfInBounds_comm _ _ hji];exact h3.2.2;rename_i hej;rw [if_neg hej];have h2:=Qad hoj hap (fun cs b=>hsel i oi cs b hi) (fun cs b=>hsel j oj cs b hoj) hy h1;refine stOp_mono (fun a' h3=>ih (listed.setIfInBounds j true) a' w hC hfree' (ready_mono hr (Ne.symm hji)) h3.1 ?_) h2;rw [Array.setIfInBounds_comm _ _ hji];exact h3.2
theorem Qfm {eff:Nat→Bool} {Q:Act→World→Prop} {i:Nat} {oi:Oper} {v:Value} {w:World} (hi:ops[i]? =some oi) (hsel:∀(j:Nat) (o:Oper) cs b,ops[j]? =some o→o.op≠ .select cs b) (hei:eff i=false)
 (L:Array Bool) (hLs:L.size=ops.size) (hL:∀j∈Region.ready md ops L,j=i):
 ∀(fuel:Nat) (listed:Array Bool) (a:Act),
  (∀j,listed.getD j false=true→L.getD j false=true)→(∀j,listed.getD j true=false→L.getD j false=true→eff j=false)→
  (∀j oj,ops[j]? =some oj→j≠i→listed.getD j true=false→(∀e∈oj.after,Region.binds md e=true→e.on≠i)→oi.apart ops oj=true)→
  i∈Region.ready md ops listed→YieldsAt P ops w oi v a→
  VM P md ops eff C Q fuel (listed.setIfInBounds i true) (a.put oi.dst v) w→VM P md ops eff C Q (fuel+1) listed a w:=by
 intro fuel
 induction fuel with
 |zero=>
  intro listed a _ _ _ hr hy H;refine ⟨fun h=>(by rw [h] at hr;cases hr),fun j hj=>?_⟩;by_cases hji:j=i;subst hji;rw [if_neg (by simp [hei])];exact hy.stOp hi H;have:=ready_mono hj hji;rw [H.1] at this;cases this
 |succ fuel ih=>
  intro listed a hsub hne hfree hr hy H;refine ⟨fun h=>(by rw [h] at hr;cases hr),fun j hj=>?_⟩;by_cases hji:j=i;subst hji;rw [if_neg (by simp [hei])];exact hy.stOp hi H
  ·have h1:=H.2 j (ready_mono hj hji);obtain ⟨hjun,oj,hoj,hall⟩:=mem_ready.1 hj;have hap:=hfree j oj hoj hji hjun (JL hr hall);have hjL:L.getD j false=true:=by
    cases hh:L.getD j false with
    |true=>rfl
    |false=>
     refine absurd (hL j (mem_ready.2 ⟨?_,oj,hoj,fun e he hb=>hsub _ (hall e he hb)⟩)) hji;have hlt:j<L.size:=by rw [hLs];exact (Array.getElem?_eq_some_iff.1 hoj).1
     simp [hlt] at hh⊢;exact hh
   have hej:¬eff j=true:=by rw [hne j hjun hjL];simp
   rw [if_neg hej] at h1⊢;have hfree':∀k ok,ops[k]? =some ok→k≠i→(listed.setIfInBounds j true).getD k true=false→
    (∀e∈ok.after,Region.binds md e=true→e.on≠i)→oi.apart ops ok=true:=fun k ok hk hki hun hno=>by
    refine hfree k ok hk hki ?_ hno;by_cases hjk:j=k;subst hjk;exact hjun;rw [getD_set_ne true hjk] at hun;exact hun
   have hsub':∀k,(listed.setIfInBounds j true).getD k false=true→L.getD k false=true:=fun k hk=>by
    by_cases hjk:j=k;subst hjk;exact hjL;rw [getD_set_ne false hjk] at hk;exact hsub k hk
   have hne':∀k,(listed.setIfInBounds j true).getD k true=false→L.getD k false=true→eff k=false:=fun k hk hl=>by
    by_cases hjk:j=k;subst hjk;simpa using hej;rw [getD_set_ne true hjk] at hk;exact hne k hk hl
   have h2:=stOp_put hoj hap (fun cs b=>hsel i oi cs b hi) (fun cs b=>hsel j oj cs b hoj) hy h1;refine stOp_mono (fun a' h3=>ih (listed.setIfInBounds j true) a' hsub' hne' hfree' (ready_mono hr (Ne.symm hji)) h3.1 ?_) h2;rw [Array.setIfInBounds_comm _ _ hji];exact h3.2
def Region.fill (md:Region.Mode) (ops:Array Oper) (no:Nat→Bool):Nat→Array Bool→Array Bool
 |0,L=>L
 |f+1,L=>Region.fill md ops no f ((Region.ready md ops L).foldl (fun L j=>if no j then L else L.setIfInBounds j true) L)
inductive Mk where|e|f|s
 deriving DecidableEq
def Mk.eff:Option Mk→Bool
 |some .e=>true
 |_=>false
def Region.Qbh (md:Region.Mode) (ops:Array Oper) (eff:Nat→Bool):List (Nat×Mk)→Array Bool→Bool
 | [],listed=>(Region.ready md ops listed).isEmpty
 |(i,.e)::r,listed=>(Region.ready md ops listed== [i])&&eff i&&Region.Qbh md ops eff r (listed.setIfInBounds i true)
 |(i,.f)::r,listed=>(Region.ready md ops listed).contains i&&Region.free md ops listed i&& !eff i&&Region.Qbh md ops eff r (listed.setIfInBounds i true)
 |(i,.s)::r,listed=>(Region.ready md ops listed).contains i&&Region.free md ops listed i&& !eff i&&
    (let L:=Region.fill md ops (fun j=>j==i||eff j) ops.size listed
     L.size==ops.size&&(Region.ready md ops L).all (· ==i)&&(List.range ops.size).all fun j=>(!listed.getD j false||L.getD j false)&&(listed.getD j true|| !L.getD j false|| !eff j))&&
    Region.Qbh md ops eff r (listed.setIfInBounds i true)
def XU (P:Program) (ops:Array Oper) (C:World→Prop) (Q:Act→World→Prop):List (Nat×Mk)→Act→World→Prop
 | [],a,w=>Q a w
 |(i,.e)::r,a,w=>XV P ops C i (XU P ops C Q r) a w
 |(i,.f)::r,a,w=>∃o v,ops[i]? =some o∧Xn P ops C o v a∧XU P ops C Q r (a.put o.dst v) w
 |(i,.s)::r,a,w=>stOp P ops w i (fun a'=>XU P ops C Q r a' w) a
theorem Vs (hs:Region.noSelect ops=true) {eff:Nat→Bool} {Q:Act→World→Prop}:∀(l:List (Nat×Mk)) (listed:Array Bool) (a:Act) (w:World),listed.size=ops.size→C w→
 Region.Qbh md ops eff l listed=true→XU P ops C Q l a w→VM P md ops eff C Q l.length listed a w
 | [],listed,a,w,_,_,hB,h=>⟨by simpa [Region.Qbh] using hB,h⟩
 |(i,.e)::r,listed,a,w,hz,hC,hB,h=>by
  simp only [Region.Qbh,Bool.and_eq_true,beq_iff_eq] at hB;obtain ⟨⟨hr,he⟩,hB⟩:=hB;refine ⟨fun h0=>(by rw [hr] at h0;cases h0),fun j hj=>?_⟩;rw [hr,List.mem_singleton] at hj;subst hj;rw [if_pos he];have h:wpOp P ops noQ j (fun a' w'=>C w'∧XU P ops C Q r a' w') a w:=h;exact wpOp_mono (fun a' w' hk=>⟨hk.1,Vs hs r _ a' w' (by simpa using hz) hk.1 hB hk.2⟩) h
 |(i,.f)::r,listed,a,w,hz,hC,hB,h=>by
  simp only [Region.Qbh,Bool.and_eq_true,Bool.not_eq_true'] at hB;obtain ⟨⟨⟨hr,hf⟩,he⟩,hB⟩:=hB;obtain ⟨o,v,ho,hy,h⟩:=h;exact Qaj ho (Region.noSelect_spec hs) he r.length listed a w hC (Region.free_spec ho hf) (by simpa using hr) hy (Vs hs r _ _ w (by simpa using hz) hC hB h)
 |(i,.s)::r,listed,a,w,hz,hC,hB,h=>by
  simp only [Region.Qbh,Bool.and_eq_true,Bool.not_eq_true',beq_iff_eq,List.all_eq_true,List.mem_range,Bool.or_eq_true] at hB;obtain ⟨⟨⟨⟨hr,hf⟩,he⟩,⟨hLs,hL⟩,hLj⟩,hB⟩:=hB;have hr':i∈Region.ready md ops listed:=by simpa using hr
  obtain ⟨_,o,ho,_⟩:=mem_ready.1 hr';obtain ⟨v,hy,hK⟩:=yieldsAt_of_stOp ho h;refine Qfm ho (Region.noSelect_spec hs) he _ hLs (fun j hj=>hL j hj) r.length listed a ?_ ?_ (Region.free_spec ho hf) hr' hy (Vs hs r _ _ w (by simpa using hz) hC hB hK)
  ·intro j hj;have hlt:j<ops.size:=by
    rw [←hz];rcases Nat.lt_or_ge j listed.size with h'|h';exact h';simp [Array.getElem?_eq_none h'] at hj
   rcases (hLj j hlt).1 with h1|h1;rw [hj] at h1;cases h1;exact h1
  ·intro j hj hl;have hlt:j<ops.size:=by
    rw [←hz];rcases Nat.lt_or_ge j listed.size with h'|h';exact h';simp [Array.getElem?_eq_none h'] at hj
   rcases (hLj j hlt).2 with (h1|h1)|h1;rw [hj] at h1;cases h1;rw [hl] at h1;cases h1;exact h1
def Region.Dh (l:List (Nat×Mk)) (i:Nat):Bool:=l.any fun p=>p.1==i&&p.2== .e
theorem VV {id:Nat} {Q:Exit→Act→World→Prop} {a:Act} {w:World} {l:List Oper} (C:World→Prop) (ord:List (Nat×Mk)) (hm:P.follows .mixedOrders=true)
 (hB:(Region.noSelect l.toArray&&(ord.length==l.length)&&Region.Qbh .any l.toArray (Region.Dh ord) ord (Array.replicate l.length false))=true)
 (hC:C {w with drawn:=w.drawn+1}) (h:XU P l.toArray C (fun a' w'=>Q .normal a' w') ord a {w with drawn:=w.drawn+1}):(Code.region id l.toArray true).wp P Q a w:=by
 simp only [Bool.and_eq_true,beq_iff_eq] at hB;refine wp_region_any hm (Yt (eff:=Region.Dh ord) (C:=C) (Q:=fun a' w'=>Q .normal a' w') (fun _ _ h=>h) _ _ _ _ ?_);have:=Vs (md:=.any) hB.1.1 ord (Array.replicate l.length false) a _ (by simp) hC hB.2 h;rw [hB.1.2] at this;simpa using this
theorem wro {id:Nat} {Q:Exit→Act→World→Prop} {a:Act} {w:World} {l:List Oper} (C:World→Prop) (ord:List (Nat×Mk)) (hC:C {w with drawn:=w.drawn+1}) (h:XU P l.toArray C (fun a' w'=>Q .normal a' w') ord a {w with drawn:=w.drawn+1}) (hm:P.follows .mixedOrders=true:=by kernel_rfl) (hB:(Region.noSelect l.toArray&&(ord.length==l.length)&&Region.Qbh .any l.toArray (Region.Dh ord) ord (Array.replicate l.length false))=true:=by kernel_rfl):(Code.region id l.toArray true).wp P Q a w:=VV C ord hm hB hC h
theorem Xh {id:Nat} {Q:Exit→Act→World→Prop} {a:Act} {w:World} {l:List Oper} (ord:List (Nat×Mk)) (h:XU P l.toArray (fun _=>True) (fun a' w'=>Q .normal a' w') ord a {w with drawn:=w.drawn+1}) (hm:P.follows .mixedOrders=true:=by kernel_rfl) (hB:(Region.noSelect l.toArray&&(ord.length==l.length)&&Region.Qbh .any l.toArray (Region.Dh ord) ord (Array.replicate l.length false))=true:=by kernel_rfl):(Code.region id l.toArray true).wp P Q a w:=VV _ ord hm hB trivial h
section
variable {Q:Act→World→Prop} {r:List (Nat×Mk)} {a:Act} {w:World} {i:Nat} {o:Oper}
theorem vn (h:Q a w):XU P ops C Q [] a w:=h
theorem vs_ (ho:ops[i]? =some o) (h:∀K:Act→Prop,(∀a',XU P ops C Q r a' w→K a')→if Region.wanted o (yielded ops a.tmps) then o.still P a w K else K (a.put o.dst undef)):XU P ops C Q ((i,.s)::r) a w:=by
 have:=h _ (fun _ h=>h)
 show stOp P ops w i _ a
 unfold stOp;simp only [ho];exact this
theorem vf_ (v:Value) (ho:ops[i]? =some o) (hg:o.guard=none) (h:∀w',C w'→(execOp a.eval o).run P w'=.ok (.value v) w') (hn:XU P ops C Q r (a.put o.dst v) w):XU P ops C Q ((i,.f)::r) a w:=
 ⟨o,v,ho,fun w' hw'=>.inl ⟨by simp [Region.wanted,hg],.inl (h w' hw')⟩,hn⟩
theorem vg (ho:ops[i]? =some o) (hg:o.guard=none) (h:∃v,(∀w',C w'→(execOp a.eval o).run P w'=.ok (.value v) w')∧XU P ops C Q r (a.put o.dst v) w):XU P ops C Q ((i,.f)::r) a w:=
 let ⟨v,h1,h2⟩:=h
 vf_ v ho hg h1 h2
theorem ex2 {p q:Value→Prop} {v:Value} (h:p v) (k:q v):∃v,p v∧q v:=⟨v,h,k⟩
def Qe2 (C:World→Prop) (K:Act→World→Prop):Exit→Act→World→Prop
 |.normal,a,w=>C w∧K a w
 |_,_,_=>False
theorem JP {K K2:Act→World→Prop} (h:o.wp P a w K (Qe2 C K2)):o.wp P a w K noQ:=by
 unfold Oper.wp at *;generalize (execOp a.eval o).run P w=r at *;cases r with
 |ok n w'=>
  cases n<;>simp only [Oper.upon] at h⊢
  case enter f args=>
   refine Calls.mono h fun e w'' he=>?_;cases e with
   |returned u=>exact he
   |panicked c=>exact he.elim
   |outgrown=>exact absurd he (by rintro ⟨_,_,h⟩;exact h)
  all_goals first|exact h|exact h.elim
 |halt x w'=>cases x<;>simp only [Oper.upon] at h⊢ <;>first|exact h.elim|exact h
theorem ve (ho:ops[i]? =some o) (hg:o.guard=none) (h:wpList P ops (Qe2 C (XU P ops C Q r)) [o] a w):XU P ops C Q ((i,.e)::r) a w:=by
 show XV P ops C i _ a w
 unfold XV wpOp;simp only [ho,show Region.wanted o (yielded ops a.tmps)=true by simp [Region.wanted,hg],if_true];left;simp only [wpList,show Region.wanted o (yielded ops a.tmps)=true by simp [Region.wanted,hg],if_true] at h;rcases h with h|⟨_,_,_,h⟩;exact JP h;exact h.elim
end
end
structure Kk (p:Prop):Prop where
 out:p
theorem vR {A B:Prop} (q:B) (h:Kk B→A:=by (intro kk;(first|(refine vg rfl rfl ?_;apply ex2;intro w' hw';go_simp;rfl;go_simp)|(refine vs_ rfl (fun K hK=>?_);go_simp;refine hK _ ?_;clear hK K));(repeat (first|(refine vg rfl rfl ?_;apply ex2;intro w' hw';go_simp;rfl;go_simp)|(refine vs_ rfl (fun K hK=>?_);go_simp;refine hK _ ?_;clear hK K)));exact kk.1)):A:=h ⟨q⟩
inductive OT where
 |nil
 |op (i:Nat) (m:Mk) (r:OT)
 |fork (i:Nat) (r s:OT)
def OT.Dh:OT→Nat→Bool
 |.nil,_=>false
 |.op i m r,j=>(i==j&&m== .e)||r.Dh j
 |.fork i r s,j=>i==j||r.Dh j||s.Dh j
section
variable {P:Program} {ops:Array Oper} {md:Region.Mode} {C:World→Prop} {eff:Nat→Bool} {Q:Act→World→Prop}
def OT.okB (md:Region.Mode) (ops:Array Oper) (eff:Nat→Bool):OT→Nat→Array Bool→List Nat→Bool
 |.nil,n,L,seen=>n==0&&(Region.ready md ops L).isEmpty&&seen.isEmpty
 |.op _ _ _,0,_,_=>false
 |.op i .e r,n+1,L,seen=>(Region.ready md ops L).contains i&&(Region.ready md ops L).all (fun j=>j==i||seen.contains j)&&eff i&&r.okB md ops eff n (L.setIfInBounds i true) []
 |.op i .f r,n+1,L,seen=>seen.isEmpty&&(Region.ready md ops L).contains i&&Region.free md ops L i&& !eff i&&r.okB md ops eff n (L.setIfInBounds i true) []
 |.op i .s r,n+1,listed,seen=>seen.isEmpty&&((Region.ready md ops listed).contains i&&Region.free md ops listed i&& !eff i&&
  (let L:=Region.fill md ops (fun j=>j==i||eff j) ops.size listed
   L.size==ops.size&&(Region.ready md ops L).all (· ==i)&&(List.range ops.size).all fun j=>(!listed.getD j false||L.getD j false)&&(listed.getD j true|| !L.getD j false|| !eff j)))&&
  r.okB md ops eff n (listed.setIfInBounds i true) []
 |.fork _ _ _,0,_,_=>false
 |.fork i r s,n+1,L,seen=>eff i&&r.okB md ops eff n (L.setIfInBounds i true) []&&s.okB md ops eff (n+1) L (i::seen)
def wpT (P:Program) (ops:Array Oper) (C:World→Prop) (Q:Act→World→Prop):OT→Act→World→Prop
 |.nil,a,w=>Q a w
 |.op i .e r,a,w=>XV P ops C i (wpT P ops C Q r) a w
 |.op i .f r,a,w=>∃o v,ops[i]? =some o∧Xn P ops C o v a∧wpT P ops C Q r (a.put o.dst v) w
 |.op i .s r,a,w=>stOp P ops w i (fun a'=>wpT P ops C Q r a' w) a
 |.fork i r s,a,w=>XV P ops C i (wpT P ops C Q r) a w∧wpT P ops C Q s a w
def Qi3 (P:Program) (md:Region.Mode) (ops:Array Oper) (eff:Nat→Bool) (C:World→Prop) (Q:Act→World→Prop):Nat→Array Bool→List Nat→Act→World→Prop
 |0,L,seen,a,w=>seen= []∧VM P md ops eff C Q 0 L a w
 |n+1,L,seen,a,w=>Region.ready md ops L≠ []∧∀i∈Region.ready md ops L,i∈seen∨(if eff i=true then XV P ops C i (VM P md ops eff C Q n (L.setIfInBounds i true)) a w
  else stOp P ops w i (fun a'=>VM P md ops eff C Q n (L.setIfInBounds i true) a' w) a)
theorem Qi3.mix:∀{n:Nat} {L:Array Bool} {a:Act} {w:World},Qi3 P md ops eff C Q n L [] a w→VM P md ops eff C Q n L a w
 |0,_,_,_,h=>h.2
 |n+1,_,_,_,h=>⟨fun h0=>absurd h0 h.1,fun i hi=>(h.2 i hi).elim (fun h=>by cases h) id⟩
theorem Yk (hs:Region.noSelect ops=true):∀(t:OT) (n:Nat) (L:Array Bool) (seen:List Nat) (a:Act) (w:World),L.size=ops.size→C w→
 t.okB md ops eff n L seen=true→wpT P ops C Q t a w→Qi3 P md ops eff C Q n L seen a w
 |.nil,n,L,seen,a,w,_,_,hB,h=>by
  simp only [OT.okB,Bool.and_eq_true,beq_iff_eq,List.isEmpty_iff] at hB;obtain ⟨⟨rfl,h1⟩,h2⟩:=hB;exact ⟨h2,h1,h⟩
 |.op i .e r,n+1,L,seen,a,w,hz,hC,hB,h=>by
  simp only [OT.okB,Bool.and_eq_true,List.all_eq_true,Bool.or_eq_true,beq_iff_eq] at hB;obtain ⟨⟨⟨hi,hr⟩,he⟩,hB⟩:=hB;have hi':i∈Region.ready md ops L:=by simpa using hi
  refine ⟨fun h0=>(by rw [h0] at hi';cases hi'),fun j hj=>?_⟩;rcases hr j hj with rfl|h1;refine .inr ?_;rw [if_pos he];have h:wpOp P ops noQ j (fun a' w'=>C w'∧wpT P ops C Q r a' w') a w:=h;exact wpOp_mono (fun a' w' hk=>⟨hk.1,(Yk hs r n _ [] a' w' (by simpa using hz) hk.1 hB hk.2).mix⟩) h;exact .inl (by simpa using h1)
 |.op i .f r,n+1,L,seen,a,w,hz,hC,hB,h=>by
  simp only [OT.okB,Bool.and_eq_true,Bool.not_eq_true',List.isEmpty_iff] at hB;obtain ⟨⟨⟨⟨h0,hr⟩,hf⟩,he⟩,hB⟩:=hB;obtain ⟨o,v,ho,hy,h⟩:=h;have hr':i∈Region.ready md ops L:=by simpa using hr
  have:=Qaj ho (Region.noSelect_spec hs) he n L a w hC (Region.free_spec ho hf) hr' hy (Yk hs r n _ [] _ w (by simpa using hz) hC hB h).mix;exact ⟨fun h0=>(by rw [h0] at hr';cases hr'),fun j hj=>.inr (this.2 j hj)⟩
 |.op i .s r,n+1,L,seen,a,w,hz,hC,hB,h=>by
  simp only [OT.okB,Bool.and_eq_true,Bool.not_eq_true',beq_iff_eq,List.all_eq_true,List.mem_range,Bool.or_eq_true,List.isEmpty_iff] at hB;obtain ⟨⟨h0,⟨⟨⟨hr,hf⟩,he⟩,⟨hLs,hL⟩,hLj⟩⟩,hB⟩:=hB;have hr':i∈Region.ready md ops L:=by simpa using hr
  obtain ⟨_,o,ho,_⟩:=mem_ready.1 hr';obtain ⟨v,hy,hK⟩:=yieldsAt_of_stOp ho h;have:=Qfm (C:=C) (Q:=Q) ho (Region.noSelect_spec hs) he _ hLs (fun j hj=>hL j hj) n L a ?_ ?_ (Region.free_spec ho hf) hr' hy (Yk hs r n _ [] _ w (by simpa using hz) hC hB hK).mix;exact ⟨fun h0=>(by rw [h0] at hr';cases hr'),fun j hj=>.inr (this.2 j hj)⟩
  ·intro j hj;have hlt:j<ops.size:=by
    rw [←hz];rcases Nat.lt_or_ge j L.size with h'|h';exact h';simp [Array.getElem?_eq_none h'] at hj
   rcases (hLj j hlt).1 with h1|h1;rw [hj] at h1;cases h1;exact h1
  ·intro j hj hl;have hlt:j<ops.size:=by
    rw [←hz];rcases Nat.lt_or_ge j L.size with h'|h';exact h';simp [Array.getElem?_eq_none h'] at hj
   rcases (hLj j hlt).2 with (h1|h1)|h1;rw [hj] at h1;cases h1;rw [hl] at h1;cases h1;exact h1
 |.fork i r s,n+1,L,seen,a,w,hz,hC,hB,h=>by
  simp only [OT.okB,Bool.and_eq_true] at hB;obtain ⟨⟨he,hB1⟩,hB2⟩:=hB;have h2:=Yk hs s (n+1) L (i::seen) a w hz hC hB2 h.2;refine ⟨h2.1,fun j hj=>?_⟩;rcases h2.2 j hj with h3|h3;rcases List.mem_cons.1 h3 with rfl|h3;refine .inr ?_;rw [if_pos he];have h:wpOp P ops noQ j (fun a' w'=>C w'∧wpT P ops C Q r a' w') a w:=h.1;exact wpOp_mono (fun a' w' hk=>⟨hk.1,(Yk hs r n _ [] a' w' (by simpa using hz) hk.1 hB1 hk.2).mix⟩) h;exact .inl h3;exact .inr h3
theorem wrt {id:Nat} {Q:Exit→Act→World→Prop} {a:Act} {w:World} {l:List Oper} (C:World→Prop) (t:OT) (hm:P.follows .mixedOrders=true)
 (hB:(Region.noSelect l.toArray&&t.okB .any l.toArray t.Dh l.length (Array.replicate l.length false) [])=true)
 (hC:C {w with drawn:=w.drawn+1}) (h:wpT P l.toArray C (fun a' w'=>Q .normal a' w') t a {w with drawn:=w.drawn+1}):(Code.region id l.toArray true).wp P Q a w:=by
 simp only [Bool.and_eq_true] at hB;refine wp_region_any hm (Yt (eff:=t.Dh) (C:=C) (Q:=fun a' w'=>Q .normal a' w') (fun _ _ h=>h) _ _ _ _ ?_);have:=(Yk (md:=.any) hB.1 t l.length (Array.replicate l.length false) [] a _ (by simp) hC hB.2 h).mix;simpa using this
end
section
variable {P:Program} {ops:Array Oper} {C:World→Prop} {Q:Act→World→Prop} {r s:OT} {a:Act} {w:World} {i:Nat} {o:Oper}
theorem vtn (h:Q a w):wpT P ops C Q .nil a w:=h
theorem vts (ho:ops[i]? =some o) (h:∀K:Act→Prop,(∀a',wpT P ops C Q r a' w→K a')→if Region.wanted o (yielded ops a.tmps) then o.still P a w K else K (a.put o.dst undef)):wpT P ops C Q (.op i .s r) a w:=by
 have:=h _ (fun _ h=>h)
 show stOp P ops w i _ a
 unfold stOp;simp only [ho];exact this
theorem vtg (ho:ops[i]? =some o) (hg:o.guard=none) (h:∃v,(∀w',C w'→(execOp a.eval o).run P w'=.ok (.value v) w')∧wpT P ops C Q r (a.put o.dst v) w):wpT P ops C Q (.op i .f r) a w:=
 let ⟨v,h1,h2⟩:=h
 ⟨o,v,ho,fun w' hw'=>.inl ⟨by simp [Region.wanted,hg],.inl (h1 w' hw')⟩,h2⟩
theorem effT (ho:ops[i]? =some o) (hg:o.guard=none) (h:wpList P ops (Qe2 C (wpT P ops C Q r)) [o] a w):XV P ops C i (wpT P ops C Q r) a w:=by
 unfold XV wpOp;simp only [ho,show Region.wanted o (yielded ops a.tmps)=true by simp [Region.wanted,hg],if_true];left;simp only [wpList,show Region.wanted o (yielded ops a.tmps)=true by simp [Region.wanted,hg],if_true] at h;rcases h with h|⟨_,_,_,h⟩;exact JP h;exact h.elim
theorem vte (ho:ops[i]? =some o) (hg:o.guard=none) (h:wpList P ops (Qe2 C (wpT P ops C Q r)) [o] a w):wpT P ops C Q (.op i .e r) a w:=effT ho hg h
theorem vtf (ho:ops[i]? =some o) (hg:o.guard=none) (h:wpList P ops (Qe2 C (wpT P ops C Q r)) [o] a w) (h2:wpT P ops C Q s a w):wpT P ops C Q (.fork i r s) a w:=⟨effT ho hg h,h2⟩
end
section
variable {P:Program} {ops:Array Oper} {md:Region.Mode} {C:World→Prop} {eff:Nat→Bool} {X:List Nat} {Q:Act→World→Prop}
def Region.needs (md:Region.Mode) (ops:Array Oper):Nat→Nat→Nat→Bool
 |0,_,_=>false
 |f+1,j,i=>match ops[j]? with
  |none=>false
  |some o=>o.after.any fun e=>Region.binds md e&&(e.on==i||Region.needs md ops f e.on i)
def Closed (md:Region.Mode) (ops:Array Oper) (L:Array Bool):Prop:=∀k o,ops[k]? =some o→L.getD k false=true→∀e∈o.after,Region.binds md e=true→L.getD e.on false=true
theorem Region.Db {L:Array Bool} (hc:Closed md ops L):∀(f j i:Nat),Region.needs md ops f j i=true→(∀o,ops[j]? =some o→∀e∈o.after,Region.binds md e=true→L.getD e.on false=true)→L.getD i false=true
 |0,_,_,h,_=>by cases h
 |f+1,j,i,h,hl=>by
  unfold Region.needs at h;cases ho:ops[j]? with
  |none=>rw [ho] at h;cases h
  |some o=>
   rw [ho] at h;simp only [Array.any_eq_true'] at h;obtain ⟨e,he,h⟩:=h;simp only [Bool.and_eq_true,Bool.or_eq_true,beq_iff_eq] at h;have h1:=hl o ho e he h.1;rcases h.2 with h2|h2;rw [←h2];exact h1;exact Region.Db hc f e.on i h2 (fun o' ho'=>hc _ o' ho' h1)
theorem Closed.set {L:Array Bool} {j:Nat} (hc:Closed md ops L) (hj:j∈Region.ready md ops L):Closed md ops (L.setIfInBounds j true):=by
 intro k o ho hk e he hb;by_cases hjk:j=k;subst hjk;obtain ⟨_,o',ho',hall⟩:=mem_ready.1 hj;rw [ho] at ho';cases ho';exact getD_set_true (hall e he hb);rw [getD_set_ne false hjk] at hk;exact getD_set_true (hc k o ho hk e he hb)
def Zy (P:Program) (md:Region.Mode) (ops:Array Oper) (eff:Nat→Bool) (X:List Nat) (C:World→Prop) (Q:Act→World→Prop):Nat→Array Bool→Act→World→Prop
 |0,listed,a,w=>Region.ready md ops listed= []∧Q a w
 |fuel+1,listed,a,w=>
  (Region.ready md ops listed= []→Q a w)∧
  ∀i∈Region.ready md ops listed,if X.contains i=true then XV P ops (fun _=>True) i (VM P md ops eff (fun _=>True) Q fuel (listed.setIfInBounds i true)) a w
   else if eff i=true then XV P ops C i (Zy P md ops eff X C Q fuel (listed.setIfInBounds i true)) a w
   else stOp P ops w i (fun a'=>Zy P md ops eff X C Q fuel (listed.setIfInBounds i true) a' w) a
theorem VR {Q':Exit→Act→World→Prop} (hQ:∀a w,Q a w→Q' .normal a w):∀(fuel:Nat) (listed:Array Bool) (a:Act) (w:World),
 Zy P md ops eff X C Q fuel listed a w→wpAny P md ops Q' fuel listed a w
 |0,_,_,_,h=>⟨h.1,hQ _ _ h.2⟩
 |fuel+1,_,a,w,h=>⟨fun h0=>hQ _ _ (h.1 h0),fun i hi=>by
  have h2:=h.2 i hi;split at h2;exact Qb9 (wpOp_mono (fun a' w' hk=>Yt hQ fuel _ a' w' hk.2) h2);split at h2;exact Qb9 (wpOp_mono (fun a' w' hk=>VR hQ fuel _ a' w' hk.2) h2);exact wpOp_of_stOp (fun a' hk=>VR hQ fuel _ a' w hk) h2⟩
theorem Qpc {i:Nat} {oi:Oper} {v:Value} (hi:ops[i]? =some oi) (hsel:∀(j:Nat) (o:Oper) cs b,ops[j]? =some o→o.op≠ .select cs b) (hei:eff i=false) (hXi:X.contains i=false)
 (hX:∀j,X.contains j=true→Region.needs md ops ops.size j i=true):
 ∀(fuel:Nat) (listed:Array Bool) (a:Act) (w:World),C w→Closed md ops listed→
  (∀j oj,ops[j]? =some oj→j≠i→listed.getD j true=false→(∀e∈oj.after,Region.binds md e=true→e.on≠i)→oi.apart ops oj=true)→
  i∈Region.ready md ops listed→Xn P ops C oi v a→
  Zy P md ops eff X C Q fuel (listed.setIfInBounds i true) (a.put oi.dst v) w→Zy P md ops eff X C Q (fuel+1) listed a w:=by
 intro fuel
 induction fuel with
 |zero=>
  intro listed a w hC _ _ hr hy H;refine ⟨fun h=>(by rw [h] at hr;cases hr),fun j hj=>?_⟩;by_cases hji:j=i;subst hji;rw [if_neg (by rw [hXi];simp),if_neg (by simp [hei])];exact (hy w hC).at.stOp hi H;have:=ready_mono hj hji;rw [H.1] at this;cases this
 |succ fuel ih=>
  intro listed a w hC hcl hfree hr hy H;refine ⟨fun h=>(by rw [h] at hr;cases hr),fun j hj=>?_⟩;by_cases hji:j=i;subst hji;rw [if_neg (by rw [hXi];simp),if_neg (by simp [hei])];exact (hy w hC).at.stOp hi H
  ·have h1:=H.2 j (ready_mono hj hji);obtain ⟨hjun,oj,hoj,hall⟩:=mem_ready.1 hj;have hap:=hfree j oj hoj hji hjun (JL hr hall);have hfree':∀k ok,ops[k]? =some ok→k≠i→(listed.setIfInBounds j true).getD k true=false→
    (∀e∈ok.after,Region.binds md e=true→e.on≠i)→oi.apart ops ok=true:=fun k ok hk hki hun hno=>by
    refine hfree k ok hk hki ?_ hno;by_cases hjk:j=k;subst hjk;exact hjun;rw [getD_set_ne true hjk] at hun;exact hun
   have hjX:X.contains j=false:=by
    cases hh:X.contains j with
    |false=>rfl
    |true=>
     have h3:=Region.Db hcl _ j i (hX j hh) (fun o ho e he hb=>by rw [hoj] at ho;cases ho;exact hall e he hb);have h0:=(mem_ready.1 hr).1;rcases Nat.lt_or_ge i listed.size with h'|h';simp [h'] at h0 h3;rw [h0] at h3;cases h3;simp [Array.getElem?_eq_none h'] at h3
   rw [if_neg (by rw [hjX];simp)] at h1⊢;split at h1;rename_i hej;rw [if_pos hej];have h2:=Jr hoj hap (fun cs b=>hsel i oi cs b hi) (fun cs b=>hsel j oj cs b hoj) hy h1;refine wpOp_mono (fun a' w' h3=>⟨h3.1,ih (listed.setIfInBounds j true) a' w' h3.1 (hcl.set hj) hfree' (ready_mono hr (Ne.symm hji)) h3.2.1 ?_⟩) h2;rw [Array.setIfInBounds_comm _ _ hji];exact h3.2.2;rename_i hej;rw [if_neg hej];have h2:=Qad hoj hap (fun cs b=>hsel i oi cs b hi) (fun cs b=>hsel j oj cs b hoj) hy h1;refine stOp_mono (fun a' h3=>ih (listed.setIfInBounds j true) a' w hC (hcl.set hj) hfree' (ready_mono hr (Ne.symm hji)) h3.1 ?_) h2;rw [Array.setIfInBounds_comm _ _ hji];exact h3.2
theorem Qoj {i:Nat} {oi:Oper} {v:Value} (hi:ops[i]? =some oi) (hsel:∀(j:Nat) (o:Oper) cs b,ops[j]? =some o→o.op≠ .select cs b) (hei:eff i=false) (hXi:X.contains i=false):
 ∀(fuel:Nat) (listed:Array Bool) (a:Act) (w:World),C w→
  (∀j oj,ops[j]? =some oj→j≠i→listed.getD j true=false→(∀e∈oj.after,Region.binds md e=true→e.on≠i)→oi.apart ops oj=true)→
  i∈Region.ready md ops listed→Xn P ops (fun _=>True) oi v a→
  Zy P md ops eff X C Q fuel (listed.setIfInBounds i true) (a.put oi.dst v) w→Zy P md ops eff X C Q (fuel+1) listed a w:=by
 intro fuel
 induction fuel with
 |zero=>
  intro listed a w hC _ hr hy H;refine ⟨fun h=>(by rw [h] at hr;cases hr),fun j hj=>?_⟩;by_cases hji:j=i;subst hji;rw [if_neg (by rw [hXi];simp),if_neg (by simp [hei])];exact (hy w trivial).at.stOp hi H;have:=ready_mono hj hji;rw [H.1] at this;cases this
 |succ fuel ih=>
  intro listed a w hC hfree hr hy H;refine ⟨fun h=>(by rw [h] at hr;cases hr),fun j hj=>?_⟩;by_cases hji:j=i;subst hji;rw [if_neg (by rw [hXi];simp),if_neg (by simp [hei])];exact (hy w trivial).at.stOp hi H
  ·have h1:=H.2 j (ready_mono hj hji);obtain ⟨hjun,oj,hoj,hall⟩:=mem_ready.1 hj;have hap:=hfree j oj hoj hji hjun (JL hr hall);have hfree':∀k ok,ops[k]? =some ok→k≠i→(listed.setIfInBounds j true).getD k true=false→
    (∀e∈ok.after,Region.binds md e=true→e.on≠i)→oi.apart ops ok=true:=fun k ok hk hki hun hno=>by
    refine hfree k ok hk hki ?_ hno;by_cases hjk:j=k;subst hjk;exact hjun;rw [getD_set_ne true hjk] at hun;exact hun
   split at h1;rename_i hx;rw [if_pos hx];have h2:=Jr hoj hap (fun cs b=>hsel i oi cs b hi) (fun cs b=>hsel j oj cs b hoj) hy h1;refine wpOp_mono (fun a' w' h3=>⟨trivial,Qaj hi hsel hei fuel (listed.setIfInBounds j true) a' w' trivial hfree' (ready_mono hr (Ne.symm hji)) h3.2.1 ?_⟩) h2;rw [Array.setIfInBounds_comm _ _ hji];exact h3.2.2;rename_i hx;rw [if_neg hx];split at h1;rename_i hej;rw [if_pos hej];have h1':XV P ops (fun _=>True) j (fun a' w'=>C w'∧Zy P md ops eff X C Q fuel ((listed.setIfInBounds i true).setIfInBounds j true) a' w') (a.put oi.dst v) w:=wpOp_mono (fun a' w' h=>⟨trivial,h⟩) h1;have h2:=Jr hoj hap (fun cs b=>hsel i oi cs b hi) (fun cs b=>hsel j oj cs b hoj) hy h1';refine wpOp_mono (fun a' w' h3=>⟨h3.2.2.1,ih (listed.setIfInBounds j true) a' w' h3.2.2.1 hfree' (ready_mono hr (Ne.symm hji)) h3.2.1 ?_⟩) h2;rw [Array.setIfInBounds_comm _ _ hji];exact h3.2.2.2;rename_i hej;rw [if_neg hej];have h2:=Qad hoj hap (fun cs b=>hsel i oi cs b hi) (fun cs b=>hsel j oj cs b hoj) hy h1;refine stOp_mono (fun a' h3=>ih (listed.setIfInBounds j true) a' w hC hfree' (ready_mono hr (Ne.symm hji)) h3.1 ?_) h2;rw [Array.setIfInBounds_comm _ _ hji];exact h3.2
def OT.okX (md:Region.Mode) (ops:Array Oper) (eff:Nat→Bool) (X:List Nat):OT→Nat→Array Bool→List Nat→Bool
 |.nil,n,L,seen=>n==0&&(Region.ready md ops L).isEmpty&&seen.isEmpty
 |.op _ _ _,0,_,_=>false
 |.op i .e r,n+1,L,seen=>(Region.ready md ops L).contains i&&(Region.ready md ops L).all (fun j=>j==i||seen.contains j)&&eff i&&(if X.contains i then r.okB md ops eff n (L.setIfInBounds i true) [] else r.okX md ops eff X n (L.setIfInBounds i true) [])
 |.op i .f r,n+1,L,seen=>seen.isEmpty&&(Region.ready md ops L).contains i&&Region.free md ops L i&& !eff i&& !X.contains i&&r.okX md ops eff X n (L.setIfInBounds i true) []
 |.op _ .s _,_+1,_,_=>false
 |.fork _ _ _,0,_,_=>false
 |.fork i r s,n+1,L,seen=>eff i&& !X.contains i&&(Region.ready md ops L).contains i&&r.okX md ops eff X n (L.setIfInBounds i true) []&&s.okX md ops eff X (n+1) L (i::seen)
def wpX (P:Program) (ops:Array Oper) (X:List Nat) (C:World→Prop) (Q:Act→World→Prop):OT→Act→World→Prop
 |.nil,a,w=>Q a w
 |.op i .e r,a,w=>if X.contains i=true then XV P ops (fun _=>True) i (wpT P ops (fun _=>True) Q r) a w else XV P ops C i (wpX P ops X C Q r) a w
 |.op i .f r,a,w=>∃o v,ops[i]? =some o∧((X.all (fun j=>Region.needs .any ops ops.size j i)=true∧Xn P ops C o v a)∨Xn P ops (fun _=>True) o v a)∧wpX P ops X C Q r (a.put o.dst v) w
 |.op _ .s _,_,_=>False
 |.fork i r s,a,w=>XV P ops C i (wpX P ops X C Q r) a w∧wpX P ops X C Q s a w
def Qdr (P:Program) (md:Region.Mode) (ops:Array Oper) (eff:Nat→Bool) (X:List Nat) (C:World→Prop) (Q:Act→World→Prop):Nat→Array Bool→List Nat→Act→World→Prop
 |0,L,seen,a,w=>seen= []∧Zy P md ops eff X C Q 0 L a w
 |n+1,L,seen,a,w=>Region.ready md ops L≠ []∧∀i∈Region.ready md ops L,i∈seen∨(if X.contains i=true then XV P ops (fun _=>True) i (VM P md ops eff (fun _=>True) Q n (L.setIfInBounds i true)) a w
  else if eff i=true then XV P ops C i (Zy P md ops eff X C Q n (L.setIfInBounds i true)) a w
  else stOp P ops w i (fun a'=>Zy P md ops eff X C Q n (L.setIfInBounds i true) a' w) a)
theorem Qdr.mix:∀{n:Nat} {L:Array Bool} {a:Act} {w:World},Qdr P md ops eff X C Q n L [] a w→Zy P md ops eff X C Q n L a w
 |0,_,_,_,h=>h.2
 |n+1,_,_,_,h=>⟨fun h0=>absurd h0 h.1,fun i hi=>(h.2 i hi).elim (fun h=>by cases h) id⟩
theorem Yu (hs:Region.noSelect ops=true):∀(t:OT) (n:Nat) (L:Array Bool) (seen:List Nat) (a:Act) (w:World),L.size=ops.size→C w→Closed .any ops L→
 t.okX .any ops eff X n L seen=true→wpX P ops X C Q t a w→Qdr P .any ops eff X C Q n L seen a w
 |.nil,n,L,seen,a,w,_,_,_,hB,h=>by
  simp only [OT.okX,Bool.and_eq_true,beq_iff_eq,List.isEmpty_iff] at hB;obtain ⟨⟨rfl,h1⟩,h2⟩:=hB;exact ⟨h2,h1,h⟩
 |.op i .e r,n+1,L,seen,a,w,hz,hC,hcl,hB,h=>by
  simp only [OT.okX,Bool.and_eq_true,List.all_eq_true,Bool.or_eq_true,beq_iff_eq] at hB;obtain ⟨⟨⟨hi,hr⟩,he⟩,hB⟩:=hB;have hi':i∈Region.ready .any ops L:=by simpa using hi
  refine ⟨fun h0=>(by rw [h0] at hi';cases hi'),fun j hj=>?_⟩;rcases hr j hj with rfl|h1;refine .inr ?_;unfold wpX at h;split at h;rename_i hx;rw [if_pos hx] at hB⊢;have h:wpOp P ops noQ j (fun a' w'=>True∧wpT P ops (fun _=>True) Q r a' w') a w:=h;exact wpOp_mono (fun a' w' hk=>⟨trivial,(Yk hs r n _ [] a' w' (by simpa using hz) trivial hB hk.2).mix⟩) h;rename_i hx;rw [if_neg hx] at hB⊢;rw [if_pos he];have h:wpOp P ops noQ j (fun a' w'=>C w'∧wpX P ops X C Q r a' w') a w:=h;exact wpOp_mono (fun a' w' hk=>⟨hk.1,(Yu hs r n _ [] a' w' (by simpa using hz) hk.1 (hcl.set hj) hB hk.2).mix⟩) h;exact .inl (by simpa using h1)
 |.op i .f r,n+1,L,seen,a,w,hz,hC,hcl,hB,h=>by
  simp only [OT.okX,Bool.and_eq_true,Bool.not_eq_true',List.isEmpty_iff] at hB;obtain ⟨⟨⟨⟨⟨h0,hr⟩,hf⟩,he⟩,hx⟩,hB⟩:=hB;obtain ⟨o,v,ho,hy,h⟩:=h;have hr':i∈Region.ready .any ops L:=by simpa using hr
  have:Zy P .any ops eff X C Q (n+1) L a w:=by
   rcases hy with ⟨hxa,hy⟩|hy
   ·exact Qpc ho (Region.noSelect_spec hs) he hx (fun j hj=>by
     simp only [List.all_eq_true] at hxa;exact hxa j (by simpa using hj)) n L a w hC hcl (Region.free_spec ho hf) hr' hy (Yu hs r n _ [] _ w (by simpa using hz) hC (hcl.set hr') hB h).mix
   exact Qoj ho (Region.noSelect_spec hs) he hx n L a w hC (Region.free_spec ho hf) hr' hy (Yu hs r n _ [] _ w (by simpa using hz) hC (hcl.set hr') hB h).mix
  exact ⟨fun h0=>(by rw [h0] at hr';cases hr'),fun j hj=>.inr (this.2 j hj)⟩
 |.op i .s r,n+1,L,seen,a,w,hz,hC,hcl,hB,h=>h.elim
 |.fork i r s,n+1,L,seen,a,w,hz,hC,hcl,hB,h=>by
  simp only [OT.okX,Bool.and_eq_true,Bool.not_eq_true'] at hB;obtain ⟨⟨⟨⟨he,hx⟩,hri⟩,hB1⟩,hB2⟩:=hB;have h2:=Yu hs s (n+1) L (i::seen) a w hz hC hcl hB2 h.2;refine ⟨h2.1,fun j hj=>?_⟩;rcases h2.2 j hj with h3|h3;rcases List.mem_cons.1 h3 with rfl|h3;refine .inr ?_;rw [if_neg (by rw [hx];simp),if_pos he];have h:wpOp P ops noQ j (fun a' w'=>C w'∧wpX P ops X C Q r a' w') a w:=h.1;exact wpOp_mono (fun a' w' hk=>⟨hk.1,(Yu hs r n _ [] a' w' (by simpa using hz) hk.1 (hcl.set hj) hB1 hk.2).mix⟩) h;exact .inl h3;exact .inr h3
theorem Qkf (n:Nat):Closed md ops (Array.replicate n false):=by
 intro k o ho hk;simp only [Array.getD_eq_getD_getElem?,Array.getElem?_replicate] at hk;split at hk<;>cases hk
theorem wrx {id:Nat} {Q:Exit→Act→World→Prop} {a:Act} {w:World} {l:List Oper} (C:World→Prop) (X:List Nat) (t:OT) (hm:P.follows .mixedOrders=true)
 (hB:(Region.noSelect l.toArray&&t.okX .any l.toArray t.Dh X l.length (Array.replicate l.length false) [])=true)
 (hC:C {w with drawn:=w.drawn+1}) (h:wpX P l.toArray X C (fun a' w'=>Q .normal a' w') t a {w with drawn:=w.drawn+1}):(Code.region id l.toArray true).wp P Q a w:=by
 simp only [Bool.and_eq_true] at hB;refine wp_region_any hm (VR (eff:=t.Dh) (X:=X) (C:=C) (Q:=fun a' w'=>Q .normal a' w') (fun _ _ h=>h) _ _ _ _ ?_);have:=(Yu hB.1 t l.length (Array.replicate l.length false) [] a _ (by simp) hC (Qkf _) hB.2 h).mix;simpa using this
end
section
variable {P:Program} {ops:Array Oper} {X:List Nat} {C:World→Prop} {Q:Act→World→Prop} {r s:OT} {a:Act} {w:World} {i:Nat} {o:Oper}
theorem vxn (h:Q a w):wpX P ops X C Q .nil a w:=h
theorem vxg (hn:X.all (fun j=>Region.needs .any ops ops.size j i)=true) (ho:ops[i]? =some o) (hg:o.guard=none) (h:∃v,(∀w',C w'→(execOp a.eval o).run P w'=.ok (.value v) w')∧wpX P ops X C Q r (a.put o.dst v) w):wpX P ops X C Q (.op i .f r) a w:=
 let ⟨v,h1,h2⟩:=h
 ⟨o,v,ho,.inl ⟨hn,fun w' hw'=>.inl ⟨by simp [Region.wanted,hg],.inl (h1 w' hw')⟩⟩,h2⟩
theorem vxp (ho:ops[i]? =some o) (hg:o.guard=none) (h:∃v,(∀w',(execOp a.eval o).run P w'=.ok (.value v) w')∧wpX P ops X C Q r (a.put o.dst v) w):wpX P ops X C Q (.op i .f r) a w:=
 let ⟨v,h1,h2⟩:=h
 ⟨o,v,ho,.inr fun w' _=>.inl ⟨by simp [Region.wanted,hg],.inl (h1 w')⟩,h2⟩
theorem effX {C:World→Prop} {K:Act→World→Prop} (ho:ops[i]? =some o) (hg:o.guard=none) (h:wpList P ops (Qe2 C K) [o] a w):XV P ops C i K a w:=by
 unfold XV wpOp;simp only [ho,show Region.wanted o (yielded ops a.tmps)=true by simp [Region.wanted,hg],if_true];left;simp only [wpList,show Region.wanted o (yielded ops a.tmps)=true by simp [Region.wanted,hg],if_true] at h;rcases h with h|⟨_,_,_,h⟩;exact JP h;exact h.elim
theorem vxe (hx:X.contains i=false) (ho:ops[i]? =some o) (hg:o.guard=none) (h:wpList P ops (Qe2 C (wpX P ops X C Q r)) [o] a w):wpX P ops X C Q (.op i .e r) a w:=by
 unfold wpX;rw [if_neg (by rw [hx];simp)];exact effX ho hg h
theorem vxx (hx:X.contains i=true) (ho:ops[i]? =some o) (hg:o.guard=none) (h:wpList P ops (Qe2 (fun _=>True) (wpT P ops (fun _=>True) Q r)) [o] a w):wpX P ops X C Q (.op i .e r) a w:=by
 unfold wpX;rw [if_pos hx];exact effX ho hg h
theorem vxf (ho:ops[i]? =some o) (hg:o.guard=none) (h:wpList P ops (Qe2 C (wpX P ops X C Q r)) [o] a w) (h2:wpX P ops X C Q s a w):wpX P ops X C Q (.fork i r s) a w:=⟨effX ho hg h,h2⟩
end
end Go
