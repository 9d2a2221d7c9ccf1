/- Part Q06. -/
import Derived.Test.YtlnghlamnehfjaaGreatDoorQ05
import Derived.StillTailTactics
import Derived.Deep.QuietTactic
import Derived.BigQuiet
set_option linter.unusedVariables false
set_option linter.unusedSimpArgs false
set_option maxRecDepth 100000
set_option maxHeartbeats 64000000
namespace Go.Proofs.YtlnghlamnehfjaaGreatDoor.S
open Go.RowKit Go.Maps
theorem Qn7 {P:Prop} (h:P:=by
 go_enter Tryz.func275,Tryz.ntmps275;go_wp2
 go_ret2
 exact ⟨by simp [sub,may, *],rfl⟩):P:=h
def may (a:Int):Bool:=decide (0≤a)&&decide (a≤1000000000)
def sub (a b:Int):Int×Int:=if (may a&&may b)=false then (0,1) else if a<b then (0,9) else (a-b,0)
theorem FU (a:Int) (w:World):CE 113 #[.int .i64 a] w (.bool (may a)):=by
 by_cases h:0≤a
 ·go_enter Tryz.func113,Tryz.ntmps113;go_wp2;go_ret;exact ⟨by simp [may,h],rfl⟩
 ·have hd:decide (0≤a)=false:=by simpa using h
  go_enter Tryz.func113,Tryz.ntmps113;go_wp2;go_ret;exact ⟨by simp [may,hd],rfl⟩
theorem Qvh (a b:Int) (w:World) (ha:0≤a) (ha1:a≤1000000000):CE 275 #[.int .i64 a,.int .i64 b] w (.tuple #[.int .i64 (sub a b).1,.int .i64 (sub a b).2]):=by
 by_cases h0:0≤b∧b≤1000000000
 ·obtain ⟨h0,h1⟩:=h0;by_cases hl:a<b;exact Qn7
  ·have hk:(may a&&may b)=true:=by simp [may];omega
   have HH:=zk (show sub a b=(a-b,0) by unfold sub;rw [if_neg (by simp [hk]),if_neg hl]);clear hk;go_enter Tryz.func275,Tryz.ntmps275;go_wp2
   go_ret2
   exact ⟨by rw [HH.1];rfl,rfl⟩
 have hd:(decide (0≤b)&&decide (b≤1000000000))=false:=by simp;omega
 by_cases h1:0≤b;have h2:¬b≤1000000000:=by omega
 have hd2:decide (b≤1000000000)=false:=by simpa using h2
 exact Qn7;have hd2:decide (0≤b)=false:=by simpa using h1
 exact Qn7
structure Xj where
 left:Int
 held:IM Int
def Xj.ok (h:Xj):Prop:=0≤h.left∧h.left≤1000000000
def SA.hold (b:Nat) (t:Xj):SA:=.ex fun bm=>.star (.pts b (.cells #[.int .i64 t.left,.map (some bm)] 219)) (.map bm (Qx (Value.int .i64) t.held))
theorem Heap.Qhl {w0 w:World} {b:Nat} {t:Xj} {R:List SA} (h:Heap w0 (.hold b t::R) w):∃bm,Heap w0 (.pts b (.cells #[.int .i64 t.left,.map (some bm)] 219)::.map bm (Qx (Value.int .i64) t.held)::R) w:=by
 obtain ⟨bm,h⟩:=h.YL;exact ⟨bm,h.XF⟩
theorem Heap.FV {w0 w:World} {b bm:Nat} {t:Xj} {R:List SA} (h:Heap w0 (.pts b (.cells #[.int .i64 t.left,.map (some bm)] 219)::.map bm (Qx (Value.int .i64) t.held)::R) w):Heap w0 (.hold b t::R) w:=
 Heap.Yr (f:=fun bm=>.star (.pts b (.cells #[.int .i64 t.left,.map (some bm)] 219)) (.map bm (Qx (Value.int .i64) t.held))) bm h.Xx
def Xj.bad (id n:Int):Bool:=decide (id<1)||decide (999<id)||decide (n=0)|| !may n
def Xj.take (t:Xj) (id n:Int):Int×Xj:=
 if Xj.bad id n=true then (1,t) else if 0<mgi t.held id then (8,t) else
 if (sub t.left n).2=0 then (0,⟨(sub t.left n).1,Qt t.held id n⟩) else ((sub t.left n).2,t)
def Xj.back (t:Xj) (id:Int):Int×Xj:=
 if mgi t.held id=0 then (6,t) else (0,⟨wrap64 (t.left+mgi t.held id),QI t.held id⟩)
theorem Qly {w0 w:World} {b:Nat} {t:Xj} {R:List SA} (h:Heap w0 (.hold b t::R) w) (ht:t.ok) (id n:Int) (h0:1≤id) (h1:id≤999) (hn:As (t.held.length<1000000)):
 CH 272 #[b,id,.int .i64 n] w (.int .i64 (t.take id n).1) w0 (.hold b (t.take id n).2::R):=by
 have HH:=zk h;obtain ⟨bm,h⟩:=h.Qhl;obtain ⟨c0,c1,cf⟩:=h.cB2 0 rfl;have hb:=h.lt 0 rfl;have H:=zk h;have HM:As (∀W,CE 113 #[.int .i64 n] W (.bool (may n))):=⟨FU n⟩;have HS:As (∀W,CE 275 #[.int .i64 t.left,.int .i64 n] W (.tuple #[.int .i64 (sub t.left n).1,.int .i64 (sub t.left n).2])):=⟨fun W=>Qvh t.left n W ht.1 ht.2⟩;clear h ht;by_cases hz:n=0
 ·subst hz;clear c0 c1;go_enter Tryz.func272,Tryz.ntmps272;go_wp2;go_ret;exact ⟨by simp [Xj.take,Xj.bad],by rw [show (t.take id 0).2=t by simp [Xj.take,Xj.bad]];exact HH.1⟩
 ·have hz1:(n==0)=false:=by simpa using hz
  cases hm:may n
  ·have HB:=zk hm;rw [hm] at HM;have HZ:=zk hz;clear c0 c1 hm hz;go_enter Tryz.func272,Tryz.ntmps272;go_wp2_with (go_at_call 113;refine (HM.1 _).m0 ?_);go_ret;exact ⟨by simp [Xj.take,Xj.bad,HB.1],by rw [show (t.take id n).2=t by simp [Xj.take,Xj.bad,HB.1]];exact HH.1⟩
  ·have HB:As (Xj.bad id n=false):=⟨by simp [Xj.bad,hm,hz];omega⟩;rw [hm] at HM;clear hm hz;by_cases hg:0<mgi t.held id
   ·have HG:=zk hg;have hd:decide (0<mgi t.held id)=true:=by simpa using hg
    clear c0 hg;go_enter Tryz.func272,Tryz.ntmps272;go_wp2_with (first|(go_at_call 113;refine (HM.1 _).m0 ?_)|(at_lookup;refine wli H.1 1 _ _ rfl rfl _ _ 67 rfl Tryz.underlying67 rfl id rfl (by omega) (by omega) ?_));go_ret;exact ⟨by simp [Xj.take,HB.1,HG.1],by rw [show (t.take id n).2=t by simp [Xj.take,HB.1,HG.1]];exact HH.1⟩
   ·have HG:As (¬0<mgi t.held id):=zk hg;have hd:decide (0<mgi t.held id)=false:=by simpa using hg
    clear hg;cases hs:sub t.left n with
    |mk left e=>
     rw [hs] at HS;have HE:=zk hs;clear hs;by_cases he:e=0
     ·subst he;have hnn:As (List.length (Qx (Value.int .i64) t.held)<1000000):=⟨by simpa [Qx] using hn.1⟩;clear hn;go_enter Tryz.func272,Tryz.ntmps272;go_wp2_with (first|(go_at_call 113;refine (HM.1 _).m0 ?_)|(go_at_call 275;refine (HS.1 _).m0 ?_)|(at_lookup;refine wli H.1 1 _ _ rfl rfl _ _ 67 rfl Tryz.underlying67 rfl id rfl (by omega) (by omega) ?_)|(refine DX (H.1.sAt 0 0 _ rfl) 1 bm _ rfl rfl _ _ 67 3 rfl Tryz.underlying67 _ Qjl rfl id rfl (by omega) (by omega) hnn.1 ?_;intro st w1 H1 hg1;have H1:=zk H1;clear hg1)|(refine JU H1.1 1 bm _ id st rfl rfl _ _ _ 67 rfl rfl rfl _ rfl ?_;intro w2 H2 hg2;have H2:=zk H2;clear hg2));go_ret;have hgg:=Int.not_lt.2 HG.1;refine ⟨by simp [Xj.take,HB.1,hgg,HE.1],?_⟩;rw [show (t.take id n).2=⟨left,Qt t.held id n⟩ by simp [Xj.take,HB.1,hgg,HE.1]];refine Heap.FV (bm:=bm) ?_;rw [Xt];exact H2.1
     ·have he1:(e==0)=false:=by simpa using he
      have HEE:=zk he;clear he;go_enter Tryz.func272,Tryz.ntmps272;go_wp2_with (first|(go_at_call 113;refine (HM.1 _).m0 ?_)|(go_at_call 275;refine (HS.1 _).m0 ?_)|(at_lookup;refine wli H.1 1 _ _ rfl rfl _ _ 67 rfl Tryz.underlying67 rfl id rfl (by omega) (by omega) ?_));go_ret;have hgg:=Int.not_lt.2 HG.1;exact ⟨by simp [Xj.take,HB.1,hgg,HE.1,HEE.1],by rw [show (t.take id n).2=t by simp [Xj.take,HB.1,hgg,HE.1,HEE.1]];exact HH.1⟩
theorem Qqt {w0 w:World} {R:List SA} (h:Heap w0 R w) (room:Int) (h0:0≤room) (h1:room≤1000000000):
 Calls Tryz.prog 117 #[room] w fun e w'=>∃b,e=.returned (.pointer (some ⟨b,0,none⟩))∧Heap w0 (.hold b ⟨room,[]⟩::R) w':=by
 have H:=zk h;clear h;have hmm:= @run_makeMap Tryz.prog;rcases (show room=0∨0<room by omega) with rfl|h2;all_goals
  go_enter Tryz.func117,Tryz.ntmps117;go_wp2;go_ret;exact ⟨_,rfl,Heap.FV (bm:=w.heap.size) (Heap.nAt (n:=w.heap.size+1) (Heap.XO H.1) _ (by simp))⟩
theorem Qjh {w0 w:World} {b:Nat} {t:Xj} {R:List SA} (h:Heap w0 (.hold b t::R) w) (id:Int) (h0:1≤id) (h1:id≤999):
 CH 274 #[b,id] w (.int .i64 (t.back id).1) w0 (.hold b (t.back id).2::R):=by
 have HH:=zk h;obtain ⟨bm,h⟩:=h.Qhl;obtain ⟨c0,c1,cf⟩:=h.cB2 0 rfl;have H:=zk h;have hb:=h.lt 0 rfl;have hlk:=Vg (h.drew.owns 1 rfl) false Tryz.underlying67 (Qjl _) (k:=id) (by omega) (by omega);rw [Dz] at hlk;clear h;by_cases hz:mgi t.held id=0
 ·have HZ:=zk hz;have hd:(mgi t.held id==0)=true:=by simpa using hz
  clear c0 hz hlk;go_enter Tryz.func274,Tryz.ntmps274;go_wp2_with (at_lookup;refine wli H.1 1 _ _ rfl rfl _ _ 67 rfl Tryz.underlying67 rfl id rfl (by omega) (by omega) ?_);go_ret;exact ⟨by simp [Xj.back,HZ.1],by rw [show (t.back id).2=t by simp [Xj.back,HZ.1]];exact HH.1⟩
 ·have HZ:=zk hz;have hd:(mgi t.held id==0)=false:=by simpa using hz
  clear hz;go_enter Tryz.func274,Tryz.ntmps274;go_wp2_with (at_lookup;refine wli H.1 1 _ _ rfl rfl _ _ 67 rfl Tryz.underlying67 rfl id rfl (by omega) (by omega) ?_);go_still_tail 13,(by kernel_rfl);change wpList _ _ _ _ _ w.drew;go_wp2_with (at_delete;refine Zl (H.1.drew.sAt 0 0 _ rfl) 1 _ _ rfl rfl _ _ 67 3 rfl Tryz.underlying67 rfl id rfl (by omega) (by omega) ?_;intro w2 h2 _;have H2:=zk h2;clear h2);go_ret;refine ⟨by simp [Xj.back,HZ.1],?_⟩;rw [show (t.back id).2=⟨wrap64 (t.left+mgi t.held id),QI t.held id⟩ by simp [Xj.back,HZ.1]];refine Heap.FV (bm:=bm) ?_;rw [Vd];exact H2.1
end Go.Proofs.YtlnghlamnehfjaaGreatDoor.S
