/- Contracts and plain laws of the program, part N06. -/
import Derived.Test.YtlnghlamnehfjaaGreatDoorN05
import Derived.StillTailTactics
import Derived.Deep.QuietTactic
import Derived.BigQuiet
set_option linter.unusedVariables false
set_option linter.unusedSimpArgs false
set_option maxRecDepth 100000
set_option maxHeartbeats 64000000
namespace Go.Proofs.YtlnghlamnehfjaaGreatDoor.S
open Go.RowKit Go.Maps
theorem zHold1 {P:Prop} (h:P:=by
 go_enter Tryz.func275,Tryz.ntmps275;go_wp2
 go_ret2
 exact ⟨by simp [sub,may, *],rfl⟩):P:=h
def may (a:Int):Bool:=decide (0≤a)&&decide (a≤1000000000)
def sub (a b:Int):Int×Int:=if (may a&&may b)=false then (0,1) else if a<b then (0,9) else (a-b,0)
theorem may_ok (a:Int) (w:World):Calls Tryz.prog 113 #[.int .i64 a] w fun e w'=>e=.returned (.bool (may a))∧w=w':=by
 by_cases h:0≤a
 ·go_enter Tryz.func113,Tryz.ntmps113;go_wp2;go_ret;exact ⟨by simp [may,h],rfl⟩
 ·have hd:decide (0≤a)=false:=by simpa using h
  go_enter Tryz.func113,Tryz.ntmps113;go_wp2;go_ret;exact ⟨by simp [may,hd],rfl⟩
theorem sub_ok (a b:Int) (w:World) (ha:0≤a) (ha1:a≤1000000000):Calls Tryz.prog 275 #[.int .i64 a,.int .i64 b] w fun e w'=>e=.returned (.tuple #[.int .i64 (sub a b).1,.int .i64 (sub a b).2])∧w=w':=by
 by_cases h0:0≤b∧b≤1000000000
 ·obtain ⟨h0,h1⟩:=h0;by_cases hl:a<b
  ·exact zHold1
  ·have hk:(may a&&may b)=true:=by simp [may];omega
   have HH:=zk (show sub a b=(a-b,0) by unfold sub;rw [if_neg (by simp [hk]),if_neg hl]);clear hk;go_enter Tryz.func275,Tryz.ntmps275;go_wp2
   go_ret2
   exact ⟨by rw [HH.out];rfl,rfl⟩
 ·have hd:(decide (0≤b)&&decide (b≤1000000000))=false:=by simp;omega
  by_cases h1:0≤b
  ·have h2:¬b≤1000000000:=by omega
   have hd2:decide (b≤1000000000)=false:=by simpa using h2
   exact zHold1
  ·have hd2:decide (0≤b)=false:=by simpa using h1
   exact zHold1
structure Hold where
 left:Int
 held:IM Int
def Hold.ok (h:Hold):Prop:=0≤h.left∧h.left≤1000000000
def SA.hold (b:Nat) (t:Hold):SA:=.ex fun bm=>.star (.pts b (.cells #[.int .i64 t.left,.map (some bm)] 219)) (.map bm (mval (Value.int .i64) t.held))
theorem Heap.open_hold {w0 w:World} {b:Nat} {t:Hold} {R:List SA} (h:Heap w0 (.hold b t::R) w):∃bm,Heap w0 (.pts b (.cells #[.int .i64 t.left,.map (some bm)] 219)::.map bm (mval (Value.int .i64) t.held)::R) w:=by
 obtain ⟨bm,h⟩:=h.unex;exact ⟨bm,h.unstar⟩
theorem Heap.shut_hold {w0 w:World} {b bm:Nat} {t:Hold} {R:List SA} (h:Heap w0 (.pts b (.cells #[.int .i64 t.left,.map (some bm)] 219)::.map bm (mval (Value.int .i64) t.held)::R) w):Heap w0 (.hold b t::R) w:=
 Heap.reex (f:=fun bm=>.star (.pts b (.cells #[.int .i64 t.left,.map (some bm)] 219)) (.map bm (mval (Value.int .i64) t.held))) bm h.restar
def Hold.bad (id n:Int):Bool:=decide (id<1)||decide (999<id)||decide (n=0)|| !may n
def Hold.take (t:Hold) (id n:Int):Int×Hold:=
 if Hold.bad id n=true then (1,t) else if 0<mgi t.held id then (8,t) else
 if (sub t.left n).2=0 then (0,⟨(sub t.left n).1,mput t.held id n⟩) else ((sub t.left n).2,t)
def Hold.back (t:Hold) (id:Int):Int×Hold:=
 if mgi t.held id=0 then (6,t) else (0,⟨wrap64 (t.left+mgi t.held id),mdel t.held id⟩)
set_option maxHeartbeats 1000000 in
theorem htake_ok {w0 w:World} {b:Nat} {t:Hold} {R:List SA} (h:Heap w0 (.hold b t::R) w) (ht:t.ok) (id n:Int) (h0:1≤id) (h1:id≤999) (hn:As (t.held.length<1000000)):
 Calls Tryz.prog 272 #[.pointer (some ⟨b,0,none⟩),.int .i64 id,.int .i64 n] w fun e w'=>e=.returned (.int .i64 (t.take id n).1)∧Heap w0 (.hold b (t.take id n).2::R) w':=by
 have HH:=zk h;obtain ⟨bm,h⟩:=h.open_hold;obtain ⟨c0,c1,cf⟩:=h.cB2 0 rfl;have hb:=h.lt 0 rfl;have H:=zk h;have HM:As (∀W,Calls Tryz.prog 113 #[.int .i64 n] W fun e w'=>e=.returned (.bool (may n))∧W=w'):=⟨may_ok n⟩;have HS:As (∀W,Calls Tryz.prog 275 #[.int .i64 t.left,.int .i64 n] W fun e w'=>e=.returned (.tuple #[.int .i64 (sub t.left n).1,.int .i64 (sub t.left n).2])∧W=w'):=⟨fun W=>sub_ok t.left n W ht.1 ht.2⟩;clear h ht;by_cases hz:n=0
 ·subst hz;clear c0 c1;go_enter Tryz.func272,Tryz.ntmps272;go_wp2;go_ret;exact ⟨by simp [Hold.take,Hold.bad],by rw [show (t.take id 0).2=t by simp [Hold.take,Hold.bad]];exact HH.out⟩
 ·have hz1:(n==0)=false:=by simpa using hz
  cases hm:may n
  ·have HB:=zk hm;rw [hm] at HM;have HZ:=zk hz;clear c0 c1 hm hz;go_enter Tryz.func272,Tryz.ntmps272;go_wp2_with (go_at_call 113;refine (HM.out _).mono ?_;rintro e w' ⟨rfl,rfl⟩);go_ret;exact ⟨by simp [Hold.take,Hold.bad,HB.out],by rw [show (t.take id n).2=t by simp [Hold.take,Hold.bad,HB.out]];exact HH.out⟩
  ·have HB:As (Hold.bad id n=false):=⟨by simp [Hold.bad,hm,hz];omega⟩;rw [hm] at HM;clear hm hz;by_cases hg:0<mgi t.held id
   ·have HG:=zk hg;have hd:decide (0<mgi t.held id)=true:=by simpa using hg
    clear c0 hg;go_enter Tryz.func272,Tryz.ntmps272;go_wp2_with (first|(go_at_call 113;refine (HM.out _).mono ?_;rintro e w' ⟨rfl,rfl⟩)|(at_lookup;refine wli H.out 1 _ _ rfl rfl _ _ 67 rfl Tryz.underlying67 rfl id rfl (by omega) (by omega) ?_));go_ret;exact ⟨by simp [Hold.take,HB.out,HG.out],by rw [show (t.take id n).2=t by simp [Hold.take,HB.out,HG.out]];exact HH.out⟩
   ·have HG:As (¬0<mgi t.held id):=zk hg;have hd:decide (0<mgi t.held id)=false:=by simpa using hg
    clear hg;cases hs:sub t.left n with
    |mk left e=>
     rw [hs] at HS;have HE:=zk hs;clear hs;by_cases he:e=0
     ·subst he;have hnn:As (List.length (mval (Value.int .i64) t.held)<1000000):=⟨by simpa [mval] using hn.out⟩;clear hn;go_enter Tryz.func272,Tryz.ntmps272;go_wp2_with (first|(go_at_call 113;refine (HM.out _).mono ?_;rintro e w' ⟨rfl,rfl⟩)|(go_at_call 275;refine (HS.out _).mono ?_;rintro e w' ⟨rfl,rfl⟩)|(at_lookup;refine wli H.out 1 _ _ rfl rfl _ _ 67 rfl Tryz.underlying67 rfl id rfl (by omega) (by omega) ?_)|(refine wpList_entry (H.out.sAt 0 0 _ rfl) 1 bm _ rfl rfl _ _ 67 3 rfl Tryz.underlying67 _ zero3 rfl id rfl (by omega) (by omega) hnn.out ?_;intro st w1 H1 hg1;have H1:=zk H1;clear hg1)|(refine wpList_estore H1.out 1 bm _ id st rfl rfl _ _ _ 67 rfl rfl rfl _ rfl ?_;intro w2 H2 hg2;have H2:=zk H2;clear hg2));go_ret;have hgg:=Int.not_lt.2 HG.out;refine ⟨by simp [Hold.take,HB.out,hgg,HE.out],?_⟩;rw [show (t.take id n).2=⟨left,mput t.held id n⟩ by simp [Hold.take,HB.out,hgg,HE.out]];refine Heap.shut_hold (bm:=bm) ?_;rw [mval_mput];exact H2.out
     ·have he1:(e==0)=false:=by simpa using he
      have HEE:=zk he;clear he;go_enter Tryz.func272,Tryz.ntmps272;go_wp2_with (first|(go_at_call 113;refine (HM.out _).mono ?_;rintro e w' ⟨rfl,rfl⟩)|(go_at_call 275;refine (HS.out _).mono ?_;rintro e w' ⟨rfl,rfl⟩)|(at_lookup;refine wli H.out 1 _ _ rfl rfl _ _ 67 rfl Tryz.underlying67 rfl id rfl (by omega) (by omega) ?_));go_ret;have hgg:=Int.not_lt.2 HG.out;exact ⟨by simp [Hold.take,HB.out,hgg,HE.out,HEE.out],by rw [show (t.take id n).2=t by simp [Hold.take,HB.out,hgg,HE.out,HEE.out]];exact HH.out⟩
theorem hnew_ok {w0 w:World} {R:List SA} (h:Heap w0 R w) (room:Int) (h0:0≤room) (h1:room≤1000000000):
 Calls Tryz.prog 117 #[.int .i64 room] w fun e w'=>∃b,e=.returned (.pointer (some ⟨b,0,none⟩))∧Heap w0 (.hold b ⟨room,[]⟩::R) w':=by
 have H:=zk h;clear h;have hmm:= @run_makeMap Tryz.prog;rcases (show room=0∨0<room by omega) with rfl|h2;all_goals
  go_enter Tryz.func117,Tryz.ntmps117;go_wp2;go_ret;exact ⟨_,rfl,Heap.shut_hold (bm:=w.heap.size) (Heap.nAt (n:=w.heap.size+1) (Heap.newMap H.out) _ (by simp))⟩
theorem hback_ok {w0 w:World} {b:Nat} {t:Hold} {R:List SA} (h:Heap w0 (.hold b t::R) w) (id:Int) (h0:1≤id) (h1:id≤999):
 Calls Tryz.prog 274 #[.pointer (some ⟨b,0,none⟩),.int .i64 id] w fun e w'=>e=.returned (.int .i64 (t.back id).1)∧Heap w0 (.hold b (t.back id).2::R) w':=by
 have HH:=zk h;obtain ⟨bm,h⟩:=h.open_hold;obtain ⟨c0,c1,cf⟩:=h.cB2 0 rfl;have H:=zk h;have hb:=h.lt 0 rfl;have hlk:=run_look (h.drew.owns 1 rfl) false Tryz.underlying67 (zero3 _) (k:=id) (by omega) (by omega);rw [mget_int] at hlk;clear h;by_cases hz:mgi t.held id=0
 ·have HZ:=zk hz;have hd:(mgi t.held id==0)=true:=by simpa using hz
  clear c0 hz hlk;go_enter Tryz.func274,Tryz.ntmps274;go_wp2_with (at_lookup;refine wli H.out 1 _ _ rfl rfl _ _ 67 rfl Tryz.underlying67 rfl id rfl (by omega) (by omega) ?_);go_ret;exact ⟨by simp [Hold.back,HZ.out],by rw [show (t.back id).2=t by simp [Hold.back,HZ.out]];exact HH.out⟩
 ·have HZ:=zk hz;have hd:(mgi t.held id==0)=false:=by simpa using hz
  clear hz;go_enter Tryz.func274,Tryz.ntmps274;go_wp2_with (at_lookup;refine wli H.out 1 _ _ rfl rfl _ _ 67 rfl Tryz.underlying67 rfl id rfl (by omega) (by omega) ?_);go_still_tail 13,(by kernel_rfl);change wpList _ _ _ _ _ w.drew;go_wp2_with (at_delete;refine wpList_del (H.out.drew.sAt 0 0 _ rfl) 1 _ _ rfl rfl _ _ 67 3 rfl Tryz.underlying67 rfl id rfl (by omega) (by omega) ?_;intro w2 h2 _;have H2:=zk h2;clear h2);go_ret;refine ⟨by simp [Hold.back,HZ.out],?_⟩;rw [show (t.back id).2=⟨wrap64 (t.left+mgi t.held id),mdel t.held id⟩ by simp [Hold.back,HZ.out]];refine Heap.shut_hold (bm:=bm) ?_;rw [mval_mdel];exact H2.out
end Go.Proofs.YtlnghlamnehfjaaGreatDoor.S
