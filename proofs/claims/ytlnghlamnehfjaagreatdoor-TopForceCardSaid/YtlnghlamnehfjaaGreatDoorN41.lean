/- Contracts and plain laws of the program, part N41. -/
import Derived.Test.YtlnghlamnehfjaaGreatDoorN19
import Derived.Test.YtlnghlamnehfjaaGreatDoorN35
import Derived.Test.YtlnghlamnehfjaaGreatDoorN39
import Derived.Test.YtlnghlamnehfjaaGreatDoorN40
set_option linter.unusedVariables false
set_option linter.unusedSimpArgs false
set_option maxRecDepth 100000
set_option maxHeartbeats 64000000
namespace Go.Proofs.YtlnghlamnehfjaaGreatDoor.S
open Go.RowKit Go.Maps
attribute [local go_sem] Oper.semAt_some
theorem zChn21 {P:Prop} (h:P:=by
 refine wpIn_region_ord (fun W=>W.cell? ⟨w.heap.size,0,none⟩=some (.pointer (some ⟨b,0,none⟩))) [(0,.f),(1,.f),(2,.e),(3,.e),(4,.e)] (by kernel_rfl) (by kernel_rfl) (by kernel_rfl) (fun ⟨_,_,h⟩=>h) x0 ?_;iterate 2
  first
   |(refine vg rfl rfl ?_;apply ex2;intro w' hw';go_simp;rfl;go_simp)
   |(refine vs_ rfl (fun K hK=>?_);go_simp;refine hK _ ?_;clear hK K)
 refine ve rfl rfl ?_;go_wp2_with (go_at_call 101;refine (cey H11.out.drew _ _ _ _ _).mono ?_;rintro en w8 ⟨rfl,h12⟩;have H12:=zk h12;clear h12);refine ⟨(H12.out.cB1 1 rfl).1,?_⟩;go_simp;refine ve rfl rfl ?_;go_wp2_with (fail);refine ⟨((H12.out.new (.cells #[.string (Kd.str .turn),.int .i64 i,.slice none 0 0] 171)).cB1 2 rfl).1,?_⟩;go_simp;refine ve rfl rfl ?_;go_wp2_with (go_at_call 100;refine (HN.out _ _ (H12.out.sel (p:= [_,_,_]) [0,2,1] 3 rfl (by decide))).mono ?_;rintro en w9 ⟨rfl,h13⟩;have H13:=zk (h13.sel (p:= [_,_,_]) [0,2,1] 3 rfl (by decide));clear h13);refine ⟨(H13.out.cB1 1 rfl).1,?_⟩;go_simp;refine vn ?_;go_simp
 show Heap w0 _ _
 rw [HWK2.out];exact Heap.gather (l:= [_,_,_]) (H13.out.sel (p:= [_,_,_]) [1,0,2] 3 rfl (by decide))):P:=h
theorem zChn22 {P:Prop} (h:P:=by
 show Heap w0 _ _
 rw [HWK2.out];exact Heap.gather (l:= [_,_,_]) (H11.out.sel (p:= [_,_,_]) [1,0,2] 3 rfl (by decide))):P:=h
def Chief.Hist:Chief→List Entry→Prop
 |_,[]=>True
 |c,e::r=>c.Fits e∧(c.plays e).Hist r
theorem hist_at:∀{c:Chief} {es:List Entry} {k:Nat} {e:Entry},c.Hist es→es[k]? =some e→(c.replay (es.take k)).Fits e
 |c,a::es,0,e,h,he=>by
  simp only [List.getElem?_cons_zero,Option.some.injEq] at he;subst he;exact h.1
 |c,a::es,k+1,e,h,he=>by
  simp only [List.getElem?_cons_succ] at he;exact hist_at (c:=c.plays a) h.2 he
theorem creplay_succ (c:Chief) (es:List Entry) {n:Nat} {e:Entry} (h:es[n]? =some e):c.replay (es.take (n+1))=(c.replay (es.take n)).plays e:=by
 obtain ⟨hk,rfl⟩:=List.getElem?_eq_some_iff.1 h;unfold Chief.replay;rw [List.take_succ_eq_append_getElem hk,List.foldl_append];rfl
theorem creplay_used (es:List Entry):∀c:Chief,(c.replay es).used=c.used+es.length∧(c.replay es).j=c.j:=by
 induction es with
 |nil=>intro c;simp [Chief.replay]
 |cons e r ih=>
  intro c;obtain ⟨h1,h2⟩:=ih (c.plays e);refine ⟨?_,h2.trans (plays_room _ _).2.2.2.1⟩
  show ((c.plays e).replay r).used=_
  rw [h1,plays_used,List.length_cons];omega
theorem notes_keep {c:Chief} {e:Entry} (hb:e.kd≠ .begin) {id:Int} (h:(mget c.l id).isSome=true):(mget (c.notes [e]).2.l id).isSome=true:=by
 rw [notes_eq];split
 ·exact h
 ·show (mget (({c with j:=(c.j.add e).2}:Chief).plays e).l id).isSome=true
  have key:∀(k:Int) (x:Led),(mget (mput c.l k x) id).isSome=true:=fun k x=>by
   rw [mget_mput];split
   ·rfl
   ·rename_i hne;rw [mget_mdel,if_neg hne];exact h
  unfold Chief.plays;split
  ·exact absurd ‹_› hb
  ·split
   ·exact h
   ·exact key _ _
  ·split
   ·exact h
   ·exact key _ _
theorem sures_keep {c:Chief} {e:Entry} (hb:e.kd≠ .begin) {id:Int} (h:(mget c.l id).isSome=true):(mget (c.sures [e]).2.l id).isSome=true:=by
 unfold Chief.sures;split<;>exact notes_keep hb h
theorem wake_keep (c:Chief) (i:Int) {id:Int} (h:(mget c.l id).isSome=true):(mget (c.wake i).l id).isSome=true:=by
 unfold Chief.wake;split
 ·exact h
 ·rename_i x hx;simp only;split
  ·refine sures_keep (by simp) ?_;split<;>exact h
  ·split<;>exact h
theorem wake_down (c:Chief) (i:Int):(c.wake i).j.down=c.j.down:=by
 unfold Chief.wake;split
 ·rfl
 ·simp only;split
  ·rw [sures_down];split<;>rfl
  ·split<;>rfl
theorem wakes_keep (is:List Int):∀(c:Chief) {id:Int},(mget c.l id).isSome=true→(mget (is.foldl Chief.wake c).l id).isSome=true:=by
 induction is with
 |nil=>intro c id h;exact h
 |cons i r ih=>intro c id h;exact ih _ (wake_keep c i h)
theorem wakes_down (is:List Int):∀c:Chief,(is.foldl Chief.wake c).j.down=c.j.down:=by
 induction is with
 |nil=>intro c;rfl
 |cons i r ih=>intro c;exact (ih _).trans (wake_down c i)
theorem wakes_succ (c:Chief) (is:List Int) {n:Nat} {i:Int} (h:is[n]? =some i):(is.take (n+1)).foldl Chief.wake c=((is.take n).foldl Chief.wake c).wake i:=by
 obtain ⟨hk,rfl⟩:=List.getElem?_eq_some_iff.1 h;rw [List.take_succ_eq_append_getElem hk,List.foldl_append];rfl
def wJ (b bj bx:Nat) (A:Int→Nat) (c:Chief) (is:List Int) (k:Nat):SA:=.all [.pts bx (.cells #[.pointer (some ⟨b,0,none⟩)] 70),.cha b bj A ((is.take k).foldl Chief.wake c),.jrn bj ((is.take k).foldl Chief.wake c).j]
theorem cstart_ok {w0 w:World} {b:Nat} {c:Chief} {R:List SA} (h:Heap w0 (.chief b c::R) w) (hes:c.j.down=true→(({c with j:=c.j.recover}:Chief).forget).Hist c.j.es):
 Calls Tryz.prog 279 #[.pointer (some ⟨b,0,none⟩)] w fun en w'=>en=.returned (.tuple #[])∧Heap w0 (.chief b c.start::R) w':=by
 have HH:=zk h;have HB:=zk (h.new (.cells #[.pointer (some ⟨b,0,none⟩)] 70));have HDN:=zk (cdown_ok (HB.out.frt 1 rfl));have HS:As (c.start=if c.j.down=true then ((({c with j:=c.j.recover}:Chief).forget).replay c.j.es).ids.foldl Chief.wake ((({c with j:=c.j.recover}:Chief).forget).replay c.j.es) else c):=⟨rfl⟩;obtain ⟨bj,A,h2⟩:=(HB.out.frt 1 rfl).cha_of;have H2:=zk h2;have HLE:As (c.j.es.length≤4096):=⟨by
  have hp:=(h2.frt 1 rfl).open_jrn.1;have:=hp.len;have:=hp.r1;omega⟩
 obtain ⟨hp,bm,bt,h3⟩:=h2.open_cha;obtain ⟨c0,c1,c2,c3,c4,c5,c6,cf⟩:=h3.cB7 0 rfl;have hlb:=h3.lt 0 rfl;clear h h2 hp h3;generalize c.start=res at *;cases hd:c.j.down
 ·rw [hd] at HS HDN;clear hd hes;refine cmk Tryz.func279 rfl ?_;simp only [Tryz.ntmps279,List.size_toArray,List.length_cons,List.length_nil,Nat.reduceAdd,Nat.reduceSub,Array.replicate_succ,Array.replicate_zero,List.push_toArray,List.append_toArray,List.nil_append,List.cons_append];go_wp2_with (go_at_call 97;refine HDN.out.mono ?_;rintro e w' ⟨rfl,rfl⟩);refine ⟨_,results_none rfl _ _ _,rfl,?_⟩;rw [HS.out];exact HH.out.alloc _
 ·have HES:=zk (hes hd);clear hes;have HREC:As (∀W L,Heap w0 (.jrn bj c.j::L) W→Calls Tryz.prog 220 #[.pointer (some ⟨bj,0,none⟩)] W fun e w'=>∃n,e=.returned (.int .i64 n)∧Heap w0 (.jrn bj c.j.recover::L) w'):=⟨fun W L h=>jrecover_ok h hd⟩;rw [hd] at HS HDN;simp only [if_true] at HS;clear hd;refine cmk Tryz.func279 rfl ?_;simp only [Tryz.ntmps279,List.size_toArray,List.length_cons,List.length_nil,Nat.reduceAdd,Nat.reduceSub,Array.replicate_succ,Array.replicate_zero,List.push_toArray,List.append_toArray,List.nil_append,List.cons_append];go_wp2_with (first
   |(go_at_call 97;refine HDN.out.mono ?_;rintro e w' ⟨rfl,rfl⟩)
   |(go_at_call 220;refine (HREC.out _ _ (H2.out.frt 1 rfl)).mono ?_;rintro e w1 ⟨nr,rfl,h1⟩;have H4:=zk ((h1.frt 1 rfl).cha_j c.j.recover);clear c0 c1 c2 c3 c4 c5 c6 cf hlb;obtain ⟨x0,xf⟩:=h1.cB1 2 rfl;clear h1)
   |(go_at_call 114;refine (cforget_ok H4.out).mono ?_;rintro e w2 ⟨rfl,h2⟩;clear x0 xf;have H5:=zk h2;obtain ⟨hp2,bm2,bt2,h3⟩:=h2.open_cha;obtain ⟨c0,c1,c2,c3,c4,c5,c6,cf⟩:=h3.cB7 0 rfl;obtain ⟨x0,xf⟩:=h2.cB1 2 rfl;have hlb:=h3.lt 0 rfl;clear h2 h3 hp2)
   |(go_at_call 221;refine (all_ok H5.out bj).mono ?_;rintro e w3 ⟨bx,rfl,h3⟩;have H6:=zk h3;clear h3))
  clear c0 c1 c2 c3 c4 c5 c6 cf hlb x0 xf;have hje:(({c with j:=c.j.recover}:Chief).forget).j.es=c.j.es:=rfl;have hjr:(({c with j:=c.j.recover}:Chief).forget).j=c.j.recover:=rfl;have hu0:(({c with j:=c.j.recover}:Chief).forget).used=0:=rfl;have hjd:(({c with j:=c.j.recover}:Chief).forget).j.down=false:=rfl;generalize hs1:({c with j:=c.j.recover}:Chief).forget=s1 at *;rw [←hjr] at H6;have HLE2:As (s1.j.es.length≤4096):=⟨by rw [hje];exact HLE.out⟩;rw [←hje] at HES;refine wp_rangeGB rfl (enters_of Tryz.func227 (by kernel_rfl) rfl) rfl _ _ R s1.j.es _ (all_gives w0 bx bj s1.j) (fun n=>.ex fun A:Int→Nat=>.all [.pts w.heap.size (.cells #[.pointer (some ⟨b,0,none⟩)] 70),.cha b bj A (s1.replay (s1.j.es.take n))]) ?h0 2 (entN (fun n=>.ex fun A:Int→Nat=>.all [.pts w.heap.size (.cells #[.pointer (some ⟨b,0,none⟩)] 70),.cha b bj A (s1.replay (s1.j.es.take n))])) ?assign ?body ?done
  case h0=>
   exact Heap.reex (f:=fun A:Int→Nat=>.all [.pts w.heap.size (.cells #[.pointer (some ⟨b,0,none⟩)] 70),.cha b bj A (s1.replay (s1.j.es.take 0))]) A (Heap.gather (l:= [_,_]) ((H6.out.frt 1 rfl).frt 3 rfl))
  case assign=>
   intro l n x v X W K hk h hK;obtain ⟨u,rfl,h2⟩:=give_open h;have hK2:=hK _ _ (entN_shut (h2.new (.cells #[.string x.kd.str,.int .i64 x.id,u] 171)));have hsh:=h2.shp 0 rfl;clear hK h h2;rcases hsh with ⟨rfl, -, -⟩|⟨g,cap,rfl, -, -, -⟩;all_goals
    simp [gAct,roundAct] at hK2;simp only [roundAct]
    gi_wp2
    exact hK2
  case body=>
   intro l n x v p X W hk h;obtain ⟨u,rfl,h2⟩:=entN_open h;obtain ⟨A2,h2⟩:=(h2.frt 2 rfl).unex;have h3:=Heap.spread (l:= [_,_]) h2;have HF:=zk (hist_at HES.out hk);have HSU:=zk (creplay_succ s1 s1.j.es hk);have hlt:n<s1.j.es.length:=(List.getElem?_eq_some_iff.1 hk).1;have HUS:As ((s1.replay (s1.j.es.take n)).used<4096):=⟨by
    rw [(creplay_used _ s1).1,List.length_take,hu0];have:=HLE2.out;omega⟩
   obtain ⟨x0,xf⟩:=h3.cB1 0 rfl;obtain ⟨e0,e1,e2,ef⟩:=h3.cB3 2 rfl;have H7:=zk ((h3.frt 3 rfl).frt 2 rfl);clear h h2 h3 hk;generalize s1.replay (s1.j.es.take n)=sk at *;simp only [gAct,roundAct]
   gi_wp2_with (refine ⟨trivial,(CallsIn.inRound l (callsIn_wide.2 (cplays_ok H7.out HF.out HUS.out))).mono ?_⟩;rintro en w4 ⟨rfl,A3, -, -,h4⟩;have H8:=zk h4;clear h4)
   show Heap w0 _ _
   rw [HSU.out];exact Heap.reex (f:=fun A:Int→Nat=>.all [.pts w.heap.size (.cells #[.pointer (some ⟨b,0,none⟩)] 70),.cha b bj A (sk.plays x)]) A3 (Heap.gather (l:= [_,_]) ((H8.out.sel (p:= [_,_,_,_]) [2,0] 4 rfl (by decide))))
  case done=>
   intro D W h;obtain ⟨A2,h⟩:=h.unex;have h2:=Heap.spread (l:= [_,_]) h;rw [List.take_length] at h2;obtain ⟨s2,hs2⟩:∃s2,s2=s1.replay s1.j.es:=⟨_,rfl⟩;have hs2j:s2.j=s1.j:=by rw [hs2];exact (creplay_used _ s1).2
   have HDW:As (s2.j.down=false):=⟨by rw [hs2j];exact hjd⟩;rw [show s1.replay c.j.es=s2 by rw [hs2,hje]] at HS;rw [←hs2,←hs2j] at h2;clear hs2 hs2j HLE HLE2 HES H6 HREC;have H7:=zk (h2.sel (p:= [_,_,_,_,_]) [1,0,4,2] 5 rfl (by decide));obtain ⟨x0,xf⟩:=H7.out.cB1 1 rfl;clear h h2;go_wp2_with (go_at_call 30;refine (cids_ok H7.out).mono ?_;rintro e w4 ⟨bi,vi,rfl,h4⟩;clear x0 xf;have H8:=zk h4;clear h4);have HLEN:As (s2.ids.length≤100000):=⟨by
    have:=(H8.out.frt 2 rfl).cha_ok.keys.len;simp [Chief.ids];omega⟩
   have HKEY:As (∀i∈s2.ids,(mget s2.l i).isSome=true∧1≤i∧i≤999):=⟨fun i hi=>by
    obtain ⟨p,hp,rfl⟩:=List.mem_map.1 hi;exact ⟨mget_of_mem hp,(H8.out.frt 2 rfl).cha_ok.keys.2 p hp⟩⟩
   have HIL:As (∀k i,s2.ids[k]? =some i→i∈s2.ids):=⟨fun k i h=>List.mem_of_getElem? h⟩;refine wp_range2 rfl (enters_of Tryz.func87 (by kernel_rfl) rfl) _ (.pts D (.deferred (some []))::R) s2.ids encI (fun _=>rfl) (values_givesO w0 bi vi s2.ids HLEN.out) .ret (wJ b bj w.heap.size A2 s2 s2.ids) (fun _=>.when False .emp) ?h02 [(3,0)] ?assign2 ?body2 ?done2 ?stop2
   case h02=>exact Heap.gather (l:= [_,_,_]) (H8.out.sel (p:= [_,_,_,_,_,_]) [3,2,4,0,1,5] 6 rfl (by decide))
   case assign2=>
    intro y x W K hK;simp only [encI] at hK⊢;simp [roundActX] at hK;simp only [roundActX]
    gi_wp2
    exact hK
   case stop2=>
    intro D2 k W hk h;exact (h.unwhen.1).elim
   case body2=>
    intro l k i X W hk h;have hin:=HKEY.out i (HIL.out k i hk);have HSU:=zk (wakes_succ s2 s2.ids hk);have hsome:=wakes_keep (s2.ids.take k) s2 hin.1;have HCD:As (((s2.ids.take k).foldl Chief.wake s2).j.down=false):=⟨(wakes_down _ _).trans HDW.out⟩;have h2:=Heap.spread (l:= [_,_,_]) h;obtain ⟨hi0,hi1⟩:=hin.2;unfold wJ;rw [HSU.out];clear h hin;generalize (s2.ids.take k).foldl Chief.wake s2=ck at *;obtain ⟨y,hy⟩:=Option.isSome_iff_exists.1 hsome;obtain ⟨x0,xf⟩:=h2.cB1 0 rfl;have H9:=zk (h2.frt 1 rfl);have HOKC:=zk (h2.frt 1 rfl).cha_ok;obtain ⟨bm,bt,⟨c5,c6⟩,⟨c3,cf,hlb⟩,hlk, -⟩:=look_x (h2.frt 1 rfl) hi0 hi1;rw [hy] at hlk;simp only [xptr] at hlk;have HWK:As (ck.wake i=if (y.f.asked&& !y.decided)=true then ((if y.over=true then ck else ck.hang i).sures [⟨.turn,i,[]⟩]).2 else (if y.over=true then ck else ck.hang i)):=⟨by unfold Chief.wake;simp only [hy]⟩;have HY:=zk hy;have HYO:=zk ((HOKC.out.get hy).1);have HOV:As (∀W L c',Heap w0 (.cha b bj A2 c'::L) W→mget c'.l i=some y→(Calls Tryz.prog 102 #[.pointer (some ⟨A2 i,0,none⟩)] W fun e w'=>e=.returned (.bool y.over)∧Below W.heap.size W w')):=⟨fun W L c' h hx=>by
     obtain ⟨hp,bm,bt,h⟩:=h.cha_at hx;exact lover_ok h (hp.get hx).1⟩
    simp only [roundActX,encI];clear h2 hy hsome hk HSU;generalize ck.wake i=wk at *;rcases Bool.eq_false_or_eq_true y.over with hov|hov
    ·have HWK2:As (wk=if (y.f.asked&& !y.decided)=true then (ck.sures [⟨.turn,i,[]⟩]).2 else ck):=⟨by rw [HWK.out,hov];rfl⟩;clear HWK;rw [hov] at HOV;rcases Bool.eq_false_or_eq_true y.f.asked with ha|ha
     ·have HAS:=zk ha;rcases Bool.eq_false_or_eq_true y.decided with hde|hde
      ·have HDE:=zk hde;simp only [ha,hde,Bool.not_true,Bool.and_false,Bool.false_eq_true,if_false] at HWK2;rw [ha] at HAS
       gi_wp2_with (first
        |(refine ⟨trivial,?_⟩;gi_at_call 102;refine (CallsIn.inRound l (callsIn_wide.2 (HOV.out _ _ _ H9.out HY.out))).mono ?_;rintro en w5 ⟨rfl,hb5⟩;have H10:=zk (H9.out.below hb5);clear x0 xf;obtain ⟨x0,xf⟩:=H10.out.cB1 1 rfl;obtain ⟨_,_,_,_,hla,hAl⟩:=led_at H10.out HY.out;obtain ⟨-, -, -, -, -, -, -, -,l8, -⟩:=hla;have H11:=H10;clear hb5)
        |(refine ⟨trivial,?_⟩;gi_at_call 98;refine (CallsIn.inRound l (callsIn_wide.2 (cdk H11.out HY.out))).mono ?_;rintro en w7 ⟨rfl,rfl⟩;rw [HDE.out]))
       exact zChn22
      ·have HDE:=zk hde;simp only [ha,hde,Bool.not_false,Bool.and_true,if_true] at HWK2;have HFT:As (ck.Fits ⟨.turn,i,[]⟩):=⟨.turn i y HY.out hde⟩;have HEO:=zk (asked_ok hi0 hi1 .turn);have HN:As (∀W L,Heap w0 (.cha b bj A2 ck::.jrn bj ck.j::L) W→Calls Tryz.prog 100 #[.pointer (some ⟨b,0,none⟩),.slice (some ⟨W.heap.size,0,none⟩) 1 1] (W.alloc (.cells #[.string (Kd.str .turn),.int .i64 i,.slice none 0 0] 171)) fun en w'=>en=.returned (.bool (ck.sures [⟨.turn,i,[]⟩]).1)∧Heap w0 (.cha b bj A2 (ck.sures [⟨.turn,i,[]⟩]).2::.jrn bj (ck.sures [⟨.turn,i,[]⟩]).2.j::L) w'):=⟨fun W L h=>csure0_ok h HFT.out HEO.out (by simp) HCD.out⟩;generalize ck.sures [⟨.turn,i,[]⟩]=pn at *;obtain ⟨okp,nc⟩:=pn;simp only at HN HWK2
       gi_wp2_with (first
        |(refine ⟨trivial,?_⟩;gi_at_call 102;refine (CallsIn.inRound l (callsIn_wide.2 (HOV.out _ _ _ H9.out HY.out))).mono ?_;rintro en w5 ⟨rfl,hb5⟩;have H10:=zk (H9.out.below hb5);clear x0 xf;obtain ⟨x0,xf⟩:=H10.out.cB1 1 rfl;obtain ⟨_,_,_,_,hla,hAl⟩:=led_at H10.out HY.out;obtain ⟨-, -, -, -, -, -, -, -,l8, -⟩:=hla;have H11:=H10;clear hb5)
        |(refine ⟨trivial,?_⟩;gi_at_call 98;refine (CallsIn.inRound l (callsIn_wide.2 (cdk H11.out HY.out))).mono ?_;rintro en w7 ⟨rfl,rfl⟩;rw [HDE.out]))
       exact zChn21
     ·simp only [ha,Bool.false_and,Bool.false_eq_true,if_false] at HWK2
      gi_wp2_with (first
       |(refine ⟨trivial,?_⟩;gi_at_call 102;refine (CallsIn.inRound l (callsIn_wide.2 (HOV.out _ _ _ H9.out HY.out))).mono ?_;rintro en w5 ⟨rfl,hb5⟩;have H10:=zk (H9.out.below hb5);clear x0 xf;obtain ⟨x0,xf⟩:=H10.out.cB1 1 rfl;obtain ⟨_,_,_,_,hla,hAl⟩:=led_at H10.out HY.out;obtain ⟨-, -, -, -, -, -, -, -,l8, -⟩:=hla;have H11:=H10;clear hb5)
       |(refine ⟨trivial,?_⟩))
      exact zChn22
    ·have HWK2:As (wk=if (y.f.asked&& !y.decided)=true then ((ck.hang i).sures [⟨.turn,i,[]⟩]).2 else (ck.hang i)):=⟨by rw [HWK.out,hov];rfl⟩;clear HWK;rw [hov] at HOV;have HC6:As (∀W L,Heap w0 (.cha b bj A2 ck::L) W→∃bt,W.cell? ⟨b,6,none⟩=some (.pointer (some ⟨bt,0,none⟩))∧b<W.heap.size):=⟨fun W L h=>by
      obtain ⟨hp,bm',bt',h3⟩:=h.open_cha;exact ⟨bt',h3.cell 0 6 rfl rfl,h3.lt 0 rfl⟩⟩
     have HTW:As (∀W L bt,Heap w0 (.cha b bj A2 ck::L) W→W.cell? ⟨b,6,none⟩=some (.pointer (some ⟨bt,0,none⟩))→Calls Tryz.prog 130 #[.pointer (some ⟨bt,0,none⟩),.int .i64 i] W fun e w'=>(∃u,e=.returned (.bool u))∧Heap w0 (.cha b bj A2 (ck.hang i)::L) w'):=⟨fun W L bt h h6=>by
      obtain ⟨hp,bm',bt',h3⟩:=h.open_cha;obtain rfl:bt=bt':=by have:=h3.cell 0 6 rfl rfl;rw [h6] at this;cases this;rfl
      refine (hang_ok (h3.frt 2 rfl) i hi0 hi1 ⟨by have:=hp.bells.len;omega⟩).mono ?_;rintro e w' ⟨rfl,h'⟩;exact ⟨⟨_,rfl⟩,Heap.shut_cha (c:=ck.hang i) (HOKC.out.bell (hang_keys HOKC.out.bells i)) (h'.sel (p:= [_,_,_]) [1,2,0] 3 rfl (by decide))⟩⟩
     rcases Bool.eq_false_or_eq_true y.f.asked with ha|ha
     ·have HAS:=zk ha;rcases Bool.eq_false_or_eq_true y.decided with hde|hde
      ·have HDE:=zk hde;simp only [ha,hde,Bool.not_true,Bool.and_false,Bool.false_eq_true,if_false] at HWK2;rw [ha] at HAS
       gi_wp2_with (first
        |(refine ⟨trivial,?_⟩;gi_at_call 102;refine (CallsIn.inRound l (callsIn_wide.2 (HOV.out _ _ _ H9.out HY.out))).mono ?_;rintro en w5 ⟨rfl,hb5⟩;have H10:=zk (H9.out.below hb5);clear x0 xf;obtain ⟨x0,xf⟩:=H10.out.cB1 1 rfl;obtain ⟨bt',c6',hlb'⟩:=HC6.out _ _ H10.out;clear hb5)
        |(refine ⟨trivial,?_⟩;gi_at_call 130;refine (CallsIn.inRound l (callsIn_wide.2 (HTW.out _ _ _ H10.out c6'))).mono ?_;rintro en w6 ⟨⟨u6,rfl⟩,h6⟩;have H11:=zk h6;clear h6 x0 xf;obtain ⟨x0,xf⟩:=H11.out.cB1 1 rfl;obtain ⟨_,_,_,_,hla,hAl⟩:=led_at H11.out HY.out;obtain ⟨-, -, -, -, -, -, -, -,l8, -⟩:=hla)
        |(refine ⟨trivial,?_⟩;gi_at_call 98;refine (CallsIn.inRound l (callsIn_wide.2 (cdk H11.out HY.out))).mono ?_;rintro en w7 ⟨rfl,rfl⟩;rw [HDE.out]))
       exact zChn22
      ·have HDE:=zk hde;simp only [ha,hde,Bool.not_false,Bool.and_true,if_true] at HWK2;have HFT:As ((ck.hang i).Fits ⟨.turn,i,[]⟩):=⟨.turn i y HY.out hde⟩;have HEO:=zk (asked_ok hi0 hi1 .turn);have HN:As (∀W L,Heap w0 (.cha b bj A2 (ck.hang i)::.jrn bj (ck.hang i).j::L) W→Calls Tryz.prog 100 #[.pointer (some ⟨b,0,none⟩),.slice (some ⟨W.heap.size,0,none⟩) 1 1] (W.alloc (.cells #[.string (Kd.str .turn),.int .i64 i,.slice none 0 0] 171)) fun en w'=>en=.returned (.bool ((ck.hang i).sures [⟨.turn,i,[]⟩]).1)∧Heap w0 (.cha b bj A2 ((ck.hang i).sures [⟨.turn,i,[]⟩]).2::.jrn bj ((ck.hang i).sures [⟨.turn,i,[]⟩]).2.j::L) w'):=⟨fun W L h=>csure0_ok h HFT.out HEO.out (by simp) HCD.out⟩;generalize (ck.hang i).sures [⟨.turn,i,[]⟩]=pn at *;obtain ⟨okp,nc⟩:=pn;simp only at HN HWK2
       gi_wp2_with (first
        |(refine ⟨trivial,?_⟩;gi_at_call 102;refine (CallsIn.inRound l (callsIn_wide.2 (HOV.out _ _ _ H9.out HY.out))).mono ?_;rintro en w5 ⟨rfl,hb5⟩;have H10:=zk (H9.out.below hb5);clear x0 xf;obtain ⟨x0,xf⟩:=H10.out.cB1 1 rfl;obtain ⟨bt',c6',hlb'⟩:=HC6.out _ _ H10.out;clear hb5)
        |(refine ⟨trivial,?_⟩;gi_at_call 130;refine (CallsIn.inRound l (callsIn_wide.2 (HTW.out _ _ _ H10.out c6'))).mono ?_;rintro en w6 ⟨⟨u6,rfl⟩,h6⟩;have H11:=zk h6;clear h6 x0 xf;obtain ⟨x0,xf⟩:=H11.out.cB1 1 rfl;obtain ⟨_,_,_,_,hla,hAl⟩:=led_at H11.out HY.out;obtain ⟨-, -, -, -, -, -, -, -,l8, -⟩:=hla)
        |(refine ⟨trivial,?_⟩;gi_at_call 98;refine (CallsIn.inRound l (callsIn_wide.2 (cdk H11.out HY.out))).mono ?_;rintro en w7 ⟨rfl,rfl⟩;rw [HDE.out]))
       exact zChn21
     ·simp only [ha,Bool.false_and,Bool.false_eq_true,if_false] at HWK2
      gi_wp2_with (first
       |(refine ⟨trivial,?_⟩;gi_at_call 102;refine (CallsIn.inRound l (callsIn_wide.2 (HOV.out _ _ _ H9.out HY.out))).mono ?_;rintro en w5 ⟨rfl,hb5⟩;have H10:=zk (H9.out.below hb5);clear x0 xf;obtain ⟨x0,xf⟩:=H10.out.cB1 1 rfl;obtain ⟨bt',c6',hlb'⟩:=HC6.out _ _ H10.out;clear hb5)
       |(refine ⟨trivial,?_⟩;gi_at_call 130;refine (CallsIn.inRound l (callsIn_wide.2 (HTW.out _ _ _ H10.out c6'))).mono ?_;rintro en w6 ⟨⟨u6,rfl⟩,h6⟩;have H11:=zk h6;clear h6 x0 xf;obtain ⟨x0,xf⟩:=H11.out.cB1 1 rfl;obtain ⟨_,_,_,_,hla,hAl⟩:=led_at H11.out HY.out;obtain ⟨-, -, -, -, -, -, -, -,l8, -⟩:=hla)
       |(refine ⟨trivial,?_⟩))
      exact zChn22
   case done2=>
    intro D2 W h;have h2:=Heap.spread (l:= [_,_,_]) h;unfold wJ at h2;rw [List.take_length] at h2;have h3:=h2.putAt 3 rfl (.deferred none);have h4:=h3.putAt 6 rfl (.deferred none);refine ⟨by simp,.inl ⟨_,_,rfl,run_takeDeferred (h2.at 3 rfl),?_⟩⟩;refine ⟨by simp,.inl ⟨_,_,rfl,run_takeDeferred (h3.at 6 rfl),?_⟩⟩;refine ⟨_,results_none rfl _ _ _,rfl,?_⟩;rw [HS.out];exact Heap.cha_to (bj:=bj) (A:=A2) (h4.sel (p:= [_,_,_,_,_,_,_]) [1,2] 7 rfl (by decide))
end Go.Proofs.YtlnghlamnehfjaaGreatDoor.S
