/- Part Q38. -/
import Derived.Test.YtlnghlamnehfjaaGreatDoorQ33
import Derived.Test.YtlnghlamnehfjaaGreatDoorQ36
import Derived.Test.YtlnghlamnehfjaaGreatDoorQ37
set_option linter.unusedVariables false
set_option linter.unusedSimpArgs false
set_option maxRecDepth 100000
set_option maxHeartbeats 64000000
namespace Go.Proofs.YtlnghlamnehfjaaGreatDoor.S
open Go.RowKit Go.Maps
attribute [local go_sem] Oper.semAt_some
theorem Qx5 {P:Prop} (h:P:=by
 refine Qbi (fun W=>W.cell? ⟨w.heap.size,0,none⟩=some (.pointer (some ⟨b,0,none⟩))) [(0,.f),(1,.f),(2,.e),(3,.e),(4,.e)] (by kernel_rfl) (by kernel_rfl) (by kernel_rfl) (fun ⟨_,_,h⟩=>h) x0 ?_;iterate 2
  first
   |(refine vg rfl rfl ?_;apply ex2;intro w' hw';go_simp;rfl;go_simp)
   |(refine vs_ rfl (fun K hK=>?_);go_simp;refine hK _ ?_;clear hK K)
 refine ve rfl rfl ?_;go_wp2_with (go_at_call 101;refine (cey H11.1.drew _ _ _ _ _).m1 fun w8 H12=>?_);refine ⟨(H12.1.cB1 1 rfl).1,?_⟩;go_simp;refine ve rfl rfl ?_;go_wp2_with fail;refine ⟨((H12.1.new (.cells #[.string (Kd.str .turn),.int .i64 i,.slice none 0 0] 171)).cB1 2 rfl).1,?_⟩;go_simp;refine ve rfl rfl ?_;go_wp2_with (go_at_call 100;refine (HN.1 _ _ (H12.1.sel (p:= [_,_,_]) [0,2,1] 3 rfl (by decide))).m2 fun w9 h13=>?_;have H13:=zk (h13.sel (p:= [_,_,_]) [0,2,1] 3 rfl (by decide));clear h13);refine ⟨(H13.1.cB1 1 rfl).1,?_⟩;go_simp;refine vn ?_;go_simp
 show Heap w0 _ _
 rw [HWK2.1];exact Heap.gather (l:= [_,_,_]) (H13.1.sel (p:= [_,_,_]) [1,0,2] 3 rfl (by decide))):P:=h
theorem Qio {P:Prop} (h:P:=by
 show Heap w0 _ _
 rw [HWK2.1];exact Heap.gather (l:= [_,_,_]) (H11.1.sel (p:= [_,_,_]) [1,0,2] 3 rfl (by decide))):P:=h
theorem Qwv {P:Prop} (h:P:=by
 gi_wp2_with (first
  |(refine ⟨trivial,?_⟩;gi_at_call 102;refine (CallsIn.inRound l (callsIn_wide.2 (HOV.1 _ _ _ H9.1 HY.1))).mono ?_;rintro en w5 ⟨rfl,hb5⟩;have H10:=zk (H9.1.below hb5);clear x0 xf;obtain ⟨x0,xf⟩:=H10.1.cB1 1 rfl;obtain ⟨bt',c6',hlb'⟩:=HC6.1 _ _ H10.1;clear hb5)
  |(refine ⟨trivial,?_⟩;gi_at_call 130;refine (CallsIn.inRound l (callsIn_wide.2 (HTW.1 _ _ _ H10.1 c6'))).mono ?_;rintro en w6 ⟨⟨u6,rfl⟩,h6⟩;have H11:=zk h6;clear h6 x0 xf;obtain ⟨x0,xf⟩:=H11.1.cB1 1 rfl;obtain ⟨_,_,_,_,hla,hAl⟩:=ZK H11.1 HY.1;obtain ⟨-, -, -, -, -, -, -, -,l8, -⟩:=hla)
  |(refine ⟨trivial,?_⟩;gi_at_call 98;refine (CallsIn.inRound l (callsIn_wide.2 (cdk H11.1 HY.1))).mono ?_;rintro en w7 ⟨rfl,rfl⟩;rw [HDE.1]))
 first
  |(have ty:Tg 1:=tg;exact Qio)
  |(have ty:Tg 2:=tg;exact Qx5)):P:=h
theorem Qvw {P:Prop} (h:P:=by
 gi_wp2_with (first
  |(refine ⟨trivial,?_⟩;gi_at_call 102;refine (CallsIn.inRound l (callsIn_wide.2 (HOV.1 _ _ _ H9.1 HY.1))).mono ?_;rintro en w5 ⟨rfl,hb5⟩;have H10:=zk (H9.1.below hb5);clear x0 xf;obtain ⟨x0,xf⟩:=H10.1.cB1 1 rfl;obtain ⟨_,_,_,_,hla,hAl⟩:=ZK H10.1 HY.1;obtain ⟨-, -, -, -, -, -, -, -,l8, -⟩:=hla;have H11:=H10;clear hb5)
  |(refine ⟨trivial,?_⟩;gi_at_call 98;refine (CallsIn.inRound l (callsIn_wide.2 (cdk H11.1 HY.1))).mono ?_;rintro en w7 ⟨rfl,rfl⟩;rw [HDE.1]))
 first
  |(have ty:Tg 1:=tg;exact Qio)
  |(have ty:Tg 2:=tg;exact Qx5)):P:=h
def Qa.DU:Qa→List Entry→Prop
 |_,[]=>True
 |c,e::r=>c.Fits e∧(c.Qg e).DU r
theorem Qq4:∀{c:Qa} {es:List Entry} {k:Nat} {e:Entry},c.DU es→es[k]? =some e→(c.Qi (es.take k)).Fits e
 |c,a::es,0,e,h,he=>by
  simp only [List.getElem?_cons_zero,Option.some.injEq] at he;subst he;exact h.1
 |c,a::es,k+1,e,h,he=>by
  simp only [List.getElem?_cons_succ] at he;exact Qq4 (c:=c.Qg a) h.2 he
theorem Qic (c:Qa) (es:List Entry) {n:Nat} {e:Entry} (h:es[n]? =some e):c.Qi (es.take (n+1))=(c.Qi (es.take n)).Qg e:=by
 obtain ⟨hk,rfl⟩:=List.getElem?_eq_some_iff.1 h;unfold Qa.Qi;rw [List.take_succ_eq_append_getElem hk,List.foldl_append];rfl
theorem Yy (es:List Entry):∀c:Qa,(c.Qi es).used=c.used+es.length∧(c.Qi es).j=c.j:=by
 induction es with
 |nil=>intro c;simp [Qa.Qi]
 |cons e r ih=>
  intro c;obtain ⟨h1,h2⟩:=ih (c.Qg e);refine ⟨?_,h2.trans (Ym _ _).2.2.2.1⟩
  show ((c.Qg e).Qi r).used=_
  rw [h1,Qeu,List.length_cons];omega
theorem Qpf {c:Qa} {e:Entry} (hb:e.kd≠ .begin) {id:Int} (h:(Qc c.l id).isSome=true):(Qc (c.notes [e]).2.l id).isSome=true:=by
 rw [YH];split;exact h
 ·show (Qc (({c with j:=(c.j.add e).2}:Qa).Qg e).l id).isSome=true
  have key:∀(k:Int) (x:Led),(Qc (Qt c.l k x) id).isSome=true:=fun k x=>by
   rw [JG];split;rfl;rename_i hne;rw [Jc,if_neg hne];exact h
  unfold Qa.Qg;split;exact absurd ‹_› hb;split;exact h;exact key _ _;split;exact h;exact key _ _
theorem Qnv {c:Qa} {e:Entry} (hb:e.kd≠ .begin) {id:Int} (h:(Qc c.l id).isSome=true):(Qc (c.Qm [e]).2.l id).isSome=true:=by
 unfold Qa.Qm;split<;>exact Qpf hb h
theorem Qt8 (c:Qa) (i:Int) {id:Int} (h:(Qc c.l id).isSome=true):(Qc (c.wake i).l id).isSome=true:=by
 unfold Qa.wake;split;exact h;rename_i x hx;simp only;split;refine Qnv (by simp) ?_;split<;>exact h
 split<;>exact h
theorem Qsg (c:Qa) (i:Int):(c.wake i).j.down=c.j.down:=by
 unfold Qa.wake;split;rfl;simp only;split;rw [YR];split<;>rfl
 split<;>rfl
theorem Qmz (is:List Int):∀(c:Qa) {id:Int},(Qc c.l id).isSome=true→(Qc (is.foldl Qa.wake c).l id).isSome=true:=by
 induction is with
 |nil=>intro c id h;exact h
 |cons i r ih=>intro c id h;exact ih _ (Qt8 c i h)
theorem Qcy (is:List Int):∀c:Qa,(is.foldl Qa.wake c).j.down=c.j.down:=by
 induction is with
 |nil=>intro c;rfl
 |cons i r ih=>intro c;exact (ih _).trans (Qsg c i)
theorem Qoi (c:Qa) (is:List Int) {n:Nat} {i:Int} (h:is[n]? =some i):(is.take (n+1)).foldl Qa.wake c=((is.take n).foldl Qa.wake c).wake i:=by
 obtain ⟨hk,rfl⟩:=List.getElem?_eq_some_iff.1 h;rw [List.take_succ_eq_append_getElem hk,List.foldl_append];rfl
def wJ (b bj bx:Nat) (A:Int→Nat) (c:Qa) (is:List Int) (k:Nat):SA:=.all [.pts bx (.cells #[b] 70),.cha b bj A ((is.take k).foldl Qa.wake c),.jrn bj ((is.take k).foldl Qa.wake c).j]
theorem Qsd {w0 w:World} {b:Nat} {c:Qa} {R:List SA} (h:Heap w0 (.Xu b c::R) w) (hes:c.j.down=true→(({c with j:=c.j.recover}:Qa).forget).DU c.j.es):
 CH 279 #[b] w (.tuple #[]) w0 (.Xu b c.start::R):=by
 have HH:=zk h;have HB:=zk (h.new (.cells #[b] 70));have HDN:=zk (Zi (HB.1.frt 1 rfl));have HS:As (c.start=if c.j.down=true then ((({c with j:=c.j.recover}:Qa).forget).Qi c.j.es).ids.foldl Qa.wake ((({c with j:=c.j.recover}:Qa).forget).Qi c.j.es) else c):=⟨rfl⟩;obtain ⟨bj,A,h2⟩:=(HB.1.frt 1 rfl).VD;have H2:=zk h2;have HLE:As (c.j.es.length≤4096):=⟨by
  have hp:=(h2.frt 1 rfl).Yp.1;have:=hp.len;have:=hp.r1;omega⟩
 obtain ⟨hp,bm,bt,h3⟩:=h2.QL;obtain ⟨c0,c1,c2,c3,c4,c5,c6,cf⟩:=h3.cB7 0 rfl;have hlb:=h3.lt 0 rfl;clear h h2 hp h3;generalize c.start=res at *;cases hd:c.j.down
 ·rw [hd] at HS HDN;clear hd hes;refine cmk Tryz.func279 rfl ?_;simp only [Tryz.ntmps279,List.size_toArray,List.length_cons,List.length_nil,Nat.reduceAdd,Nat.reduceSub,Array.replicate_succ,Array.replicate_zero,List.push_toArray,List.append_toArray,List.nil_append,List.cons_append];go_wp2_with (go_at_call 97;refine HDN.1.m0 ?_);refine ⟨_,results_none rfl _ _ _,rfl,?_⟩;rw [HS.1];exact HH.1.alloc _
 ·have HES:=zk (hes hd);clear hes;have HREC:As (∀W L,Heap w0 (.jrn bj c.j::L) W→Calls Tryz.prog 220 #[bj] W fun e w'=>∃n,e=.returned (.int .i64 n)∧Heap w0 (.jrn bj c.j.recover::L) w'):=⟨fun W L h=>VI h hd⟩;rw [hd] at HS HDN;simp only [if_true] at HS;clear hd;refine cmk Tryz.func279 rfl ?_;simp only [Tryz.ntmps279,List.size_toArray,List.length_cons,List.length_nil,Nat.reduceAdd,Nat.reduceSub,Array.replicate_succ,Array.replicate_zero,List.push_toArray,List.append_toArray,List.nil_append,List.cons_append];go_wp2_with (first
   |(go_at_call 97;refine HDN.1.m0 ?_)
   |(go_at_call 220;refine (HREC.1 _ _ (H2.1.frt 1 rfl)).mono ?_;rintro e w1 ⟨nr,rfl,h1⟩;have H4:=zk ((h1.frt 1 rfl).Qq3 c.j.recover);clear c0 c1 c2 c3 c4 c5 c6 cf hlb;obtain ⟨x0,xf⟩:=h1.cB1 2 rfl;clear h1)
   |(go_at_call 114;refine (Qdz H4.1).m2 fun w2 h2=>?_;clear x0 xf;have H5:=zk h2;obtain ⟨hp2,bm2,bt2,h3⟩:=h2.QL;obtain ⟨c0,c1,c2,c3,c4,c5,c6,cf⟩:=h3.cB7 0 rfl;obtain ⟨x0,xf⟩:=h2.cB1 2 rfl;have hlb:=h3.lt 0 rfl;clear h2 h3 hp2)
   |(go_at_call 221;refine (Qdy H5.1 bj).mono ?_;rintro e w3 ⟨bx,rfl,h3⟩;have H6:=zk h3;clear h3))
  clear c0 c1 c2 c3 c4 c5 c6 cf hlb x0 xf;have hje:(({c with j:=c.j.recover}:Qa).forget).j.es=c.j.es:=rfl;have hjr:(({c with j:=c.j.recover}:Qa).forget).j=c.j.recover:=rfl;have hu0:(({c with j:=c.j.recover}:Qa).forget).used=0:=rfl;have hjd:(({c with j:=c.j.recover}:Qa).forget).j.down=false:=rfl;generalize hs1:({c with j:=c.j.recover}:Qa).forget=s1 at *;rw [←hjr] at H6;have HLE2:As (s1.j.es.length≤4096):=⟨by rw [hje];exact HLE.1⟩;rw [←hje] at HES;refine UL rfl (enters_of Tryz.func227 (by kernel_rfl) rfl) rfl _ _ R s1.j.es _ (Uh w0 bx bj s1.j) (fun n=>.ex fun A:Int→Nat=>.all [.pts w.heap.size (.cells #[b] 70),.cha b bj A (s1.Qi (s1.j.es.take n))]) ?h0 2 (Qui (fun n=>.ex fun A:Int→Nat=>.all [.pts w.heap.size (.cells #[b] 70),.cha b bj A (s1.Qi (s1.j.es.take n))])) ?assign ?body ?done
  case h0=>
   exact Heap.Yr (f:=fun A:Int→Nat=>.all [.pts w.heap.size (.cells #[b] 70),.cha b bj A (s1.Qi (s1.j.es.take 0))]) A (Heap.gather (l:= [_,_]) ((H6.1.frt 1 rfl).frt 3 rfl))
  case assign=>
   intro l n x v X W K hk h hK;obtain ⟨u,rfl,h2⟩:=Jg h;have hK2:=hK _ _ (Je (h2.new (.cells #[.string x.kd.str,x.id,u] 171)));have hsh:=h2.shp 0 rfl;clear hK h h2;rcases hsh with ⟨rfl, -, -⟩|⟨g,cap,rfl, -, -, -⟩;all_goals
    simp [Fy,QK] at hK2;simp only [QK]
    gi_wp2
    exact hK2
  case body=>
   intro l n x v p X W hk h;obtain ⟨u,rfl,h2⟩:=JO h;obtain ⟨A2,h2⟩:=(h2.frt 2 rfl).YL;have h3:=Heap.spread (l:= [_,_]) h2;have HF:=zk (Qq4 HES.1 hk);have HSU:=zk (Qic s1 s1.j.es hk);have hlt:n<s1.j.es.length:=(List.getElem?_eq_some_iff.1 hk).1;have HUS:As ((s1.Qi (s1.j.es.take n)).used<4096):=⟨by
    rw [(Yy _ s1).1,List.length_take,hu0];have:=HLE2.1;omega⟩
   obtain ⟨x0,xf⟩:=h3.cB1 0 rfl;have e0:=h3.cB3 2 rfl;have H7:=zk ((h3.frt 3 rfl).frt 2 rfl);clear h h2 h3 hk;generalize s1.Qi (s1.j.es.take n)=sk at *;simp only [Fy,QK]
   gi_wp2_with (refine ⟨trivial,(CallsIn.inRound l (callsIn_wide.2 (Qf6 H7.1 HF.1 HUS.1))).mono ?_⟩;rintro en w4 ⟨rfl,A3, -, -,h4⟩;have H8:=zk h4;clear h4)
   show Heap w0 _ _
   rw [HSU.1];exact Heap.Yr (f:=fun A:Int→Nat=>.all [.pts w.heap.size (.cells #[b] 70),.cha b bj A (sk.Qg x)]) A3 (Heap.gather (l:= [_,_]) ((H8.1.sel (p:= [_,_,_,_]) [2,0] 4 rfl (by decide))))
  case done=>
   intro D W h;obtain ⟨A2,h⟩:=h.YL;have h2:=Heap.spread (l:= [_,_]) h;rw [List.take_length] at h2;obtain ⟨s2,hs2⟩:∃s2,s2=s1.Qi s1.j.es:=⟨_,rfl⟩;have hs2j:s2.j=s1.j:=by rw [hs2];exact (Yy _ s1).2
   have HDW:As (s2.j.down=false):=⟨by rw [hs2j];exact hjd⟩;rw [show s1.Qi c.j.es=s2 by rw [hs2,hje]] at HS;rw [←hs2,←hs2j] at h2;clear hs2 hs2j HLE HLE2 HES H6 HREC;have H7:=zk (h2.sel (p:= [_,_,_,_,_]) [1,0,4,2] 5 rfl (by decide));obtain ⟨x0,xf⟩:=H7.1.cB1 1 rfl;clear h h2;go_wp2_with (go_at_call 30;refine (Qpz H7.1).mono ?_;rintro e w4 ⟨bi,vi,rfl,h4⟩;clear x0 xf;have H8:=zk h4;clear h4);have HLEN:As (s2.ids.length≤100000):=⟨by
    have:=(H8.1.frt 2 rfl).Yl.keys.len;simp [Qa.ids];omega⟩
   have HKEY:As (∀i∈s2.ids,(Qc s2.l i).isSome=true∧1≤i∧i≤999):=⟨fun i hi=>by
    obtain ⟨p,hp,rfl⟩:=List.mem_map.1 hi;exact ⟨Tz hp,(H8.1.frt 2 rfl).Yl.keys.2 p hp⟩⟩
   have HIL:As (∀k i,s2.ids[k]? =some i→i∈s2.ids):=⟨fun k i h=>List.mem_of_getElem? h⟩;refine Vb rfl (enters_of Tryz.func87 (by kernel_rfl) rfl) _ (.pts D (.deferred (some []))::R) s2.ids encI (fun _=>rfl) (YD w0 bi vi s2.ids HLEN.1) .ret (wJ b bj w.heap.size A2 s2 s2.ids) (fun _=>.when False .emp) ?h02 [(3,0)] ?assign2 ?body2 ?done2 ?stop2
   case h02=>exact Heap.gather (l:= [_,_,_]) (H8.1.sel (p:= [_,_,_,_,_,_]) [3,2,4,0,1,5] 6 rfl (by decide))
   case assign2=>
    intro y x W K hK;simp only [encI] at hK⊢;simp [QC] at hK;simp only [QC]
    gi_wp2
    exact hK
   case stop2=>
    intro D2 k W hk h;exact (h.QT.1).elim
   case body2=>
    intro l k i X W hk h;have hin:=HKEY.1 i (HIL.1 k i hk);have HSU:=zk (Qoi s2 s2.ids hk);have hsome:=Qmz (s2.ids.take k) s2 hin.1;have HCD:As (((s2.ids.take k).foldl Qa.wake s2).j.down=false):=⟨(Qcy _ _).trans HDW.1⟩;have h2:=Heap.spread (l:= [_,_,_]) h;obtain ⟨hi0,hi1⟩:=hin.2;unfold wJ;rw [HSU.1];clear h hin;generalize (s2.ids.take k).foldl Qa.wake s2=ck at *;obtain ⟨y,hy⟩:=Option.isSome_iff_exists.1 hsome;obtain ⟨x0,xf⟩:=h2.cB1 0 rfl;have H9:=zk (h2.frt 1 rfl);have HOKC:=zk (h2.frt 1 rfl).Yl;obtain ⟨bm,bt,⟨c5,c6⟩,⟨c3,cf,hlb⟩,hlk, -⟩:=TD (h2.frt 1 rfl) hi0 hi1;rw [hy] at hlk;simp only [VQ] at hlk;have HWK:As (ck.wake i=if (y.f.asked&& !y.decided)=true then ((if y.over=true then ck else ck.hang i).Qm [⟨.turn,i,[]⟩]).2 else (if y.over=true then ck else ck.hang i)):=⟨by unfold Qa.wake;simp only [hy]⟩;have HY:=zk hy;have HYO:=zk ((HOKC.1.get hy).1);have HOV:As (∀W L c',Heap w0 (.cha b bj A2 c'::L) W→Qc c'.l i=some y→(Calls Tryz.prog 102 #[(A2 i)] W fun e w'=>e=.returned (.bool y.over)∧Below W.heap.size W w')):=⟨fun W L c' h hx=>by
     obtain ⟨hp,bm,bt,h⟩:=h.Zu hx;exact Qee h (hp.get hx).1⟩
    simp only [QC,encI];clear h2 hy hsome hk HSU;generalize ck.wake i=wk at *;rcases Bool.eq_false_or_eq_true y.over with hov|hov
    ·have HWK2:As (wk=if (y.f.asked&& !y.decided)=true then (ck.Qm [⟨.turn,i,[]⟩]).2 else ck):=⟨by rw [HWK.1,hov];rfl⟩;clear HWK;rw [hov] at HOV;rcases Bool.eq_false_or_eq_true y.f.asked with ha|ha;have HAS:=zk ha;rcases Bool.eq_false_or_eq_true y.decided with hde|hde;have HDE:=zk hde;simp only [ha,hde,Bool.not_true,Bool.and_false,Bool.false_eq_true,if_false] at HWK2;rw [ha] at HAS;have tg:=Tg.mk 1;exact Qvw;have HDE:=zk hde;simp only [ha,hde,Bool.not_false,Bool.and_true,if_true] at HWK2;have HFT:As (ck.Fits ⟨.turn,i,[]⟩):=⟨.turn i y HY.1 hde⟩;have HEO:=zk (QB hi0 hi1 .turn);have HN:As (∀W L,Heap w0 (.cha b bj A2 ck::.jrn bj ck.j::L) W→CH 100 #[b,.slice (some ⟨W.heap.size,0,none⟩) 1 1] (W.alloc (.cells #[.string (Kd.str .turn),.int .i64 i,.slice none 0 0] 171)) (.bool (ck.Qm [⟨.turn,i,[]⟩]).1) w0 (.cha b bj A2 (ck.Qm [⟨.turn,i,[]⟩]).2::.jrn bj (ck.Qm [⟨.turn,i,[]⟩]).2.j::L)):=⟨fun W L h=>VX h HFT.1 HEO.1 (by simp) HCD.1⟩;generalize ck.Qm [⟨.turn,i,[]⟩]=pn at *;obtain ⟨okp,nc⟩:=pn;simp only at HN HWK2;have tg:=Tg.mk 2;exact Qvw
     ·simp only [ha,Bool.false_and,Bool.false_eq_true,if_false] at HWK2
      gi_wp2_with (first
       |(refine ⟨trivial,?_⟩;gi_at_call 102;refine (CallsIn.inRound l (callsIn_wide.2 (HOV.1 _ _ _ H9.1 HY.1))).mono ?_;rintro en w5 ⟨rfl,hb5⟩;have H10:=zk (H9.1.below hb5);clear x0 xf;obtain ⟨x0,xf⟩:=H10.1.cB1 1 rfl;obtain ⟨_,_,_,_,hla,hAl⟩:=ZK H10.1 HY.1;obtain ⟨-, -, -, -, -, -, -, -,l8, -⟩:=hla;have H11:=H10;clear hb5)
       |(refine ⟨trivial,?_⟩))
      exact Qio
    ·have HWK2:As (wk=if (y.f.asked&& !y.decided)=true then ((ck.hang i).Qm [⟨.turn,i,[]⟩]).2 else (ck.hang i)):=⟨by rw [HWK.1,hov];rfl⟩;clear HWK;rw [hov] at HOV;have HC6:As (∀W L,Heap w0 (.cha b bj A2 ck::L) W→∃bt,W.cell? ⟨b,6,none⟩=some (.pointer (some ⟨bt,0,none⟩))∧b<W.heap.size):=⟨fun W L h=>by
      obtain ⟨hp,bm',bt',h3⟩:=h.QL;exact ⟨bt',h3.cell 0 6 rfl rfl,h3.lt 0 rfl⟩⟩
     have HTW:As (∀W L bt,Heap w0 (.cha b bj A2 ck::L) W→W.cell? ⟨b,6,none⟩=some (.pointer (some ⟨bt,0,none⟩))→Calls Tryz.prog 130 #[bt,.int .i64 i] W fun e w'=>(∃u,e=.returned (.bool u))∧Heap w0 (.cha b bj A2 (ck.hang i)::L) w'):=⟨fun W L bt h h6=>by
      obtain ⟨hp,bm',bt',h3⟩:=h.QL;obtain rfl:bt=bt':=by have:=h3.cell 0 6 rfl rfl;rw [h6] at this;cases this;rfl
      refine (Qqm (h3.frt 2 rfl) i hi0 hi1 ⟨by have:=hp.Qf.len;omega⟩).mono ?_;rintro e w' ⟨rfl,h'⟩;exact ⟨⟨_,rfl⟩,Heap.Xf (c:=ck.hang i) (HOKC.1.Xo (YZ HOKC.1.Qf i)) (h'.sel (p:= [_,_,_]) [1,2,0] 3 rfl (by decide))⟩⟩
     rcases Bool.eq_false_or_eq_true y.f.asked with ha|ha;have HAS:=zk ha;rcases Bool.eq_false_or_eq_true y.decided with hde|hde;have HDE:=zk hde;simp only [ha,hde,Bool.not_true,Bool.and_false,Bool.false_eq_true,if_false] at HWK2;rw [ha] at HAS;have tg:=Tg.mk 1;exact Qwv;have HDE:=zk hde;simp only [ha,hde,Bool.not_false,Bool.and_true,if_true] at HWK2;have HFT:As ((ck.hang i).Fits ⟨.turn,i,[]⟩):=⟨.turn i y HY.1 hde⟩;have HEO:=zk (QB hi0 hi1 .turn);have HN:As (∀W L,Heap w0 (.cha b bj A2 (ck.hang i)::.jrn bj (ck.hang i).j::L) W→CH 100 #[b,.slice (some ⟨W.heap.size,0,none⟩) 1 1] (W.alloc (.cells #[.string (Kd.str .turn),.int .i64 i,.slice none 0 0] 171)) (.bool ((ck.hang i).Qm [⟨.turn,i,[]⟩]).1) w0 (.cha b bj A2 ((ck.hang i).Qm [⟨.turn,i,[]⟩]).2::.jrn bj ((ck.hang i).Qm [⟨.turn,i,[]⟩]).2.j::L)):=⟨fun W L h=>VX h HFT.1 HEO.1 (by simp) HCD.1⟩;generalize (ck.hang i).Qm [⟨.turn,i,[]⟩]=pn at *;obtain ⟨okp,nc⟩:=pn;simp only at HN HWK2;have tg:=Tg.mk 2;exact Qwv
     ·simp only [ha,Bool.false_and,Bool.false_eq_true,if_false] at HWK2
      gi_wp2_with (first
       |(refine ⟨trivial,?_⟩;gi_at_call 102;refine (CallsIn.inRound l (callsIn_wide.2 (HOV.1 _ _ _ H9.1 HY.1))).mono ?_;rintro en w5 ⟨rfl,hb5⟩;have H10:=zk (H9.1.below hb5);clear x0 xf;obtain ⟨x0,xf⟩:=H10.1.cB1 1 rfl;obtain ⟨bt',c6',hlb'⟩:=HC6.1 _ _ H10.1;clear hb5)
       |(refine ⟨trivial,?_⟩;gi_at_call 130;refine (CallsIn.inRound l (callsIn_wide.2 (HTW.1 _ _ _ H10.1 c6'))).mono ?_;rintro en w6 ⟨⟨u6,rfl⟩,h6⟩;have H11:=zk h6;clear h6 x0 xf;obtain ⟨x0,xf⟩:=H11.1.cB1 1 rfl;obtain ⟨_,_,_,_,hla,hAl⟩:=ZK H11.1 HY.1;obtain ⟨-, -, -, -, -, -, -, -,l8, -⟩:=hla)
       |(refine ⟨trivial,?_⟩))
      exact Qio
   case done2=>
    intro D2 W h;have h2:=Heap.spread (l:= [_,_,_]) h;unfold wJ at h2;rw [List.take_length] at h2;have h3:=h2.putAt 3 rfl (.deferred none);have h4:=h3.putAt 6 rfl (.deferred none);refine ⟨by simp,.inl ⟨_,_,rfl,run_takeDeferred (h2.at 3 rfl),?_⟩⟩;refine ⟨by simp,.inl ⟨_,_,rfl,run_takeDeferred (h3.at 6 rfl),?_⟩⟩;refine ⟨_,results_none rfl _ _ _,rfl,?_⟩;rw [HS.1];exact Heap.Xy (bj:=bj) (A:=A2) (h4.sel (p:= [_,_,_,_,_,_,_]) [1,2] 7 rfl (by decide))
end Go.Proofs.YtlnghlamnehfjaaGreatDoor.S
namespace Go.Proofs.YtlnghlamnehfjaaGreatDoor.S
open Go.RowKit Go.Maps
theorem Qw9 {P:Prop} (h:P:=by
 split;exact (h1.mono (fun k hk=>⟨trivial,fun _ e' he'=>by rw [List.mem_singleton] at he';subst he';exact hk⟩)).goes h2;rename_i hn;exact ⟨h1.mono (fun k _=>⟨trivial,fun e=>absurd e hn⟩),h2⟩):P:=h
theorem QS {V:Type} (m:IM V) (k k':Int) (v:V):Qc (Qt m k v) k'=if k=k' then some v else Qc m k':=by
 rw [JG,Jc];split<;>rfl
def Led.base (x:Led):Od×Facts×Bool:=(x.o,x.f,x.t.isSome)
def Alike (l l':IM Led):Prop:=∀id,(Qc l id).map Led.base=(Qc l' id).map Led.base
theorem Alike.refl (l:IM Led):Alike l l:=fun _=>rfl
theorem Alike.symm {l l':IM Led} (h:Alike l l'):Alike l' l:=fun id=>(h id).symm
theorem Alike.trans {l l' l'':IM Led} (h:Alike l l') (h':Alike l' l''):Alike l l'':=fun id=>(h id).trans (h' id)
theorem Alike.some {l l':IM Led} (h:Alike l l') {id:Int} {x:Led} (hx:Qc l id=some x):∃y,Qc l' id=.some y∧y.o=x.o∧y.f=x.f∧y.t.isSome=x.t.isSome:=by
 have:=h id;rw [hx] at this;cases hy:Qc l' id with
 |none=>rw [hy] at this;cases this
 |some y=>
  rw [hy] at this;simp only [Option.map_some,Option.some.injEq,Led.base,Prod.mk.injEq] at this;exact ⟨y,rfl,this.1.symm,this.2.1.symm,this.2.2.symm⟩
theorem Alike.none {l l':IM Led} (h:Alike l l') {id:Int} (hx:Qc l id=none):Qc l' id=.none:=by
 have:=h id;rw [hx] at this;cases hy:Qc l' id with
 |none=>rfl
 |some y=>rw [hy] at this;cases this
theorem Alike.put {l l':IM Led} (h:Alike l l') (id:Int) {x y:Led} (hb:x.base=y.base):Alike (Qt l id x) (Qt l' id y):=by
 intro k;rw [QS,QS];split;simp [hb];exact h k
theorem Kv {x y:Led} (h:x.base=y.base) (kd:Kd) (n:Int):(x.facts kd n).base=(y.facts kd n).base:=by
 obtain ⟨o,f,t⟩:=x;obtain ⟨o',f',t'⟩:=y;simp only [Led.base,Prod.mk.injEq] at h;obtain ⟨rfl,rfl,h⟩:=h;cases kd<;>simp only [Led.facts,Led.base]<;>(try rw [h])<;>(try split)<;>simp [h]
theorem Qhh {x y:Led} (h:x.base=y.base) (s n:Int):(x.more s n).base=(y.more s n).base:=by
 obtain ⟨o,f,t⟩:=x;obtain ⟨o',f',t'⟩:=y;simp only [Led.base,Prod.mk.injEq] at h;obtain ⟨rfl,rfl,h⟩:=h;simp [Led.more,Led.base,h]
theorem TW {c c':Qa} (h:Alike c.l c'.l) (e:Entry):Alike (c.Qg e).l (c'.Qg e).l:=by
 have hget:∀id,(Qc c.l id=none∧Qc c'.l id=none)∨∃x y,Qc c.l id=some x∧Qc c'.l id=some y∧x.base=y.base:=by
  intro id;cases hx:Qc c.l id with
  |none=>exact .inl ⟨rfl,h.none hx⟩
  |some x=>
   obtain ⟨y,hy,h1,h2,h3⟩:=h.some hx;exact .inr ⟨x,y,rfl,hy,by simp [Led.base,h1,h2,h3]⟩
 unfold Qa.Qg;split;exact h.put _ rfl;rcases hget e.id with ⟨h1,h2⟩|⟨x,y,h1,h2,h3⟩;simp only [h1,h2];exact h;simp only [h1,h2];exact h.put _ (Qhh h3 _ _);rcases hget e.id with ⟨h1,h2⟩|⟨x,y,h1,h2,h3⟩;simp only [h1,h2];exact h;simp only [h1,h2];exact h.put _ (Kv h3 _ _)
theorem KN {c c':Qa} (h:Alike c.l c'.l) {e:Entry} (hf:c.Fits e):c'.Fits e:=by
 cases hf with
 |begin id a b d p ho hn=>exact .begin id a b d p ho (h.none hn)
 |step id i s n x hx hi hf ht ho=>
  obtain ⟨y,hy,h1,h2,h3⟩:=h.some hx;exact .step id i s n y hy hi (by rw [h1,h2];exact hf) (by rw [ht] at h3;simpa using h3) (by
   have e:(y.more s n).o=(x.more s n).o:=by simp [Led.more,h1]
   rw [e];exact ho)
 |asked id x hx hd hf=>
  obtain ⟨y,hy,h1,h2,h3⟩:=h.some hx;exact .asked id y hy (by unfold Led.decided;rw [h2];exact hd) (by rw [h2];exact hf)
 |done id k x hx ha hd hk=>
  obtain ⟨y,hy,h1,h2,h3⟩:=h.some hx;exact .done id k y hy (by rw [h2];exact ha) (by unfold Led.decided;rw [h2];exact hd) (by rw [h2];exact hk)
 |undone id k x hx ht hk=>
  obtain ⟨y,hy,h1,h2,h3⟩:=h.some hx;exact .undone id k y hy (by rw [h2];exact ht) (by rw [h2];exact hk)
 |yes id x hx ha hd=>
  obtain ⟨y,hy,h1,h2,h3⟩:=h.some hx;exact .yes id y hy (by rw [h2];exact ha) (by unfold Led.decided;rw [h2];exact hd)
 |turn id x hx hd=>
  obtain ⟨y,hy,h1,h2,h3⟩:=h.some hx;exact .turn id y hy (by unfold Led.decided;rw [h2];exact hd)
 |ack id n x hx hn hd=>
  obtain ⟨y,hy,h1,h2,h3⟩:=h.some hx;exact .ack id n y hy hn (by unfold Led.decided;rw [h2];exact hd)
 |damage id n x hx hn hd=>
  obtain ⟨y,hy,h1,h2,h3⟩:=h.some hx;exact .damage id n y hy hn (by unfold Led.decided;rw [h2];exact hd)
 |shipped id x hx hy'=>
  obtain ⟨y,hy,h1,h2,h3⟩:=h.some hx;exact .shipped id y hy (by rw [h2];exact hy')
theorem Qct:∀(es:List Entry) {c c':Qa},Alike c.l c'.l→c.DU es→c'.DU es
 | [],_,_,_,_=>trivial
 |e::r,_,_,h,hh=>⟨KN h hh.1,Qct r (TW h e) hh.2⟩
theorem ZR:∀(es:List Entry) {c c':Qa},Alike c.l c'.l→Alike (c.Qi es).l (c'.Qi es).l
 | [],_,_,h=>h
 |e::r,_,_,h=>ZR r (TW h e)
theorem Qd6:∀(es:List Entry) {c:Qa} {es':List Entry},c.DU (es++es')↔c.DU es∧(c.Qi es).DU es'
 | [],_,_=>⟨fun h=>⟨trivial,h⟩,fun h=>h.2⟩
 |e::r,c,es'=>by
  have h:=Qd6 r (c:=c.Qg e) (es':=es');exact ⟨fun ⟨a,b⟩=>⟨⟨a,(h.1 b).1⟩,(h.1 b).2⟩,fun ⟨⟨a,b⟩,c⟩=>⟨a,h.2 ⟨b,c⟩⟩⟩
theorem Qtt {c:Qa} {es:List Entry} (h:c.DU es) (n:Nat):c.DU (es.take n):=by
 rw [←List.take_append_drop n es,Qd6] at h;exact h.1
def Qa.nil:Qa:=⟨0,0,0,⟨0,[],0,false⟩,0,[],⟨0,[]⟩⟩
structure CFb (P:Int→Prop) (c:Qa):Prop where
 ok:c.ok
 room:c.room=c.j.room
 len:(c.j.es.length:Int)≤c.j.room
 hist:Qa.nil.DU c.j.es
 up:c.j.down=false→Alike (Qa.nil.Qi c.j.es).l c.l∧c.used=c.j.es.length
 Xo:∀id x,P id→Qc c.l id=some x→c.Qf.has id=true→x.over=false
 two:∀id x,Qc c.l id=some x→x.t≠some (true,true)
abbrev CF (c:Qa):Prop:=CFb (fun _=>True) c
theorem CFb.mono {P Q:Int→Prop} {c:Qa} (h:CFb P c) (hq:∀k,Q k→P k):CFb Q c:=
 ⟨h.ok,h.room,h.len,h.hist,h.up,fun id x hP=>h.Xo id x (hq id hP),h.two⟩
theorem ZH {c:Qa} {e:Entry} {k:Int} (h:k≠e.id):Qc (c.Qg e).l k=Qc c.l k:=by
 have hp:∀x,Qc (Qt c.l e.id x) k=Qc c.l k:=fun x=>by rw [QS,if_neg (Ne.symm h)]
 unfold Qa.Qg;split;exact hp _;split;rfl;exact hp _;split;rfl;exact hp _
theorem Qfl {c:Qa} {e:Entry} {x:Led} (h:∀y,Qc c.l e.id=some y→y.t≠some (true,true)) (hx:Qc (c.Qg e).l e.id=some x):x.t≠some (true,true):=by
 unfold Qa.Qg at hx;split at hx;rw [show Qc (c.Xd e.id _).l e.id=_ from QJ _ _ _] at hx;obtain rfl:=Option.some.inj hx;simp;split at hx;exact h x hx;rename_i y hy;rw [show Qc (c.Xd e.id _).l e.id=_ from QJ _ _ _] at hx;obtain rfl:=Option.some.inj hx;exact h y hy
 ·split at hx;exact h x hx
  ·rename_i y hy;rw [show Qc (c.Xd e.id _).l e.id=_ from QJ _ _ _] at hx;obtain rfl:=Option.some.inj hx;have:=h y hy;rename_i kd _ _ _;cases e.kd<;>simp only [Led.facts]<;>(try split)<;>first|exact this|simp
theorem Qdb (c:Qa) (e:Entry):(c.Qg e).used=c.used+1∧(c.Qg e).j=c.j∧(c.Qg e).Qf=c.Qf∧(c.Qg e).room=c.room:=by
 unfold Qa.Qg;split;exact ⟨rfl,rfl,rfl,rfl⟩;split<;>exact ⟨rfl,rfl,rfl,rfl⟩
 split<;>exact ⟨rfl,rfl,rfl,rfl⟩
theorem CFb.Qq {P:Int→Prop} {c:Qa} (h:CFb P c) (hd:c.j.down=false) {e:Entry} (hf:c.Fits e) (hr:c.used<c.room):CFb (fun k=>P k∧k≠e.id) (c.Qq e)∧(c.Qq e).j.down=false∧(c.Qq e).used=c.used+1∧(c.Qq e).room=c.room:=by
 obtain ⟨hal,hu⟩:=h.up hd;have hadd:(c.j.add e).2= {c.j with es:=c.j.es++ [e]}:=by
  unfold Jrn.add;rw [if_neg (by rw [←h.room,←hu];omega)]
 have hok2:({c with j:=(c.j.add e).2}:Qa).ok:=⟨h.ok.keys,h.ok.led,h.ok.Qf,h.ok.t0,h.ok.t1,h.ok.r1,h.ok.used0,h.ok.used1⟩;have hf2:({c with j:=(c.j.add e).2}:Qa).Fits e:=KN (c:=c) (c':= {c with j:=(c.j.add e).2}) (Alike.refl _) hf;have hok:=hok2.Qg hf2 (by show c.used<4096;have:=h.ok.r1;omega);obtain ⟨p1,p2,p3,p4⟩:=Qdb ({c with j:=(c.j.add e).2}:Qa) e;have hj:(c.Qq e).j= {c.j with es:=c.j.es++ [e]}:=p2.trans hadd;refine ⟨⟨hok,?_,?_,?_,fun _=>⟨?_,?_⟩,fun id x hP hx hb=>?_,fun id x hx=>?_⟩,?_,p1,p4⟩;rw [hj];exact p4.trans h.room;rw [hj];simp only [List.length_append,List.length_singleton];have:=h.room;omega;rw [hj]
 show Qa.nil.DU (c.j.es++ [e])
 rw [Qd6];exact ⟨h.hist,KN hal.symm hf,trivial⟩;rw [hj]
 show Alike (Qa.nil.Qi (c.j.es++ [e])).l _
 unfold Qa.Qi;rw [List.foldl_append];exact TW (c:=Qa.nil.Qi c.j.es) (c':=({c with j:=(c.j.add e).2}:Qa)) hal e;rw [hj]
 show (c.Qq e).used=((c.j.es++ [e]).length:Int)
 rw [show (c.Qq e).used=c.used+1 from p1,hu];simp
 ·have hx':Qc c.l id=some x:=by
   rw [←hx];exact (ZH (c:=({c with j:=(c.j.add e).2}:Qa)) hP.2).symm
  exact h.Xo id x hP.1 hx' (by rw [←hb];show _=Qy.has (Qa.Qg _ e).Qf id;rw [p3])
 by_cases hk:id=e.id;subst hk;exact Qfl (c:=({c with j:=(c.j.add e).2}:Qa)) (fun y hy=>h.two _ y hy) hx;exact h.two id x (by rw [←hx];exact (ZH (c:=({c with j:=(c.j.add e).2}:Qa)) hk).symm);rw [hj];exact hd
theorem CFb.run {P:Int→Prop}:∀(es:List Entry) {c:Qa},CFb P c→c.j.down=false→c.Run es→c.used+es.length≤c.room→CFb (fun k=>P k∧∀e∈es,k≠e.id) (es.foldl Qa.Qq c)∧(es.foldl Qa.Qq c).j.down=false
 | [],c,h,hd,_,_=>⟨h.mono (fun k hk=>hk.1),hd⟩
 |e::r,c,h,hd,hr,hl=>by
  simp only [List.length_cons] at hl;obtain ⟨h1,h2,h3,h4⟩:=h.Qq hd hr.1 (by omega);obtain ⟨h5,h6⟩:=CFb.run r h1 h2 hr.2.2 (by rw [h3,h4];omega);exact ⟨h5.mono (fun k hk=>⟨⟨hk.1,hk.2 e (by simp)⟩,fun e' he'=>hk.2 e' (by simp [he'])⟩),h6⟩
theorem CFb.sync {P:Int→Prop} {c:Qa} (h:CFb P c):CFb P c.sync:=⟨⟨h.ok.keys,h.ok.led,h.ok.Qf,h.ok.t0,h.ok.t1,h.ok.r1,h.ok.used0,h.ok.used1⟩,h.room,h.len,h.hist,h.up,h.Xo,h.two⟩
theorem CFb.notes {P:Int→Prop} {c:Qa} (h:CFb P c) (hd:c.j.down=false) {es:List Entry} (hr:c.Run es):CFb (fun k=>P k∧((c.notes es).1=true→∀e∈es,k≠e.id)) (c.notes es).2∧(c.notes es).2.j.down=false:=by
 rw [YH];split;exact ⟨h.mono (fun k hk=>hk.1),hd⟩;rename_i hn;obtain ⟨h1,h2⟩:=CFb.run es h hd hr (by omega);exact ⟨h1.mono (fun k hk=>⟨hk.1,hk.2 rfl⟩),h2⟩
theorem CFb.Qm {P:Int→Prop} {c:Qa} (h:CFb P c) (hd:c.j.down=false) {es:List Entry} (hr:c.Run es):CFb (fun k=>P k∧((c.Qm es).1=true→∀e∈es,k≠e.id)) (c.Qm es).2∧(c.Qm es).2.j.down=false:=by
 obtain ⟨h1,h2⟩:=h.notes hd hr;unfold Qa.Qm;split;rename_i hn;exact ⟨(h1.mono (fun k hk=>⟨hk.1,fun _=>hk.2 rfl⟩)).sync,h2⟩;rename_i hn;exact ⟨h1.mono (fun k hk=>⟨hk.1,fun e=>absurd e hn⟩),h2⟩
theorem UQ {c:Qa} {e:Entry} (hf:c.Fits e) (he:e.ok):c.Run [e]:=⟨hf,he,trivial⟩
theorem CFb.Qf {P Q:Int→Prop} {c:Qa} (h:CFb P c) {t:Qy} (ht:Ql t.left) (hq:∀id x,Q id→Qc c.l id=some x→t.has id=true→x.over=false):CFb Q {c with Qf:=t}:=
 ⟨h.ok.Xo ht,h.room,h.len,h.hist,h.up,hq,h.two⟩
theorem Jo (t:Qy) (id k:Int):(t.again id).has k=t.has k:=by
 unfold Qy.again;split;rename_i h;unfold Qy.has at h⊢
 show (Qc (Qt t.left id t.tries) k).isSome=_
 rw [QS];split;rename_i e;subst e;simp [h];rfl;rfl
theorem Qqu (t:Qy) (id k:Int):(t.cut id).has k=(t.has k&& !decide (id=k)):=by
 unfold Qy.cut;split;unfold Qy.has;simp only [Jc];split<;>simp_all
 rename_i h;by_cases e:id=k;subst e;simpa using h;simp [e]
theorem TP {t:Qy} {id k:Int} (h:(t.hang id).has k=true):t.has k=true∨k=id:=by
 unfold Qy.hang at h;split at h;unfold Qy.has at h⊢;simp only [QS] at h;split at h;rename_i e;exact .inr e.symm;exact .inl h;exact .inl h
theorem Qg1 (t:Qy) (id k:Int):(t.ring id).2.2.has k=t.has k:=by
 unfold Qy.ring;split;rfl;rename_i h;split;rfl;unfold Qy.has at h⊢;simp only [QS];split;rename_i e;subst e;cases hh:(Qc t.left id).isSome;exact absurd hh h;rfl;rfl
theorem Dv {x:Led} (h:x.over=true):x.decided=true:=by
 unfold Led.over Facts.over Facts.ends at h;unfold Led.decided;cases hy:x.f.yes<;>cases ht:x.f.turned<;>simp [hy,ht] at h⊢
 cases ha:x.f.asked<;>simp [ha] at h
theorem Qxa {x:Led} (h:x.decided=false):x.over=false:=by
 cases e:x.over;rfl;rw [Dv e] at h;cases h
theorem CFb.again {P:Int→Prop} {c:Qa} (h:CFb P c) (id:Int):CFb P (c.again id):=
 h.Qf (Vv h.ok.Qf id) (fun k x hq hx hb=>h.Xo k x hq hx (by rw [←Jo c.Qf id];exact hb))
theorem CFb.Qa8 {P:Int→Prop} {c:Qa} (h:CFb P c) (id:Int):CFb P {c with Qf:=(c.Qf.ring id).2.2}:=
 h.Qf (Qf0 h.ok.Qf id) (fun k x hq hx hb=>h.Xo k x hq hx (by rw [←Qg1 c.Qf id];exact hb))
theorem CFb.sends {c:Qa} {P:Int→Prop} (h:CFb P c) (hd:c.j.down=false) {x:Led} (hx:Qc c.l x.o.id=some x):CFb P (c.sends x).2∧(c.sends x).2.j.down=false:=by
 unfold Qa.sends;split
 ·rename_i hp;have hp1:Zn (Xa x.o x.f)=true:=by simp at hp;exact hp.1
  obtain ⟨p1,p2,p3⟩:=Qbp hp1;have hdec:x.decided=false:=by unfold Led.decided;rw [p1,p2];rfl
  have hg:=h.ok.get hx;have hr:c.Run [⟨.asked,x.o.id,[]⟩]:=UQ (.asked _ x hx hdec p3) (QB hg.2.1 hg.2.2 _);obtain ⟨h1,h2⟩:=h.notes hd hr;have h3:CFb P (c.notes [⟨.asked,x.o.id,[]⟩]).2:=by
   refine ⟨h1.ok,h1.room,h1.len,h1.hist,h1.up,fun k y hP hy hb=>?_,h1.two⟩;by_cases hk:k=x.o.id
   ·subst hk;cases hn:(c.notes [⟨.asked,x.o.id,[]⟩]).1 with
    |true=>
     have e:=YN hn hx ⟨by simp,by simp⟩;rw [e] at hy;obtain rfl:=Option.some.inj hy;exact Qxa (by unfold Led.decided Led.facts;simp [p1,p2])
    |false=>exact h1.Xo _ y ⟨hP,fun e=>by rw [hn] at e;cases e⟩ hy hb
   exact h1.Xo k y ⟨hP,fun _ e he=>by rw [List.mem_singleton] at he;subst he;exact hk⟩ hy hb
  split;exact ⟨h3,h2⟩;exact ⟨h3,h2⟩
 exact ⟨h,hd⟩
theorem CFb.goes {c:Qa} {id:Int} (h:CFb (fun k=>k≠id) c) (hd:c.j.down=false):CF (c.goes id).2∧(c.goes id).2.j.down=false:=by
 unfold Qa.goes;split;rename_i hn;exact ⟨⟨h.ok,h.room,h.len,h.hist,h.up,fun k x _ hx hb=>h.Xo k x (fun e=>by subst e;rw [hn] at hx;cases hx) hx hb,h.two⟩,hd⟩
 ·rename_i x hx;have hid:x.o.id=id:=(h.ok.get hx).1.id;unfold Qa.Qcs;rw [hid];split
  ·refine ⟨?_,hd⟩;have h2:=h.again id;exact h2.Qf (Qle h2.ok.Qf id) (fun k y _ hy hb=>by
    have hb2:((c.again id).Qf.cut id).has k=true:=hb;rw [Qqu] at hb2;simp only [Bool.and_eq_true,Bool.not_eq_true',decide_eq_false_iff_not] at hb2;exact h2.Xo k y (fun e=>hb2.2 e.symm) hy hb2.1)
  ·rename_i hov;have h2:CF (c.again id):=by
    have h3:=h.again id;refine ⟨h3.ok,h3.room,h3.len,h3.hist,h3.up,fun k y _ hy hb=>?_,h3.two⟩;by_cases hk:k=id;subst hk;have hy2:Qc c.l k=some y:=hy;rw [hx] at hy2;obtain rfl:=Option.some.inj hy2;simpa using hov;exact h3.Xo k y hk hy hb
   have hx2:Qc (c.again id).l x.o.id=some x:=by rw [hid];exact hx
   exact h2.sends hd hx2
theorem CFb.QM {c:Qa} (h:CF c) (hd:c.j.down=false) {e:Entry} (hf:c.Fits e) (he:e.ok):CF (c.QM e).2∧(c.QM e).2.j.down=false:=by
 obtain ⟨h1,h2⟩:=h.notes hd (UQ hf he);unfold Qa.QM;exact Qw9
theorem CFb.QN {c:Qa} (h:CF c) (hd:c.j.down=false) {e:Entry} (hf:c.Fits e) (he:e.ok):CF (c.QN e).2∧(c.QN e).2.j.down=false:=by
 obtain ⟨h1,h2⟩:=h.Qm hd (UQ hf he);unfold Qa.QN;exact Qw9
theorem CFb.turns {c:Qa} (h:CF c) (hd:c.j.down=false) {id:Int} {x:Led} (hx:Qc c.l id=some x) (hdec:x.decided=false):CF (c.turns id).2.2∧(c.turns id).2.2.j.down=false:=by
 have hg:=h.ok.get hx;obtain ⟨h1,h2⟩:=h.Qm hd (UQ (.turn id x hx hdec) (QB hg.2.1 hg.2.2 _));unfold Qa.turns;exact Qw9
theorem QX {n:Int} (h0:0≤n) (h1:n≤1000):QU n:=⟨by omega,by omega⟩
theorem QH {id:Int} (h0:1≤id) (h1:id≤999) (k:Kd) {n:Int} (hn:QU n):Entry.ok ⟨k,id,[n]⟩:=⟨by show 0≤id;omega,h1,by simp,by simpa using hn⟩
theorem CFb.QEe {c:Qa} (h:CF c) (hd:c.j.down=false) {x:Led} {m:Msg} (hx:Qc c.l m.id=some x):CF (c.steps x m).2∧(c.steps x m).2.j.down=false:=by
 have hg:=h.ok.get hx;have hlen:=hg.1.o.len;unfold Qa.steps;split;exact ⟨h,hd⟩;rename_i hsv;have hst:0≤m.step∧m.step<x.o.steps.length:=by
  unfold Led.service at hsv;simp at hsv;omega
 have hno:QU m.step:=QX hst.1 (by omega);split;rename_i hk;exact h.turns hd hx (by simp at hk;exact hk.2);split;split;rename_i hk;simp at hk;obtain ⟨k,e⟩:=Int.eq_ofNat_of_zero_le hst.1;rw [e] at hk hno⊢;exact h.QM hd (.done m.id k x hx hk.1.1 hk.1.2 hk.2) (QH hg.2.1 hg.2.2 _ hno);exact ⟨h,hd⟩;split;split;rename_i hk;simp at hk;obtain ⟨k,e⟩:=Int.eq_ofNat_of_zero_le hst.1;rw [e] at hk hno⊢;exact h.QM hd (.undone m.id k x hx hk.1 hk.2) (QH hg.2.1 hg.2.2 _ hno);exact ⟨h,hd⟩;exact ⟨h,hd⟩
theorem Qup (x:Led) (i:Int):(x.says i).base=x.base:=by
 obtain ⟨o,f,t⟩:=x;unfold Led.says Led.base;cases t with
 |none=>rfl
 |some p=>rfl
theorem CFb.QEp {c:Qa} (h:CF c) (hd:c.j.down=false) {x:Led} {m:Msg} (hx:Qc c.l m.id=some x) (hf:m.frm=1∨m.frm=2):CF (c.Yo x m).2∧(c.Yo x m).2.j.down=false:=by
 have hg:=h.ok.get hx;unfold Qa.Yo;split;exact ⟨h,hd⟩;rename_i a b ht;have hta:=hg.1.tally;rw [ht] at hta;simp at hta;split;exact h.QN hd (.turn m.id x hx hta.2) (QB hg.2.1 hg.2.2 _);by_cases hc:(if m.frm=1 then b&& !a else a&& !b)=true;rw [if_pos hc];exact h.QN hd (.yes m.id x hx hta.1 hta.2) (QB hg.2.1 hg.2.2 _);rw [if_neg hc];refine ⟨⟨?_,h.room,h.len,h.hist,fun hd=>⟨?_,(h.up hd).2⟩,fun k y _ hy hb=>?_,fun k y hy=>?_⟩,hd⟩;refine ⟨h.ok.keys.put _ hg.2.1 hg.2.2,fun p hp=>?_,h.ok.Qf,h.ok.t0,h.ok.t1,h.ok.r1,h.ok.used0,h.ok.used1⟩;rcases YB hp with rfl|hp;refine ⟨?_,?_,?_,?_,?_⟩<;>simp only [Led.says,ht]
 exact hg.1.o;exact hg.1.id;exact hg.1.may;have:=hg.1.tally;rw [ht] at this;exact this;exact hg.1.full;exact h.ok.led p hp;refine (h.up hd).1.trans ?_;intro k
 show _=(Qc (Qt c.l m.id _) k).map Led.base
 rw [QS];split;rename_i e;subst e;rw [hx];simp [Qup];rfl;have hy2:Qc (Qt c.l m.id (x.says (m.frm-1))) k=some y:=hy;rw [QS] at hy2;split at hy2;rename_i e;subst e;obtain rfl:=Option.some.inj hy2;have:=h.Xo m.id x trivial hx hb;unfold Led.says;rw [ht];exact this;exact h.Xo k y trivial hy2 hb;have hy2:Qc (Qt c.l m.id (x.says (m.frm-1))) k=some y:=hy;rw [QS] at hy2;split at hy2;obtain rfl:=Option.some.inj hy2;have:=h.two _ x hx;rw [ht] at this;unfold Led.says;rw [ht];rcases hf with e|e<;>rw [e] at hc⊢ <;>cases a<;>cases b<;>simp at hc this⊢;exact h.two k y hy2
theorem CFb.acksM {c:Qa} (h:CF c) (hd:c.j.down=false) {x:Led} {m:Msg} (hx:Qc c.l m.id=some x) (hf:m.frm=1∨m.frm=2):CF (c.Vt x m).2∧(c.Vt x m).2.j.down=false:=by
 have hg:=h.ok.get hx;have hno:QU m.frm:=QX (by omega) (by omega);unfold Qa.Vt;split;exact ⟨h,hd⟩;rename_i hdec;have hdec:x.decided=true:=by simpa using hdec
 split;split;exact ⟨h,hd⟩;exact h.QM hd (.ack m.id m.frm x hx hf hdec) (QH hg.2.1 hg.2.2 _ hno);split;exact ⟨h,hd⟩;have h2:=h.QN hd (.damage m.id m.frm x hx hf hdec) (QH hg.2.1 hg.2.2 _ hno);unfold Qa.QN at h2;split;rename_i e;rw [if_pos e] at h2;exact h2;rename_i e;rw [if_neg e] at h2;exact h2
theorem CFb.handle {c:Qa} (h:CF c) {m:Msg} (hm:m.kind=12∨m.kind=7∨m.kind=8∨m.kind=11∨m.kind=17→m.frm=1∨m.frm=2):CF (c.handle m).2:=by
 unfold Qa.handle;split;exact h;rename_i hd;have hd:c.j.down=false:=by simpa using hd
 split;exact h;split;exact h;rename_i x hx;have hg:=h.ok.get hx;split;exact (h.QEe hd hx).1;split;exact (h.QEp hd hx (hm (by omega))).1;split;exact (h.acksM hd hx (hm (by omega))).1;split;split;rename_i hc;simp at hc;exact (h.QM hd (.shipped m.id x hx hc.1.2) (QB hg.2.1 hg.2.2 _)).1;exact h;exact h
theorem CFb.ringC {c:Qa} (h:CF c) (id:Int):CF (c.ring id).2:=by
 unfold Qa.ring;split;exact h;rename_i hd;have hd:c.j.down=false:=by simpa using hd
 split;exact h.Qa8 id;rename_i x hx;have hid:x.o.id=id:=(h.ok.get hx).1.id;split;exact h.Qa8 id;have hb:=h.Qa8 id;split;split;rename_i hdec;exact (hb.turns hd hx hdec).1;exact ((hb.again id).sends hd (by rw [hid];exact hx)).1;exact (hb.sends hd (by rw [hid];exact hx)).1
theorem CFb.Qrf {c:Qa} (h:CF c) (id:Int):CF (c.cancel id).2.2:=by
 unfold Qa.cancel;split;exact h;rename_i hd;split;exact h;rename_i x hx;split;exact h;rename_i hdec;exact (h.turns (by simpa using hd) hx (by simpa using hdec)).1
theorem JA {o:Od} {e:Entry} (h:e∈QD o):e.id=o.id:=by
 unfold QD at h;rcases List.mem_cons.1 h with rfl|h;rfl
 ·have:∀(r:List Sp) (i:Nat),e∈YM o.id i r→e.id=o.id:=by
   intro r
   induction r with
   |nil=>intro i h;cases h
   |cons s r ih=>
    intro i h;rcases List.mem_cons.1 h with rfl|h;rfl;exact ih _ h
  exact this _ _ h
theorem CFb.Qm0 {c:Qa} (h:CF c) {o:Od} (ho:o.ok):CF (c.begin o).2.2:=by
 unfold Qa.begin;split;exact h;rename_i hd;have hd:c.j.down=false:=by simpa using hd
 split;exact h;rename_i hn;have hn:Qc c.l o.id=none:=by simpa using hn
 split;exact h;obtain ⟨hr, -⟩:=Uk ho hn;obtain ⟨h1,h2⟩:=h.Qm hd hr;split
 ·have h3:CFb (fun k=>k≠o.id) (c.Qm (QD o)).2:=h1.mono (fun k hk=>⟨trivial,fun _ e he=>by rw [JA he];exact hk⟩);have h4:CFb (fun k=>k≠o.id) ((c.Qm (QD o)).2.hang o.id):=
   h3.Qf (YZ h3.ok.Qf o.id) (fun k x hk hx hb=>by
    rcases TP hb with hb|rfl;exact h3.Xo k x hk hx hb;exact absurd rfl hk)
  exact (h4.goes h2).1
 rename_i e;exact h1.mono (fun k _=>⟨trivial,fun e'=>absurd e' e⟩)
theorem CFb.QD2 {c:Qa} (h:CF c) (stay:Int):CF (c.Qj stay):=by
 unfold Qa.Qj;split;exact h;refine ⟨⟨Ql.nil,by simp [Qa.forget],Ql.nil,h.ok.t0,h.ok.t1,h.ok.r1,by simp [Qa.forget],by simp [Qa.forget]⟩,h.room,?_,Qtt h.hist _,?_,?_,?_⟩
 show ((c.j.es.take _).length:Int)≤c.j.room
 rw [List.length_take];have:=h.len;omega;intro hd;cases hd;intro id x _ hx;cases hx;intro id x hx;cases hx
theorem CFb.Qhc {c:Qa} (h:CF c) (hd:c.j.down=false) (id:Int):CF (c.wake id)∧(c.wake id).j.down=false:=by
 unfold Qa.wake;split;exact ⟨h,hd⟩;rename_i x hx;have hg:=h.ok.get hx;have h1:CF (if x.over=true then c else c.hang id):=by
  split;exact h
  ·rename_i ho;exact h.Qf (YZ h.ok.Qf id) (fun k y _ hy hb=>by
    rcases TP hb with hb|rfl;exact h.Xo k y trivial hy hb;rw [hx] at hy;obtain rfl:=Option.some.inj hy;simpa using ho)
 have hl1:Qc (if x.over=true then c else c.hang id).l id=some x:=by split<;>exact hx
 have hd1:(if x.over=true then c else c.hang id).j.down=false:=by split<;>exact hd
 generalize (if x.over=true then c else c.hang id)=c1 at *;simp only;split
 ·rename_i hc;simp at hc;obtain ⟨h2,h3⟩:=h1.Qm hd1 (UQ (.turn id x hl1 hc.2) (QB hg.2.1 hg.2.2 _));refine ⟨⟨h2.ok,h2.room,h2.len,h2.hist,h2.up,fun k y _ hy hb=>?_,h2.two⟩,h3⟩;cases hn:(c1.Qm [⟨.turn,id,[]⟩]).1 with
  |false=>exact h2.Xo k y ⟨trivial,fun e=>by rw [hn] at e;cases e⟩ hy hb
  |true=>
   by_cases hk:k=id
   ·subst hk;have e:=ZA hn hl1 ⟨by simp,by simp⟩;rw [e] at hy;obtain rfl:=Option.some.inj hy;obtain ⟨m1,m2,m3⟩:=mpt hg.1.may;have hy2:x.f.yes=false∧x.f.turned=false:=undecided hc.2;have ha:x.f.ack0=false:=by
     unfold KG at m3;rw [hy2.1,hy2.2] at m3;cases hz:x.f.ack0<;>simp [hz] at m3⊢
    unfold Led.over Facts.over Led.facts Facts.ends;simp [ha,hy2.1]
   exact h2.Xo k y ⟨trivial,fun _ e he=>by rw [List.mem_singleton] at he;subst he;exact hk⟩ hy hb
 exact ⟨h1,hd1⟩
theorem CFb.wakes:∀(is:List Int) {c:Qa},CF c→c.j.down=false→CF (is.foldl Qa.wake c)∧(is.foldl Qa.wake c).j.down=false
 | [],_,h,hd=>⟨h,hd⟩
 |i::r,_,h,hd=>CFb.wakes r (h.Qhc hd i).1 (h.Qhc hd i).2
theorem Jb:∀(es:List Entry) {c:Qa},c.ok→(∀id x,Qc c.l id=some x→x.t≠some (true,true))→c.DU es→c.used+es.length≤4096→(c.Qi es).ok∧(∀id x,Qc (c.Qi es).l id=some x→x.t≠some (true,true))∧(c.Qi es).Qf=c.Qf∧(c.Qi es).room=c.room
 | [],_,h,h2,_,_=>⟨h,h2,rfl,rfl⟩
 |e::r,c,h,h2,hh,hl=>by
  simp only [List.length_cons] at hl;obtain ⟨p1,p2,p3,p4⟩:=Qdb c e;have:=Jb r (h.Qg hh.1 (by omega)) (fun id x hx=>by
   by_cases hk:id=e.id;subst hk;exact Qfl (fun y hy=>h2 _ y hy) hx;exact h2 id x (by rw [←hx];exact (ZH hk).symm)) hh.2 (by rw [p1];omega)
  exact ⟨this.1,this.2.1,this.2.2.1.trans p3,this.2.2.2.trans p4⟩
theorem CFb.Qp7 {P:Int→Prop} {c:Qa} (h:CFb P c):(({c with j:=c.j.recover}:Qa).forget).DU c.j.es:=Qct _ (c:=Qa.nil) (Alike.refl _) h.hist
theorem CFb.Qoa {c:Qa} (h:CF c):CF c.start:=by
 unfold Qa.start;split
 ·have h0:(({c with j:=c.j.recover}:Qa).forget).ok:=⟨Ql.nil,by simp [Qa.forget],Ql.nil,h.ok.t0,h.ok.t1,h.ok.r1,by simp [Qa.forget],by simp [Qa.forget]⟩;have hl:=h.len;have hr:=h.room;have hr1:=h.ok.r1;obtain ⟨r1,r2,r3,r4⟩:=Jb c.j.es h0 (fun id x hx=>by cases hx) h.Qp7 (by show (0:Int)+_≤_;omega);obtain ⟨u1,u2⟩:=Yy c.j.es (({c with j:=c.j.recover}:Qa).forget);have hc1:CF ((({c with j:=c.j.recover}:Qa).forget).Qi c.j.es):=by
   refine ⟨r1,?_,?_,?_,fun _=>⟨?_,?_⟩,fun id x _ hx hb=>?_,r2⟩;rw [u2,r4];exact h.room;rw [u2];exact h.len;rw [u2];exact h.hist;rw [u2];exact ZR c.j.es (Alike.refl _);rw [u1,u2];show (0:Int)+_=_;exact Int.zero_add _;rw [r3] at hb;cases hb
  exact (CFb.wakes _ hc1 (by rw [u2];rfl)).1
 exact h
structure Qb where
 c:Qa
 k0:Qd
 k1:Qd
 s:Qh
 v0:Qe
 v1:Qe
 v2:Qe
 p:Post
structure HA where
 b:Nat
 bd:Nat
 bc:Nat
 k0:Nat
 k1:Nat
 bs:Nat
 v0:Nat
 v1:Nat
 v2:Nat
 bp:Nat
 bt:Nat
 bf:Nat
 br:Nat
def Xi (l:List (Int×Int)):List Value:=l.flatMap fun s=> [.int .i64 s.1,.int .i64 s.2]
def VG:List (Int×Int):= [(2,0),(2,1),(2,2),(5,0),(5,1),(5,2),(16,0),(13,0),(14,0)]
structure VS (l:List (Int×Int)):Prop where
 nd:l.Nodup
 all:∀a∈l,a∈VG
def SA.trace (b:Nat):SA:=.ex fun x:(Int→Value)×IM (List (Int×Int))=>.when (∀p∈x.2,VS p.2) (.book b x.1 (fun k l=>.slc (x.1 k) 193 2 l.length (Xi l)) x.2)
def SA.marks (b:Nat):SA:=.ex fun m:IM Int=>.when (Ql m) (.map b (Qx (Value.int .i64) m))
abbrev Qb.on (q:HA) (H:Qb) (R:List SA):List SA:=
 .pts q.b (.cells #[q.bd,q.k0,q.k1,q.bs,q.v0,q.v1,q.v2,q.bp,.map (some q.bt),.map (some q.bf)] 69)::
 .pts q.bd (.cells #[q.bc,.map (some q.br)] 72)::
 .Xu q.bc H.c::.keeper q.k0 H.k0::.keeper q.k1 H.k1::.Xk q.bs H.s::.service q.v0 H.v0::.service q.v1 H.v1::.service q.v2 H.v2::.post q.bp H.p::.trace q.bt::.marks q.bf::.marks q.br::R
section
variable {w0 w:World} {q:HA} {H:Qb} {R:List SA}
theorem Qby (h:Heap w0 (H.on q R) w):
 CE 11 #[q.b] w (.pointer (some ⟨q.bd,0,none⟩)):=by
 have c0:=h.cell 0 0 rfl rfl;have hlb:=h.lt 0 rfl;go_enter Tryz.func11,Tryz.ntmps11;go_wp2_with fail;go_ret;exact ⟨rfl,rfl⟩
theorem Qmq (h:Heap w0 (H.on q R) w):
 CE 14 #[q.b] w (.pointer (some ⟨q.bp,0,none⟩)):=by
 have c0:=h.cell 0 7 rfl rfl;have hlb:=h.lt 0 rfl;go_enter Tryz.func14,Tryz.ntmps14;go_wp2_with fail;go_ret;exact ⟨rfl,rfl⟩
theorem Qgf (h:Heap w0 (H.on q R) w):
 CE 29 #[q.bd] w (.pointer (some ⟨q.bc,0,none⟩)):=by
 have c0:=h.cell 1 0 rfl rfl;have hlb:=h.lt 1 rfl;go_enter Tryz.func29,Tryz.ntmps29;go_wp2_with fail;go_ret;exact ⟨rfl,rfl⟩
theorem Ve (h:Heap w0 (H.on q R) w):
 CE 52 #[q.b] w (.pointer (some ⟨q.bc,0,none⟩)):=by
 have H1:=zk h;go_enter Tryz.func52,Tryz.ntmps52;go_wp2_with (first
  |(go_at_call 11;refine (Qby H1.1).m0 ?_)
  |(go_at_call 29;refine (Qgf H1.1).m0 ?_))
 go_ret;exact ⟨rfl,rfl⟩
def HA.kp (q:HA) (i:Int):Nat:=if i=1 then q.k0 else q.k1
theorem UK (h:Heap w0 (H.on q R) w) (i:Int) (hi:i=1∨i=2):
 CE 16 #[q.b,.int .i64 i] w (.pointer (some ⟨q.kp i,0,none⟩)):=by
 have c1:=h.cell 0 1 rfl rfl;have c2:=h.cell 0 2 rfl rfl;have hlb:=h.lt 0 rfl;unfold HA.kp;rcases hi with rfl|rfl;all_goals
  go_enter Tryz.func16,Tryz.ntmps16;go_wp2_with fail;go_ret;exact ⟨rfl,rfl⟩
def HA.sv (q:HA) (i:Int):Nat:=if i=4 then q.v0 else if i=5 then q.v1 else q.v2
theorem Qa9 (h:Heap w0 (H.on q R) w) (i:Int) (hi:i=4∨i=5∨i=6):
 CE 79 #[q.b,.int .i64 i] w (.pointer (some ⟨q.sv i,0,none⟩)):=by
 have c1:=h.cell 0 4 rfl rfl;have c2:=h.cell 0 5 rfl rfl;have c3:=h.cell 0 6 rfl rfl;have hlb:=h.lt 0 rfl;unfold HA.sv;rcases hi with rfl|rfl|rfl;all_goals
  go_enter Tryz.func79,Tryz.ntmps79;go_wp2_with fail;go_ret;exact ⟨rfl,rfl⟩
end
theorem QDe {P:Prop} (h:P:=by
 go_wp2_with fail;refine Xh [(0,.s),(1,.f),(2,.f),(3,.f),(4,.s),(5,.f)] ?_;repeat (first
  |refine vR ?_)
 refine vn ?_;go_simp;go_wp2_with fail;go_roundg (l.length-(k+1))
 case measure=>have:=HG.1;omega
 case rel=>
  refine ⟨k+1,by go_num,by omega,⟨by omega⟩,⟨fun j hj h=>?_⟩,⟨HR.1.drew⟩⟩;rcases Nat.lt_succ_iff_lt_or_eq.1 h with h|rfl;exact HN.1 j hj h;rw [HX.1];intro e;cases e;exact HNE.1 rfl):P:=h
theorem Qec:∀(l:List (Int×Int)) (k:Nat) (hk:k<l.length),(Xi l)[k*2+0]? =some (.int .i64 l[k].1)∧(Xi l)[k*2+1]? =some (.int .i64 l[k].2)
 |p::l,0,_=>⟨rfl,rfl⟩
 |p::l,k+1,hk=>by
  have ih:=Qec l k (by simpa using hk);have e:∀j,(Xi (p::l))[(k+1)*2+j]? =(Xi l)[k*2+j]?:=fun j=>by
   show ([.int .i64 p.1,.int .i64 p.2]++Xi l)[(k+1)*2+j]? =_
   rw [List.getElem?_append_right (by simp;omega)];congr 1;simp;omega
  rw [e,e];simpa using ih
def Qf3 (l:List (Int×Int)) (a:Int×Int):Int:=match l.findIdx? (· ==a) with|some k=>k|none=> -1
theorem Qsv {w0 w:World} {R:List SA} {v:Value} (l:List (Int×Int)) (a1 a2:Int) (h:Heap w0 (.slc v 193 2 l.length (Xi l)::R) w) (hlen:l.length≤1000):
 CH 145 #[v,.agg #[.int .i64 a1,.int .i64 a2]] w (.int .i64 (Qf3 l (a1,a2))) w0 (.slc v 193 2 l.length (Xi l)::R):=by
 obtain ⟨av,cv,rfl⟩:=vS2 (h.row 0 rfl);have HB:=zk (h.new (.cells #[.int .i64 a1,.int .i64 a2] 193));clear h;go_enter Tryz.func145,Tryz.ntmps145;go_wp2_with fail;generalize w.alloc (.cells #[.int .i64 a1,.int .i64 a2] 193)=w1 at *;generalize w.heap.size=bx at *;have HC:As (∀W,Heap w0 (.pts bx (.cells #[.int .i64 a1,.int .i64 a2] 193)::.slc (.slice av l.length cv) 193 2 l.length (Xi l)::R) W→∀j,(hj:j<l.length)→∃g,av=some ⟨g,0,none⟩∧W.cell? ⟨g,j*2,none⟩=some (.int .i64 l[j].1)∧W.cell? ⟨g,j*2+1,none⟩=some (.int .i64 l[j].2)):=⟨fun W h j hj=>by
  rcases h.shp 1 rfl with ⟨-,hz, -⟩|⟨g,cap',hv, -, -,hcel⟩;omega;cases hv;have:=Qec l j hj;exact ⟨g,rfl,hcel (j*2+0) _ this.1,hcel (j*2+1) _ this.2⟩⟩
 go_loopg [5,8] l.length (fun gk p u wr=>∃k:Nat,u=.int .i64 k∧k≤l.length∧As (gk+k=l.length)∧As (∀j (hj:j<l.length),j<k→l[j]≠(a1,a2))∧As (Heap w0 (.pts bx (.cells #[.int .i64 a1,.int .i64 a2] 193)::.slc (.slice av l.length cv) 193 2 l.length (Xi l)::R) wr))
 case atStart=>exact ⟨0,rfl,Nat.zero_le _,⟨rfl⟩,⟨by omega⟩,⟨HB.1⟩⟩
 case round=>
  obtain ⟨k,rfl,hk,HG,HN,HR⟩:=hrel;have x0:=HR.1.cB2 0 rfl;have hlx:=HR.1.lt 0 rfl;clear HB;by_cases hlt:k<l.length
  ·have hk1:(k:Int)<(l.length:Int):=by omega
   obtain ⟨g,rfl,hc1,hc2⟩:=HC.1 _ HR.1 k hlt;have hgs:=World.block_lt_of_cell? wr _ hc1;obtain ⟨⟨b1,b2⟩,hx⟩:∃x,l[k]=x:=⟨_,rfl⟩;rw [hx] at hc1 hc2;simp only at hc1 hc2;have HX:=zk hx;clear hx;by_cases e1:a1=b1
   ·subst e1;by_cases e2:a2=b2
    ·subst e2;go_wp2_with fail;refine Xh [(0,.s),(1,.f),(2,.f),(3,.f),(4,.s),(5,.f)] ?_;repeat (first
      |refine vR ?_)
     refine vn ?_;go_simp;go_wp2_with fail;go_ret;have:l.findIdx? (fun y=>y==(a1,a2))=some k:=by
      rw [List.findIdx?_eq_some_iff_getElem];exact ⟨hlt,by rw [HX.1];simp,fun j hj=>by simpa using HN.1 j (by omega) hj⟩
     exact ⟨by simp [Qf3,this],HR.1.drew.drop⟩
    have HNE:=zk e2;have hb2:(a2==b2)=false:=by simpa using e2
    clear e2;exact QDe
   have HNE:=zk e1;have hb1:(a1==b1)=false:=by simpa using e1
   clear e1;exact QDe
  ·go_wp2_with fail;go_ret;have:l.findIdx? (fun y=>y==(a1,a2))=none:=by
    rw [List.findIdx?_eq_none_iff];intro x hx;obtain ⟨j,hj,rfl⟩:=List.getElem_of_mem hx;simpa using HN.1 j hj (by omega)
   exact ⟨by simp [Qf3,this],HR.1.drop⟩
theorem QDj {P:Prop} (h:P:=by
 refine Xh [(0,.f),(1,.f),(2,.f),(3,.s),(4,.f),(5,.s),(6,.s),(7,.e),(8,.f)] ?_;repeat (first
  |refine vR ?_
  |(refine ve rfl rfl ?_;go_wp2_with (go_at_call 120;refine (Qiw l k n (H1.1.drew.frt 1 rfl) (by have:=HLN.1;omega)).mono ?_;rintro e w2 ⟨rfl,h2⟩;rw [hct];have H2:=zk h2;clear h2);refine ⟨trivial,?_⟩;go_simp))
 refine vn ?_;go_simp;first
  |(have ty:Tg 1:=tg;clear x0 c8 hlb hlx hlk hlk2 hct H1;have x0:=H2.1.cB2 1 rfl;have c8:=H2.1.cell 4 8 rfl rfl;have hlb:=H2.1.lt 4 rfl;have hlx:=H2.1.lt 1 rfl;have hlk:=HLK.1 _ _ (H2.1.drew.sel (p:= [_,_,_]) [0,2,1] 3 rfl (by decide));go_wp2_with fail;refine wrx (fun W=>W.cell? ⟨q.b,8,none⟩=some (.map (some q.bt))∧(Instr.lookup 66 (.map (some q.bt)) (.int .i64 id) false).run Tryz.prog W=.ok (.slice av l.length cv) W∧W.cell? ⟨pe,0,none⟩=some (.int .i64 k)∧W.cell? ⟨pe,1,none⟩=some (.int .i64 n)) [14] (.op 0 .f (.op 1 .f (.op 2 .f (.op 3 .f (.op 4 .f (.op 5 .f (.op 6 .f (.op 7 .f (.op 8 .f (.op 9 .f (.op 10 .f (.op 11 .f (.op 12 .e (.op 13 .e (.op 14 .e .nil))))))))))))))) (by kernel_rfl) (by kernel_rfl) ⟨c8,hlk,x0.1,x0.2.1⟩ ?_;iterate 12
     first
      |(refine vxp rfl rfl ?_;apply ex2;intro w';go_simp;rfl;go_simp)
      |(refine vxg (by kernel_rfl) rfl rfl ?_;apply ex2;intro w' hw';obtain ⟨q1,q2,q3,q4⟩:=hw';go_simp;rfl;go_simp)
    refine vxe rfl rfl rfl ?_;go_wp2_with fail;have H3:=zk (H2.1.new (.cells #[.int .i64 k,.int .i64 n] 193)).drew;refine ⟨⟨H3.1.cell 5 8 rfl rfl,HLK.1 _ _ (H3.1.sel (p:= [_,_,_,_]) [1,3,0,2] 4 rfl (by decide)),H3.1.cell 2 0 rfl rfl,H3.1.cell 2 1 rfl rfl⟩,?_⟩;go_simp;refine vxe rfl rfl rfl ?_;refine wla H3.1 1 _ 193 2 l.length _ rfl rfl _ _ 195 rfl _ _ 16 Tryz.underlying195 HI.1.1 HI.1.2.1 HI.1.2.2.1 HI.1.2.2.2 rfl (by decide) rfl ⟨w2.heap.size,0,none⟩ 1 1 [.int .i64 k,.int .i64 n] rfl rfl (fun j u hu=>by rw [addr_add];exact H3.1.cell 0 j rfl (by simpa using hu)) (by simp [Value.oneCell']) (by have:=HLN.1;omega) (by decide) (by omega) ?_;intro g2 cap2 w5 h5 _;have H4:=zk h5;clear h5;go_wp2_with fail;refine ⟨⟨H4.1.cell 5 8 rfl rfl,HLK3.1 _ _ _ _ _ _ H4.1,H4.1.cell 2 0 rfl rfl,H4.1.cell 2 1 rfl rfl⟩,?_⟩;go_simp;refine vxx rfl rfl rfl ?_;refine wlp H4.1 3 q.bt _ rfl rfl _ _ _ 66 195 rfl Tryz.underlying66 rfl id rfl _ rfl (by omega) (by omega) hmn.1 ?_;intro w6 h6 _;have H5:=zk h6;clear h6;go_wp2_with fail;refine ⟨trivial,?_⟩;go_simp;refine vtn ?_;go_simp;go_wp2_with fail;go_end0;refine ⟨rfl,?_⟩;exact HP.1 _ _ _ HNM.1 (H5.1.sel (p:= [_,_,_,_,_,_]) [1,3,4,5] 6 rfl (by decide)))
  |(have ty:Tg 2:=tg;go_wp2_with fail;go_end0;refine ⟨rfl,?_⟩;exact HS.1 _ _ (H2.1.sel (p:= [_,_,_,_,_]) [0,2,3,4] 5 rfl (by decide)))):P:=h
theorem Qiw {w0 w:World} {R:List SA} {v:Value} (l:List (Int×Int)) (a1 a2:Int) (h:Heap w0 (.slc v 193 2 l.length (Xi l)::R) w) (hlen:l.length≤1000):
 CH 120 #[v,.agg #[.int .i64 a1,.int .i64 a2]] w (.bool (l.contains (a1,a2))) w0 (.slc v 193 2 l.length (Xi l)::R):=by
 have HB:=zk ((h.new (.cells #[.int .i64 a1,.int .i64 a2] 193)).frt 1 rfl);have x0:=HB.1.cB2 1 rfl;have hlx:=HB.1.lt 1 rfl;have HL:=zk hlen;have HF:As (decide (0≤Qf3 l (a1,a2))=l.contains (a1,a2)):=⟨by
  unfold Qf3;cases hf:l.findIdx? (· ==(a1,a2)) with
  |none=>
   have:=List.findIdx?_eq_none_iff.1 hf;have h2:l.contains (a1,a2)=false:=by
    rw [List.contains_eq_any_beq,List.any_eq_false];intro x hx;have:=this x hx;simp only [beq_eq_false_iff_ne,ne_eq] at this;simp only [beq_iff_eq];exact fun e=>this e.symm
   rw [h2];rfl
  |some k=>
   obtain ⟨hk,h1, -⟩:=List.findIdx?_eq_some_iff_getElem.1 hf;have h2:l.contains (a1,a2)=true:=by
    rw [List.contains_iff_mem];have:l[k]=(a1,a2):=by simpa using h1
    exact this▸List.getElem_mem hk
   rw [h2];simp⟩
 clear h hlen;generalize hfd:Qf3 l (a1,a2)=fd at *;go_enter Tryz.func120,Tryz.ntmps120;go_wp2_with (go_at_call 145;refine (Qsv l a1 a2 HB.1 HL.1).m2 fun w' h1=>?_;rw [hfd];have H1:=zk h1;clear h1);go_ret;exact ⟨by rw [←HF.1];rfl,H1.1.frt 1 rfl |>.drop⟩
theorem Qq9:∀w,(zeroValue 195).run Tryz.prog w=.ok (.slice none 0 0) w:=fun _=>by kernel_rfl
theorem QBb:(Tryz.prog.info? 193).map (fun i=>(i.zero,i.size,i.bytes))=some (some (.agg #[.int .i64 0,.int .i64 0]),2,16):=by kernel_rfl
theorem Qgx {α:Type} [DecidableEq α]:∀(l m:List α),l.Nodup→(∀a∈l,a∈m)→l.length≤m.length
 | [],m,_,_=>Nat.zero_le _
 |a::l,m,hn,hs=>by
  have ha:=hs a (by simp);have hn2:=List.nodup_cons.1 hn;have:=Qgx l (m.erase a) hn2.2 (fun b hb=>(List.mem_erase_of_ne (by rintro rfl;exact hn2.1 hb)).2 (hs b (by simp [hb])));rw [List.length_erase_of_mem ha] at this;have:=List.length_pos_of_mem ha;simp only [List.length_cons];omega
theorem VS.len {l:List (Int×Int)} (h:VS l):l.length≤9:=Qgx l VG h.nd h.all
abbrev Kg (V:Int→Value):Int→List (Int×Int)→SA:=fun k l=>.slc (V k) 193 2 l.length (Xi l)
theorem Heap.Qm6 {w0 w:World} {R:List SA} {bt:Nat} {V:Int→Value} {tr:IM (List (Int×Int))} {id:Int} {l:List (Int×Int)} {v:Value} (hk:Ql tr) (ha:∀p∈tr,VS p.2) (h0:1≤id) (h1:id≤999) (hl:VS l)
 (h:Heap w0 (.slc v 193 2 l.length (Xi l)::.map bt (Qt (QE V tr) id v)::bks (Kg V) (QI tr id)::R) w):Heap w0 (.trace bt::R) w:=by
 refine Heap.Yr (f:=fun x:(Int→Value)×IM (List (Int×Int))=>.when (∀p∈x.2,VS p.2) (.book bt x.1 (fun k l=>.slc (x.1 k) 193 2 l.length (Xi l)) x.2)) ((fun k=>if k=id then v else V k),Qt tr id l) ?_;refine Heap.QZ (fun p hp=>?_) ?_;rcases YB hp with rfl|hp;exact hl;exact ha p hp;refine Heap.Qkh (val:=V) (val':=fun k=>if k=id then v else V k) (give:=Kg V) (give':=Kg fun k=>if k=id then v else V k) (x:=l) hk h0 h1 (fun k hk=>by simp only [if_neg hk]) (fun k y hk=>by simp only [Kg,if_neg hk]) ?_;simp only [Kg,if_true];exact h.frt 1 rfl
theorem Heap.Qpa {w0 w:World} {R:List SA} {bt:Nat} (id:Int) (h:Heap w0 (.trace bt::R) w):∃(V:Int→Value) (tr:IM (List (Int×Int))) (l:List (Int×Int)) (v:Value),Ql tr∧(∀p∈tr,VS p.2)∧VS l∧(Qc (QE V tr) id).getD (.slice none 0 0)=v∧
 (∀W L,Heap w0 (.slc v 193 2 l.length (Xi l)::.map bt (QE V tr)::bks (Kg V) (QI tr id)::L) W→Heap w0 (.trace bt::L) W)∧Heap w0 (.slc v 193 2 l.length (Xi l)::.map bt (QE V tr)::bks (Kg V) (QI tr id)::R) w:=by
 obtain ⟨⟨V,tr⟩,h⟩:=h.YL;obtain ⟨ha,h⟩:=h.QT;simp only at ha h;have hsh:∀W L,Heap w0 (.book bt V (Kg V) tr::L) W→Heap w0 (.trace bt::L) W:=fun W L h=>Heap.Yr (f:=fun x:(Int→Value)×IM (List (Int×Int))=>.when (∀p∈x.2,VS p.2) (.book bt x.1 (fun k l=>.slc (x.1 k) 193 2 l.length (Xi l)) x.2)) (V,tr) (Heap.QZ ha h);cases hm:Qc tr id with
 |none=>
  obtain ⟨hk,h⟩:=h.YT;refine ⟨V,tr,[],.slice none 0 0,hk,ha,⟨List.nodup_nil,by simp⟩,by rw [Zz,hm];rfl,fun W L h=>?_,?_⟩;rw [JD hm] at h;exact hsh _ _ (Heap.Zq hk h.drop);rw [JD hm];exact h.nRw 193 2
 |some l=>
  have hk:=h.YT.1;have h2:=(h.Qqv hm).2;refine ⟨V,tr,l,V id,hk,ha,ha _ (Xe hm),by rw [Zz,hm];rfl,fun W L h=>?_,?_⟩;exact hsh _ _ (Heap.Qrg (give:=Kg V) hk hm (h.frt 1 rfl));exact h2.frt 1 rfl
theorem Qjm {w0 w:World} {q:HA} {R:List SA} {a0 a1 a2 a3 a4 a5 a6 a7 a9:Value} (h:Heap w0 (.trace q.bt::.pts q.b (.cells #[a0,a1,a2,a3,a4,a5,a6,a7,.map (some q.bt),a9] 69)::R) w) (id k n:Int) (h0:1≤id) (h1:id≤999) (ha:(k,n)∈VG):
 CH 85 #[q.b,id,.int .i64 k,.int .i64 n] w (.tuple #[]) w0 (.trace q.bt::.pts q.b (.cells #[a0,a1,a2,a3,a4,a5,a6,a7,.map (some q.bt),a9] 69)::R):=by
 obtain ⟨V,tr,l,v,hk,htr,hl,hlv,hsame,h⟩:=h.Qpa id;have HS:=zk hsame;have HP:As (∀v' W L,(k,n)∉l→Heap w0 (.slc v' 193 2 (l.length+1) (Xi l++ [.int .i64 k,.int .i64 n])::.map q.bt (Qt (QE V tr) id v')::bks (Kg V) (QI tr id)::L) W→Heap w0 (.trace q.bt::L) W):=⟨fun v' W L hn h=>by
  refine Heap.Qm6 (V:=V) (v:=v') (l:=l++ [(k,n)]) hk htr h0 h1 ⟨?_,?_⟩ ?_;rw [List.nodup_append];exact ⟨hl.nd,by simp,fun a ha b hb=>by rw [List.mem_singleton.1 hb];exact fun e=>hn (e▸ha)⟩;intro a h;rcases List.mem_append.1 h with h|h;exact hl.all a h;rw [List.mem_singleton.1 h];exact ha;rw [List.length_append,show Xi (l++ [(k,n)])=Xi l++ [.int .i64 k,.int .i64 n] by simp [Xi]];exact h⟩
 have HLN:As (l.length≤9):=⟨hl.len⟩;have hmn:As ((QE V tr).length<1000000):=⟨by have:=hk.len;simp [QE];omega⟩;have hlk:∀W L,Heap w0 (.slc v 193 2 l.length (Xi l)::.map q.bt (QE V tr)::L) W→(Instr.lookup 66 (.map (some q.bt)) (.int .i64 id) false).run Tryz.prog W=.ok v W:=fun W L h=>by
  rw [Vg (h.owns 1 rfl) false Tryz.underlying66 (Qq9 W) (by omega) (by omega),←hlv];rfl
 have HLK:=zk hlk;have HLK2:As (∀W L x,Heap w0 (.pts x (.cells #[.int .i64 k,.int .i64 n] 193)::.slc v 193 2 l.length (Xi l)::.map q.bt (QE V tr)::L) W→(Instr.lookup 66 (.map (some q.bt)) (.int .i64 id) false).run Tryz.prog W=.ok v W):=⟨fun W L x h=>hlk _ _ h.drop⟩;have HLK3:As (∀W L x y sl T,Heap w0 (x::.slc sl T 2 (l.length+1) (Xi l++ [.int .i64 k,.int .i64 n])::y::.map q.bt (QE V tr)::L) W→(Instr.lookup 66 (.map (some q.bt)) (.int .i64 id) false).run Tryz.prog W=.ok v W):=⟨fun W L x y sl T h=>by
  rw [Vg (h.owns 3 rfl) false Tryz.underlying66 (Qq9 W) (by omega) (by omega),←hlv];rfl⟩
 obtain ⟨av,cv,rfl⟩:=vS2 (h.row 0 rfl);have H1:=zk (h.new (.cells #[.int .i64 k,.int .i64 n] 193));obtain ⟨i0,hj0,hj1,hj2,hj3⟩:=info_parts QBb;have HI:=zk (And.intro hj0 (And.intro hj1 (And.intro hj2 hj3)));clear h hsame hlk hj0 hj1 hj2 hj3 hk htr hl hlv ha;go_enter Tryz.func85,Tryz.ntmps85;go_wp2_with fail;generalize w.alloc (.cells #[.int .i64 k,.int .i64 n] 193)=W1 at *;generalize w.heap.size=pe at *;have x0:=H1.1.cB2 0 rfl;have c8:=H1.1.cell 4 8 rfl rfl;have hlb:=H1.1.lt 4 rfl;have hlx:=H1.1.lt 0 rfl;have hlk:=HLK2.1 _ _ _ H1.1;have hlk2:=HLK2.1 _ _ _ H1.1.drew;cases hct:l.contains (k,n);have HNM:As ((k,n)∉l):=⟨fun h=>by rw [List.contains_iff_mem.2 h] at hct;cases hct⟩;have tg:=Tg.mk 1;exact QDj
 ·skip;have tg:=Tg.mk 2;exact QDj
section
variable {w0 w:World} {q:HA} {H:Qb} {R:List SA}
theorem YP (h:Heap w0 (H.on q R) w) (id k n:Int) (h0:1≤id) (h1:id≤999) (ha:(k,n)∈VG):
 CH 85 #[q.b,id,.int .i64 k,.int .i64 n] w (.tuple #[]) w0 (H.on q R):=by
 have h2:=h.sel (p:= [_,_,_,_,_,_,_,_,_,_,_,_,_]) [10,0,1,2,3,4,5,6,7,8,9,11,12] 13 rfl (by decide);refine (Qjm h2 id k n h0 h1 ha).m2 fun w' h3=>?_;exact ⟨rfl,h3.sel (p:= [_,_,_,_,_,_,_,_,_,_,_,_,_]) [1,2,3,4,5,6,7,8,9,10,0,11,12] 13 rfl (by decide)⟩
def HA.node (q:HA) (i:Int):Value:=
 if i=0 then .iface 70 (.pointer (some ⟨q.bc,0,none⟩)) else
 if i=1 then .iface 40 (.pointer (some ⟨q.k0,0,none⟩)) else
 if i=2 then .iface 40 (.pointer (some ⟨q.k1,0,none⟩)) else
 if i=3 then .iface 63 (.pointer (some ⟨q.bs,0,none⟩)) else
 if i=4 then .iface 64 (.pointer (some ⟨q.v0,0,none⟩)) else
 if i=5 then .iface 64 (.pointer (some ⟨q.v1,0,none⟩)) else
 if i=6 then .iface 64 (.pointer (some ⟨q.v2,0,none⟩)) else .nilIface
theorem QY (h:Heap w0 (H.on q R) w) (i:Int) (hi:i=0∨i=1∨i=2∨i=3∨i=4∨i=5∨i=6):
 CE 48 #[q.b,.int .i64 i] w (q.node i):=by
 have HH:=zk h;have c3:=h.cell 0 3 rfl rfl;have hlb:=h.lt 0 rfl;clear h;unfold HA.node;rcases hi with rfl|rfl|rfl|rfl|rfl|rfl|rfl;all_goals
  go_enter Tryz.func48,Tryz.ntmps48;go_wp2_with (first
   |(go_at_call 52;refine (Ve HH.1).m0 ?_)
   |(go_at_call 16;refine (UK HH.1 _ (by omega)).m0 ?_)
   |(go_at_call 79;refine (Qa9 HH.1 _ (by omega)).m0 ?_))
  go_ret;exact ⟨rfl,rfl⟩
theorem Qa3 (v:Value) (W:World):(method 463 70 v "Down").run Tryz.prog W=.ok (97,v) W:=by kernel_rfl
theorem VJ (v:Value) (W:World):(method 463 40 v "Down").run Tryz.prog W=.ok (19,v) W:=by kernel_rfl
theorem Qav (v:Value) (W:World):(method 463 63 v "Down").run Tryz.prog W=.ok (259,v) W:=by kernel_rfl
theorem Za (v:Value) (W:World):(method 463 64 v "Down").run Tryz.prog W=.ok (266,v) W:=by kernel_rfl
theorem Qi6 (v:Value) (W:World):(method 463 70 v "Crash").run Tryz.prog W=.ok (277,v) W:=by kernel_rfl
theorem Dm (v:Value) (W:World):(method 463 40 v "Crash").run Tryz.prog W=.ok (214,v) W:=by kernel_rfl
theorem Qi0 (v:Value) (W:World):(method 463 63 v "Crash").run Tryz.prog W=.ok (258,v) W:=by kernel_rfl
theorem UT (v:Value) (W:World):(method 463 64 v "Crash").run Tryz.prog W=.ok (265,v) W:=by kernel_rfl
theorem Qid (v:Value) (W:World):(method 463 70 v "Start").run Tryz.prog W=.ok (279,v) W:=by kernel_rfl
theorem DJ (v:Value) (W:World):(method 463 40 v "Start").run Tryz.prog W=.ok (216,v) W:=by kernel_rfl
theorem Qht (v:Value) (W:World):(method 463 63 v "Start").run Tryz.prog W=.ok (261,v) W:=by kernel_rfl
theorem UH (v:Value) (W:World):(method 463 64 v "Start").run Tryz.prog W=.ok (268,v) W:=by kernel_rfl
theorem Qe3 (v:Value) (W:World):(method 463 70 v "Handle").run Tryz.prog W=.ok (278,v) W:=by kernel_rfl
theorem JV (v:Value) (W:World):(method 463 40 v "Handle").run Tryz.prog W=.ok (215,v) W:=by kernel_rfl
theorem Qe8 (v:Value) (W:World):(method 463 63 v "Handle").run Tryz.prog W=.ok (260,v) W:=by kernel_rfl
theorem VT (v:Value) (W:World):(method 463 64 v "Handle").run Tryz.prog W=.ok (267,v) W:=by kernel_rfl
end
def Qb.Qv (H:Qb) (i:Int):Bool:=
 if i=0 then H.c.j.down else if i=1 then H.k0.j.down else if i=2 then H.k1.j.down else if i=3 then H.s.j.down else
 if i=4 then H.v0.j.down else if i=5 then H.v1.j.down else H.v2.j.down
def Qb.ZG (H:Qb):Bool:=H.c.j.down||H.k0.j.down||H.k1.j.down||H.s.j.down||H.v0.j.down||H.v1.j.down||H.v2.j.down
theorem Ya {H:Qb} {i:Nat} (hi:i<7) (h:H.Qv i=true):H.ZG=true:=by
 obtain rfl|rfl|rfl|rfl|rfl|rfl|rfl:i=0∨i=1∨i=2∨i=3∨i=4∨i=5∨i=6:=by omega
 all_goals
  simp [Qb.Qv] at h;simp [Qb.ZG,h]
theorem Qh1 {H:Qb} (h:∀i:Nat,i<7→H.Qv i=false):H.ZG=false:=by
 have h0:=h 0 (by omega);have h1:=h 1 (by omega);have h2:=h 2 (by omega);have h3:=h 3 (by omega);have h4:=h 4 (by omega);have h5:=h 5 (by omega);have h6:=h 6 (by omega);simp [Qb.Qv] at h0 h1 h2 h3 h4 h5 h6;simp [Qb.ZG,h0,h1,h2,h3,h4,h5,h6]
section
variable {w0 w:World} {q:HA} {H:Qb} {R:List SA}
theorem QAy (h:Heap w0 (H.on q R) w):
 CE 46 #[q.b] w (.bool H.ZG):=by
 have HH:=zk h;clear h;go_enter Tryz.func46,Tryz.ntmps46;go_wp2_with fail
 go_loopg [3,4] 7 (fun gk p u wr=>∃k:Nat,u=.int .i64 k∧k≤7∧As (gk+k=7)∧As (∀j:Nat,j<k→H.Qv j=false)∧wr=w)
 case atStart=>exact ⟨0,rfl,Nat.zero_le _,⟨rfl⟩,⟨by omega⟩,rfl⟩
 case round=>
  obtain ⟨k,rfl,hk,HG,HN,rfl⟩:=hrel;by_cases hlt:k<7
  ·have hcase:k=0∨k=1∨k=2∨k=3∨k=4∨k=5∨k=6:=by omega
   rcases hcase with rfl|rfl|rfl|rfl|rfl|rfl|rfl
   ·have HM1:=Qa3;cases hd:H.c.j.down
    ·go_wp2_with (first
      |(go_at_call 48;refine (QY HH.1 _ (by omega)).m0 ?_;simp only [HA.node,Int.reduceEq,if_true,if_false])
      |(go_at_call 97;refine (Zi (HH.1.frt 2 rfl)).m0 ?_;rw [hd]))
     go_roundg (7-(0+1))
     case measure=>have:=HG.1;omega
     case rel=>
      refine ⟨0+1,by go_num,by omega,⟨by omega⟩,⟨fun j hj=>?_⟩,rfl⟩;rcases Nat.lt_succ_iff_lt_or_eq.1 hj with h|rfl;exact HN.1 j h;simpa [Qb.Qv] using hd
    ·go_wp2_with (first
      |(go_at_call 48;refine (QY HH.1 _ (by omega)).m0 ?_;simp only [HA.node,Int.reduceEq,if_true,if_false])
      |(go_at_call 97;refine (Zi (HH.1.frt 2 rfl)).m0 ?_;rw [hd]))
     go_ret;exact ⟨by rw [Ya (i:=0) (by omega) (by simpa [Qb.Qv] using hd)];rfl,rfl⟩
   ·have HM1:=VJ;cases hd:H.k0.j.down
    ·go_wp2_with (first
      |(go_at_call 48;refine (QY HH.1 _ (by omega)).m0 ?_;simp only [HA.node,Int.reduceEq,if_true,if_false])
      |(go_at_call 19;refine (XL (HH.1.frt 3 rfl)).m0 ?_;rw [hd]))
     go_roundg (7-(1+1))
     case measure=>have:=HG.1;omega
     case rel=>
      refine ⟨1+1,by go_num,by omega,⟨by omega⟩,⟨fun j hj=>?_⟩,rfl⟩;rcases Nat.lt_succ_iff_lt_or_eq.1 hj with h|rfl;exact HN.1 j h;simpa [Qb.Qv] using hd
    ·go_wp2_with (first
      |(go_at_call 48;refine (QY HH.1 _ (by omega)).m0 ?_;simp only [HA.node,Int.reduceEq,if_true,if_false])
      |(go_at_call 19;refine (XL (HH.1.frt 3 rfl)).m0 ?_;rw [hd]))
     go_ret;exact ⟨by rw [Ya (i:=1) (by omega) (by simpa [Qb.Qv] using hd)];rfl,rfl⟩
   ·have HM1:=VJ;cases hd:H.k1.j.down
    ·go_wp2_with (first
      |(go_at_call 48;refine (QY HH.1 _ (by omega)).m0 ?_;simp only [HA.node,Int.reduceEq,if_true,if_false])
      |(go_at_call 19;refine (XL (HH.1.frt 4 rfl)).m0 ?_;rw [hd]))
     go_roundg (7-(2+1))
     case measure=>have:=HG.1;omega
     case rel=>
      refine ⟨2+1,by go_num,by omega,⟨by omega⟩,⟨fun j hj=>?_⟩,rfl⟩;rcases Nat.lt_succ_iff_lt_or_eq.1 hj with h|rfl;exact HN.1 j h;simpa [Qb.Qv] using hd
    ·go_wp2_with (first
      |(go_at_call 48;refine (QY HH.1 _ (by omega)).m0 ?_;simp only [HA.node,Int.reduceEq,if_true,if_false])
      |(go_at_call 19;refine (XL (HH.1.frt 4 rfl)).m0 ?_;rw [hd]))
     go_ret;exact ⟨by rw [Ya (i:=2) (by omega) (by simpa [Qb.Qv] using hd)];rfl,rfl⟩
   ·have HM1:=Qav;cases hd:H.s.j.down
    ·go_wp2_with (first
      |(go_at_call 48;refine (QY HH.1 _ (by omega)).m0 ?_;simp only [HA.node,Int.reduceEq,if_true,if_false])
      |(go_at_call 259;refine (Ue (HH.1.frt 5 rfl)).m0 ?_;rw [hd]))
     go_roundg (7-(3+1))
     case measure=>have:=HG.1;omega
     case rel=>
      refine ⟨3+1,by go_num,by omega,⟨by omega⟩,⟨fun j hj=>?_⟩,rfl⟩;rcases Nat.lt_succ_iff_lt_or_eq.1 hj with h|rfl;exact HN.1 j h;simpa [Qb.Qv] using hd
    ·go_wp2_with (first
      |(go_at_call 48;refine (QY HH.1 _ (by omega)).m0 ?_;simp only [HA.node,Int.reduceEq,if_true,if_false])
      |(go_at_call 259;refine (Ue (HH.1.frt 5 rfl)).m0 ?_;rw [hd]))
     go_ret;exact ⟨by rw [Ya (i:=3) (by omega) (by simpa [Qb.Qv] using hd)];rfl,rfl⟩
   ·have HM1:=Za;cases hd:H.v0.j.down
    ·go_wp2_with (first
      |(go_at_call 48;refine (QY HH.1 _ (by omega)).m0 ?_;simp only [HA.node,Int.reduceEq,if_true,if_false])
      |(go_at_call 266;refine (Yd (HH.1.frt 6 rfl)).m0 ?_;rw [hd]))
     go_roundg (7-(4+1))
     case measure=>have:=HG.1;omega
     case rel=>
      refine ⟨4+1,by go_num,by omega,⟨by omega⟩,⟨fun j hj=>?_⟩,rfl⟩;rcases Nat.lt_succ_iff_lt_or_eq.1 hj with h|rfl;exact HN.1 j h;simpa [Qb.Qv] using hd
    ·go_wp2_with (first
      |(go_at_call 48;refine (QY HH.1 _ (by omega)).m0 ?_;simp only [HA.node,Int.reduceEq,if_true,if_false])
      |(go_at_call 266;refine (Yd (HH.1.frt 6 rfl)).m0 ?_;rw [hd]))
     go_ret;exact ⟨by rw [Ya (i:=4) (by omega) (by simpa [Qb.Qv] using hd)];rfl,rfl⟩
   ·have HM1:=Za;cases hd:H.v1.j.down
    ·go_wp2_with (first
      |(go_at_call 48;refine (QY HH.1 _ (by omega)).m0 ?_;simp only [HA.node,Int.reduceEq,if_true,if_false])
      |(go_at_call 266;refine (Yd (HH.1.frt 7 rfl)).m0 ?_;rw [hd]))
     go_roundg (7-(5+1))
     case measure=>have:=HG.1;omega
     case rel=>
      refine ⟨5+1,by go_num,by omega,⟨by omega⟩,⟨fun j hj=>?_⟩,rfl⟩;rcases Nat.lt_succ_iff_lt_or_eq.1 hj with h|rfl;exact HN.1 j h;simpa [Qb.Qv] using hd
    ·go_wp2_with (first
      |(go_at_call 48;refine (QY HH.1 _ (by omega)).m0 ?_;simp only [HA.node,Int.reduceEq,if_true,if_false])
      |(go_at_call 266;refine (Yd (HH.1.frt 7 rfl)).m0 ?_;rw [hd]))
     go_ret;exact ⟨by rw [Ya (i:=5) (by omega) (by simpa [Qb.Qv] using hd)];rfl,rfl⟩
   ·have HM1:=Za;cases hd:H.v2.j.down
    ·go_wp2_with (first
      |(go_at_call 48;refine (QY HH.1 _ (by omega)).m0 ?_;simp only [HA.node,Int.reduceEq,if_true,if_false])
      |(go_at_call 266;refine (Yd (HH.1.frt 8 rfl)).m0 ?_;rw [hd]))
     go_roundg (7-(6+1))
     case measure=>have:=HG.1;omega
     case rel=>
      refine ⟨6+1,by go_num,by omega,⟨by omega⟩,⟨fun j hj=>?_⟩,rfl⟩;rcases Nat.lt_succ_iff_lt_or_eq.1 hj with h|rfl;exact HN.1 j h;simpa [Qb.Qv] using hd
    ·go_wp2_with (first
      |(go_at_call 48;refine (QY HH.1 _ (by omega)).m0 ?_;simp only [HA.node,Int.reduceEq,if_true,if_false])
      |(go_at_call 266;refine (Yd (HH.1.frt 8 rfl)).m0 ?_;rw [hd]))
     go_ret;exact ⟨by rw [Ya (i:=6) (by omega) (by simpa [Qb.Qv] using hd)];rfl,rfl⟩
  ·go_wp2;go_ret;exact ⟨by rw [Qh1 fun i hi=>HN.1 i (by omega)];rfl,rfl⟩
end
structure Cmd where
 kind:Int
 node:Int
 id:Int
 i:Int
 yes:Bool
 o:Od
def Qb.gives (H:Qb) (m:Msg):Qb:=
 if m.to=0 then {H with c:=(H.c.handle m).2,p:=H.p.puts (H.c.handle m).1} else
 if m.to=1 then {H with k0:=(H.k0.handle m).2,p:=H.p.puts (H.k0.handle m).1} else
 if m.to=2 then {H with k1:=(H.k1.handle m).2,p:=H.p.puts (H.k1.handle m).1} else
 if m.to=3 then {H with s:=(H.s.handle m).2,p:=H.p.puts (H.s.handle m).1} else
 if m.to=4 then {H with v0:=(H.v0.handle m).2,p:=H.p.puts (H.v0.handle m).1} else
 if m.to=5 then {H with v1:=(H.v1.handle m).2,p:=H.p.puts (H.v1.handle m).1} else
 {H with v2:=(H.v2.handle m).2,p:=H.p.puts (H.v2.handle m).1}
def Qb.without (H:Qb) (i:Nat):Qb:= {H with p:= {H.p with l:=H.p.l.eraseIdx i}}
def Qb.take (H:Qb) (kind i:Int):Int×Qb:=
 if H.p.has i=false then (6,H) else
 match H.p.l[i.toNat]? with
 |none=>(6,H)
 |some m=>if kind=7 then (0,{H with p:=H.p.put m}) else if kind=5 then (0,(H.without i.toNat).gives m) else (0,H.without i.toNat)
def Qb.Qo (H:Qb) (i id:Int):Int×Qb:=
 if H.Qv i=true then (10,H) else
 if i=0 then (0,{H with c:=(H.c.ring id).2,p:=H.p.puts (H.c.ring id).1}) else
 if i=1 then (0,{H with p:=H.p.puts (H.k0.ring id)}) else (0,{H with p:=H.p.puts (H.k1.ring id)})
def Qb.starts (H:Qb) (i:Int):Qb:=
 if i=0 then {H with c:=H.c.start} else
 if i=1 then {H with k0:=H.k0.start} else
 if i=2 then {H with k1:=H.k1.start} else
 if i=3 then {H with s:=H.s.start} else
 if i=4 then {H with v0:=H.v0.start} else
 if i=5 then {H with v1:=H.v1.start} else {H with v2:=H.v2.start}
def Qb.Qj (H:Qb) (i stay:Int):Qb:=
 if i=0 then {H with c:=H.c.Qj stay} else
 if i=1 then {H with k0:=H.k0.Qj stay} else
 if i=2 then {H with k1:=H.k1.Qj stay} else
 if i=3 then {H with s:=H.s.Qj stay} else
 if i=4 then {H with v0:=H.v0.Qj stay} else
 if i=5 then {H with v1:=H.v1.Qj stay} else {H with v2:=H.v2.Qj stay}
def Qb.Ye (H:Qb) (kind node i:Int):Int×Qb:=
 if (H.Qv node != decide (kind=10))=true then (7,H) else
 if kind=10 then (0,H.starts node) else (0,H.Qj node i)
def Qb.XQ (H:Qb) (o:Od):Int×Qb:=((H.c.begin o).2.1,{H with c:=(H.c.begin o).2.2,p:=H.p.puts (H.c.begin o).1})
def Qb.cancel (H:Qb) (id:Int):Int×Qb:=((H.c.cancel id).2.1,{H with c:=(H.c.cancel id).2.2,p:=H.p.puts (H.c.cancel id).1})
def Qb.force (H:Qb) (node id:Int) (yes:Bool):Int×Qb:=
 if node=1 then ((H.k0.force id yes).1,{H with k0:=(H.k0.force id yes).2}) else ((H.k1.force id yes).1,{H with k1:=(H.k1.force id yes).2})
def Qb.asks (H:Qb) (c:Cmd):Int×Qb:=if c.kind=1 then H.XQ c.o else if c.kind=2 then H.cancel c.id else H.force c.node c.id c.yes
def Qb.act (H:Qb) (c:Cmd):Int×Qb:=
 if c.kind=1∨c.kind=2∨c.kind=3 then H.asks c else
 if c.kind=5∨c.kind=6∨c.kind=7 then H.take c.kind c.i else
 if c.kind=8 then H.Qo c.node c.id else H.Ye c.kind c.node c.i
structure Cmd.ok (c:Cmd):Prop where
 kind:c.kind=1∧c.o.ok∨(c.kind=2∨c.kind=3∧(c.node=1∨c.node=2)∨c.kind=8∧(c.node=0∨c.node=1∨c.node=2))∧1≤c.id∧c.id≤999∨c.kind=5∨c.kind=6∨c.kind=7∨(c.kind=9∨c.kind=10)∧0≤c.node∧c.node<7
def Qd.waits (k:Qd):List Int:=(k.st.filter fun p=>decide (p.2=1)).map (·.1)
def Qb.Yg (H:Qb):Qb:=(List.range 7).foldl (fun (H:Qb) (i:Nat)=>if H.Qv i=true then H.starts i else H) H
def Qb.takes:Nat→Qb→Qb
 |0,H=>H
 |n+1,H=>Qb.takes n (H.take 5 0).2
def Qb.rings (H:Qb) (i:Int) (ids:List Int):Qb:=ids.foldl (fun H id=>(H.Qo i id).2) H
def Qb.round (H:Qb):Qb:=
 let H1:=H.Yg
 let H2:=Qb.takes H1.p.l.length H1
 let H3:=H2.rings 0 H2.c.ids
 let H4:=H3.rings 1 H3.k0.waits
 H4.rings 2 H4.k1.waits
def Qb.opens (H:Qb):Nat:=(H.c.l.filter fun p=>!p.2.over).length
def Qb.calm (H:Qb):Bool:=!H.ZG&&decide (H.p.l.length=0)&&decide (H.opens=0)&&decide (H.k0.waits.length+H.k1.waits.length=0)
def Qb.settle:Nat→Qb→Nat×Qb
 |0,H=>(0,H)
 |n+1,H=>if H.calm=true then (0,H) else ((Qb.settle n H.round).1+1,(Qb.settle n H.round).2)
structure MOk (m:Msg):Prop where
 id0:1≤m.id
 id1:m.id≤999
 dst:0≤m.to∧m.to<7
 c:m.to=0→m.kind=12∨m.kind=7∨m.kind=8∨m.kind=11∨m.kind=17→m.frm=1∨m.frm=2
 k:m.to=1∨m.to=2→(m.frm=0∨m.frm=3-m.to)∧(m.kind=6→0≤m.a∧m.a<8∧0<m.b∧m.b≤1000000000)
 s:m.to=3→m.kind=15∧m.frm=0∧0≤m.a∧m.a<8∧0<m.b∧m.b≤1000000000
 v:4≤m.to→m.frm=0∧QU m.a∧(m.kind=1∨m.kind=4)∧0≤m.step∧m.step≤2
theorem Qmk {kind frm id step a b:Int} (h0:1≤id) (h1:id≤999) (hf:kind=12∨kind=7∨kind=8∨kind=11∨kind=17→frm=1∨frm=2):MOk ⟨kind,frm,0,id,step,a,b⟩:=
 ⟨h0,h1,⟨by show (0:Int)≤0;omega,by show (0:Int)<7;omega⟩,fun _=>hf,fun h=>by simp at h,fun h=>by simp at h,fun h=>by simp at h⟩
theorem Qbe {kind frm dst id step a b:Int} (h0:1≤id) (h1:id≤999) (ht:dst=1∨dst=2) (hf:frm=0∨frm=3-dst) (hk:kind=6→0≤a∧a<8∧0<b∧b≤1000000000):MOk ⟨kind,frm,dst,id,step,a,b⟩:=
 ⟨h0,h1,by show 0≤dst∧dst<7;omega,fun h=>by simp only at h;omega,fun _=>⟨hf,hk⟩,fun h=>by simp only at h;omega,fun h=>by simp only at h;omega⟩
theorem Qju {kind dst:Int} {o:Od} (ho:o.ok) (ht:dst=1∨dst=2) (hk:kind≠6):MOk (QO kind dst o):=Qbe ho.id0 ho.id1 ht (.inl rfl) (fun h=>absurd h hk)
theorem Qpm {x:Led} {k:Int} (hx:x.ok k):∀m∈Xa x.o x.f,MOk m:=by
 intro m hm;have ho:=hx.o;obtain ⟨m1,m2,m3⟩:=mpt hx.may;have hdec:∀kk,kk≠6→m∈Qu kk x.o x.f→MOk m:=fun kk hk6 hmem=>by
  rcases UW hmem with ⟨rfl,_⟩|⟨rfl,_⟩;exact Qju ho (.inl rfl) hk6;exact Qju ho (.inr rfl) hk6
 unfold Xa at hm;split at hm;cases hm;split at hm;rcases List.mem_append.1 hm with h|h;exact hdec 10 (by decide) h;obtain ⟨i,s,h1,h2,rfl⟩:=Qdp h;have hs:=ho.svc s (List.mem_of_getElem? h2);have hl:=ho.len;have hu:x.f.undone.length-1-i<x.o.steps.length:=(List.getElem?_eq_some_iff.1 h2).1;exact ⟨ho.id0,ho.id1,by show 0≤s.svc∧s.svc<7;omega,fun h=>by simp only at h;omega,fun h=>by simp only at h;omega,fun h=>by simp only at h;omega,fun _=>⟨rfl,⟨by simp only;omega,by simp only;omega⟩,.inr rfl,by simp only;omega,by simp only;omega⟩⟩;split at hm;exact hdec 9 (by decide) hm;split at hm;rcases List.mem_append.1 hm with h|h;exact hdec 9 (by decide) h;simp at h;subst h;exact ⟨ho.id0,ho.id1,by simp,fun h=>by simp at h,fun h=>by simp at h,fun _=>⟨rfl,rfl,ho.item0,by have:=ho.item1;simp only;omega,ho.qty0,ho.qty1⟩,fun h=>by simp at h⟩;unfold QW at hm;split at hm;rename_i i hi;split at hm;rename_i s h2;simp at hm;subst hm;have hs:=ho.svc s (List.mem_of_getElem? h2);have hl:=ho.len;have hu:i<x.o.steps.length:=(List.getElem?_eq_some_iff.1 h2).1;exact ⟨ho.id0,ho.id1,by show 0≤s.svc∧s.svc<7;omega,fun h=>by simp only at h;omega,fun h=>by simp only at h;omega,fun h=>by simp only at h;omega,fun _=>⟨rfl,⟨by simp only;omega,by simp only;omega⟩,.inl rfl,by simp only;omega,by simp only;omega⟩⟩;cases hm;simp at hm;rcases hm with rfl|rfl;exact Qbe ho.id0 ho.id1 (.inl rfl) (.inl rfl) (fun _=>⟨ho.item0,by have:=ho.item1;omega,ho.qty0,ho.qty1⟩);exact Qbe ho.id0 ho.id1 (.inr rfl) (.inl rfl) (fun _=>⟨ho.client0,by have:=ho.client1;omega,ho.price0,ho.price1⟩)
theorem Qdx {c:Qa} {x:Led} {k:Int} (hx:x.ok k):∀m∈(c.sends x).1,MOk m:=by
 unfold Qa.sends;split;split;exact Qpm hx;simp;exact Qpm hx
theorem Qbm {c:Qa} (h:c.ok) (id:Int):∀m∈(c.goes id).1,MOk m:=by
 unfold Qa.goes;split;simp;rename_i x hx;unfold Qa.Qcs;split;simp;exact Qdx (h.get hx).1
section
variable {c:Qa}
theorem JE (h:CF c) (hd:c.j.down=false) {e:Entry} (hf:c.Fits e) (he:e.ok):∀m∈(c.QM e).1,MOk m:=by
 obtain ⟨h1,h2⟩:=h.notes hd (UQ hf he);unfold Qa.QM;split;exact Qbm h1.ok _;simp
theorem Qan (h:CF c) (hd:c.j.down=false) {e:Entry} (hf:c.Fits e) (he:e.ok):∀m∈(c.QN e).1,MOk m:=by
 obtain ⟨h1,h2⟩:=h.Qm hd (UQ hf he);unfold Qa.QN;split;exact Qbm h1.ok _;simp
theorem Qd5 (h:CF c) (hd:c.j.down=false) {id:Int} {x:Led} (hx:Qc c.l id=some x) (hdec:x.decided=false):∀m∈(c.turns id).1,MOk m:=by
 have hg:=h.ok.get hx;obtain ⟨h1,h2⟩:=h.Qm hd (UQ (.turn id x hx hdec) (QB hg.2.1 hg.2.2 _));unfold Qa.turns;split;exact Qbm h1.ok _;simp
theorem Qwc (h:CF c) (hd:c.j.down=false) {x:Led} {m:Msg} (hx:Qc c.l m.id=some x):∀m'∈(c.steps x m).1,MOk m':=by
 have hg:=h.ok.get hx;have hlen:=hg.1.o.len;unfold Qa.steps;split;simp;rename_i hsv;have hst:0≤m.step∧m.step<x.o.steps.length:=by
  unfold Led.service at hsv;simp at hsv;omega
 have hno:QU m.step:=QX hst.1 (by omega);split;rename_i hk;exact Qd5 h hd hx (by simp at hk;exact hk.2);split;split;rename_i hk;simp at hk;obtain ⟨k,e⟩:=Int.eq_ofNat_of_zero_le hst.1;rw [e] at hk hno⊢;exact JE h hd (.done m.id k x hx hk.1.1 hk.1.2 hk.2) (QH hg.2.1 hg.2.2 _ hno);simp;split;split;rename_i hk;simp at hk;obtain ⟨k,e⟩:=Int.eq_ofNat_of_zero_le hst.1;rw [e] at hk hno⊢;exact JE h hd (.undone m.id k x hx hk.1 hk.2) (QH hg.2.1 hg.2.2 _ hno);simp;simp
theorem Qxq (h:CF c) (hd:c.j.down=false) {x:Led} {m:Msg} (hx:Qc c.l m.id=some x):∀m'∈(c.Yo x m).1,MOk m':=by
 have hg:=h.ok.get hx;unfold Qa.Yo;split;simp;rename_i a b ht;have hta:=hg.1.tally;rw [ht] at hta;simp at hta;split;exact Qan h hd (.turn m.id x hx hta.2) (QB hg.2.1 hg.2.2 _);by_cases hc:(if m.frm=1 then b&& !a else a&& !b)=true;rw [if_pos hc];exact Qan h hd (.yes m.id x hx hta.1 hta.2) (QB hg.2.1 hg.2.2 _);rw [if_neg hc];simp
theorem Qzv (h:CF c) (hd:c.j.down=false) {x:Led} {m:Msg} (hx:Qc c.l m.id=some x) (hf:m.frm=1∨m.frm=2):∀m'∈(c.Vt x m).1,MOk m':=by
 have hg:=h.ok.get hx;have hno:QU m.frm:=QX (by omega) (by omega);have h18:MOk ⟨18,0,m.frm,m.id,0,0,0⟩:=Qbe hg.2.1 hg.2.2 hf (.inl rfl) (fun h=>by omega);unfold Qa.Vt;split;simp;rename_i hdec;have hdec:x.decided=true:=by simpa using hdec
 split;split;simp;exact JE h hd (.ack m.id m.frm x hx hf hdec) (QH hg.2.1 hg.2.2 _ hno);split;simpa using h18;have h2:=Qan h hd (.damage m.id m.frm x hx hf hdec) (QH hg.2.1 hg.2.2 _ hno);unfold Qa.QN at h2;split;rename_i e;rw [if_pos e] at h2;intro m' hm';rcases List.mem_cons.1 hm' with rfl|hm';exact h18;exact h2 _ hm';simp
theorem Qrs (h:CF c) {m:Msg} (h0:1≤m.id) (h1:m.id≤999) (hm:m.kind=12∨m.kind=7∨m.kind=8∨m.kind=11∨m.kind=17→m.frm=1∨m.frm=2):∀m'∈(c.handle m).1,MOk m':=by
 unfold Qa.handle;split;simp;rename_i hd;have hd:c.j.down=false:=by simpa using hd
 split;rename_i h12;have hf:=hm (.inl h12);have e13:MOk ⟨13,0,m.frm,m.id,0,0,0⟩:=Qbe h0 h1 hf (.inl rfl) (fun h=>by omega);have e14:MOk ⟨14,0,m.frm,m.id,0,0,0⟩:=Qbe h0 h1 hf (.inl rfl) (fun h=>by omega);simp only;unfold Qa.tells;split;simpa using e14;split;simpa using e14;split;simpa using e13;simp;split;simp;rename_i x hx;have hg:=h.ok.get hx;split;exact Qwc h hd hx;split;exact Qxq h hd hx;split;exact Qzv h hd hx (hm (by omega));split;split;rename_i hc;simp at hc;exact JE h hd (.shipped m.id x hx hc.1.2) (QB hg.2.1 hg.2.2 _);simp;simp
theorem Qzn (h:CF c) (id:Int):∀m'∈(c.ring id).1,MOk m':=by
 unfold Qa.ring;split;simp;rename_i hd;have hd:c.j.down=false:=by simpa using hd
 split;simp;rename_i x hx;have hg:=(h.ok.get hx).1;split;simp;have hb:=h.Qa8 id;split;split;rename_i hdec;exact Qd5 hb hd hx hdec;exact Qdx hg;exact Qdx hg
theorem Qr4 (h:CF c) (id:Int):∀m'∈(c.cancel id).1,MOk m':=by
 unfold Qa.cancel;split;simp;rename_i hd;split;simp;rename_i x hx;split;simp;rename_i hdec;exact Qd5 h (by simpa using hd) hx (by simpa using hdec)
theorem Qve (h:CF c) {o:Od} (ho:o.ok):∀m'∈(c.begin o).1,MOk m':=by
 unfold Qa.begin;split;simp;rename_i hd;have hd:c.j.down=false:=by simpa using hd
 split;simp;rename_i hn;have hn:Qc c.l o.id=none:=by simpa using hn
 split;simp;obtain ⟨hr, -⟩:=Uk ho hn;obtain ⟨h1,h2⟩:=h.Qm hd hr;split;exact Qbm (c:=(c.Qm (QD o)).2.hang o.id) (h1.ok.Xo (YZ h1.ok.Qf o.id)) _;simp
end
theorem Jd (k:Qd) (e:Entry):(k.Qg e).j=k.j∧(k.Qg e).node=k.node:=by
 unfold Qd.Qg;split<;>exact ⟨rfl,rfl⟩
theorem TU (k:Qd) (e:Entry):(k.notes e).2.node=k.node∧(k.notes e).2.j.room=k.j.room∧(k.notes e).2.j.down=k.j.down∧((k.notes e).2.j.es=k.j.es∨(k.notes e).2.j.es=k.j.es++ [e]):=by
 unfold Qd.notes;split;exact ⟨rfl,rfl,rfl,.inl rfl⟩;rename_i h;obtain ⟨h1,h2⟩:=Jd ({k with j:=(k.j.add e).2.sync}:Qd) e;simp only;rw [h1,h2];refine ⟨rfl,?_,?_,.inr ?_⟩<;>simp only [Jrn.sync,Jrn.add]<;>rw [if_neg h]
structure KF (n:Int) (k:Qd):Prop where
 node:k.node=n
 es:∀e∈k.j.es,KpE e
theorem KF.notes {n:Int} {k:Qd} (h:KF n k) {e:Entry} (he:KpE e):KF n (k.notes e).2:=by
 obtain ⟨h1,h2,h3,h4⟩:=TU k e;refine ⟨h1.trans h.node,fun x hx=>?_⟩;rcases h4 with h4|h4<;>rw [h4] at hx;exact h.es x hx;rcases List.mem_append.1 hx with hx|hx;exact h.es x hx;rw [List.mem_singleton] at hx;subst hx;exact he
theorem Vf (es:List Entry):∀(k:Qd),(k.Qi es).j=k.j∧(k.Qi es).node=k.node:=by
 induction es with
 |nil=>intro k;exact ⟨rfl,rfl⟩
 |cons e r ih=>
  intro k;obtain ⟨h1,h2⟩:=ih (k.Qg e);obtain ⟨h3,h4⟩:=Jd k e;exact ⟨h1.trans h3,h2.trans h4⟩
theorem KF.start {n:Int} {k:Qd} (h:KF n k):KF n k.start:=by
 unfold Qd.start;split;obtain ⟨h1,h2⟩:=Vf k.j.es (({k with j:=k.j.recover}:Qd).forget);exact ⟨h2.trans h.node,by rw [h1];exact h.es⟩;exact h
theorem KF.Qj {n:Int} {k:Qd} (h:KF n k) (stay:Int):KF n (k.Qj stay):=by
 unfold Qd.Qj;split;exact h;exact ⟨h.node,fun e he=>h.es e (List.mem_of_mem_take he)⟩
theorem KF.force {n:Int} {k:Qd} (h:KF n k) (id:Int) (h0:1≤id) (h1:id≤999) (yes:Bool):KF n (k.force id yes).2:=by
 unfold Qd.force;split;exact h;split;refine h.notes ?_;cases yes;exact .fno id h0 h1;exact .fyes id h0 h1;exact h
theorem Qg8 (s kd:Int) (can:Bool):(Qr s kd can).1=s∨((Qr s kd can).1=1∧kd=6)∨(Qr s kd can).1=2∨(Qr s kd can).1=3:=by
 unfold Qr TH Zg ZU TY;split;rename_i h6;split;split;exact .inr (.inl ⟨rfl,h6⟩);exact .inr (.inr (.inr rfl));split;exact .inl rfl;split<;>exact .inl rfl
 split;split;exact .inr (.inr (.inl rfl));split;exact .inl rfl;split<;>exact .inl rfl
 split;split;exact .inr (.inr (.inr rfl));split;exact .inl rfl;split<;>exact .inl rfl
 split;split;exact .inr (.inr (.inr rfl));split<;>exact .inl rfl
 exact .inl rfl
theorem Qsh (s kd:Int) (can:Bool):(Qr s kd can).2≠6:=by
 unfold Qr TH Zg ZU TY;repeat' split
 all_goals simp
theorem KS (k:Qd) (kind id a q:Int):(k.can kind id a q).2.j=k.j∧(k.can kind id a q).2.node=k.node:=by
 unfold Qd.can;split<;>exact ⟨rfl,rfl⟩
theorem KF.handle {n:Int} {k:Qd} (h:KF n k) {m:Msg} (h0:1≤m.id) (h1:m.id≤999) (hm:m.kind=6→0≤m.a∧m.a<8∧0<m.b∧m.b≤1000000000):KF n (k.handle m).2:=by
 unfold Qd.handle;split;exact h;obtain ⟨c1,c2⟩:=KS k m.kind m.id m.a m.b;have hc:KF n (k.can m.kind m.id m.a m.b).2:=⟨c2.trans h.node,by rw [c1];exact h.es⟩;simp only;split;exact hc;rename_i hne;refine hc.notes ?_;rcases Qg8 (mgi k.st m.id) m.kind (k.can m.kind m.id m.a m.b).1 with e|⟨e,e6⟩|e|e;exact absurd e hne;obtain ⟨a0,a1,b0,b1⟩:=hm e6;obtain ⟨a,ea⟩:=Int.eq_ofNat_of_zero_le a0;rw [e];unfold Kk;rw [if_pos rfl,ea];exact .ready m.id a m.b h0 h1 (by omega) b0 b1;rw [e];exact .yes m.id h0 h1;rw [e];exact .no m.id h0 h1
theorem Qdi {n:Int} {k:Qd} (h:KF n k) (hn:n=1∨n=2) {m:Msg} (h0:1≤m.id) (h1:m.id≤999) (hf:m.frm=0∨m.frm=3-n):∀m'∈(k.handle m).1,MOk m':=by
 unfold Qd.handle;split;simp;have ha:=Qsh (mgi k.st m.id) m.kind (k.can m.kind m.id m.a m.b).1;simp only;generalize Qr (mgi k.st m.id) m.kind (k.can m.kind m.id m.a m.b).1=x at *;have key:∀p:Bool,∀m'∈(if p=false then [] else if x.2=0 then [] else [(⟨x.2,k.node,if x.2=11∨x.2=17 then 0 else m.frm,m.id,0,0,0⟩:Msg)]),MOk m':=by
  intro p;split;simp;split;simp;intro m' hm';rw [List.mem_singleton] at hm';subst hm';rw [h.node];split;exact Qmk h0 h1 (fun _=>hn);rcases hf with e|e;rw [e];exact Qmk h0 h1 (fun _=>hn);rw [e];exact Qbe h0 h1 (by omega) (.inr (by omega)) (fun h=>absurd h ha)
 exact key _
theorem Ql8 {n:Int} {k:Qd} (h:KF n k) (hn:n=1∨n=2) {id:Int} (h0:1≤id) (h1:id≤999):∀m'∈k.ring id,MOk m':=by
 unfold Qd.ring;split;simp;split;rw [h.node];intro m' hm';simp at hm';rcases hm' with rfl|rfl;exact Qmk h0 h1 (fun _=>hn);exact Qbe h0 h1 (by omega) (.inr (by omega)) (fun h=>by omega);simp
structure ShF (s:Qh):Prop where
 es:∀e∈s.j.es,ShE e
 len:s.l.length≤s.j.es.length
 room:(s.j.es.length:Int)≤s.j.room∧s.j.room≤4096
theorem Df (s:Qh) (e:Entry):(s.Qg e).j=s.j∧(s.Qg e).l.length≤s.l.length+1:=by
 unfold Qh.Qg;split
 ·refine ⟨rfl,?_⟩;simp only;unfold Yc;repeat' split
  all_goals simp
 exact ⟨rfl,by omega⟩
theorem KU (es:List Entry):∀s:Qh,(s.Qi es).j=s.j∧(s.Qi es).l.length≤s.l.length+es.length:=by
 induction es with
 |nil=>intro s;exact ⟨rfl,by show s.l.length≤_;simp⟩
 |cons e r ih=>
  intro s;obtain ⟨h1,h2⟩:=ih (s.Qg e);obtain ⟨h3,h4⟩:=Df s e;refine ⟨h1.trans h3,?_⟩
  show ((s.Qg e).Qi r).l.length≤_
  simp only [List.length_cons];omega
theorem ShF.start {s:Qh} (h:ShF s):ShF s.start:=by
 unfold Qh.start;split;obtain ⟨h1,h2⟩:=KU s.j.es ⟨s.j.recover,[]⟩;exact ⟨by rw [h1];exact h.es,by rw [h1];simpa [Jrn.recover] using h2,by rw [h1];exact h.room⟩;exact h
theorem ShF.Qj {s:Qh} (h:ShF s) (stay:Int):ShF (s.Qj stay):=by
 unfold Qh.Qj;split;exact h;refine ⟨fun e he=>h.es e (List.mem_of_mem_take he),by simp,?_,h.room.2⟩
 show ((s.j.es.take _).length:Int)≤s.j.room
 have:=h.room.1;rw [List.length_take];omega
theorem ShF.handle {s:Qh} (h:ShF s) {m:Msg} (h0:1≤m.id) (h1:m.id≤999) (ha0:0≤m.a) (ha1:m.a<8):ShF (s.handle m).2:=by
 unfold Qh.handle;split;exact h;simp only;unfold Qh.Kc;split;exact h;split;exact h
 ·rename_i hr;obtain ⟨h3,h4⟩:=Df ({s with j:=(s.j.add ⟨.sent,m.id,[m.a,m.b]⟩).2.sync}:Qh) ⟨.sent,m.id,[m.a,m.b]⟩;have hj:(s.j.add ⟨.sent,m.id,[m.a,m.b]⟩).2.sync.es=s.j.es++ [⟨.sent,m.id,[m.a,m.b]⟩]∧(s.j.add ⟨.sent,m.id,[m.a,m.b]⟩).2.sync.room=s.j.room:=by
   simp only [Jrn.sync,Jrn.add];rw [if_neg hr];exact ⟨rfl,rfl⟩
  have:=h.room;have:=h.len;refine ⟨fun e he=>?_,?_,?_⟩;rw [h3] at he;simp only [hj.1] at he;rcases List.mem_append.1 he with he|he;exact h.es e he;rw [List.mem_singleton] at he;obtain ⟨a,ea⟩:=Int.eq_ofNat_of_zero_le ha0;exact ⟨m.id,a,m.b,by rw [he,ea],h0,h1,by omega⟩;rw [h3];simp only [hj.1,List.length_append,List.length_singleton];simp only at h4;omega;rw [h3];simp only [hj.1,hj.2,List.length_append,List.length_singleton];omega
theorem Qn6 {s:Qh} {m:Msg} (h0:1≤m.id) (h1:m.id≤999):∀m'∈(s.handle m).1,MOk m':=by
 unfold Qh.handle;split;simp;simp only;split;intro m' hm';rw [List.mem_singleton] at hm';subst hm';exact Qmk h0 h1 (fun h=>by omega);simp
structure SvF (n:Int) (s:Qe):Prop where
 node:s.node=n
 es:∀e∈s.j.es,SvE e
theorem DN (s:Qe) (e:Entry):(s.Qg e).j=s.j∧(s.Qg e).node=s.node:=by
 unfold Qe.Qg;split<;>exact ⟨rfl,rfl⟩
theorem SvF.notes {n:Int} {s:Qe} (h:SvF n s) {e:Entry} (he:SvE e):SvF n (s.notes e).2:=by
 unfold Qe.notes;split;exact h;rename_i hr;obtain ⟨h1,h2⟩:=DN ({s with j:=(s.j.add e).2.sync}:Qe) e;refine ⟨h2.trans h.node,fun x hx=>?_⟩;simp only at hx;rw [h1] at hx;simp only [Jrn.sync,Jrn.add] at hx;rw [if_neg hr] at hx;rcases List.mem_append.1 hx with hx|hx;exact h.es x hx;rw [List.mem_singleton] at hx;subst hx;exact he
theorem Ki (es:List Entry):∀s:Qe,(s.Qi es).j=s.j∧(s.Qi es).node=s.node:=by
 induction es with
 |nil=>intro s;exact ⟨rfl,rfl⟩
 |cons e r ih=>
  intro s;obtain ⟨h1,h2⟩:=ih (s.Qg e);obtain ⟨h3,h4⟩:=DN s e;exact ⟨h1.trans h3,h2.trans h4⟩
theorem SvF.start {n:Int} {s:Qe} (h:SvF n s):SvF n s.start:=by
 unfold Qe.start;split;obtain ⟨h1,h2⟩:=Ki s.j.es (({s with j:=s.j.recover}:Qe).forget);exact ⟨h2.trans h.node,by rw [h1];exact h.es⟩;exact h
theorem SvF.Qj {n:Int} {s:Qe} (h:SvF n s) (stay:Int):SvF n (s.Qj stay):=by
 unfold Qe.Qj;split;exact h;exact ⟨h.node,fun e he=>h.es e (List.mem_of_mem_take he)⟩
theorem SvF.book {n:Int} {s:Qe} (h:SvF n s) (t:Xj):SvF n {s with book:=t}:=⟨h.node,h.es⟩
theorem SvF.handle {n:Int} {s:Qe} (h:SvF n s) {m:Msg} (h0:1≤m.id) (h1:m.id≤999) (ha:QU m.a):SvF n (s.handle m).2:=by
 unfold Qe.handle;split;exact h;simp only;unfold Qe.asked;split;unfold Qe.does;split;exact h;split;split;exact (h.book _).notes (.did m.id m.a h0 h1 ha);exact (h.book _).notes (.cant m.id h0 h1);exact h;unfold Qe.XN;split;exact h.notes (.undid m.id h0 h1);exact h
theorem Qeb (s:Qe) (id n:Int):(s.does id n).1=0∨(s.does id n).1=2∨(s.does id n).1=3:=by
 unfold Qe.does;repeat' split
 all_goals simp
theorem DY (s:Qe) (id:Int):(s.XN id).1=0∨(s.XN id).1=5:=by
 unfold Qe.XN;repeat' split
 all_goals simp
theorem KC {s:Qe} {m:Msg} (h0:1≤m.id) (h1:m.id≤999):∀m'∈(s.handle m).1,MOk m':=by
 unfold Qe.handle;split;simp;simp only;split;simp;intro m' hm';rw [List.mem_singleton] at hm';subst hm';refine Qmk h0 h1 (fun h=>?_);exfalso;unfold Qe.asked at h;split at h;have:=Qeb s m.id m.a;omega;have:=DY s m.id;omega
structure Qz (H:Qb):Prop where
 c:CF H.c
 k0:KF 1 H.k0
 k1:KF 2 H.k1
 s:ShF H.s
 v0:SvF 4 H.v0
 v1:SvF 5 H.v1
 v2:SvF 6 H.v2
 ms:∀m∈H.p.l,MOk m
theorem put_mem {p:Post} {m x:Msg} (h:x∈(p.put m).l):x∈p.l∨x=m:=by
 unfold Post.put at h;split at h;simpa using h;have:=List.mem_of_mem_drop h;simpa using this
theorem Vz {l:List Msg}:∀{p:Post} {x:Msg},x∈(p.puts l).l→x∈p.l∨x∈l:=by
 induction l with
 |nil=>intro p x h;exact .inl h
 |cons m r ih=>
  intro p x h;rcases ih (p:=p.put m) h with h|h;rcases put_mem h with h|rfl;exact .inl h;exact .inr (by simp);exact .inr (by simp [h])
theorem YJ {p:Post} {l:List Msg} (h:∀m∈p.l,MOk m) (h2:∀m∈l,MOk m):∀m∈(p.puts l).l,MOk m:=fun m hm=>(Vz hm).elim (h m) (h2 m)
theorem Qz.gives {H:Qb} (h:Qz H) {m:Msg} (hm:MOk m):Qz (H.gives m):=by
 unfold Qb.gives;have hto:=hm.dst;split;exact ⟨h.c.handle (hm.c ‹_›),h.k0,h.k1,h.s,h.v0,h.v1,h.v2,YJ h.ms (Qrs h.c hm.id0 hm.id1 (hm.c ‹_›))⟩;split;obtain ⟨h1,h2⟩:=hm.k (.inl ‹_›);exact ⟨h.c,h.k0.handle hm.id0 hm.id1 h2,h.k1,h.s,h.v0,h.v1,h.v2,YJ h.ms (Qdi h.k0 (.inl rfl) hm.id0 hm.id1 (by omega))⟩;split;obtain ⟨h1,h2⟩:=hm.k (.inr ‹_›);exact ⟨h.c,h.k0,h.k1.handle hm.id0 hm.id1 h2,h.s,h.v0,h.v1,h.v2,YJ h.ms (Qdi h.k1 (.inr rfl) hm.id0 hm.id1 (by omega))⟩;split;obtain ⟨-, -,h1,h2, -⟩:=hm.s ‹_›;exact ⟨h.c,h.k0,h.k1,h.s.handle hm.id0 hm.id1 h1 h2,h.v0,h.v1,h.v2,YJ h.ms (Qn6 hm.id0 hm.id1)⟩;obtain ⟨-,ha, -⟩:=hm.v (by omega);split;exact ⟨h.c,h.k0,h.k1,h.s,h.v0.handle hm.id0 hm.id1 ha,h.v1,h.v2,YJ h.ms (KC hm.id0 hm.id1)⟩;split;exact ⟨h.c,h.k0,h.k1,h.s,h.v0,h.v1.handle hm.id0 hm.id1 ha,h.v2,YJ h.ms (KC hm.id0 hm.id1)⟩;exact ⟨h.c,h.k0,h.k1,h.s,h.v0,h.v1,h.v2.handle hm.id0 hm.id1 ha,YJ h.ms (KC hm.id0 hm.id1)⟩
theorem Qz.without {H:Qb} (h:Qz H) (i:Nat):Qz (H.without i):=⟨h.c,h.k0,h.k1,h.s,h.v0,h.v1,h.v2,fun m hm=>h.ms m (List.mem_of_mem_eraseIdx hm)⟩
theorem Qz.take {H:Qb} (h:Qz H) (kind i:Int):Qz (H.take kind i).2:=by
 unfold Qb.take;split;exact h;split;exact h;rename_i m hm;have hmo:=h.ms m (List.mem_of_getElem? hm);split;exact ⟨h.c,h.k0,h.k1,h.s,h.v0,h.v1,h.v2,fun x hx=>(put_mem hx).elim (h.ms x) (fun e=>e▸hmo)⟩;split;exact (h.without _).gives hmo;exact h.without _
theorem Qz.Qo {H:Qb} (h:Qz H) (i:Int) {id:Int} (h0:1≤id) (h1:id≤999):Qz (H.Qo i id).2:=by
 unfold Qb.Qo;split;exact h;split;exact ⟨h.c.ringC id,h.k0,h.k1,h.s,h.v0,h.v1,h.v2,YJ h.ms (Qzn h.c id)⟩;split;exact ⟨h.c,h.k0,h.k1,h.s,h.v0,h.v1,h.v2,YJ h.ms (Ql8 h.k0 (.inl rfl) h0 h1)⟩;exact ⟨h.c,h.k0,h.k1,h.s,h.v0,h.v1,h.v2,YJ h.ms (Ql8 h.k1 (.inr rfl) h0 h1)⟩
theorem Qz.starts {H:Qb} (h:Qz H) (i:Int):Qz (H.starts i):=by
 unfold Qb.starts;split;exact ⟨h.c.Qoa,h.k0,h.k1,h.s,h.v0,h.v1,h.v2,h.ms⟩;split;exact ⟨h.c,h.k0.start,h.k1,h.s,h.v0,h.v1,h.v2,h.ms⟩;split;exact ⟨h.c,h.k0,h.k1.start,h.s,h.v0,h.v1,h.v2,h.ms⟩;split;exact ⟨h.c,h.k0,h.k1,h.s.start,h.v0,h.v1,h.v2,h.ms⟩;split;exact ⟨h.c,h.k0,h.k1,h.s,h.v0.start,h.v1,h.v2,h.ms⟩;split;exact ⟨h.c,h.k0,h.k1,h.s,h.v0,h.v1.start,h.v2,h.ms⟩;exact ⟨h.c,h.k0,h.k1,h.s,h.v0,h.v1,h.v2.start,h.ms⟩
theorem Qz.Qj {H:Qb} (h:Qz H) (i stay:Int):Qz (H.Qj i stay):=by
 unfold Qb.Qj;split;exact ⟨h.c.QD2 stay,h.k0,h.k1,h.s,h.v0,h.v1,h.v2,h.ms⟩;split;exact ⟨h.c,h.k0.Qj stay,h.k1,h.s,h.v0,h.v1,h.v2,h.ms⟩;split;exact ⟨h.c,h.k0,h.k1.Qj stay,h.s,h.v0,h.v1,h.v2,h.ms⟩;split;exact ⟨h.c,h.k0,h.k1,h.s.Qj stay,h.v0,h.v1,h.v2,h.ms⟩;split;exact ⟨h.c,h.k0,h.k1,h.s,h.v0.Qj stay,h.v1,h.v2,h.ms⟩;split;exact ⟨h.c,h.k0,h.k1,h.s,h.v0,h.v1.Qj stay,h.v2,h.ms⟩;exact ⟨h.c,h.k0,h.k1,h.s,h.v0,h.v1,h.v2.Qj stay,h.ms⟩
theorem Qz.Ye {H:Qb} (h:Qz H) (kind node i:Int):Qz (H.Ye kind node i).2:=by
 unfold Qb.Ye;split;exact h;split;exact h.starts _;exact h.Qj _ _
theorem Qz.XQ {H:Qb} (h:Qz H) {o:Od} (ho:o.ok):Qz (H.XQ o).2:=⟨h.c.Qm0 ho,h.k0,h.k1,h.s,h.v0,h.v1,h.v2,YJ h.ms (Qve h.c ho)⟩
theorem Qz.cancel {H:Qb} (h:Qz H) (id:Int):Qz (H.cancel id).2:=⟨h.c.Qrf id,h.k0,h.k1,h.s,h.v0,h.v1,h.v2,YJ h.ms (Qr4 h.c id)⟩
theorem Qz.force {H:Qb} (h:Qz H) (node:Int) {id:Int} (h0:1≤id) (h1:id≤999) (yes:Bool):Qz (H.force node id yes).2:=by
 unfold Qb.force;split;exact ⟨h.c,h.k0.force id h0 h1 yes,h.k1,h.s,h.v0,h.v1,h.v2,h.ms⟩;exact ⟨h.c,h.k0,h.k1.force id h0 h1 yes,h.s,h.v0,h.v1,h.v2,h.ms⟩
theorem Qz.act {H:Qb} (h:Qz H) {c:Cmd} (hc:c.ok):Qz (H.act c).2:=by
 have hk:=hc.kind;unfold Qb.act Qb.asks;split
 ·split
  ·exact h.XQ (by rcases hk with hk|hk|hk|hk|hk|hk<;>first|exact hk.2|omega)
  split;exact h.cancel _;exact h.force _ (by omega) (by omega) _
 split;exact h.take _ _;split;exact h.Qo _ (by omega) (by omega);exact h.Ye _ _ _
theorem Qz.Yg {H:Qb} (h:Qz H):Qz H.Yg:=by
 unfold Qb.Yg;generalize List.range 7=l
 induction l generalizing H with
 |nil=>exact h
 |cons i r ih=>
  show Qz (r.foldl _ (if _ then _ else _))
  split;exact ih (h.starts _);exact ih h
theorem Qz.takes:∀(n:Nat) {H:Qb},Qz H→Qz (Qb.takes n H)
 |0,_,h=>h
 |n+1,_,h=>Qz.takes n (h.take _ _)
theorem Qz.rings {H:Qb} (h:Qz H) (i:Int):∀(ids:List Int),(∀id∈ids,1≤id∧id≤999)→Qz (H.rings i ids)
 | [],_=>h
 |id::r,hi=>Qz.rings (h.Qo i (hi id (by simp)).1 (hi id (by simp)).2) i r (fun k hk=>hi k (by simp [hk]))
theorem Uf (k:Qd) (id:Int):(k.ring id).length≤2:=by
 unfold Qd.ring;split;simp;split<;>simp
theorem QDv {P:Prop} (h:P:=by
 exact ⟨rfl,h2.sel (p:= [_,_,_,_,_,_,_,_,_,_,_,_,_]) [1,2,0,3,4,5,6,7,8,9,10,11,12] 13 rfl (by decide)⟩):P:=h
theorem zHb82 {P:Prop} (h:P:=by
 exact ⟨rfl,h2.sel (p:= [_,_,_,_,_,_,_,_,_,_,_,_,_]) [1,2,3,0,4,5,6,7,8,9,10,11,12] 13 rfl (by decide)⟩):P:=h
theorem zHb83 {P:Prop} (h:P:=by
 exact ⟨rfl,h2.sel (p:= [_,_,_,_,_,_,_,_,_,_,_,_,_]) [1,2,3,4,0,5,6,7,8,9,10,11,12] 13 rfl (by decide)⟩):P:=h
theorem zHb84 {P:Prop} (h:P:=by
 exact ⟨rfl,h2.sel (p:= [_,_,_,_,_,_,_,_,_,_,_,_,_]) [1,2,3,4,5,0,6,7,8,9,10,11,12] 13 rfl (by decide)⟩):P:=h
theorem zHb85 {P:Prop} (h:P:=by
 exact ⟨rfl,h2.sel (p:= [_,_,_,_,_,_,_,_,_,_,_,_,_]) [1,2,3,4,5,6,0,7,8,9,10,11,12] 13 rfl (by decide)⟩):P:=h
theorem zHb86 {P:Prop} (h:P:=by
 exact ⟨rfl,h2.sel (p:= [_,_,_,_,_,_,_,_,_,_,_,_,_]) [1,2,3,4,5,6,7,0,8,9,10,11,12] 13 rfl (by decide)⟩):P:=h
theorem zHb87 {P:Prop} (h:P:=by
 exact ⟨rfl,h2.sel (p:= [_,_,_,_,_,_,_,_,_,_,_,_,_]) [1,2,3,4,5,6,7,8,0,9,10,11,12] 13 rfl (by decide)⟩):P:=h
theorem QEf (c:Qa) (x:Led):(c.sends x).1.length≤3:=JK c x
theorem UN (c:Qa) (e:Entry):(c.QM e).1.length≤3:=by
 unfold Qa.QM;split;exact Vn _ _;simp
theorem Qcu (c:Qa) (e:Entry):(c.QN e).1.length≤3:=by
 unfold Qa.QN;split;exact Vn _ _;simp
theorem FK (c:Qa) (id:Int):(c.turns id).1.length≤3:=by
 unfold Qa.turns;split;exact Vn _ _;simp
theorem Ql0 (c:Qa) (m:Msg):(c.handle m).1.length≤4:=by
 unfold Qa.handle;split;simp;split
 ·show (c.tells m).length≤4
  unfold Qa.tells;repeat' split
  all_goals simp
 split;simp;rename_i x hx;split;unfold Qa.steps;split;simp;split;exact Nat.le_succ_of_le (FK _ _);split;split;exact Nat.le_succ_of_le (UN _ _);simp;split;split;exact Nat.le_succ_of_le (UN _ _);simp;simp;split;unfold Qa.Yo;split;simp;split;exact Nat.le_succ_of_le (Qcu _ _);rename_i a b _ _;by_cases hc:(if m.frm=1 then b&& !a else a&& !b)=true;rw [if_pos hc];exact Nat.le_succ_of_le (Qcu _ _);rw [if_neg hc];simp;split;unfold Qa.Vt;split;simp;split;split;simp;exact Nat.le_succ_of_le (UN _ _);split;simp;split;simp only [List.length_cons];have:=Vn (c.Qm [⟨.damage,m.id,[m.frm]⟩]).2 m.id;omega;simp;split;split;exact Nat.le_succ_of_le (UN _ _);simp;simp
theorem Qaq (k:Qd) (m:Msg):(k.handle m).1.length≤1:=by
 unfold Qd.handle;split;simp
 ·simp only;generalize Qr (mgi k.st m.id) m.kind (k.can m.kind m.id m.a m.b).1=x;have key:∀p:Bool,(if p=false then [] else if x.2=0 then [] else [(⟨x.2,k.node,if x.2=11∨x.2=17 then 0 else m.frm,m.id,0,0,0⟩:Msg)]).length≤1:=by
   intro p;split;simp;split<;>simp
  exact key _
theorem Qlq (s:Qh) (m:Msg):(s.handle m).1.length≤1:=by
 unfold Qh.handle;split;simp;simp only;split<;>simp
theorem TI (s:Qe) (m:Msg):(s.handle m).1.length≤1:=by
 unfold Qe.handle;split;simp;simp only;split<;>simp
section
variable {w0:World} {q:HA} {H:Qb} {R:List SA}
abbrev Qq7 (w0:World) (q:HA) (H:Qb) (R:List SA) (m:Msg) (e:Ending) (w':World):Prop:=∃(v':Value) (ms:List Msg) (H':Qb),e=.returned v'∧ms.length<1000∧Heap w0 (.slc v' 113 7 ms.length (Qk ms)::H'.on q R) w'∧H.gives m= {H' with p:=H'.p.puts ms}
theorem XG {i:Int} (h0:0≤i) (h1:i<7):i=0∨i=1∨i=2∨i=3∨i=4∨i=5∨i=6:=by omega
theorem Qsx (hf:Qz H) {m:Msg} (hm:MOk m):∃T p F,q.node m.to=.iface T p∧(∀W,(method 463 T p "Handle").run Tryz.prog W=.ok (F,p) W)∧(∀args W,(callFunc F args).run Tryz.prog W=.ok (.enter F args) W)∧∀W,Heap w0 (H.on q R) W→Calls Tryz.prog F #[p,m.val] W (Qq7 w0 q H R m):=by
 rcases XG hm.dst.1 hm.dst.2 with e|e|e|e|e|e|e;refine ⟨70,.pointer (some ⟨q.bc,0,none⟩),278,by rw [e];rfl,fun W=>Qe3 _ W,enters_of Tryz.func278 (by kernel_rfl) rfl,fun W h=>?_⟩;refine (Qop (h.frt 2 rfl) m ⟨e,hm.id0,hm.id1,hm.c e,fun x hx=>hf.c.two _ x hx⟩).mono ?_;rintro e' w' ⟨v',rfl,h2⟩;exact ⟨v',_,{H with c:=(H.c.handle m).2},rfl,by have:=Ql0 H.c m;omega,h2.sel (p:= [_,_,_,_,_,_,_,_,_,_,_,_,_,_]) [0,2,3,1,4,5,6,7,8,9,10,11,12,13] 14 rfl (by decide),by unfold Qb.gives;simp [e]⟩;refine ⟨40,.pointer (some ⟨q.k0,0,none⟩),215,by rw [e];rfl,fun W=>JV _ W,enters_of Tryz.func215 (by kernel_rfl) rfl,fun W h=>?_⟩;have hk:=hm.k (by omega);have hn:=hf.k0.node;have key:=Qb8 (h.frt 3 rfl) m.kind m.frm m.id m.step m.a m.b (by rw [hn];have:=hk.1;omega) hm.id0 hm.id1 hk.2;have em:(⟨m.kind,m.frm,H.k0.node,m.id,m.step,m.a,m.b⟩:Msg)=m:=by rw [hn,←e]
 rw [em] at key;refine key.mono ?_;rintro e' w' ⟨v',rfl,h2⟩;exact ⟨v',_,{H with k0:=(H.k0.handle m).2},rfl,by have:=Qaq H.k0 m;omega,h2.sel (p:= [_,_,_,_,_,_,_,_,_,_,_,_,_,_]) [0,2,3,4,1,5,6,7,8,9,10,11,12,13] 14 rfl (by decide),by unfold Qb.gives;simp [e]⟩;refine ⟨40,.pointer (some ⟨q.k1,0,none⟩),215,by rw [e];rfl,fun W=>JV _ W,enters_of Tryz.func215 (by kernel_rfl) rfl,fun W h=>?_⟩;have hk:=hm.k (by omega);have hn:=hf.k1.node;have key:=Qb8 (h.frt 4 rfl) m.kind m.frm m.id m.step m.a m.b (by rw [hn];have:=hk.1;omega) hm.id0 hm.id1 hk.2;have em:(⟨m.kind,m.frm,H.k1.node,m.id,m.step,m.a,m.b⟩:Msg)=m:=by rw [hn,←e]
 rw [em] at key;refine key.mono ?_;rintro e' w' ⟨v',rfl,h2⟩;exact ⟨v',_,{H with k1:=(H.k1.handle m).2},rfl,by have:=Qaq H.k1 m;omega,h2.sel (p:= [_,_,_,_,_,_,_,_,_,_,_,_,_,_]) [0,2,3,4,5,1,6,7,8,9,10,11,12,13] 14 rfl (by decide),by unfold Qb.gives;simp [e]⟩
 ·refine ⟨63,.pointer (some ⟨q.bs,0,none⟩),260,by rw [e];rfl,fun W=>Qe8 _ W,enters_of Tryz.func260 (by kernel_rfl) rfl,fun W h=>?_⟩;obtain ⟨s1,s2,s3,s4,s5,s6⟩:=hm.s e;obtain ⟨a,ea⟩:=Int.eq_ofNat_of_zero_le s3;have hl:=hf.s.len;have hr:=hf.s.room;have key:=Qo8 (h.frt 5 rfl) (by omega) m.id m.step a m.b hm.id0 hm.id1 (by omega) s5 s6;have em:(⟨15,0,3,m.id,m.step,(a:Int),m.b⟩:Msg)=m:=by
   obtain ⟨kind,frm,dst,id,step,a',b'⟩:=m;simp only at e s1 s2 ea;rw [e,s1,s2,ea]
  rw [em] at key;refine key.mono ?_;rintro e' w' ⟨v',rfl,h2⟩;exact ⟨v',_,{H with s:=(H.s.handle m).2},rfl,by have:=Qlq H.s m;omega,h2.sel (p:= [_,_,_,_,_,_,_,_,_,_,_,_,_,_]) [0,2,3,4,5,6,1,7,8,9,10,11,12,13] 14 rfl (by decide),by unfold Qb.gives;simp [e]⟩
 refine ⟨64,.pointer (some ⟨q.v0,0,none⟩),267,by rw [e];rfl,fun W=>VT _ W,enters_of Tryz.func267 (by kernel_rfl) rfl,fun W h=>?_⟩;obtain ⟨s1,s2,s3,s4⟩:=hm.v (by omega);refine (KH (h.frt 6 rfl) m ⟨by rw [e];exact hf.v0.node.symm,s1,hm.id0,hm.id1,s2,s3⟩).mono ?_;rintro e' w' ⟨v',rfl,h2⟩;exact ⟨v',_,{H with v0:=(H.v0.handle m).2},rfl,by have:=TI H.v0 m;omega,h2.sel (p:= [_,_,_,_,_,_,_,_,_,_,_,_,_,_]) [0,2,3,4,5,6,7,1,8,9,10,11,12,13] 14 rfl (by decide),by unfold Qb.gives;simp [e]⟩;refine ⟨64,.pointer (some ⟨q.v1,0,none⟩),267,by rw [e];rfl,fun W=>VT _ W,enters_of Tryz.func267 (by kernel_rfl) rfl,fun W h=>?_⟩;obtain ⟨s1,s2,s3,s4⟩:=hm.v (by omega);refine (KH (h.frt 7 rfl) m ⟨by rw [e];exact hf.v1.node.symm,s1,hm.id0,hm.id1,s2,s3⟩).mono ?_;rintro e' w' ⟨v',rfl,h2⟩;exact ⟨v',_,{H with v1:=(H.v1.handle m).2},rfl,by have:=TI H.v1 m;omega,h2.sel (p:= [_,_,_,_,_,_,_,_,_,_,_,_,_,_]) [0,2,3,4,5,6,7,8,1,9,10,11,12,13] 14 rfl (by decide),by unfold Qb.gives;simp [e]⟩;refine ⟨64,.pointer (some ⟨q.v2,0,none⟩),267,by rw [e];rfl,fun W=>VT _ W,enters_of Tryz.func267 (by kernel_rfl) rfl,fun W h=>?_⟩;obtain ⟨s1,s2,s3,s4⟩:=hm.v (by omega);refine (KH (h.frt 8 rfl) m ⟨by rw [e];exact hf.v2.node.symm,s1,hm.id0,hm.id1,s2,s3⟩).mono ?_;rintro e' w' ⟨v',rfl,h2⟩;exact ⟨v',_,{H with v2:=(H.v2.handle m).2},rfl,by have:=TI H.v2 m;omega,h2.sel (p:= [_,_,_,_,_,_,_,_,_,_,_,_,_,_]) [0,2,3,4,5,6,7,8,9,1,10,11,12,13] 14 rfl (by decide),by unfold Qb.gives;simp [e]⟩
theorem Qbs {i:Int} (h0:0≤i) (h1:i<7):∃T p F,q.node i=.iface T p∧(∀W,(method 463 T p "Down").run Tryz.prog W=.ok (F,p) W)∧(∀args W,(callFunc F args).run Tryz.prog W=.ok (.enter F args) W)∧∀W,Heap w0 (H.on q R) W→CE F #[p] W (.bool (H.Qv i)):=by
 rcases XG h0 h1 with e|e|e|e|e|e|e;exact ⟨70,.pointer (some ⟨q.bc,0,none⟩),97,by rw [e];rfl,fun W=>Qa3 _ W,enters_of Tryz.func97 (by kernel_rfl) rfl,fun W h=>by rw [e];exact Zi (h.frt 2 rfl)⟩;exact ⟨40,.pointer (some ⟨q.k0,0,none⟩),19,by rw [e];rfl,fun W=>VJ _ W,enters_of Tryz.func19 (by kernel_rfl) rfl,fun W h=>by rw [e];exact XL (h.frt 3 rfl)⟩;exact ⟨40,.pointer (some ⟨q.k1,0,none⟩),19,by rw [e];rfl,fun W=>VJ _ W,enters_of Tryz.func19 (by kernel_rfl) rfl,fun W h=>by rw [e];exact XL (h.frt 4 rfl)⟩;exact ⟨63,.pointer (some ⟨q.bs,0,none⟩),259,by rw [e];rfl,fun W=>Qav _ W,enters_of Tryz.func259 (by kernel_rfl) rfl,fun W h=>by rw [e];exact Ue (h.frt 5 rfl)⟩;exact ⟨64,.pointer (some ⟨q.v0,0,none⟩),266,by rw [e];rfl,fun W=>Za _ W,enters_of Tryz.func266 (by kernel_rfl) rfl,fun W h=>by rw [e];exact Yd (h.frt 6 rfl)⟩;exact ⟨64,.pointer (some ⟨q.v1,0,none⟩),266,by rw [e];rfl,fun W=>Za _ W,enters_of Tryz.func266 (by kernel_rfl) rfl,fun W h=>by rw [e];exact Yd (h.frt 7 rfl)⟩;exact ⟨64,.pointer (some ⟨q.v2,0,none⟩),266,by rw [e];rfl,fun W=>Za _ W,enters_of Tryz.func266 (by kernel_rfl) rfl,fun W h=>by rw [e];exact Yd (h.frt 8 rfl)⟩
theorem Qws {i:Int} (h0:0≤i) (h1:i<7) (stay QQ:Int):∃T p F,q.node i=.iface T p∧(∀W,(method 463 T p "Crash").run Tryz.prog W=.ok (F,p) W)∧(∀args W,(callFunc F args).run Tryz.prog W=.ok (.enter F args) W)∧∀W,Heap w0 (H.on q R) W→CH F #[p,stay,QQ] W (.tuple #[]) w0 ((H.Qj i stay).on q R):=by
 rcases XG h0 h1 with e|e|e|e|e|e|e;refine ⟨70,.pointer (some ⟨q.bc,0,none⟩),277,by rw [e];rfl,fun W=>Qi6 _ W,enters_of Tryz.func277 (by kernel_rfl) rfl,fun W h=>?_⟩;refine (Qsi (h.frt 2 rfl) stay QQ).mono ?_;rintro e' w' ⟨rfl,h2⟩;rw [show H.Qj i stay= {H with c:=H.c.Qj stay} by unfold Qb.Qj;simp [e]];exact QDv;refine ⟨40,.pointer (some ⟨q.k0,0,none⟩),214,by rw [e];rfl,fun W=>Dm _ W,enters_of Tryz.func214 (by kernel_rfl) rfl,fun W h=>?_⟩;refine (Qfg (h.frt 3 rfl) stay QQ).mono ?_;rintro e' w' ⟨rfl,h2⟩;rw [show H.Qj i stay= {H with k0:=H.k0.Qj stay} by unfold Qb.Qj;simp [e]];exact zHb82;refine ⟨40,.pointer (some ⟨q.k1,0,none⟩),214,by rw [e];rfl,fun W=>Dm _ W,enters_of Tryz.func214 (by kernel_rfl) rfl,fun W h=>?_⟩;refine (Qfg (h.frt 4 rfl) stay QQ).mono ?_;rintro e' w' ⟨rfl,h2⟩;rw [show H.Qj i stay= {H with k1:=H.k1.Qj stay} by unfold Qb.Qj;simp [e]];exact zHb83;refine ⟨63,.pointer (some ⟨q.bs,0,none⟩),258,by rw [e];rfl,fun W=>Qi0 _ W,enters_of Tryz.func258 (by kernel_rfl) rfl,fun W h=>?_⟩;refine (Qrl (h.frt 5 rfl) stay QQ).mono ?_;rintro e' w' ⟨rfl,h2⟩;rw [show H.Qj i stay= {H with s:=H.s.Qj stay} by unfold Qb.Qj;simp [e]];exact zHb84;refine ⟨64,.pointer (some ⟨q.v0,0,none⟩),265,by rw [e];rfl,fun W=>UT _ W,enters_of Tryz.func265 (by kernel_rfl) rfl,fun W h=>?_⟩;refine (FJ (h.frt 6 rfl) stay QQ).mono ?_;rintro e' w' ⟨rfl,h2⟩;rw [show H.Qj i stay= {H with v0:=H.v0.Qj stay} by unfold Qb.Qj;simp [e]];exact zHb85;refine ⟨64,.pointer (some ⟨q.v1,0,none⟩),265,by rw [e];rfl,fun W=>UT _ W,enters_of Tryz.func265 (by kernel_rfl) rfl,fun W h=>?_⟩;refine (FJ (h.frt 7 rfl) stay QQ).mono ?_;rintro e' w' ⟨rfl,h2⟩;rw [show H.Qj i stay= {H with v1:=H.v1.Qj stay} by unfold Qb.Qj;simp [e]];exact zHb86;refine ⟨64,.pointer (some ⟨q.v2,0,none⟩),265,by rw [e];rfl,fun W=>UT _ W,enters_of Tryz.func265 (by kernel_rfl) rfl,fun W h=>?_⟩;refine (FJ (h.frt 8 rfl) stay QQ).mono ?_;rintro e' w' ⟨rfl,h2⟩;rw [show H.Qj i stay= {H with v2:=H.v2.Qj stay} by unfold Qb.Qj;simp [e]];exact zHb87
theorem Qvj (hf:Qz H) {i:Int} (h0:0≤i) (h1:i<7):∃T p F,q.node i=.iface T p∧(∀W,(method 463 T p "Start").run Tryz.prog W=.ok (F,p) W)∧(∀args W,(callFunc F args).run Tryz.prog W=.ok (.enter F args) W)∧∀W,Heap w0 (H.on q R) W→CH F #[p] W (.tuple #[]) w0 ((H.starts i).on q R):=by
 rcases XG h0 h1 with e|e|e|e|e|e|e;refine ⟨70,.pointer (some ⟨q.bc,0,none⟩),279,by rw [e];rfl,fun W=>Qid _ W,enters_of Tryz.func279 (by kernel_rfl) rfl,fun W h=>?_⟩;refine (Qsd (h.frt 2 rfl) (fun _=>hf.c.Qp7)).mono ?_;rintro e' w' ⟨rfl,h2⟩;rw [show H.starts i= {H with c:=H.c.start} by unfold Qb.starts;simp [e]];exact QDv;refine ⟨40,.pointer (some ⟨q.k0,0,none⟩),216,by rw [e];rfl,fun W=>DJ _ W,enters_of Tryz.func216 (by kernel_rfl) rfl,fun W h=>?_⟩;refine (Qhp (h.frt 3 rfl) (hf.k0.es)).mono ?_;rintro e' w' ⟨rfl,h2⟩;rw [show H.starts i= {H with k0:=H.k0.start} by unfold Qb.starts;simp [e]];exact zHb82;refine ⟨40,.pointer (some ⟨q.k1,0,none⟩),216,by rw [e];rfl,fun W=>DJ _ W,enters_of Tryz.func216 (by kernel_rfl) rfl,fun W h=>?_⟩;refine (Qhp (h.frt 4 rfl) (hf.k1.es)).mono ?_;rintro e' w' ⟨rfl,h2⟩;rw [show H.starts i= {H with k1:=H.k1.start} by unfold Qb.starts;simp [e]];exact zHb83;refine ⟨63,.pointer (some ⟨q.bs,0,none⟩),261,by rw [e];rfl,fun W=>Qht _ W,enters_of Tryz.func261 (by kernel_rfl) rfl,fun W h=>?_⟩;refine (Qtd (h.frt 5 rfl) (hf.s.es)).mono ?_;rintro e' w' ⟨rfl,h2⟩;rw [show H.starts i= {H with s:=H.s.start} by unfold Qb.starts;simp [e]];exact zHb84;refine ⟨64,.pointer (some ⟨q.v0,0,none⟩),268,by rw [e];rfl,fun W=>UH _ W,enters_of Tryz.func268 (by kernel_rfl) rfl,fun W h=>?_⟩;refine (Qak (h.frt 6 rfl) (hf.v0.es)).mono ?_;rintro e' w' ⟨rfl,h2⟩;rw [show H.starts i= {H with v0:=H.v0.start} by unfold Qb.starts;simp [e]];exact zHb85;refine ⟨64,.pointer (some ⟨q.v1,0,none⟩),268,by rw [e];rfl,fun W=>UH _ W,enters_of Tryz.func268 (by kernel_rfl) rfl,fun W h=>?_⟩;refine (Qak (h.frt 7 rfl) (hf.v1.es)).mono ?_;rintro e' w' ⟨rfl,h2⟩;rw [show H.starts i= {H with v1:=H.v1.start} by unfold Qb.starts;simp [e]];exact zHb86;refine ⟨64,.pointer (some ⟨q.v2,0,none⟩),268,by rw [e];rfl,fun W=>UH _ W,enters_of Tryz.func268 (by kernel_rfl) rfl,fun W h=>?_⟩;refine (Qak (h.frt 8 rfl) (hf.v2.es)).mono ?_;rintro e' w' ⟨rfl,h2⟩;rw [show H.starts i= {H with v2:=H.v2.start} by unfold Qb.starts;simp [e]];exact zHb87
theorem Heap.boxed {w:World} {X:SA} (h:Heap w0 (X::H.on q R) w):Heap w0 (H.on q (X::R)) w:=h.sel (p:= [_,_,_,_,_,_,_,_,_,_,_,_,_,_]) [1,2,3,4,5,6,7,8,9,10,11,12,13,0] 14 rfl (by decide)
theorem Heap.Xw {w:World} {X:SA} (h:Heap w0 (H.on q (X::R)) w):Heap w0 (H.on q R) w:=h.sel (p:= [_,_,_,_,_,_,_,_,_,_,_,_,_,_]) [0,1,2,3,4,5,6,7,8,9,10,11,12] 14 rfl (by decide)
theorem Fu {w:World} {v:Value} {ms:List Msg} (h:Heap w0 (.slc v 113 7 ms.length (Qk ms)::H.on q R) w) (hl:ms.length<1000):CH 66 #[q.bp,v] w (.tuple #[]) w0 (({H with p:=H.p.puts ms}:Qb).on q R):=by
 refine (Qwj (h.sel (p:= [_,_,_,_,_,_,_,_,_,_,_,_,_,_]) [10,0,1,2,3,4,5,6,7,8,9,11,12,13] 14 rfl (by decide)) hl).m2 fun w' h2=>?_;exact ⟨rfl,h2.sel (p:= [_,_,_,_,_,_,_,_,_,_,_,_,_,_]) [2,3,4,5,6,7,8,9,10,0,11,12,13] 14 rfl (by decide)⟩
theorem Qr8 (c:Qa) (id:Int):(c.ring id).1.length≤3:=by
 unfold Qa.ring;split;simp;split;simp;split;simp;split;split;exact FK _ _;exact JK _ _;exact JK _ _
theorem Qv5 {w:World} (hf:Qz H) (h:Heap w0 (H.on q R) w) (id:Int) (h0:1≤id) (h1:id≤999):Calls Tryz.prog 68 #[q.bc,id] w fun e w'=>∃v',e=.returned v'∧Heap w0 (.slc v' 113 7 (H.c.ring id).1.length (Qk (H.c.ring id).1)::({H with c:=(H.c.ring id).2}:Qb).on q R) w':=by
 refine (Qw4 (h.frt 2 rfl) id h0 h1 (fun x hx hb=>hf.c.Xo id x trivial hx hb)).mono ?_;rintro e w' ⟨v',rfl,h2⟩;exact ⟨v',rfl,h2.sel (p:= [_,_,_,_,_,_,_,_,_,_,_,_,_,_]) [0,2,3,1,4,5,6,7,8,9,10,11,12,13] 14 rfl (by decide)⟩
theorem Qvv {w:World} (h:Heap w0 (H.on q R) w) (i:Int) (hi:i=1∨i=2) (id:Int) (h0:1≤id) (h1:id≤999):Calls Tryz.prog 69 #[(q.kp i),id] w fun e w'=>∃v' ms,e=.returned v'∧ms.length<1000∧(if i=1 then ms=H.k0.ring id else ms=H.k1.ring id)∧Heap w0 (.slc v' 113 7 ms.length (Qk ms)::H.on q R) w':=by
 rcases hi with rfl|rfl;refine (Qjr (h.frt 3 rfl) id h0 h1).mono ?_;rintro e w' ⟨v',rfl,h2⟩;exact ⟨v',_,rfl,by have:=Uf H.k0 id;omega,rfl,h2.sel (p:= [_,_,_,_,_,_,_,_,_,_,_,_,_,_]) [0,2,3,4,1,5,6,7,8,9,10,11,12,13] 14 rfl (by decide)⟩;refine (Qjr (h.frt 4 rfl) id h0 h1).mono ?_;rintro e w' ⟨v',rfl,h2⟩;exact ⟨v',_,rfl,by have:=Uf H.k1 id;omega,rfl,h2.sel (p:= [_,_,_,_,_,_,_,_,_,_,_,_,_,_]) [0,2,3,4,5,1,6,7,8,9,10,11,12,13] 14 rfl (by decide)⟩
end
theorem Qnt (v n:Int) (w:World):CE 71 #[.int .i64 v,.int .i64 n] w (.bool (decide (1≤v)&&decide (v≤n))):=by
 by_cases h1:1≤v
 ·by_cases h2:v≤n
  ·go_enter Tryz.func71,Tryz.ntmps71;go_wp2_with fail;go_ret;exact ⟨by simp [h1,h2],rfl⟩
  ·go_enter Tryz.func71,Tryz.ntmps71;go_wp2_with fail;go_ret;exact ⟨by simp [h1,h2],rfl⟩
 ·go_enter Tryz.func71,Tryz.ntmps71;go_wp2_with fail;go_ret;exact ⟨by simp [h1];omega,rfl⟩
def tid (x:Int):Int:=1+((x%18446744073709551616).toNat%6:Nat)
theorem Qix (x:Int):1≤tid x∧tid x≤6:=by unfold tid;omega
theorem JS (x:Int) (w:World):CE 45 #[.int .i64 x] w (.int .i64 (tid x)):=by
 go_enter Tryz.func45,Tryz.ntmps45;go_wp2_with fail;go_ret;refine ⟨?_,rfl⟩;have e:(IntKind.u64.wrap x).tmod 6=(((x%18446744073709551616).toNat%6:Nat):Int):=by
  rw [IntKind.wrap_u64,Int.tmod_eq_emod_of_nonneg (by omega)];omega
 show Ending.returned (.int .i64 (wrap64 (1+wrap64 ((IntKind.u64.wrap x).tmod 6))))=_
 rw [e];have h2:((x%18446744073709551616).toNat%6:Nat)<6:=Nat.mod_lt _ (by omega);unfold tid;generalize (x%18446744073709551616).toNat%6=k at *;have h3:wrap64 (k:Int)=k:=by unfold wrap64;omega
 have h4:wrap64 (1+(k:Int))=1+k:=by unfold wrap64;omega
 rw [h3,h4]
abbrev Dt (w0:World) (q:HA):Prop:=∀(H:Qb) (R:List SA) (w:World) (id:Int),Heap w0 (H.on q R) w→1≤id→id≤999→CH 63 #[q.b,id] w (.tuple #[]) w0 (H.on q R)
section
variable {w0 w:World} {q:HA} {H:Qb} {R:List SA}
theorem Qqw (hDE:Dt w0 q) (hf:Qz H) (h:Heap w0 (H.on q R) w) (id:Int) (h0:1≤id) (h1:id≤999):
 CH 35 #[q.b,.int .i64 0,id] w (.int .i64 (H.Qo 0 id).1) w0 ((H.Qo 0 id).2.on q R):=by
 have HR:As (H.Qo 0 id=if H.Qv 0=true then (10,H) else (0,{H with c:=(H.c.ring id).2,p:=H.p.puts (H.c.ring id).1})):=⟨by simp [Qb.Qo]⟩;obtain ⟨T,p,F,hn,hm,hent,hd⟩:=Qbs (w0:=w0) (q:=q) (H:=H) (R:=R) (i:=0) (by omega) (by omega);have HN:=zk hn;have HD:=zk hd;have HF:=zk hf;have HDE:=zk hDE;have HH:=zk h;have c7:=h.cell 0 7 rfl rfl;have hlb:=h.lt 0 rfl;generalize H.Qo 0 id=res at *;clear hn hd hf h hDE;cases hdn:H.Qv 0
 ·have HDN:=zk hdn;rw [hdn] at HR HD;simp only [Bool.false_eq_true,if_false] at HR;clear hdn;go_enter Tryz.func35,Tryz.ntmps35;go_wp2_with (first
   |(go_at_call 48;refine (QY HH.1 _ (by omega)).m0 ?_;rw [HN.1])
   |(refine (HD.1 _ HH.1).m0 ?_))
  refine wro (fun W=>W.cell? ⟨q.b,7,none⟩=some (.pointer (some ⟨q.bp,0,none⟩))∧q.b<W.heap.size) [(0,.f),(1,.f),(2,.f),(3,.f),(4,.f),(6,.f),(5,.e),(7,.e),(8,.e)] ⟨c7,hlb⟩ ?_;repeat (first
   |(refine vg rfl rfl ?_;apply ex2;intro w' hw';obtain ⟨c7',hlb'⟩:=hw';go_simp;rfl;go_simp)
   |(refine vs_ rfl (fun K hK=>?_);go_simp;refine hK _ ?_;clear hK K)
   |(refine ve rfl rfl ?_;go_wp2_with (go_at_call 52;refine (Ve HH.1.drew).m0 ?_);refine ⟨⟨c7,hlb⟩,?_⟩;go_simp)
   |(refine ve rfl rfl ?_;go_wp2_with (go_at_call 68;refine (Qv5 HF.1 HH.1.drew id h0 h1).mono ?_;rintro e w1 ⟨v1,rfl,h1⟩;have H1:=zk h1;clear h1);refine ⟨⟨H1.1.cell 1 7 rfl rfl,H1.1.lt 1 rfl⟩,?_⟩;go_simp)
   |(refine ve rfl rfl ?_;go_wp2_with (go_at_call 66;refine (Fu H1.1 (by have:=Qr8 H.c id;omega)).mono ?_;rintro e w2 ⟨rfl,h2⟩;have H2:=zk h2;clear h2);refine ⟨⟨H2.1.cell 0 7 rfl rfl,H2.1.lt 0 rfl⟩,?_⟩;go_simp))
  refine vn ?_;go_simp;go_wp2_with (go_at_call 63;refine (HDE.1 _ _ _ id H2.1 h0 h1).m1 fun w3 H3=>?_);go_ret;rw [HR.1];exact ⟨rfl,H3.1⟩
 ·rw [hdn] at HR HD;simp only [if_true] at HR;clear hdn;go_enter Tryz.func35,Tryz.ntmps35;go_wp2_with (first
   |(go_at_call 48;refine (QY HH.1 _ (by omega)).m0 ?_;rw [HN.1])
   |(refine (HD.1 _ HH.1).m0 ?_))
  go_ret;rw [HR.1];exact ⟨rfl,HH.1⟩
theorem Qhy (hf:Qz H) (h:Heap w0 (H.on q R) w) (i:Int) (hi:i=1∨i=2) (id:Int) (h0:1≤id) (h1:id≤999):
 CH 35 #[q.b,.int .i64 i,id] w (.int .i64 (H.Qo i id).1) w0 ((H.Qo i id).2.on q R):=by
 have HR:As (H.Qo i id=if H.Qv i=true then (10,H) else if i=1 then (0,{H with p:=H.p.puts (H.k0.ring id)}) else (0,{H with p:=H.p.puts (H.k1.ring id)})):=⟨by
  unfold Qb.Qo;rw [if_neg (c:=i=0) (by omega)]⟩
 obtain ⟨T,p,F,hn,hm,hent,hd⟩:=Qbs (w0:=w0) (q:=q) (H:=H) (R:=R) (i:=i) (by omega) (by omega);have HN:=zk hn;have HD:=zk hd;have HF:=zk hf;have HH:=zk h;have HI:=zk hi;have c7:=h.cell 0 7 rfl rfl;have hlb:=h.lt 0 rfl;have HPUT:As (∀ms,(if i=1 then ms=H.k0.ring id else ms=H.k1.ring id)→H.Qv i=false→H.Qo i id=(0,{H with p:=H.p.puts ms})):=⟨fun ms hms hdn=>by
  rw [HR.1,hdn];simp only [Bool.false_eq_true,if_false];rcases hi with rfl|rfl;rw [if_pos rfl] at hms⊢;rw [hms];rw [if_neg (by decide)] at hms⊢;rw [hms]⟩
 have HDO:As (H.Qv i=true→H.Qo i id=(10,H)):=⟨fun e=>by rw [HR.1,e];rfl⟩;generalize H.Qo i id=res at *;clear HR hn hd hf h;have hb:(i != 0)=true∧((i != 1)=false∨(i != 1)=true∧(i != 2)=false)∧(i==0)=false:=by
  rcases hi with rfl|rfl;exact ⟨by decide,.inl (by decide),by decide⟩;exact ⟨by decide,.inr ⟨by decide,by decide⟩,by decide⟩
 obtain ⟨b1,b2,b4⟩:=hb;clear hi;rcases b2 with b2|⟨b2,b3⟩;all_goals
  cases hdn:H.Qv i
  ·have HDN:=zk hdn;rw [hdn] at HD;clear hdn HDO;go_enter Tryz.func35,Tryz.ntmps35;go_wp2_with (first
    |(go_at_call 48;refine (QY HH.1 _ (by have:=HI.1;omega)).mono ?_;rintro e w' ⟨rfl,rfl⟩;rw [HN.1])
    |(refine (HD.1 _ HH.1).m0 ?_))
   refine wro (fun W=>W.cell? ⟨q.b,7,none⟩=some (.pointer (some ⟨q.bp,0,none⟩))∧q.b<W.heap.size) [(0,.f),(1,.f),(2,.f),(3,.f),(4,.f),(5,.f),(7,.f),(6,.e),(8,.e),(9,.e)] ⟨c7,hlb⟩ ?_;repeat (first
    |(refine vg rfl rfl ?_;apply ex2;intro w' hw';obtain ⟨c7',hlb'⟩:=hw';go_simp;rfl;go_simp)
    |(refine vs_ rfl (fun K hK=>?_);go_simp;refine hK _ ?_;clear hK K)
    |(refine ve rfl rfl ?_;go_wp2_with (go_at_call 16;refine (UK HH.1.drew i HI.1).m0 ?_);refine ⟨⟨c7,hlb⟩,?_⟩;go_simp)
    |(refine ve rfl rfl ?_;go_wp2_with (go_at_call 69;refine (Qvv HH.1.drew i HI.1 id h0 h1).mono ?_;rintro e w1 ⟨v1,ms,rfl,hl1,he1,h1⟩;have H1:=zk h1;have HL1:=zk hl1;have HE1:=zk he1;clear h1 hl1 he1);refine ⟨⟨H1.1.cell 1 7 rfl rfl,H1.1.lt 1 rfl⟩,?_⟩;go_simp)
    |(refine ve rfl rfl ?_;go_wp2_with (go_at_call 66;refine (Fu H1.1 HL1.1).m1 fun w2 H2=>?_);refine ⟨⟨H2.1.cell 0 7 rfl rfl,H2.1.lt 0 rfl⟩,?_⟩;go_simp))
   refine vn ?_;go_simp;go_wp2_with fail;go_ret;rw [HPUT.1 _ HE1.1 HDN.1];exact ⟨rfl,H2.1⟩
  ·have HDN:=zk hdn;rw [hdn] at HD;clear hdn HPUT;go_enter Tryz.func35,Tryz.ntmps35;go_wp2_with (first
    |(go_at_call 48;refine (QY HH.1 _ (by have:=HI.1;omega)).mono ?_;rintro e w' ⟨rfl,rfl⟩;rw [HN.1])
    |(refine (HD.1 _ HH.1).m0 ?_))
   go_ret;rw [HDO.1 HDN.1];exact ⟨rfl,HH.1⟩
end
def u64 (x:Int):Int:=x%18446744073709551616
structure XT where
 dO:Int
 i:Int
 QQ:Int
 o:Od
 yes:Bool
def QA (o:Od) (k:Nat):List Sp:=match o.steps[k]? with
 |some s=>if s.n%4=0 then [] else [⟨4+((k:Int)+u64 o.item%3)%3,1+u64 s.n%4⟩]
 |none=> []
def small (o:Od):Od:=⟨tid o.id,u64 o.item%3,1+u64 o.qty%9,u64 o.client%3,1+u64 o.price%50,QA o 0++QA o 1++QA o 2⟩
def Od.none:Od:=⟨0,0,0,0,0,[]⟩
def Qb.pick (H:Qb) (i:Int):Int:=if H.p.l.length=0 then 0 else u64 i%(H.p.l.length:Int)
def Qb.cmd (H:Qb) (d:XT) (force:Bool):Cmd:=
 if u64 d.dO%14=0 then ⟨1,0,0,0,false,small d.o⟩ else
 if u64 d.dO%14=1 then ⟨2,0,tid d.i,0,false,Od.none⟩ else
 if u64 d.dO%14=2 then (if force=true then ⟨3,1+u64 d.QQ%2,tid d.i,0,d.yes,Od.none⟩ else ⟨5,0,0,H.pick d.i,false,Od.none⟩) else
 if u64 d.dO%14=3 then ⟨6,0,0,H.pick d.i,false,Od.none⟩ else
 if u64 d.dO%14=4 then ⟨7,0,0,H.pick d.i,false,Od.none⟩ else
 if u64 d.dO%14=5 then ⟨8,0,tid d.i,0,false,Od.none⟩ else
 if u64 d.dO%14=6 then ⟨8,1+u64 d.QQ%2,tid d.i,0,false,Od.none⟩ else
 if u64 d.dO%14=7 then ⟨9,u64 d.i%7,d.QQ,u64 d.QQ%4,false,Od.none⟩ else
 if u64 d.dO%14=8∨u64 d.dO%14=9 then ⟨10,u64 d.i%7,0,0,false,Od.none⟩ else ⟨5,0,0,H.pick d.i,false,Od.none⟩
theorem JR {o:Od} {k:Nat} {p:Sp} (h:p∈QA o k):p.svc=4+((k:Int)+u64 o.item%3)%3∧0<p.n∧p.n≤4:=by
 unfold QA at h;split at h;split at h;cases h;rw [List.mem_singleton] at h;subst h;refine ⟨rfl,?_,?_⟩<;>simp only [u64]<;>omega
 cases h
theorem ZB (o:Od) (k:Nat):(QA o k).length≤1:=by
 unfold QA;split;split<;>simp
 simp
theorem Uz (o:Od) (k:Nat):((QA o k).map Sp.svc).Nodup:=by
 unfold QA;split;split<;>simp
 simp
theorem Qks (o:Od):(small o).ok:=by
 have t:=Qix o.id;refine ⟨t.1,by show tid o.id≤999;omega,?_,?_,?_,?_,?_,?_,?_,?_,?_,fun p hp=>?_,?_⟩
 show 0≤u64 o.item%3;omega
 show u64 o.item%3≤7;omega
 show 0≤u64 o.client%3;omega
 show u64 o.client%3≤7;omega
 show 0<1+u64 o.qty%9;omega
 show 1+u64 o.qty%9≤1000000000;omega
 show 0<1+u64 o.price%50;omega
 show 1+u64 o.price%50≤1000000000;omega
 show (QA o 0++QA o 1++QA o 2).length≤3
 have h0:=ZB o 0;have h1:=ZB o 1;have h2:=ZB o 2;simp only [List.length_append];omega;have:p∈QA o 0++QA o 1++QA o 2:=hp;simp only [List.mem_append] at this;rcases this with (h|h)|h<;>have:=JR h<;>omega
 ·show ((QA o 0++QA o 1++QA o 2).map Sp.svc).Nodup
  rw [List.map_append,List.map_append];have hm:∀(k:Nat) (s:Int),s∈(QA o k).map Sp.svc→s=4+((k:Int)+u64 o.item%3)%3:=by
   intro k s hs;obtain ⟨p,hp,rfl⟩:=List.mem_map.1 hs;exact (JR hp).1
  refine List.nodup_append.2 ⟨List.nodup_append.2 ⟨Uz o 0,Uz o 1,fun a ha b hb=>?_⟩,Uz o 2,fun a ha b hb=>?_⟩;have h1:=hm 0 a ha;have h2:=hm 1 b hb;omega;have h2:=hm 2 b hb;rcases List.mem_append.1 ha with ha|ha;have h1:=hm 0 a ha;omega;have h1:=hm 1 a ha;omega
theorem Qxw (H:Qb) (d:XT) (force:Bool):(H.cmd d force).ok:=by
 have t:=Qix d.i;refine ⟨?_⟩;unfold Qb.cmd;split;exact .inl ⟨rfl,Qks _⟩;split;exact .inr (.inl ⟨.inl rfl,t.1,by show tid d.i≤999;omega⟩);split;split;exact .inr (.inl ⟨.inr (.inl ⟨rfl,by show 1+u64 d.QQ%2=1∨1+u64 d.QQ%2=2;omega⟩),t.1,by show tid d.i≤999;omega⟩);exact .inr (.inr (.inl rfl));split;exact .inr (.inr (.inr (.inl rfl)));split;exact .inr (.inr (.inr (.inr (.inl rfl))));split;exact .inr (.inl ⟨.inr (.inr ⟨rfl,.inl rfl⟩),t.1,by show tid d.i≤999;omega⟩);split;exact .inr (.inl ⟨.inr (.inr ⟨rfl,by show 1+u64 d.QQ%2=0∨1+u64 d.QQ%2=1∨1+u64 d.QQ%2=2;omega⟩),t.1,by show tid d.i≤999;omega⟩);split;exact .inr (.inr (.inr (.inr (.inr ⟨.inl rfl,by show 0≤u64 d.i%7;omega,by show u64 d.i%7<7;omega⟩))));split;exact .inr (.inr (.inr (.inr (.inr ⟨.inr rfl,by show 0≤u64 d.i%7;omega,by show u64 d.i%7<7;omega⟩))));exact .inr (.inr (.inl rfl))
def Qb.init (tries:Int):Qb:=⟨⟨5,4096,tries,⟨4096,[],0,false⟩,0,[],⟨tries,[]⟩⟩,⟨1,⟨4096,[],0,false⟩,Vh 1,[]⟩,⟨2,⟨4096,[],0,false⟩,Vh 2,[]⟩,⟨⟨4096,[],0,false⟩,[]⟩,
 ⟨4,9,⟨4096,[],0,false⟩,⟨9,[]⟩,[]⟩,⟨5,30,⟨4096,[],0,false⟩,⟨30,[]⟩,[]⟩,⟨6,4,⟨4096,[],0,false⟩,⟨4,[]⟩,[]⟩,⟨256,[],0⟩⟩
theorem FY {tries:Int} (h0:1≤tries) (h1:tries≤20):Qz (Qb.init tries):=by
 refine ⟨⟨⟨Ql.nil,by simp [Qb.init],Ql.nil,h0,h1,by simp [Qb.init],by simp [Qb.init],by simp [Qb.init]⟩,rfl,by simp [Qb.init],trivial,fun _=>⟨Alike.refl _,rfl⟩,fun id x _ hx=>(by cases hx),fun id x hx=>(by cases hx)⟩,⟨rfl,by simp [Qb.init]⟩,⟨rfl,by simp [Qb.init]⟩,⟨by simp [Qb.init],by simp [Qb.init],by simp [Qb.init]⟩,⟨rfl,by simp [Qb.init]⟩,⟨rfl,by simp [Qb.init]⟩,⟨rfl,by simp [Qb.init]⟩,by simp [Qb.init]⟩
def Qao:Od:=⟨3,1,6,0,1,[]⟩
def FN:Qb:=(Qb.settle 60 ((Qb.init 3).act ⟨1,0,0,0,false,Qao⟩).2).2
structure Vx (n:Nat) (k:Qd):Prop where
 len:k.j.es.length≤n
 room:k.j.room=4096
theorem Vx.notes {n:Nat} {k:Qd} (h:Vx n k) (e:Entry):Vx (n+1) (k.notes e).2:=by
 obtain ⟨h1,h2,h3,h4⟩:=TU k e;refine ⟨?_,h2.trans h.room⟩;have:=h.len;rcases h4 with h4|h4<;>rw [h4];omega;simp only [List.length_append,List.length_singleton];omega
theorem Vx.mono {n m:Nat} {k:Qd} (h:Vx n k) (hm:n≤m):Vx m k:=⟨Nat.le_trans h.len hm,h.room⟩
theorem Vx.start {n:Nat} {k:Qd} (h:Vx n k):Vx n k.start:=by
 unfold Qd.start;split;obtain ⟨h1,h2⟩:=Vf k.j.es (({k with j:=k.j.recover}:Qd).forget);exact ⟨by rw [h1];exact h.len,by rw [h1];exact h.room⟩;exact h
theorem Vx.Qj {n:Nat} {k:Qd} (h:Vx n k) (stay:Int):Vx n (k.Qj stay):=by
 unfold Qd.Qj;split;exact h;refine ⟨?_,h.room⟩
 show (k.j.es.take _).length≤n
 rw [List.length_take];have:=h.len;omega
theorem Vx.force {n:Nat} {k:Qd} (h:Vx n k) (id:Int) (yes:Bool):Vx (n+1) (k.force id yes).2:=by
 unfold Qd.force;split;exact h.mono (by omega);split;exact h.notes _;exact h.mono (by omega)
theorem Vx.handle {n:Nat} {k:Qd} (h:Vx n k) (m:Msg):Vx (n+1) (k.handle m).2:=by
 unfold Qd.handle;split;exact h.mono (by omega);obtain ⟨c1,c2⟩:=KS k m.kind m.id m.a m.b;have hc:Vx n (k.can m.kind m.id m.a m.b).2:=⟨by rw [c1];exact h.len,by rw [c1];exact h.room⟩;simp only;split;exact hc.mono (by omega);exact hc.notes _
structure Cnt (n:Nat) (H:Qb):Prop where
 k0:Vx n H.k0
 k1:Vx n H.k1
theorem Cnt.mono {n m:Nat} {H:Qb} (h:Cnt n H) (hm:n≤m):Cnt m H:=⟨h.k0.mono hm,h.k1.mono hm⟩
theorem Cnt.gives {n:Nat} {H:Qb} (h:Cnt n H) (m:Msg):Cnt (n+1) (H.gives m):=by
 have h':=h.mono (Nat.le_succ n);unfold Qb.gives;repeat' split
 all_goals first|exact ⟨h'.k0,h'.k1⟩|exact ⟨h.k0.handle m,h'.k1⟩|exact ⟨h'.k0,h.k1.handle m⟩
theorem Cnt.take {n:Nat} {H:Qb} (h:Cnt n H) (kind i:Int):Cnt (n+1) (H.take kind i).2:=by
 have h':=h.mono (Nat.le_succ n);unfold Qb.take;split;exact h';split;exact h';split;exact ⟨h'.k0,h'.k1⟩;split;exact Cnt.gives (H:=H.without i.toNat) ⟨h.k0,h.k1⟩ _;exact ⟨h'.k0,h'.k1⟩
theorem Cnt.Qo {n:Nat} {H:Qb} (h:Cnt n H) (i id:Int):Cnt n (H.Qo i id).2:=by
 unfold Qb.Qo;repeat' split
 all_goals exact ⟨h.k0,h.k1⟩
theorem Cnt.Ye {n:Nat} {H:Qb} (h:Cnt n H) (kind node i:Int):Cnt n (H.Ye kind node i).2:=by
 unfold Qb.Ye;split;exact h;split
 ·unfold Qb.starts;repeat' split
  all_goals first|exact ⟨h.k0,h.k1⟩|exact ⟨h.k0.start,h.k1⟩|exact ⟨h.k0,h.k1.start⟩
 ·unfold Qb.Qj;repeat' split
  all_goals first|exact ⟨h.k0,h.k1⟩|exact ⟨h.k0.Qj _,h.k1⟩|exact ⟨h.k0,h.k1.Qj _⟩
theorem Cnt.QE2 {n:Nat} {H:Qb} (h:Cnt n H) (node id:Int) (yes:Bool):Cnt (n+1) (H.force node id yes).2:=by
 have h':=h.mono (Nat.le_succ n);unfold Qb.force;split;exact ⟨h.k0.force id yes,h'.k1⟩;exact ⟨h'.k0,h.k1.force id yes⟩
theorem Cnt.act {n:Nat} {H:Qb} (h:Cnt n H) (c:Cmd):Cnt (n+1) (H.act c).2:=by
 have h':=h.mono (Nat.le_succ n);unfold Qb.act Qb.asks;split;split;exact ⟨h'.k0,h'.k1⟩;split;exact ⟨h'.k0,h'.k1⟩;exact h.QE2 _ _ _;split;exact h.take _ _;split;exact h'.Qo _ _;exact h'.Ye _ _ _
theorem init_cnt (tries:Int):Cnt 0 (Qb.init tries):=⟨⟨by simp [Qb.init],rfl⟩,⟨by simp [Qb.init],rfl⟩⟩
def Qb.kn (H:Qb) (i:Int):Qd:=if i=1 then H.k0 else H.k1
theorem Qkd (k:Qd) (id:Int) (yes:Bool):mgi (k.Qg ⟨if yes=true then .fyes else .fno,id,[]⟩).st id=if yes=true then 4 else 5:=by
 cases yes
 show mgi (Qt k.st id 5) id=_
 simp [mgi,QJ]
 show mgi (Qt k.st id 4) id=_
 simp [mgi,QJ]
theorem Qoh {k:Qd} (id:Int) (yes:Bool) (hd:k.j.down=true):k.force id yes=(10,k):=by
 unfold Qd.force;rw [if_pos hd]
theorem FW {k:Qd} (id:Int) (yes:Bool) (hd:k.j.down=false) (hs:mgi k.st id≠1):k.force id yes=(7,k):=by
 unfold Qd.force;rw [if_neg (by simp [hd]),if_neg hs]
theorem Qrk {k:Qd} (id:Int) (yes:Bool) (hd:k.j.down=false) (hs:mgi k.st id=1) {n:Nat} (hc:Vx n k) (hn:n<4096):
 (k.force id yes).1=0∧(k.force id yes).2.j.down=false∧mgi (k.force id yes).2.st id=if yes=true then 4 else 5:=by
 have hr:¬k.j.room≤(k.j.es.length:Int):=by have:=hc.len;rw [hc.room];omega
 unfold Qd.force;rw [if_neg (by simp [hd]),if_pos hs];have hn:k.notes ⟨if yes=true then .fyes else .fno,id,[]⟩=(true,({k with j:=(k.j.add ⟨if yes=true then .fyes else .fno,id,[]⟩).2.sync}:Qd).Qg ⟨if yes=true then .fyes else .fno,id,[]⟩):=by
  unfold Qd.notes;rw [if_neg hr]
 rw [hn];refine ⟨rfl,?_,Qkd _ _ _⟩
 show (Qd.Qg _ _).j.down=false
 rw [(Jd _ _).1]
 show (k.j.add _).2.down=false
 unfold Jrn.add;rw [if_neg hr];exact hd
theorem Qmc (H:Qb) (node id:Int) (yes:Bool) (hn:node=1∨node=2):(H.force node id yes).1=((H.kn node).force id yes).1∧(H.force node id yes).2.kn node=((H.kn node).force id yes).2:=by
 unfold Qb.force Qb.kn;rcases hn with rfl|rfl<;>exact ⟨rfl,rfl⟩
theorem QCg {n:Nat} {H:Qb} (hc:Cnt n H) (hn:n+1<4096) (node id:Int) (hno:node=1∨node=2) (yes:Bool):
 ((H.kn node).j.down=true∧(H.force node id yes).1=10∧((H.force node id yes).2.kn node).j.down=true)∨
 (((H.force node id yes).2.kn node).j.down=false∧mgi (H.kn node).st id=1∧(H.force node id yes).1=0∧(mgi ((H.force node id yes).2.kn node).st id=4∨mgi ((H.force node id yes).2.kn node).st id=5)∧
   ((H.force node id yes).2.force node id (!yes)).1=7∧mgi (((H.force node id yes).2.force node id (!yes)).2.kn node).st id=mgi ((H.force node id yes).2.kn node).st id)∨
 (((H.force node id yes).2.kn node).j.down=false∧mgi (H.kn node).st id≠1∧(H.force node id yes).1=7∧mgi ((H.force node id yes).2.kn node).st id=mgi (H.kn node).st id∧
   ((H.force node id yes).2.force node id (!yes)).1=7∧mgi (((H.force node id yes).2.force node id (!yes)).2.kn node).st id=mgi ((H.force node id yes).2.kn node).st id):=by
 obtain ⟨e1,e2⟩:=Qmc H node id yes hno;obtain ⟨e3,e4⟩:=Qmc (H.force node id yes).2 node id (!yes) hno;rw [e1,e3,e4,e2];have hk:Vx n (H.kn node):=by
  unfold Qb.kn;split;exact hc.k0;exact hc.k1
 generalize H.kn node=k at *;cases hd:k.j.down;by_cases hs:mgi k.st id=1;right;left;obtain ⟨f1,f2,f3⟩:=Qrk id yes hd hs hk (by omega);have f4:mgi (k.force id yes).2.st id≠1:=by rw [f3];cases yes<;>decide
 rw [FW id (!yes) f2 f4];exact ⟨f2,hs,f1,by rw [f3];cases yes<;>simp,rfl,rfl⟩;right;right;rw [FW id yes hd hs];simp only;rw [FW id (!yes) hd hs];exact ⟨hd,hs,by simp,by simp,by simp,by simp⟩;left;rw [Qoh id yes hd];exact ⟨rfl,rfl,hd⟩
theorem UX (m:IM Int) (k k' v:Int):mgi (Qt m k v) k'=if k=k' then v else mgi m k':=by
 unfold mgi;rw [QS];split<;>rfl
def Led.said (x:Led) (i:Int):Bool:=match x.t with
 |some (a,b)=>if i=1 then a else b
 |.none=>false
def Led.fl (x:Led):Nat→Bool
 |0=>x.f.done.getD 0 false
 |1=>x.f.done.getD 1 false
 |2=>x.f.done.getD 2 false
 |3=>x.f.undone.getD 0 false
 |4=>x.f.undone.getD 1 false
 |5=>x.f.undone.getD 2 false
 |6=>x.f.yes
 |7=>x.f.turned
 |8=>x.f.ack0
 |9=>x.f.ack1
 |10=>x.f.shipped
 |11=>x.decided||x.said 1
 |12=>x.decided||x.said 2
 |13=>x.f.asked
 |14=>x.f.dam0
 |15=>x.f.dam1
 |_=>false
structure Xc (x y:Led):Prop where
 o:y.o=x.o
 fl:∀k,x.fl k=true→y.fl k=true
theorem Xc.refl (x:Led):Xc x x:=⟨rfl,fun _ h=>h⟩
theorem Xc.trans {x y z:Led} (h:Xc x y) (h':Xc y z):Xc x z:=⟨h'.o.trans h.o,fun k hk=>h'.fl k (h.fl k hk)⟩
theorem Qa0 {l:List Bool} {n i:Nat} (h:l.getD i false=true):(l.set n true).getD i false=true:=by
 simp only [List.getD_eq_getElem?_getD] at h⊢;rw [List.getElem?_set];split;split;rfl;rename_i h1 h2;subst h1;rw [List.getElem?_eq_none (by omega)] at h;simp at h;exact h
theorem Xc.of {x y:Led} (ho:y.o=x.o) (hd:∀i,x.f.done.getD i false=true→y.f.done.getD i false=true) (hu:∀i,x.f.undone.getD i false=true→y.f.undone.getD i false=true)
 (h6:x.f.yes=true→y.f.yes=true) (h7:x.f.turned=true→y.f.turned=true) (h8:x.f.ack0=true→y.f.ack0=true) (h9:x.f.ack1=true→y.f.ack1=true) (h10:x.f.shipped=true→y.f.shipped=true)
 (h13:x.f.asked=true→y.f.asked=true) (h14:x.f.dam0=true→y.f.dam0=true) (h15:x.f.dam1=true→y.f.dam1=true) (hs:∀i,x.said i=true→y.decided=true∨y.said i=true):Xc x y:=by
 have hdec:x.decided=true→y.decided=true:=by
  unfold Led.decided;simp only [Bool.or_eq_true];exact fun h=>h.elim (fun h=>.inl (h6 h)) (fun h=>.inr (h7 h))
 have ht:∀i,(x.decided||x.said i)=true→(y.decided||y.said i)=true:=fun i=>by
  simp only [Bool.or_eq_true];exact fun h=>h.elim (fun h=>.inl (hdec h)) (hs i)
 refine ⟨ho,fun k=>?_⟩
 match k with
 |0=>exact hd 0
 |1=>exact hd 1
 |2=>exact hd 2
 |3=>exact hu 0
 |4=>exact hu 1
 |5=>exact hu 2
 |6=>exact h6
 |7=>exact h7
 |8=>exact h8
 |9=>exact h9
 |10=>exact h10
 |11=>exact ht 1
 |12=>exact ht 2
 |13=>exact h13
 |14=>exact h14
 |15=>exact h15
 |k+16=>intro h;cases h
theorem TK {x:Led} {id:Int} (hx:x.ok id) {kd:Kd} {n:Int} (ha:kd=.asked→x.f.asked=false):Xc x (x.facts kd n):=by
 have hsaid:x.f.asked=false→∀i,x.said i=false:=fun h i=>by
  have:=hx.tally;rw [h] at this;unfold Led.said;cases ht:x.t with
  |none=>rfl
  |some p=>rw [ht] at this;simp at this
 cases kd
 case asked=>exact .of rfl (fun _ h=>h) (fun _ h=>h) (fun h=>h) (fun h=>h) (fun h=>h) (fun h=>h) (fun h=>h) (fun _=>rfl) (fun h=>h) (fun h=>h) (fun i h=>by rw [hsaid (ha rfl) i] at h;cases h)
 case done=>exact .of rfl (fun _ h=>Qa0 h) (fun _ h=>h) (fun h=>h) (fun h=>h) (fun h=>h) (fun h=>h) (fun h=>h) (fun h=>h) (fun h=>h) (fun h=>h) (fun i h=>.inr h)
 case undone=>exact .of rfl (fun _ h=>h) (fun _ h=>Qa0 h) (fun h=>h) (fun h=>h) (fun h=>h) (fun h=>h) (fun h=>h) (fun h=>h) (fun h=>h) (fun h=>h) (fun i h=>.inr h)
 case yes=>exact .of rfl (fun _ h=>h) (fun _ h=>h) (fun _=>rfl) (fun h=>h) (fun h=>h) (fun h=>h) (fun h=>h) (fun h=>h) (fun h=>h) (fun h=>h) (fun i h=>.inl rfl)
 case turn=>exact .of rfl (fun _ h=>h) (fun _ h=>h) (fun h=>h) (fun _=>rfl) (fun h=>h) (fun h=>h) (fun h=>h) (fun h=>h) (fun h=>h) (fun h=>h) (fun i h=>.inl (by simp [Led.decided,Led.facts]))
 case shipped=>exact .of rfl (fun _ h=>h) (fun _ h=>h) (fun h=>h) (fun h=>h) (fun h=>h) (fun h=>h) (fun _=>rfl) (fun h=>h) (fun h=>h) (fun h=>h) (fun i h=>.inr h)
 case ack=>
  unfold Led.facts;simp only;split;exact .of rfl (fun _ h=>h) (fun _ h=>h) (fun h=>h) (fun h=>h) (fun _=>rfl) (fun h=>h) (fun h=>h) (fun h=>h) (fun h=>h) (fun h=>h) (fun i h=>.inr h);exact .of rfl (fun _ h=>h) (fun _ h=>h) (fun h=>h) (fun h=>h) (fun h=>h) (fun _=>rfl) (fun h=>h) (fun h=>h) (fun h=>h) (fun h=>h) (fun i h=>.inr h)
 case damage=>
  unfold Led.facts;simp only;split;exact .of rfl (fun _ h=>h) (fun _ h=>h) (fun h=>h) (fun h=>h) (fun _=>rfl) (fun h=>h) (fun h=>h) (fun h=>h) (fun _=>rfl) (fun h=>h) (fun i h=>.inr h);exact .of rfl (fun _ h=>h) (fun _ h=>h) (fun h=>h) (fun h=>h) (fun h=>h) (fun _=>rfl) (fun h=>h) (fun h=>h) (fun h=>h) (fun _=>rfl) (fun i h=>.inr h)
 all_goals exact .refl x
def Kd.soft:Kd→Bool
 |.asked=>true
 |.done=>true
 |.undone=>true
 |.ack=>true
 |.shipped=>true
 |_=>false
def Kd.fact:Kd→Bool
 |.asked=>true
 |.done=>true
 |.undone=>true
 |.ack=>true
 |.shipped=>true
 |.turn=>true
 |.damage=>true
 |.yes=>true
 |_=>false
theorem Qmi {k:Kd} (h:k.fact=true):k≠ .begin∧k≠ .step:=by cases k<;>simp_all [Kd.fact]
def Zk (j:Jrn):Prop:=j.sure≤j.es.length∧∀e∈j.es.drop j.sure,e.kd.soft=true
def Led.known (x:Led) (k:Nat):Bool:=x.fl k&& !decide (k=11∨k=12)
def Led.wt (x:Led):Nat:=1+x.o.steps.length+(List.range 16).countP x.known
def owt:Option Led→Nat
 |.none=>0
 |some x=>x.wt
def Tk (es:List Entry) (id:Int):Nat:=es.countP (fun e=>decide (e.id=id))
def GJ (es:List Entry):Prop:=∀n id,Tk (es.take n) id≤owt (Qc (Qa.nil.Qi (es.take n)).l id)
theorem GJ.cut {es:List Entry} (h:GJ es) (n:Nat):GJ (es.take n):=fun k id=>by
 rw [List.take_take];exact h _ id
theorem Jf (es:List Entry) (e:Entry) (id:Int):Tk (es++ [e]) id=Tk es id+if e.id=id then 1 else 0:=by
 unfold Tk;rw [List.countP_append,List.countP_singleton];by_cases h:e.id=id<;>simp [h]
theorem Qjv (c:Qa) (es:List Entry) (e:Entry):c.Qi (es++ [e])=(c.Qi es).Qg e:=by
 unfold Qa.Qi;rw [List.foldl_append];rfl
theorem GJ.all {es:List Entry} (h:GJ es) (id:Int):Tk es id≤owt (Qc (Qa.nil.Qi es).l id):=by
 have:=h es.length id
 rwa [List.take_length] at this
theorem GJ.snoc {es:List Entry} (h:GJ es) {e:Entry} (hw:owt (Qc (Qa.nil.Qi es).l e.id)+1≤owt (Qc ((Qa.nil.Qi es).Qg e).l e.id)):GJ (es++ [e]):=fun n id=>by
 by_cases hn:n≤es.length;rw [List.take_append_of_le_length hn];exact h n id;rw [List.take_of_length_le (by simp;omega),Jf,Qjv];have h1:=h.all id;split;rename_i he;subst he;omega;rename_i he;rw [ZH (Ne.symm he)];exact h1
theorem FL {p q:Nat→Bool}:∀(l:List Nat),(∀k∈l,p k=true→q k=true)→(∃k∈l,p k=false∧q k=true)→l.countP p+1≤l.countP q
 | [],_,⟨k,hk,_⟩=>by cases hk
 |a::r,hm,⟨k,hk,h1,h2⟩=>by
  have hle:r.countP p≤r.countP q:=List.countP_mono_left (fun x hx h=>hm x (by simp [hx]) h);rw [List.countP_cons,List.countP_cons];rcases List.mem_cons.1 hk with rfl|hk;simp [h1,h2];omega;have:=FL r (fun x hx h=>hm x (by simp [hx]) h) ⟨k,hk,h1,h2⟩;have:=hm a (by simp);by_cases hp:p a=true;rw [if_pos hp,if_pos (this hp)];omega;rw [if_neg hp];split<;>omega
theorem QCi {x y:Led} (h:Xc x y) {k:Nat} (hk:k<16) (h11:k≠11∧k≠12) (h0:x.fl k=false) (h1:y.fl k=true):x.wt+1≤y.wt:=by
 unfold Led.wt;rw [h.o];have:=FL (p:=x.known) (q:=y.known) (List.range 16) (fun k _ hp=>by
  unfold Led.known at hp⊢;simp only [Bool.and_eq_true] at hp⊢;exact ⟨h.fl k hp.1,hp.2⟩) ⟨k,by simpa using hk,by unfold Led.known;simp [h0],by unfold Led.known;simp [h1,h11]⟩
 omega
theorem QBe (o:Od) (f:Facts) (t t':Option (Bool×Bool)) (k:Nat):(⟨o,f,t⟩:Led).known k=(⟨o,f,t'⟩:Led).known k:=by
 match k with
 |0=>rfl
 |1=>rfl
 |2=>rfl
 |3=>rfl
 |4=>rfl
 |5=>rfl
 |6=>rfl
 |7=>rfl
 |8=>rfl
 |9=>rfl
 |10=>rfl
 |11=>unfold Led.known;simp
 |12=>unfold Led.known;simp
 |13=>rfl
 |14=>rfl
 |15=>rfl
 |k+16=>rfl
theorem JM {x y:Led} (h:x.base=y.base):x.wt=y.wt:=by
 obtain ⟨o,f,t⟩:=x;obtain ⟨o',f',t'⟩:=y;simp only [Led.base,Prod.mk.injEq] at h;obtain ⟨rfl,rfl, -⟩:=h;have:(⟨o,f,t⟩:Led).known=(⟨o,f,t'⟩:Led).known:=funext (QBe o f t t');unfold Led.wt;rw [this]
def Led.shut (x:Led):Bool:=x.f.ack0&&x.f.ack1&&(x.f.turned&&(List.range x.o.steps.length).all (fun k=>x.fl (3+k))||x.f.yes&&x.f.shipped)
theorem Xc.shut {x y:Led} (h:Xc x y) (hs:x.shut=true):y.shut=true:=by
 unfold Led.shut at hs⊢;rw [h.o];simp only [Bool.and_eq_true,Bool.or_eq_true,List.all_eq_true] at hs⊢;exact ⟨⟨h.fl 8 hs.1.1,h.fl 9 hs.1.2⟩,hs.2.imp (fun k=>⟨h.fl 7 k.1,fun j hj=>h.fl _ (k.2 j hj)⟩) (fun k=>⟨h.fl 6 k.1,h.fl 10 k.2⟩)⟩
def VP (c:Qa):Prop:=∀id x,Qc c.l id=some x→x.shut=false→c.Qf.has id=true
structure Rel (c c':Qa):Prop where
 down:c'.j.down=c.j.down
 keep:∀id x,Qc c.l id=some x→∃y,Qc c'.l id=some y∧Xc x y
 yes:∀id y,Qc c'.l id=some y→y.f.yes=true→∃x,Qc c.l id=some x∧x.f.yes=true
 said:∀id y i,Qc c'.l id=some y→y.said i=true→∃x,Qc c.l id=some x∧x.said i=true
 sure:Zk c.j→Zk c'.j
 hasB:∀id y,Qc c'.l id=some y→∃x,Qc c.l id=some x
 Xo:VP c→VP c'
 gj:GJ c.j.es→GJ c'.j.es
 room:c'.room=c.room
theorem Rel.refl (c:Qa):Rel c c:=⟨rfl,fun _ x h=>⟨x,h,.refl x⟩,fun _ y h hy=>⟨y,h,hy⟩,fun _ y _ h hy=>⟨y,h,hy⟩,fun h=>h,fun _ y h=>⟨y,h⟩,fun h=>h,fun h=>h,rfl⟩
theorem Rel.trans {c c' c'':Qa} (h:Rel c c') (h':Rel c' c''):Rel c c'':=by
 refine ⟨h'.down.trans h.down,fun id x hx=>?_,fun id y hy h1=>?_,fun id y i hy h1=>?_,fun hs=>h'.sure (h.sure hs),fun id y hy=>?_,fun hs=>h'.Xo (h.Xo hs),fun hs=>h'.gj (h.gj hs),h'.room.trans h.room⟩;obtain ⟨y,hy,h1⟩:=h.keep id x hx;obtain ⟨z,hz,h2⟩:=h'.keep id y hy;exact ⟨z,hz,h1.trans h2⟩;obtain ⟨x,hx,h2⟩:=h'.yes id y hy h1;exact h.yes id x hx h2;obtain ⟨x,hx,h2⟩:=h'.said id y i hy h1;exact h.said id x i hx h2;obtain ⟨x,hx⟩:=h'.hasB id y hy;exact h.hasB id x hx
theorem Rel.same {c c':Qa} (hl:c'.l=c.l) (hj:c'.j=c.j) (hr:c'.room=c.room) (hb:VP c→VP c'):Rel c c':=⟨by rw [hj],by rw [hl];exact (Rel.refl c).keep,by rw [hl];exact (Rel.refl c).yes,by rw [hl];exact (Rel.refl c).said,by rw [hj];exact fun h=>h,by rw [hl];exact (Rel.refl c).hasB,hb,by rw [hj];exact fun h=>h,hr⟩
theorem Dx {c:Qa} {t:Qy} (h:∀id,c.Qf.has id=true→t.has id=true) (hb:VP c):VP {c with Qf:=t}:=fun id x hx hs=>h id (hb id x hx hs)
theorem FH {c:Qa} {e:Entry} {x:Led} (hx:Qc c.l e.id=some x) (hk:e.kd.fact=true) (id:Int):Qc (c.Qg e).l id=if e.id=id then some (x.facts e.kd (e.n.headD 0)) else Qc c.l id:=by
 unfold Qa.Qg;split;exact absurd ‹_› (Qmi hk).1;exact absurd ‹_› (Qmi hk).2;simp only [hx];exact QS _ _ _ _
theorem Xl {c:Qa} {e:Entry} {x:Led} (hx:Qc c.l e.id=some x) (hk:e.kd.fact=true) (id:Int):Qc (c.Qq e).l id=if e.id=id then some (x.facts e.kd (e.n.headD 0)) else Qc c.l id:=
 FH (c:=({c with j:=(c.j.add e).2}:Qa)) hx hk id
theorem Qof {j:Jrn} {e:Entry} (h:Zk j) (he:e.kd.soft=true):Zk (j.add e).2:=by
 unfold Jrn.add;split;exact h;refine ⟨by simp only [List.length_append];have:=h.1;omega,fun e' he'=>?_⟩;simp only at he';rw [List.drop_append_of_le_length h.1] at he';rcases List.mem_append.1 he' with h1|h1;exact h.2 e' h1;rw [List.mem_singleton] at h1;rw [h1];exact he
theorem UJ (j:Jrn):Zk j.sync:=by
 refine ⟨Nat.le_refl _,fun e he=>?_⟩;simp [Jrn.sync] at he
theorem Qg4 {P:Int→Prop} {c:Qa} (h:CFb P c) (hd:c.j.down=false) {e:Entry} {x:Led} (hx:Qc c.l e.id=some x) (hk:e.kd.fact=true) (hy:e.kd≠ .yes) (ha:e.kd=.asked→x.f.asked=false)
 (hn:∃k,k<16∧(k≠11∧k≠12)∧x.fl k=false∧(x.facts e.kd (e.n.headD 0)).fl k=true)
 :(e.kd.soft=true→Rel c (c.Qq e))∧Rel c (c.Qq e).sync:=by
 have hg:=Xl hx hk;have hok:=(h.ok.get hx).1;have hle:Xc x (x.facts e.kd (e.n.headD 0)):=TK hok ha;have hj:(c.Qq e).j=(c.j.add e).2:=VO c e;have hgj:GJ c.j.es→GJ (c.Qq e).j.es:=fun hq=>by
  rw [hj];unfold Jrn.add;split;exact hq
  ·refine hq.snoc ?_;obtain ⟨z,hz,h1,h2,h3⟩:=(h.up hd).1.symm.some hx;have hb:z.base=x.base:=by simp [Led.base,h1,h2,h3]
   have hp:Qc ((Qa.nil.Qi c.j.es).Qg e).l e.id=some (z.facts e.kd (e.n.headD 0)):=by
    have:=FH (c:=Qa.nil.Qi c.j.es) (e:=e) hz hk e.id;rw [if_pos rfl] at this;exact this
   rw [hz,hp]
   show z.wt+1≤(z.facts e.kd (e.n.headD 0)).wt
   rw [JM hb,JM (Kv hb e.kd (e.n.headD 0))];obtain ⟨k,k1,k2,k3,k4⟩:=hn;exact QCi hle k1 k2 k3 k4
 have key:∀c':Qa,c'.l=(c.Qq e).l→c'.j.down=c.j.down→(Zk c.j→Zk c'.j)→c'.Qf=c.Qf→c'.j.es=(c.Qq e).j.es→c'.room=c.room→Rel c c':=by
  intro c' hl hd hs hbl hes hro;refine ⟨hd,fun id y hy=>?_,fun id y hy' h1=>?_,fun id y i hy' h1=>?_,hs,fun id y hy'=>?_,fun hb id y hy' hsh=>?_,by rw [hes];exact hgj,hro⟩;rw [hl,hg];split;rename_i h;subst h;rw [hx] at hy;obtain rfl:=Option.some.inj hy;exact ⟨_,rfl,hle⟩;exact ⟨y,hy,.refl y⟩
  ·rw [hl,hg] at hy';split at hy'
   ·rename_i h;subst h;obtain rfl:=Option.some.inj hy';refine ⟨x,hx,?_⟩;revert h1;generalize e.kd=kd at *;cases kd<;>simp only [Led.facts]<;>(try split)<;>simp_all
   exact ⟨y,hy',h1⟩
  ·rw [hl,hg] at hy';split at hy'
   ·rename_i h;subst h;obtain rfl:=Option.some.inj hy';refine ⟨x,hx,?_⟩;revert h1;generalize e.kd=kd at *;cases kd<;>simp only [Led.facts]<;>(try split)<;>simp_all [Led.said]
   exact ⟨y,hy',h1⟩
  rw [hl,hg] at hy';split at hy';rename_i h;subst h;exact ⟨x,hx⟩;exact ⟨y,hy'⟩;rw [hl,hg] at hy';rw [hbl];split at hy';rename_i h;subst h;obtain rfl:=Option.some.inj hy';refine hb _ x hx ?_;cases e':x.shut;rfl;rw [hle.shut e'] at hsh;cases hsh;exact hb _ y hy' hsh
 have hbl:(c.Qq e).Qf=c.Qf:=(Ym _ _).2.2.2.2;refine ⟨fun hs=>key _ rfl (by rw [hj,Ug]) (fun h=>by rw [hj];exact Qof h hs) hbl rfl (UB c e),key _ rfl ?_ (fun _=>UJ _) hbl rfl (UB c e)⟩
 show (c.Qq e).j.down=_
 rw [hj,Ug]
theorem UO (c:Qa) (e:Entry):c.notes [e]=if c.room<c.used+1 then (false,c) else (true,c.Qq e):=rfl
theorem Uv (c:Qa) (e:Entry):c.Qm [e]=if c.room<c.used+1 then (false,c) else (true,(c.Qq e).sync):=by
 unfold Qa.Qm;rw [UO];split<;>simp
def Qe9 (x:Led) (e:Entry):Prop:=∃k,k<16∧(k≠11∧k≠12)∧x.fl k=false∧(x.facts e.kd (e.n.headD 0)).fl k=true
section
variable {c:Qa} {P:Int→Prop}
theorem Qhd (h:CFb P c) (hd:c.j.down=false) {e:Entry} {x:Led} (hx:Qc c.l e.id=some x) (hk:e.kd.fact=true) (hs:e.kd.soft=true) (ha:e.kd=.asked→x.f.asked=false) (hn:Qe9 x e):Rel c (c.notes [e]).2:=by
 rw [UO];split;exact .refl c;exact (Qg4 h hd hx hk (by intro h;rw [h] at hs;cases hs) ha hn).1 hs
theorem Qfr (h:CFb P c) (hd:c.j.down=false) {e:Entry} {x:Led} (hx:Qc c.l e.id=some x) (hk:e.kd.fact=true) (hy:e.kd≠ .yes) (ha:e.kd=.asked→x.f.asked=false) (hn:Qe9 x e):Rel c (c.Qm [e]).2:=by
 rw [Uv];split;exact .refl c;exact (Qg4 h hd hx hk hy ha hn).2
theorem Qoe {x:Led} (id:Int) (h:x.f.asked=false):Qe9 x ⟨.asked,id,[]⟩:=⟨13,by omega,by omega,h,rfl⟩
theorem Fs {x:Led} (id:Int) (h:x.decided=false):Qe9 x ⟨.turn,id,[]⟩:=⟨7,by omega,by omega,(undecided h).2,rfl⟩
theorem ZC {l:List Bool} {k:Nat} (hk:k<l.length):(l.set k true).getD k false=true:=by rw [Qe0 hk,if_pos rfl]
theorem Qsl {x:Led} (id:Int) {k:Nat} (h:XY x.f.done false=k) (hk:k<3):Qe9 x ⟨.done,id,[(k:Int)]⟩:=by
 obtain ⟨h1,h2, -⟩:=VZ h;have hs:=ZC h1;have hq:k=0∨k=1∨k=2:=by omega
 rcases hq with rfl|rfl|rfl;exact ⟨0,by omega,by omega,h2,hs⟩;exact ⟨1,by omega,by omega,h2,hs⟩;exact ⟨2,by omega,by omega,h2,hs⟩
theorem KD {l:List Bool} {k:Nat} (h:QF l=k):k<l.length∧l.getD k false=false:=by
 obtain ⟨h1,h2⟩:=FE h;refine ⟨h1,?_⟩;obtain ⟨h3,h4, -⟩:=VZ h2;rw [List.getD_eq_getElem?_getD,List.getElem?_reverse (by simpa using h3),show l.length-1-(l.length-1-k)=k by omega,←List.getD_eq_getElem?_getD] at h4;exact h4
theorem Qkq {x:Led} (id:Int) {k:Nat} (h:QF x.f.undone=k) (hk:k<3):Qe9 x ⟨.undone,id,[(k:Int)]⟩:=by
 obtain ⟨h1,h2⟩:=KD h;have hs:=ZC h1;have hq:k=0∨k=1∨k=2:=by omega
 rcases hq with rfl|rfl|rfl;exact ⟨3,by omega,by omega,h2,hs⟩;exact ⟨4,by omega,by omega,h2,hs⟩;exact ⟨5,by omega,by omega,h2,hs⟩
theorem Qwg {x:Led} (id:Int) {n:Int} (hn:n=1∨n=2) (h:x.Tf n=false):Qe9 x ⟨.ack,id,[n]⟩:=by
 rcases hn with rfl|rfl;exact ⟨8,by omega,by omega,h,rfl⟩;exact ⟨9,by omega,by omega,h,rfl⟩
theorem Qk8 {x:Led} (id:Int) {n:Int} (hn:n=1∨n=2) (h:x.De n=false):Qe9 x ⟨.damage,id,[n]⟩:=by
 rcases hn with rfl|rfl;exact ⟨14,by omega,by omega,h,rfl⟩;exact ⟨15,by omega,by omega,h,rfl⟩
theorem QAh (h:CFb P c) (hd:c.j.down=false) {id:Int} {x:Led} (hx:Qc c.l id=some x) (hdec:x.decided=false):(VP c→VP (c.Qq ⟨.yes,id,[]⟩).sync)∧(GJ c.j.es→GJ (c.Qq ⟨.yes,id,[]⟩).sync.j.es):=by
 have hok:=(h.ok.get hx).1;have hle:Xc x (x.facts .yes 0):=TK hok (by simp);have hg:=Xl (c:=c) (e:=⟨.yes,id,[]⟩) hx rfl;have hbl:(c.Qq ⟨.yes,id,[]⟩).Qf=c.Qf:=(Ym _ _).2.2.2.2;refine ⟨fun hb k y hy hsh=>?_,fun hq=>?_⟩;replace hy:Qc (c.Qq ⟨.yes,id,[]⟩).l k=some y:=hy;rw [hg] at hy
 show (c.Qq ⟨.yes,id,[]⟩).Qf.has k=true
 rw [hbl];split at hy;rename_i e;have e:id=k:=e;subst e;obtain rfl:=Option.some.inj hy;refine hb _ x hx ?_;cases e':x.shut;rfl;exact (Bool.false_ne_true (hsh.symm.trans (hle.shut e'))).elim;exact hb k y hy hsh
 ·show GJ (c.Qq ⟨.yes,id,[]⟩).j.es
  rw [VO];unfold Jrn.add;split;exact hq
  ·refine hq.snoc ?_;obtain ⟨z,hz,h1,h2,h3⟩:=(h.up hd).1.symm.some hx;have hb:z.base=x.base:=by simp [Led.base,h1,h2,h3]
   have hp:Qc ((Qa.nil.Qi c.j.es).Qg ⟨.yes,id,[]⟩).l id=some (z.facts .yes 0):=by
    have:=FH (c:=Qa.nil.Qi c.j.es) (e:=⟨.yes,id,[]⟩) hz rfl id;rw [if_pos rfl] at this;exact this
   show owt (Qc (Qa.nil.Qi c.j.es).l id)+1≤owt (Qc ((Qa.nil.Qi c.j.es).Qg _).l id)
   rw [hz,hp]
   show z.wt+1≤(z.facts .yes 0).wt
   rw [JM hb,JM (Kv hb .yes 0)];exact QCi (k:=6) hle (by omega) (by omega) (undecided hdec).1 rfl
theorem Jt (h:CFb P c) (hd:c.j.down=false) {x:Led} (hx:Qc c.l x.o.id=some x):Rel c (c.sends x).2:=by
 unfold Qa.sends;split;rename_i h';have h1:=Qhd h hd (e:=⟨.asked,x.o.id,[]⟩) hx rfl rfl (fun _=>by simp at h';exact h'.2) (Qoe _ (by simp at h';exact h'.2));split<;>exact h1
 exact .refl c
theorem Fj {x:Led} {k:Int} (hx:x.ok k) (h:x.over=true):x.shut=true:=by
 obtain ⟨m1,m2, -⟩:=mpt hx.may;have hlen:=hx.o.len;have hu:x.f.undone.contains false=false→(List.range x.o.steps.length).all (fun k=>x.fl (3+k))=true:=fun hu=>by
  rw [List.all_eq_true];intro j hj;have hj:j<x.o.steps.length:=by simpa using hj
  have hnf:∀i,i<x.f.undone.length→x.f.undone.getD i false=true:=fun i hi=>by
   rw [List.getD_eq_getElem?_getD,List.getElem?_eq_getElem hi];simp only [Option.getD_some];cases e:x.f.undone[i];have:=List.getElem_mem hi;rw [e] at this;simp only [List.contains_eq_mem,decide_eq_false_iff_not] at hu;exact absurd this hu;rfl
  have hq:j=0∨j=1∨j=2:=by omega
  rcases hq with rfl|rfl|rfl<;>exact hnf _ (by omega)
 unfold Led.over Facts.over Facts.ends at h;unfold Led.shut;generalize (List.range x.o.steps.length).all (fun k=>x.fl (3+k))=al at *;generalize x.f.undone.contains false=uc at *;cases ht:x.f.turned<;>cases hy:x.f.yes<;>cases ha:x.f.ack0<;>cases hb:x.f.ack1<;>cases hs:x.f.shipped<;>cases uc<;>cases hk:x.f.asked<;>simp [ht,hy,ha,hb,hs,hk] at h hu⊢ <;>exact hu
theorem VA (h:CFb P c) (hd:c.j.down=false) (id:Int):Rel c (c.goes id).2:=by
 unfold Qa.goes;split;exact .refl c
 ·rename_i x hx;have hid:x.o.id=id:=(h.ok.get hx).1.id;unfold Qa.Qcs;split
  ·rename_i ho;refine .same rfl rfl rfl (fun hb k y hy hs=>?_);have hy:Qc c.l k=some y:=hy;have hne:¬x.o.id=k:=fun e=>by
    rw [hid] at e;subst e;rw [hx] at hy;obtain rfl:=Option.some.inj hy;rw [Fj (h.ok.get hx).1 ho] at hs;cases hs
   have:=hb k y hy hs
   show ((c.Qf.again x.o.id).cut x.o.id).has k=true
   rw [Qqu,Jo,this];simpa using hne
  refine Rel.trans (Rel.same (c:=c) (c':=c.again x.o.id) rfl rfl rfl (Dx (fun k hk=>by rw [Jo];exact hk))) (Jt (h.again x.o.id) hd ?_);rw [hid];exact hx
end
end Go.Proofs.YtlnghlamnehfjaaGreatDoor.S
