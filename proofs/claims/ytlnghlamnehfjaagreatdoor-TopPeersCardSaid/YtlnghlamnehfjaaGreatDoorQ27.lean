/- Part Q27. -/
import Derived.Test.YtlnghlamnehfjaaGreatDoorQ07
import Derived.Test.YtlnghlamnehfjaaGreatDoorQ25
import Derived.Test.YtlnghlamnehfjaaGreatDoorQ26
set_option linter.unusedVariables false
set_option linter.unusedSimpArgs false
set_option maxRecDepth 100000
set_option maxHeartbeats 64000000
namespace Go.Proofs.YtlnghlamnehfjaaGreatDoor.S
open Go.RowKit Go.Maps
def Uy (left:Lit→Bool) (i:Int) (m:IM Two):Int:=((m.filter fun p=>left (.int .i64 p.1)&&decide (p.2.1=i)).map (·.2.2)).sum
def Qn.allowed (t:Qn) (i:Int):Int:=((t.resv.filter fun p=>decide (p.2.1=i)).map (·.2.2)).sum
def Qn.fine (t:Qn):Prop:=∀p∈t.resv,0≤p.2.2∧p.2.2≤1000000000
theorem Yx (left:Lit→Bool) (i:Int) (y:Int×Two) (m:IM Two):Uy left i (y::m)=(if left (.int .i64 y.1)&&decide (y.2.1=i) then y.2.2 else 0)+Uy left i m:=by
 unfold Uy;rw [List.filter_cons];split<;>simp
theorem Qtg {m:IM Two} {k:Int} (h:∀p∈m,p.1≠k) (left:Lit→Bool) (i:Int):Uy (fun z=>left z&& !z.sameKey (.int .i64 k)) i m=Uy left i m:=by
 induction m with
 |nil=>rfl
 |cons y r ih=>
  rw [Yx,Yx,ih (fun p hp=>h p (by simp [hp]))];have:=h y (by simp);simp [Xr,this]
theorem Qts {m:IM Two} (hk:m.Pairwise (fun a b=>a.1<b.1)) {k:Int} {c:Two} (e:Qc m k=some c) {left:Lit→Bool} (hl:left (.int .i64 k)=true) (i:Int):
 Uy left i m=Uy (fun z=>left z&& !z.sameKey (.int .i64 k)) i m+(if c.1=i then c.2 else 0):=by
 induction m with
 |nil=>simp [Qc] at e
 |cons y r ih=>
  obtain ⟨h1,h2⟩:=List.pairwise_cons.1 hk;rw [Yx,Yx];by_cases hy:y.1=k
  ·have hv:y=(k,c):=by
    simp [Qc,hy] at e;exact Prod.ext hy e
   rw [Qtg (fun p hp=>by have:=h1 p hp;omega),hv];simp [hl,Xr];omega
  have hg:Qc r k=some c:=by simpa [Qc,hy] using e
  rw [ih h2 hg];simp [Xr,hy];omega
theorem Qqz {m:IM Two} (hf:∀p∈m,0≤p.2.2∧p.2.2≤1000000000) (left:Lit→Bool) (i:Int):0≤Uy left i m:=by
 induction m with
 |nil=>simp [Uy]
 |cons y r ih=>
  have:=ih (fun p hp=>hf p (by simp [hp]));have:=hf y (by simp);rw [Yx];split<;>omega
theorem QAq {m:IM Two} (hf:∀p∈m,0≤p.2.2∧p.2.2≤1000000000) (left:Lit→Bool) (i:Int):Uy left i m≤((m.filter fun p=>decide (p.2.1=i)).map (·.2.2)).sum:=by
 induction m with
 |nil=>simp [Uy]
 |cons y r ih=>
  have:=ih (fun p hp=>hf p (by simp [hp]));have:=hf y (by simp);rw [Yx,List.filter_cons];by_cases e:y.2.1=i<;>by_cases e2:left (.int .i64 y.1)=true<;>simp [e,e2]<;>omega
theorem Qtv {m:IM Two} {left:Lit→Bool} (h:∀k:Int,left (.int .i64 k)=false) (i:Int):Uy left i m=0:=by
 induction m with
 |nil=>rfl
 |cons y r ih=>rw [Yx,ih];simp [h]
theorem Qxb {m:IM Two} (hf:∀p∈m,0≤p.2.2∧p.2.2≤1000000000) (left:Lit→Bool) (i:Int):Uy left i m≤1000000000*m.length:=by
 induction m with
 |nil=>simp [Uy]
 |cons y r ih=>
  have:=ih (fun p hp=>hf p (by simp [hp]));have:=hf y (by simp);rw [Yx,List.length_cons];split<;>omega
theorem Qkk (m:IM Two) (i:Int):∀r:IM Two,(∀p∈r,(Qc m p.1).isSome)→Uy (Maps.has (DD (Qx two m))) i r=((r.filter fun p=>decide (p.2.1=i)).map (·.2.2)).sum
 | [],_=>rfl
 |y::r,h=>by
  rw [Yx,Qkk m i r (fun p hp=>h p (by simp [hp])),TB,YW,List.filter_cons];have:=h y (by simp);obtain ⟨u,hu⟩:=Option.isSome_iff_exists.1 this;rw [hu];by_cases e:y.2.1=i<;>simp [e]
theorem Tz {V:Type} {m:IM V} {p:Int×V} (h:p∈m):(Qc m p.1).isSome:=by
 cases e:Qc m p.1 with
 |some v=>rfl
 |none=>exact absurd rfl (JZ e p h)
theorem TA (t:Qn) (i:Int):Uy (Maps.has (DD (Qx two t.resv))) i t.resv=t.allowed i:=Qkk t.resv i t.resv (fun p hp=>Tz hp)
theorem Kl {t:Qn} (hf:t.fine) (i:Int):t.allowed i≤1000000000*t.resv.length:=by
 rw [←TA];exact Qxb hf _ i
theorem Qez {w0 w:World} {b:Nat} {t:Qn} {R:List SA} (h:Heap w0 (.purse b t::R) w) (hf:t.fine) (i:Int):
 CH 300 #[b,.int .i64 i] w (.int .i64 (t.allowed i)) w0 (.purse b t::R):=by
 obtain ⟨hp,bm,bp,h⟩:=h.XI;have c9:w.cell? ⟨b,9,none⟩=some (.map (some bm)):=h.cell 0 9 rfl (Qn.ZV hp 1);have hlb:=h.lt 0 rfl;have HP:=zk hp;have HF:=zk hf;have H:=zk h;have HL:=zk hp.keys.len;clear h hp hf;go_enter Tryz.func300,Tryz.ntmps300;go_wp2_with (refine KM H.1 1 bm _ rfl rfl _ 103 353 rfl Tryz.underlying103 rfl ?_;intro r w1 h1;have H1:=zk h1;clear h1;go_simp)
 go_loopg [5] (Maps.size (DD (Qx two t.resv))) (fun gk v wr=>∃(left:Lit→Bool) (x:Int),v=.int .i64 x∧As (x=t.allowed i-Uy left i t.resv)∧As (Heap w0 (.pts b (.cells (t.cells bm bp) 105)::.rng bm r (Qx two t.resv) left gk::.map bp (Qx (Value.int .i64) t.paid)::R) wr))
 case atStart=>exact ⟨_,0,rfl,⟨by rw [TA];omega⟩,H1⟩
 case round=>
  obtain ⟨left,x,rfl,HX,HR⟩:=hrel;clear H H1;go_wp2_with (refine YO HR.1 1 bm r _ left gk rfl rfl _ rfl rfl ?done ?more)
  case done=>
   intro hd;have HD:=zk hd;clear hd;go_wp2;go_ret;refine ⟨by rw [HX.1,Qtv HD.1];simp,?_⟩;exact Heap.Zv (bm:=bm) (bp:=bp) HP.1 ((Heap.Qqh (HR.1.frt 1 rfl)).frt 1 rfl)
  case more=>
   intro k c w2 cnt2 hlk hm hlt h2 hen;rw [YW] at hm;obtain ⟨⟨p1,p2⟩,hp,rfl⟩:=Option.map_eq_some_iff.1 hm;have HT:=zk (Qts HP.1.keys.1 hp hlk i);have hpp:=HF.1 _ (Xe hp);have hp0:0≤p2:=hpp.1;have hp1:p2≤1000000000:=hpp.2;have hx0:0≤x:=by
    have h1:=HX.1;have h2:=QAq HF.1 left i;unfold Qn.allowed at h1;omega
   have hx1:x≤999000000000:=by
    have h1:=HX.1;have h2:=Kl HF.1 i;have h3:=Qqz HF.1 left i;have h4:=HL.1;omega
   have HLT:=zk hlt;have H2:=zk h2;clear hm hpp hlk hlt h2 hp c9 hlb;simp only [two] at hen;by_cases hi:p1=i
   ·have hi1:(p1==i)=true:=by simpa using hi
    have HI:=zk hi;clear hi;go_wp2;go_roundg cnt2
    case measure=>exact HLT.1
    case rel=>
     refine ⟨_,_,rfl,⟨?_⟩,⟨(Heap.nAt H2.1 _ (by rfl)).rm 0 rfl⟩⟩;have h1:=HT.1;have h2:=HX.1;rw [if_pos HI.1] at h1
     show x+p2=_
     rw [h2,h1]
     show _=t.allowed i-Uy _ i t.resv
     omega
   ·have hi1:(p1==i)=false:=by simpa using hi
    have HI:=zk hi;clear hi;go_wp2;go_roundg cnt2
    case measure=>exact HLT.1
    case rel=>
     refine ⟨_,_,rfl,⟨?_⟩,⟨(Heap.nAt H2.1 _ (by rfl)).rm 0 rfl⟩⟩;have h1:=HT.1;have h2:=HX.1;rw [if_neg HI.1] at h1;rw [h2,h1]
     show _=t.allowed i-Uy _ i t.resv
     omega
theorem QCk {P:Prop} (h:P:=by
 clear hsub hl2;go_enter Tryz.func297,Tryz.ntmps297;go_wp2_with (first|(go_at_call 299;refine (HI.1 _).m0 ?_)|(go_at_call 113;refine (HM.1 _).m0 ?_)|(at_lookup;refine wll H.1 1 bm _ rfl rfl _ _ 103 353 true rfl Tryz.underlying103 _ JI rfl id rfl (by omega) (by omega) ?_;rw [hr];simp only [Option.map_none,Option.getD_none,Option.isSome_none,if_true,two])|(at_lookup;refine Yi (H.1.alloc _) 2 bp _ rfl rfl _ _ 67 rfl Tryz.underlying67 rfl id rfl (by omega) (by omega) ?_));refine wro (fun W=>W.cell? ⟨b,i,none⟩=some (.int .i64 mo)) [(0,.f),(1,.f),(2,.f),(3,.f),(4,.f),(5,.f),(6,.f),(7,.f),(8,.f),(9,.e),(10,.f),(11,.f),(12,.f)] hm0 ?_;repeat (first
  |refine vR ?_
  |(refine ve rfl rfl ?_;go_wp2_with (go_at_call 300;refine HC.1.m1 fun w1 H1=>?_);refine ⟨(HW.1 _ H1.1).1,?_⟩;go_simp))
 refine vn ?_;go_simp;go_wp2_with fail;have ht0:=(HWT.1 _ H1.1.drew).1;have hlb2:=(HWT.1 _ H1.1.drew).2;refine wro (fun W=>W.cell? ⟨b,8,none⟩=some (.int .i64 ti)) [(0,.f),(1,.f),(2,.f),(3,.f),(4,.f),(5,.f),(6,.f),(7,.e),(8,.f),(9,.f),(10,.f)] ht0 ?_;repeat (first
  |refine vR ?_
  |(refine ve rfl rfl ?_;go_wp2_with (go_at_call 301;refine (HCA.1 _ H1.1.drew).m1 fun w2 H2=>?_);refine ⟨(HWT.1 _ H2.1).1,?_⟩;go_simp))
 refine vn ?_;go_simp;first
  |(have ty:Tg 1:=tg;go_wp2_with fail;go_ret;rw [HA.1,if_neg (Int.not_lt.2 HLT.1),if_pos HL2.1];exact ⟨rfl,H2.1⟩)
  |(have ty:Tg 2:=tg;obtain ⟨hp2,bm2,bp2,h3⟩:=H2.1.XI;have HP2:=zk hp2;have d9:w2.cell? ⟨b,9,none⟩=some (.map (some bm2)):=h3.cell 0 9 rfl (Qn.ZV hp2 1);have hlb3:=h3.lt 0 rfl;have hnn:As (List.length (Qx two t.resv)<1000000):=⟨by have:=HP.1.keys.len;simp only [Qx,List.length_map];omega⟩;have H3:=zk h3;clear h3 hp2;go_wp2_with (at_mapUpdate;refine wlp H3.1 1 bm2 _ rfl rfl _ _ _ 103 353 rfl Tryz.underlying103 rfl id rfl (two ((i:Int),p)) rfl (by omega) (by omega) hnn.1 ?_;intro w4 h4 _;have H4:=zk h4;clear h4);go_ret;rw [HA.1,if_neg (Int.not_lt.2 HLT.1),if_neg (Int.not_lt.2 HL2.1)];refine ⟨rfl,?_⟩;have hp:=HP2.1;refine Heap.Zv (bm:=bm2) (bp:=bp2) ⟨hp.m8,hp.keys.put _ h0 h1,hp.keys2,?_⟩ ?_;intro q hq;rcases YB hq with rfl|hq;exact ⟨hi0,hi1⟩;exact hp.item q hq;rw [Xt,←HTI.1];exact H4.1)):P:=h
def Qn.upto (t:Qn):Nat→Int
 |0=>0
 |k+1=>t.upto k+t.allowed k
def Qn.all (t:Qn):Int:=t.upto 8
theorem Qcj {t:Qn} (hf:t.fine) (i:Int):0≤t.allowed i:=by
 rw [←TA];exact Qqz hf _ i
theorem Qax {t:Qn} (hf:t.fine) (hl:t.resv.length≤999):∀k:Nat,0≤t.upto k∧t.upto k≤999000000000*(k:Int)
 |0=>by simp [Qn.upto]
 |k+1=>by
  have h1:=Qax hf hl k;have h2:=Qcj hf (k:Int);have h3:=Kl hf (k:Int);simp only [Qn.upto];omega
theorem Qzu {w0 w:World} {b:Nat} {t:Qn} {R:List SA} (h:Heap w0 (.purse b t::R) w) (hf:t.fine):
 CH 301 #[b] w (.int .i64 t.all) w0 (.purse b t::R):=by
 have HF:=zk hf;have HL:As (t.resv.length≤999):=⟨h.XI.1.keys.len⟩;have H:=zk h;clear h hf;go_enter Tryz.func301,Tryz.ntmps301;go_wp2
 go_loopg [3,4,5] 8 (fun gk v p u wr=>∃k:Nat,v=.int .i64 (t.upto k)∧u=.int .i64 k∧k≤8∧As (gk+k=8)∧As (Heap w0 (.purse b t::R) wr))
 case atStart=>exact ⟨0,rfl,rfl,by omega,⟨rfl⟩,H⟩
 case round=>
  obtain ⟨k,rfl,rfl,hk,HG,HR⟩:=hrel;clear H;have HB:=Qax HF.1 HL.1 k;have HU:As (t.upto (k+1)=t.upto k+t.allowed k):=⟨rfl⟩;have HA:As (t.upto 8=t.all):=⟨rfl⟩;by_cases hlt:k<8
  ·have HC:=zk (Qez HR.1 HF.1 (k:Int));have h2:=Qcj HF.1 (k:Int);have h3:=Kl HF.1 (k:Int);have h4:=HL.1;generalize t.allowed (k:Int)=y at *;have hx0:0≤t.upto k:=HB.1;have hx1:t.upto k≤999000000000*8:=by omega
   have hy1:y≤999000000000:=by omega
   clear HB h3 h4;generalize t.upto k=x at *;go_wp2_with (go_at_call 300;refine HC.1.m1 fun w1 H1=>?_);go_roundg (8-(k+1))
   case measure=>have:=HG.1;omega
   case rel=>exact ⟨k+1,by rw [HU.1],by go_num,by omega,⟨by omega⟩,H1⟩
  ·obtain rfl:k=8:=by omega
   rw [HA.1];go_wp2;go_ret;exact ⟨rfl,HR.1⟩
def Qn.allow (t:Qn) (id:Int) (i:Nat) (price:Int):Int×Qn:=
 if (Qc t.resv id).isSome=true then (8,t) else if (Qc t.paid id).isSome=true then (8,t) else
 if wrap64 (t.money.getD i 0-t.allowed i)<price then (9,t) else
 if wrap64 (wrap64 (1000000000-t.till)-t.all)<price then (4,t) else
 (0,{t with resv:=Qt t.resv id ((i:Int),price)})
theorem Quo {w0 w:World} {b:Nat} {t:Qn} {R:List SA} (h:Heap w0 (.purse b t::R) w) (hf:t.fine) (id:Int) (i:Nat) (p:Int) (h0:1≤id) (h1:id≤999) (hi:i<8) (hp0:0<p) (hp1:p≤1000000000):
 CH 297 #[b,id,.int .i64 (i:Int),.int .i64 p] w (.int .i64 (t.allow id i p).1) w0 (.purse b (t.allow id i p).2::R):=by
 have HF:=zk hf;have HH:=zk h;obtain ⟨hp,bm,bp,h⟩:=h.XI;have HP:=zk hp;have c9:w.cell? ⟨b,9,none⟩=some (.map (some bm)):=h.cell 0 9 rfl (Qn.ZV hp 1);have c10:w.cell? ⟨b,10,none⟩=some (.map (some bp)):=h.cell 0 10 rfl (Qn.ZV hp 2);have hlb:=h.lt 0 rfl;have HI:As (∀W,CE 299 #[.int .i64 (i:Int)] W (.bool true)):=⟨fun W=>Qsu i hi W⟩;have HM:As (∀W,CE 113 #[.int .i64 p] W (.bool true)):=⟨fun W=>by
  have:=FU p W
  rwa [show may p=true by simp [may];omega] at this⟩
 have H:=zk h;have hr:Qc (Qx two t.resv) id=(Qc t.resv id).map two:=YW _ _ _;have hz:(p==0)=false:=by simp;omega
 have hi0:(0:Int)≤(i:Int):=by omega
 have hi1:(i:Int)<8:=by omega
 clear h hf hp;cases hm:Qc t.resv id with
 |some x=>
  have HX:=zk hm;rw [hm] at hr;obtain ⟨x1,x2⟩:=x;go_enter Tryz.func297,Tryz.ntmps297;go_wp2_with (first|(go_at_call 299;refine (HI.1 _).m0 ?_)|(go_at_call 113;refine (HM.1 _).m0 ?_)|(at_lookup;refine wll H.1 1 bm _ rfl rfl _ _ 103 353 true rfl Tryz.underlying103 _ JI rfl id rfl (by omega) (by omega) ?_;rw [hr];simp only [Option.map_some,Option.getD_some,Option.isSome_some,if_true,two])|(at_lookup;refine Yi (H.1.alloc _) 2 bp _ rfl rfl _ _ 67 rfl Tryz.underlying67 rfl id rfl (by omega) (by omega) ?_));go_ret;have he:t.allow id i p=(8,t):=by simp [Qn.allow,HX.1]
  rw [he];exact ⟨rfl,HH.1.alloc _⟩
 |none=>
  have HX:=zk hm;rw [hm] at hr;clear hm;cases hq:(Qc t.paid id).isSome with
  |true=>
   have HQ:=zk hq;go_enter Tryz.func297,Tryz.ntmps297;go_wp2_with (first|(go_at_call 299;refine (HI.1 _).m0 ?_)|(go_at_call 113;refine (HM.1 _).m0 ?_)|(at_lookup;refine wll H.1 1 bm _ rfl rfl _ _ 103 353 true rfl Tryz.underlying103 _ JI rfl id rfl (by omega) (by omega) ?_;rw [hr];simp only [Option.map_none,Option.getD_none,Option.isSome_none,if_true,two])|(at_lookup;refine Yi (H.1.alloc _) 2 bp _ rfl rfl _ _ 67 rfl Tryz.underlying67 rfl id rfl (by omega) (by omega) ?_));go_ret;have he:t.allow id i p=(8,t):=by simp [Qn.allow,HX.1,HQ.1]
   rw [he];exact ⟨rfl,HH.1.alloc _⟩
  |false=>
   have HQ:=zk hq;have HC:=zk (Qez (HH.1.alloc (.cells #[.int .i64 0,.int .i64 0] 353)).drew HF.1 (i:Int));have hcm:∀W,Heap w0 (.purse b t::R) W→W.cell? ⟨b,i,none⟩=some (.int .i64 (t.money.getD i 0))∧b<W.heap.size:=fun W h=>by
    obtain ⟨hp,bm,bp,h⟩:=h.XI;exact ⟨h.cell 0 i rfl (Qn.Qj4 hp hi),h.lt 0 rfl⟩
   have HW:=zk hcm;have hm0:=(hcm _ (HH.1.alloc (.cells #[.int .i64 0,.int .i64 0] 353)).drew).1;clear hcm;have HA:As (t.allow id i p=if wrap64 (t.money.getD i 0-t.allowed i)<p then (9,t) else if wrap64 (wrap64 (1000000000-t.till)-t.all)<p then (4,t) else (0,{t with resv:=Qt t.resv id ((i:Int),p)})):=⟨by simp [Qn.allow,HX.1,HQ.1]⟩;generalize hmo:t.money.getD i 0=mo at *;generalize hal:t.allowed (i:Int)=al at *;by_cases hlt:wrap64 (mo-al)<p
   ·have HLT:=zk hlt;have hd:decide (IntKind.i64.wrap (mo-al)<p)=true:=by rw [IntWalk.i64_left];exact decide_eq_true hlt
    clear hlt hmo hal;go_enter Tryz.func297,Tryz.ntmps297;go_wp2_with (first|(go_at_call 299;refine (HI.1 _).m0 ?_)|(go_at_call 113;refine (HM.1 _).m0 ?_)|(at_lookup;refine wll H.1 1 bm _ rfl rfl _ _ 103 353 true rfl Tryz.underlying103 _ JI rfl id rfl (by omega) (by omega) ?_;rw [hr];simp only [Option.map_none,Option.getD_none,Option.isSome_none,if_true,two])|(at_lookup;refine Yi (H.1.alloc _) 2 bp _ rfl rfl _ _ 67 rfl Tryz.underlying67 rfl id rfl (by omega) (by omega) ?_));refine wro (fun W=>W.cell? ⟨b,i,none⟩=some (.int .i64 mo)) [(0,.f),(1,.f),(2,.f),(3,.f),(4,.f),(5,.f),(6,.f),(7,.f),(8,.f),(9,.e),(10,.f),(11,.f),(12,.f)] hm0 ?_;repeat (first
     |(refine vg rfl rfl ?_;apply ex2;intro w' hw';go_simp;rfl;go_simp)
     |(refine ve rfl rfl ?_;go_wp2_with (go_at_call 300;refine HC.1.m1 fun w1 H1=>?_);refine ⟨(HW.1 _ H1.1).1,?_⟩;go_simp))
    refine vn ?_;go_simp;go_wp2_with fail;go_ret;rw [HA.1,if_pos HLT.1];exact ⟨rfl,H1.1⟩
   ·have HLT:=zk hlt;have hd:decide (IntKind.i64.wrap (mo-al)<p)=false:=by rw [IntWalk.i64_left];exact decide_eq_false hlt
    have hct:∀W,Heap w0 (.purse b t::R) W→W.cell? ⟨b,8,none⟩=some (.int .i64 t.till)∧b<W.heap.size:=fun W h=>by
     obtain ⟨hp,bm,bp,h⟩:=h.XI;exact ⟨h.cell 0 8 rfl (Qn.ZV hp 0),h.lt 0 rfl⟩
    have HWT:=zk hct;have HCA:As (∀W,Heap w0 (.purse b t::R) W→CH 301 #[b] W (.int .i64 t.all) w0 (.purse b t::R)):=⟨fun W h=>Qzu h HF.1⟩;have HDA:As (∀(W:World),wpList=wpList):=⟨fun _=>rfl⟩;generalize hti:t.till=ti at *;generalize hala:t.all=ala at *;have hsub:IntKind.i64.wrap (wrap64 (1000000000-ti)-ala)=wrap64 (wrap64 (1000000000-ti)-ala):=by rw [IntWalk.i64_left]
    have HTI:=zk hti;clear hlt hmo hal hct hti hala HDA;by_cases hl2:wrap64 (wrap64 (1000000000-ti)-ala)<p;have HL2:=zk hl2;have hd2:decide (IntKind.i64.wrap (wrap64 (1000000000-ti)-ala)<p)=true:=by rw [hsub];exact decide_eq_true hl2
    have tg:=Tg.mk 1;exact QCk;have HL2:=zk hl2;have hd2:decide (IntKind.i64.wrap (wrap64 (1000000000-ti)-ala)<p)=false:=by rw [hsub];exact decide_eq_false hl2
    have tg:=Tg.mk 2;exact QCk
end Go.Proofs.YtlnghlamnehfjaaGreatDoor.S
