/- Contracts and plain laws of the program, part N27. -/
import Derived.Test.YtlnghlamnehfjaaGreatDoorN01
import Derived.Test.YtlnghlamnehfjaaGreatDoorN07
import Derived.Test.YtlnghlamnehfjaaGreatDoorN10
import Derived.Test.YtlnghlamnehfjaaGreatDoorN25
import Derived.Test.YtlnghlamnehfjaaGreatDoorN26
set_option linter.unusedVariables false
set_option linter.unusedSimpArgs false
set_option maxRecDepth 100000
set_option maxHeartbeats 64000000
namespace Go.Proofs.YtlnghlamnehfjaaGreatDoor.S
open Go.RowKit Go.Maps
def psum (left:Lit→Bool) (i:Int) (m:IM Two):Int:=((m.filter fun p=>left (.int .i64 p.1)&&decide (p.2.1=i)).map (·.2.2)).sum
def PurseB.allowed (t:PurseB) (i:Int):Int:=((t.resv.filter fun p=>decide (p.2.1=i)).map (·.2.2)).sum
def PurseB.fine (t:PurseB):Prop:=∀p∈t.resv,0≤p.2.2∧p.2.2≤1000000000
theorem psum_cons (left:Lit→Bool) (i:Int) (y:Int×Two) (m:IM Two):psum left i (y::m)=(if left (.int .i64 y.1)&&decide (y.2.1=i) then y.2.2 else 0)+psum left i m:=by
 unfold psum;rw [List.filter_cons];split<;>simp
theorem psum_same {m:IM Two} {k:Int} (h:∀p∈m,p.1≠k) (left:Lit→Bool) (i:Int):psum (fun z=>left z&& !z.sameKey (.int .i64 k)) i m=psum left i m:=by
 induction m with
 |nil=>rfl
 |cons y r ih=>
  rw [psum_cons,psum_cons,ih (fun p hp=>h p (by simp [hp]))];have:=h y (by simp);simp [sameKey_int,this]
theorem psum_take {m:IM Two} (hk:m.Pairwise (fun a b=>a.1<b.1)) {k:Int} {c:Two} (e:mget m k=some c) {left:Lit→Bool} (hl:left (.int .i64 k)=true) (i:Int):
 psum left i m=psum (fun z=>left z&& !z.sameKey (.int .i64 k)) i m+(if c.1=i then c.2 else 0):=by
 induction m with
 |nil=>simp [mget] at e
 |cons y r ih=>
  obtain ⟨h1,h2⟩:=List.pairwise_cons.1 hk;rw [psum_cons,psum_cons];by_cases hy:y.1=k
  ·have hv:y=(k,c):=by
    simp [mget,hy] at e;exact Prod.ext hy e
   rw [psum_same (fun p hp=>by have:=h1 p hp;omega),hv];simp [hl,sameKey_int];omega
  ·have hg:mget r k=some c:=by simpa [mget,hy] using e
   rw [ih h2 hg];simp [sameKey_int,hy];omega
theorem psum_ge {m:IM Two} (hf:∀p∈m,0≤p.2.2∧p.2.2≤1000000000) (left:Lit→Bool) (i:Int):0≤psum left i m:=by
 induction m with
 |nil=>simp [psum]
 |cons y r ih=>
  have:=ih (fun p hp=>hf p (by simp [hp]));have:=hf y (by simp);rw [psum_cons];split<;>omega
theorem psum_le {m:IM Two} (hf:∀p∈m,0≤p.2.2∧p.2.2≤1000000000) (left:Lit→Bool) (i:Int):psum left i m≤((m.filter fun p=>decide (p.2.1=i)).map (·.2.2)).sum:=by
 induction m with
 |nil=>simp [psum]
 |cons y r ih=>
  have:=ih (fun p hp=>hf p (by simp [hp]));have:=hf y (by simp);rw [psum_cons,List.filter_cons];by_cases e:y.2.1=i<;>by_cases e2:left (.int .i64 y.1)=true<;>simp [e,e2]<;>omega
theorem psum_none {m:IM Two} {left:Lit→Bool} (h:∀k:Int,left (.int .i64 k)=false) (i:Int):psum left i m=0:=by
 induction m with
 |nil=>rfl
 |cons y r ih=>rw [psum_cons,ih];simp [h]
theorem psum_len {m:IM Two} (hf:∀p∈m,0≤p.2.2∧p.2.2≤1000000000) (left:Lit→Bool) (i:Int):psum left i m≤1000000000*m.length:=by
 induction m with
 |nil=>simp [psum]
 |cons y r ih=>
  have:=ih (fun p hp=>hf p (by simp [hp]));have:=hf y (by simp);rw [psum_cons,List.length_cons];split<;>omega
theorem psum_has (m:IM Two) (i:Int):∀r:IM Two,(∀p∈r,(mget m p.1).isSome)→psum (Maps.has (DD (mval two m))) i r=((r.filter fun p=>decide (p.2.1=i)).map (·.2.2)).sum
 | [],_=>rfl
 |y::r,h=>by
  rw [psum_cons,psum_has m i r (fun p hp=>h p (by simp [hp])),DD_has,mget_mval,List.filter_cons];have:=h y (by simp);obtain ⟨u,hu⟩:=Option.isSome_iff_exists.1 this;rw [hu];by_cases e:y.2.1=i<;>simp [e]
theorem mget_of_mem {V:Type} {m:IM V} {p:Int×V} (h:p∈m):(mget m p.1).isSome:=by
 cases e:mget m p.1 with
 |some v=>rfl
 |none=>exact absurd rfl (mget_none_mem e p h)
theorem allowed_has (t:PurseB) (i:Int):psum (Maps.has (DD (mval two t.resv))) i t.resv=t.allowed i:=psum_has t.resv i t.resv (fun p hp=>mget_of_mem hp)
theorem allowed_le {t:PurseB} (hf:t.fine) (i:Int):t.allowed i≤1000000000*t.resv.length:=by
 rw [←allowed_has];exact psum_len hf _ i
theorem allowed_ok {w0 w:World} {b:Nat} {t:PurseB} {R:List SA} (h:Heap w0 (.purse b t::R) w) (hf:t.fine) (i:Int):
 Calls Tryz.prog 300 #[.pointer (some ⟨b,0,none⟩),.int .i64 i] w fun e w'=>e=.returned (.int .i64 (t.allowed i))∧Heap w0 (.purse b t::R) w':=by
 obtain ⟨hp,bm,bp,h⟩:=h.open_purse;have c9:w.cell? ⟨b,9,none⟩=some (.map (some bm)):=h.cell 0 9 rfl (PurseB.tail_at hp 1);have hlb:=h.lt 0 rfl;have HP:=zk hp;have HF:=zk hf;have H:=zk h;have HL:=zk hp.keys.len;clear h hp hf;go_enter Tryz.func300,Tryz.ntmps300;go_wp2_with (refine wpList_rng H.out 1 bm _ rfl rfl _ 103 353 rfl Tryz.underlying103 rfl ?_;intro r w1 h1;have H1:=zk h1;clear h1;go_simp)
 go_loopg [5] (Maps.size (DD (mval two t.resv))) (fun gk v wr=>∃(left:Lit→Bool) (x:Int),v=.int .i64 x∧As (x=t.allowed i-psum left i t.resv)∧As (Heap w0 (.pts b (.cells (t.cells bm bp) 105)::.rng bm r (mval two t.resv) left gk::.map bp (mval (Value.int .i64) t.paid)::R) wr))
 case atStart=>exact ⟨_,0,rfl,⟨by rw [allowed_has];omega⟩,H1⟩
 case round=>
  obtain ⟨left,x,rfl,HX,HR⟩:=hrel;clear H H1;go_wp2_with (refine wpList_nxt HR.out 1 bm r _ left gk rfl rfl _ rfl rfl ?done ?more)
  case done=>
   intro hd;have HD:=zk hd;clear hd;go_wp2;go_ret;refine ⟨by rw [HX.out,psum_none HD.out];simp,?_⟩;exact Heap.shut_purse (bm:=bm) (bp:=bp) HP.out ((Heap.rngDone (HR.out.frt 1 rfl)).frt 1 rfl)
  case more=>
   intro k c w2 cnt2 hlk hm hlt h2 hen;rw [mget_mval] at hm;obtain ⟨⟨p1,p2⟩,hp,rfl⟩:=Option.map_eq_some_iff.1 hm;have HT:=zk (psum_take HP.out.keys.1 hp hlk i);have hpp:=HF.out _ (mget_mem hp);have hp0:0≤p2:=hpp.1;have hp1:p2≤1000000000:=hpp.2;have hx0:0≤x:=by
    have h1:=HX.out;have h2:=psum_le HF.out left i;unfold PurseB.allowed at h1;omega
   have hx1:x≤999000000000:=by
    have h1:=HX.out;have h2:=allowed_le HF.out i;have h3:=psum_ge HF.out left i;have h4:=HL.out;omega
   have HLT:=zk hlt;have H2:=zk h2;clear hm hpp hlk hlt h2 hp c9 hlb;simp only [two] at hen;by_cases hi:p1=i
   ·have hi1:(p1==i)=true:=by simpa using hi
    have HI:=zk hi;clear hi;go_wp2;go_roundg cnt2
    case measure=>exact HLT.out
    case rel=>
     refine ⟨_,_,rfl,⟨?_⟩,⟨(Heap.nAt H2.out _ (by rfl)).rm 0 rfl⟩⟩;have h1:=HT.out;have h2:=HX.out;rw [if_pos HI.out] at h1
     show x+p2=_
     rw [h2,h1]
     show _=t.allowed i-psum _ i t.resv
     omega
   ·have hi1:(p1==i)=false:=by simpa using hi
    have HI:=zk hi;clear hi;go_wp2;go_roundg cnt2
    case measure=>exact HLT.out
    case rel=>
     refine ⟨_,_,rfl,⟨?_⟩,⟨(Heap.nAt H2.out _ (by rfl)).rm 0 rfl⟩⟩;have h1:=HT.out;have h2:=HX.out;rw [if_neg HI.out] at h1;rw [h2,h1]
     show _=t.allowed i-psum _ i t.resv
     omega
def PurseB.upto (t:PurseB):Nat→Int
 |0=>0
 |k+1=>t.upto k+t.allowed k
def PurseB.all (t:PurseB):Int:=t.upto 8
theorem allowed_ge {t:PurseB} (hf:t.fine) (i:Int):0≤t.allowed i:=by
 rw [←allowed_has];exact psum_ge hf _ i
theorem upto_bounds {t:PurseB} (hf:t.fine) (hl:t.resv.length≤999):∀k:Nat,0≤t.upto k∧t.upto k≤999000000000*(k:Int)
 |0=>by simp [PurseB.upto]
 |k+1=>by
  have h1:=upto_bounds hf hl k;have h2:=allowed_ge hf (k:Int);have h3:=allowed_le hf (k:Int);simp only [PurseB.upto];omega
theorem pall_ok {w0 w:World} {b:Nat} {t:PurseB} {R:List SA} (h:Heap w0 (.purse b t::R) w) (hf:t.fine):
 Calls Tryz.prog 301 #[.pointer (some ⟨b,0,none⟩)] w fun e w'=>e=.returned (.int .i64 t.all)∧Heap w0 (.purse b t::R) w':=by
 have HF:=zk hf;have HL:As (t.resv.length≤999):=⟨h.open_purse.1.keys.len⟩;have H:=zk h;clear h hf;go_enter Tryz.func301,Tryz.ntmps301;go_wp2
 go_loopg [3,4,5] 8 (fun gk v p u wr=>∃k:Nat,v=.int .i64 (t.upto k)∧u=.int .i64 k∧k≤8∧As (gk+k=8)∧As (Heap w0 (.purse b t::R) wr))
 case atStart=>exact ⟨0,rfl,rfl,by omega,⟨rfl⟩,H⟩
 case round=>
  obtain ⟨k,rfl,rfl,hk,HG,HR⟩:=hrel;clear H;have HB:=upto_bounds HF.out HL.out k;have HU:As (t.upto (k+1)=t.upto k+t.allowed k):=⟨rfl⟩;have HA:As (t.upto 8=t.all):=⟨rfl⟩;by_cases hlt:k<8
  ·have HC:=zk (allowed_ok HR.out HF.out (k:Int));have h2:=allowed_ge HF.out (k:Int);have h3:=allowed_le HF.out (k:Int);have h4:=HL.out;generalize t.allowed (k:Int)=y at *;have hx0:0≤t.upto k:=HB.1;have hx1:t.upto k≤999000000000*8:=by omega
   have hy1:y≤999000000000:=by omega
   clear HB h3 h4;generalize t.upto k=x at *;go_wp2_with (go_at_call 300;refine HC.out.mono ?_;rintro e w1 ⟨rfl,h1⟩;have H1:=zk h1;clear h1);go_roundg (8-(k+1))
   case measure=>have:=HG.out;omega
   case rel=>exact ⟨k+1,by rw [HU.out],by go_num,by omega,⟨by omega⟩,H1⟩
  ·obtain rfl:k=8:=by omega
   rw [HA.out];go_wp2;go_ret;exact ⟨rfl,HR.out⟩
def PurseB.allow (t:PurseB) (id:Int) (i:Nat) (price:Int):Int×PurseB:=
 if (mget t.resv id).isSome=true then (8,t) else if (mget t.paid id).isSome=true then (8,t) else
 if wrap64 (t.money.getD i 0-t.allowed i)<price then (9,t) else
 if wrap64 (wrap64 (1000000000-t.till)-t.all)<price then (4,t) else
 (0,{t with resv:=mput t.resv id ((i:Int),price)})
set_option maxHeartbeats 4000000 in
theorem pallow_ok {w0 w:World} {b:Nat} {t:PurseB} {R:List SA} (h:Heap w0 (.purse b t::R) w) (hf:t.fine) (id:Int) (i:Nat) (p:Int) (h0:1≤id) (h1:id≤999) (hi:i<8) (hp0:0<p) (hp1:p≤1000000000):
 Calls Tryz.prog 297 #[.pointer (some ⟨b,0,none⟩),.int .i64 id,.int .i64 (i:Int),.int .i64 p] w fun e w'=>e=.returned (.int .i64 (t.allow id i p).1)∧Heap w0 (.purse b (t.allow id i p).2::R) w':=by
 have HF:=zk hf;have HH:=zk h;obtain ⟨hp,bm,bp,h⟩:=h.open_purse;have HP:=zk hp;have c9:w.cell? ⟨b,9,none⟩=some (.map (some bm)):=h.cell 0 9 rfl (PurseB.tail_at hp 1);have c10:w.cell? ⟨b,10,none⟩=some (.map (some bp)):=h.cell 0 10 rfl (PurseB.tail_at hp 2);have hlb:=h.lt 0 rfl;have HI:As (∀W,Calls Tryz.prog 299 #[.int .i64 (i:Int)] W fun e w'=>e=.returned (.bool true)∧W=w'):=⟨fun W=>client_ok i hi W⟩;have HM:As (∀W,Calls Tryz.prog 113 #[.int .i64 p] W fun e w'=>e=.returned (.bool true)∧W=w'):=⟨fun W=>by
  have:=may_ok p W
  rwa [show may p=true by simp [may];omega] at this⟩
 have H:=zk h;have hr:mget (mval two t.resv) id=(mget t.resv id).map two:=mget_mval _ _ _;have hz:(p==0)=false:=by simp;omega
 have hi0:(0:Int)≤(i:Int):=by omega
 have hi1:(i:Int)<8:=by omega
 clear h hf hp;cases hm:mget t.resv id with
 |some x=>
  have HX:=zk hm;rw [hm] at hr;obtain ⟨x1,x2⟩:=x;go_enter Tryz.func297,Tryz.ntmps297;go_wp2_with (first|(go_at_call 299;refine (HI.out _).mono ?_;rintro e w' ⟨rfl,rfl⟩)|(go_at_call 113;refine (HM.out _).mono ?_;rintro e w' ⟨rfl,rfl⟩)|(at_lookup;refine wll H.out 1 bm _ rfl rfl _ _ 103 353 true rfl Tryz.underlying103 _ zero353 rfl id rfl (by omega) (by omega) ?_;rw [hr];simp only [Option.map_some,Option.getD_some,Option.isSome_some,if_true,two])|(at_lookup;refine wpList_has_int (H.out.alloc _) 2 bp _ rfl rfl _ _ 67 rfl Tryz.underlying67 rfl id rfl (by omega) (by omega) ?_));go_ret;have he:t.allow id i p=(8,t):=by simp [PurseB.allow,HX.out]
  rw [he];exact ⟨rfl,HH.out.alloc _⟩
 |none=>
  have HX:=zk hm;rw [hm] at hr;clear hm;cases hq:(mget t.paid id).isSome with
  |true=>
   have HQ:=zk hq;go_enter Tryz.func297,Tryz.ntmps297;go_wp2_with (first|(go_at_call 299;refine (HI.out _).mono ?_;rintro e w' ⟨rfl,rfl⟩)|(go_at_call 113;refine (HM.out _).mono ?_;rintro e w' ⟨rfl,rfl⟩)|(at_lookup;refine wll H.out 1 bm _ rfl rfl _ _ 103 353 true rfl Tryz.underlying103 _ zero353 rfl id rfl (by omega) (by omega) ?_;rw [hr];simp only [Option.map_none,Option.getD_none,Option.isSome_none,if_true,two])|(at_lookup;refine wpList_has_int (H.out.alloc _) 2 bp _ rfl rfl _ _ 67 rfl Tryz.underlying67 rfl id rfl (by omega) (by omega) ?_));go_ret;have he:t.allow id i p=(8,t):=by simp [PurseB.allow,HX.out,HQ.out]
   rw [he];exact ⟨rfl,HH.out.alloc _⟩
  |false=>
   have HQ:=zk hq;have HC:=zk (allowed_ok (HH.out.alloc (.cells #[.int .i64 0,.int .i64 0] 353)).drew HF.out (i:Int));have hcm:∀W,Heap w0 (.purse b t::R) W→W.cell? ⟨b,i,none⟩=some (.int .i64 (t.money.getD i 0))∧b<W.heap.size:=fun W h=>by
    obtain ⟨hp,bm,bp,h⟩:=h.open_purse;exact ⟨h.cell 0 i rfl (PurseB.money_at hp hi),h.lt 0 rfl⟩
   have HW:=zk hcm;have hm0:=(hcm _ (HH.out.alloc (.cells #[.int .i64 0,.int .i64 0] 353)).drew).1;clear hcm;have HA:As (t.allow id i p=if wrap64 (t.money.getD i 0-t.allowed i)<p then (9,t) else if wrap64 (wrap64 (1000000000-t.till)-t.all)<p then (4,t) else (0,{t with resv:=mput t.resv id ((i:Int),p)})):=⟨by simp [PurseB.allow,HX.out,HQ.out]⟩;generalize hmo:t.money.getD i 0=mo at *;generalize hal:t.allowed (i:Int)=al at *;by_cases hlt:wrap64 (mo-al)<p
   ·have HLT:=zk hlt;have hd:decide (IntKind.i64.wrap (mo-al)<p)=true:=by rw [IntWalk.i64_left];exact decide_eq_true hlt
    clear hlt hmo hal;go_enter Tryz.func297,Tryz.ntmps297;go_wp2_with (first|(go_at_call 299;refine (HI.out _).mono ?_;rintro e w' ⟨rfl,rfl⟩)|(go_at_call 113;refine (HM.out _).mono ?_;rintro e w' ⟨rfl,rfl⟩)|(at_lookup;refine wll H.out 1 bm _ rfl rfl _ _ 103 353 true rfl Tryz.underlying103 _ zero353 rfl id rfl (by omega) (by omega) ?_;rw [hr];simp only [Option.map_none,Option.getD_none,Option.isSome_none,if_true,two])|(at_lookup;refine wpList_has_int (H.out.alloc _) 2 bp _ rfl rfl _ _ 67 rfl Tryz.underlying67 rfl id rfl (by omega) (by omega) ?_));refine wro (fun W=>W.cell? ⟨b,i,none⟩=some (.int .i64 mo)) [(0,.f),(1,.f),(2,.f),(3,.f),(4,.f),(5,.f),(6,.f),(7,.f),(8,.f),(9,.e),(10,.f),(11,.f),(12,.f)] hm0 ?_;repeat (first
     |(refine vg rfl rfl ?_;apply ex2;intro w' hw';go_simp;rfl;go_simp)
     |(refine ve rfl rfl ?_;go_wp2_with (go_at_call 300;refine HC.out.mono ?_;rintro e w1 ⟨rfl,h1⟩;have H1:=zk h1;clear h1);refine ⟨(HW.out _ H1.out).1,?_⟩;go_simp))
    refine vn ?_;go_simp;go_wp2_with (fail);go_ret;rw [HA.out,if_pos HLT.out];exact ⟨rfl,H1.out⟩
   ·have HLT:=zk hlt;have hd:decide (IntKind.i64.wrap (mo-al)<p)=false:=by rw [IntWalk.i64_left];exact decide_eq_false hlt
    have hct:∀W,Heap w0 (.purse b t::R) W→W.cell? ⟨b,8,none⟩=some (.int .i64 t.till)∧b<W.heap.size:=fun W h=>by
     obtain ⟨hp,bm,bp,h⟩:=h.open_purse;exact ⟨h.cell 0 8 rfl (PurseB.tail_at hp 0),h.lt 0 rfl⟩
    have HWT:=zk hct;have HCA:As (∀W,Heap w0 (.purse b t::R) W→Calls Tryz.prog 301 #[.pointer (some ⟨b,0,none⟩)] W fun e w'=>e=.returned (.int .i64 t.all)∧Heap w0 (.purse b t::R) w'):=⟨fun W h=>pall_ok h HF.out⟩;have HDA:As (∀(W:World),wpList=wpList):=⟨fun _=>rfl⟩;generalize hti:t.till=ti at *;generalize hala:t.all=ala at *;have hsub:IntKind.i64.wrap (wrap64 (1000000000-ti)-ala)=wrap64 (wrap64 (1000000000-ti)-ala):=by rw [IntWalk.i64_left]
    have HTI:=zk hti;clear hlt hmo hal hct hti hala HDA;by_cases hl2:wrap64 (wrap64 (1000000000-ti)-ala)<p
    ·have HL2:=zk hl2;have hd2:decide (IntKind.i64.wrap (wrap64 (1000000000-ti)-ala)<p)=true:=by rw [hsub];exact decide_eq_true hl2
     clear hsub hl2;go_enter Tryz.func297,Tryz.ntmps297;go_wp2_with (first|(go_at_call 299;refine (HI.out _).mono ?_;rintro e w' ⟨rfl,rfl⟩)|(go_at_call 113;refine (HM.out _).mono ?_;rintro e w' ⟨rfl,rfl⟩)|(at_lookup;refine wll H.out 1 bm _ rfl rfl _ _ 103 353 true rfl Tryz.underlying103 _ zero353 rfl id rfl (by omega) (by omega) ?_;rw [hr];simp only [Option.map_none,Option.getD_none,Option.isSome_none,if_true,two])|(at_lookup;refine wpList_has_int (H.out.alloc _) 2 bp _ rfl rfl _ _ 67 rfl Tryz.underlying67 rfl id rfl (by omega) (by omega) ?_));refine wro (fun W=>W.cell? ⟨b,i,none⟩=some (.int .i64 mo)) [(0,.f),(1,.f),(2,.f),(3,.f),(4,.f),(5,.f),(6,.f),(7,.f),(8,.f),(9,.e),(10,.f),(11,.f),(12,.f)] hm0 ?_;repeat (first
      |(refine vg rfl rfl ?_;apply ex2;intro w' hw';go_simp;rfl;go_simp)
      |(refine vs_ rfl (fun K hK=>?_);go_simp;refine hK _ ?_;clear hK K)
      |(refine ve rfl rfl ?_;go_wp2_with (go_at_call 300;refine HC.out.mono ?_;rintro e w1 ⟨rfl,h1⟩;have H1:=zk h1;clear h1);refine ⟨(HW.out _ H1.out).1,?_⟩;go_simp))
     refine vn ?_;go_simp;go_wp2_with (fail);have ht0:=(HWT.out _ H1.out.drew).1;have hlb2:=(HWT.out _ H1.out.drew).2;refine wro (fun W=>W.cell? ⟨b,8,none⟩=some (.int .i64 ti)) [(0,.f),(1,.f),(2,.f),(3,.f),(4,.f),(5,.f),(6,.f),(7,.e),(8,.f),(9,.f),(10,.f)] ht0 ?_;repeat (first
      |(refine vg rfl rfl ?_;apply ex2;intro w' hw';go_simp;rfl;go_simp)
      |(refine vs_ rfl (fun K hK=>?_);go_simp;refine hK _ ?_;clear hK K)
      |(refine ve rfl rfl ?_;go_wp2_with (go_at_call 301;refine (HCA.out _ H1.out.drew).mono ?_;rintro e w2 ⟨rfl,h2⟩;have H2:=zk h2;clear h2);refine ⟨(HWT.out _ H2.out).1,?_⟩;go_simp))
     refine vn ?_;go_simp;go_wp2_with (fail);go_ret;rw [HA.out,if_neg (Int.not_lt.2 HLT.out),if_pos HL2.out];exact ⟨rfl,H2.out⟩
    ·have HL2:=zk hl2;have hd2:decide (IntKind.i64.wrap (wrap64 (1000000000-ti)-ala)<p)=false:=by rw [hsub];exact decide_eq_false hl2
     clear hsub hl2;go_enter Tryz.func297,Tryz.ntmps297;go_wp2_with (first|(go_at_call 299;refine (HI.out _).mono ?_;rintro e w' ⟨rfl,rfl⟩)|(go_at_call 113;refine (HM.out _).mono ?_;rintro e w' ⟨rfl,rfl⟩)|(at_lookup;refine wll H.out 1 bm _ rfl rfl _ _ 103 353 true rfl Tryz.underlying103 _ zero353 rfl id rfl (by omega) (by omega) ?_;rw [hr];simp only [Option.map_none,Option.getD_none,Option.isSome_none,if_true,two])|(at_lookup;refine wpList_has_int (H.out.alloc _) 2 bp _ rfl rfl _ _ 67 rfl Tryz.underlying67 rfl id rfl (by omega) (by omega) ?_));refine wro (fun W=>W.cell? ⟨b,i,none⟩=some (.int .i64 mo)) [(0,.f),(1,.f),(2,.f),(3,.f),(4,.f),(5,.f),(6,.f),(7,.f),(8,.f),(9,.e),(10,.f),(11,.f),(12,.f)] hm0 ?_;repeat (first
      |(refine vg rfl rfl ?_;apply ex2;intro w' hw';go_simp;rfl;go_simp)
      |(refine vs_ rfl (fun K hK=>?_);go_simp;refine hK _ ?_;clear hK K)
      |(refine ve rfl rfl ?_;go_wp2_with (go_at_call 300;refine HC.out.mono ?_;rintro e w1 ⟨rfl,h1⟩;have H1:=zk h1;clear h1);refine ⟨(HW.out _ H1.out).1,?_⟩;go_simp))
     refine vn ?_;go_simp;go_wp2_with (fail);have ht0:=(HWT.out _ H1.out.drew).1;have hlb2:=(HWT.out _ H1.out.drew).2;refine wro (fun W=>W.cell? ⟨b,8,none⟩=some (.int .i64 ti)) [(0,.f),(1,.f),(2,.f),(3,.f),(4,.f),(5,.f),(6,.f),(7,.e),(8,.f),(9,.f),(10,.f)] ht0 ?_;repeat (first
      |(refine vg rfl rfl ?_;apply ex2;intro w' hw';go_simp;rfl;go_simp)
      |(refine vs_ rfl (fun K hK=>?_);go_simp;refine hK _ ?_;clear hK K)
      |(refine ve rfl rfl ?_;go_wp2_with (go_at_call 301;refine (HCA.out _ H1.out.drew).mono ?_;rintro e w2 ⟨rfl,h2⟩;have H2:=zk h2;clear h2);refine ⟨(HWT.out _ H2.out).1,?_⟩;go_simp))
     refine vn ?_;go_simp;obtain ⟨hp2,bm2,bp2,h3⟩:=H2.out.open_purse;have HP2:=zk hp2;have d9:w2.cell? ⟨b,9,none⟩=some (.map (some bm2)):=h3.cell 0 9 rfl (PurseB.tail_at hp2 1);have hlb3:=h3.lt 0 rfl;have hnn:As (List.length (mval two t.resv)<1000000):=⟨by have:=HP.out.keys.len;simp only [mval,List.length_map];omega⟩;have H3:=zk h3;clear h3 hp2;go_wp2_with (at_mapUpdate;refine wlp H3.out 1 bm2 _ rfl rfl _ _ _ 103 353 rfl Tryz.underlying103 rfl id rfl (two ((i:Int),p)) rfl (by omega) (by omega) hnn.out ?_;intro w4 h4 _;have H4:=zk h4;clear h4);go_ret;rw [HA.out,if_neg (Int.not_lt.2 HLT.out),if_neg (Int.not_lt.2 HL2.out)];refine ⟨rfl,?_⟩;have hp:=HP2.out;refine Heap.shut_purse (bm:=bm2) (bp:=bp2) ⟨hp.m8,hp.keys.put _ h0 h1,hp.keys2,?_⟩ ?_
     ·intro q hq;rcases mem_mput hq with rfl|hq
      ·exact ⟨hi0,hi1⟩
      ·exact hp.item q hq
     ·rw [mval_mput,←HTI.out];exact H4.out
end Go.Proofs.YtlnghlamnehfjaaGreatDoor.S
