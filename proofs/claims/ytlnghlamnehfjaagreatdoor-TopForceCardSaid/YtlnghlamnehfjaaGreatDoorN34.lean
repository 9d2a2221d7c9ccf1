/- Contracts and plain laws of the program, part N34. -/
import Derived.Test.YtlnghlamnehfjaaGreatDoorN29
set_option linter.unusedVariables false
set_option linter.unusedSimpArgs false
set_option maxRecDepth 100000
set_option maxHeartbeats 64000000
namespace Go.Proofs.YtlnghlamnehfjaaGreatDoor.S
open Go.RowKit Go.Maps
theorem zKpb1 {P:Prop} (h:P:=by
 go_enter Tryz.func215,Tryz.ntmps215;go_wp2_with (fail);go_quiet ((first|(refine (HDN.out _ _ ((HH.out.alloc _).drewN _)).mono ?_;rintro e w' ⟨rfl,rfl⟩;exact ⟨rfl,_,rfl⟩)|(refine (HID.out _).mono ?_;rintro e w' ⟨rfl,rfl⟩;exact ⟨rfl,_,rfl⟩)|(refine (HOT.out _ _ ((HH.out.alloc _).drewN _)).mono ?_;rintro e w' ⟨rfl,rfl⟩;exact ⟨rfl,_,rfl⟩)));have h2:=(HB.out.frt 1 rfl).drewN nq;generalize (w.alloc (.cells #[.int .i64 kind,.int .i64 frm,.int .i64 k.node,.int .i64 id,.int .i64 step,.int .i64 a,.int .i64 q] 113)).drewN nq=W2 at h2⊢;obtain ⟨bj,h2⟩:=h2.kpx_of;have HSTS:As (St (mgi k.st id)):=⟨by
  obtain ⟨hp, -⟩:=h2.open_kpx;cases hm:mget k.st id with
  |none=>simp [mgi,hm,St]
  |some s=>simp [mgi,hm];exact hp.st _ (mget_mem hm)⟩
 have HST:=zk (kstate_ok h2 id (by omega) (by omega));obtain ⟨x0,x1,x2,x3,x4,x5,x6,xf⟩:=h2.cB7 2 rfl;have hlx:=h2.lt 2 rfl;have H2:=zk h2;clear h2 c0 hlb;go_wp2_with (go_at_call 17;refine HST.out.mono ?_;rintro e w' ⟨rfl,rfl⟩);refine wro (fun W=>W.cell? ⟨w.heap.size,0,none⟩=some (.int .i64 kind)) [(0,.f),(1,.f),(2,.f),(3,.f),(4,.s),(5,.e),(6,.e),(7,.f),(8,.f),(9,.f),(10,.f),(11,.f)] x0 ?_;repeat (first
  |(refine vg rfl rfl ?_;apply ex2;intro w' hw';go_simp;rfl;go_simp)
  |(refine vs_ rfl (fun K hK=>?_);go_simp;refine hK _ ?_;clear hK K)
  |(refine ve rfl rfl ?_;go_wp2_with (go_at_call 219;refine (kcan_ok H2.out.drew kind frm k.node id step a q h0 h1 HMM.out).mono ?_;rintro e w3 ⟨rfl,h3⟩;have H3:=zk h3;clear h3);refine ⟨H3.out.cell 2 0 rfl rfl,?_⟩;go_simp)
  |(refine ve rfl rfl ?_;go_wp2_with (go_at_call 218;refine (vnext_ok _ _ _ _ HSTS.out).mono ?_;rintro e w4 ⟨rfl,rfl⟩;simp only [two3]);refine ⟨H3.out.cell 2 0 rfl rfl,?_⟩;go_simp))
 refine vn ?_;go_simp;have HJ:=zk (can_node k kind id a q);have HVC:=zk (vNext_cases (mgi k.st id) kind (k.can kind id a q).1 HSTS.out);generalize vNext (mgi k.st id) kind (k.can kind id a q).1=p at *;obtain ⟨s',rk⟩:=p;generalize k.can kind id a q=p at *;obtain ⟨cn,k2⟩:=p;simp only at HJ HVC HRES H3⊢;have H4:As (Heap w0 (.keeper b k2::.pts w.heap.size (.cells #[.int .i64 kind,.int .i64 frm,.int .i64 k.node,.int .i64 id,.int .i64 step,.int .i64 a,.int .i64 q] 113)::R) w3):=⟨by
  have h:=H3.out;rw [←HJ.out.2.2] at h;exact h.kpx_to⟩
 have HC2:As (∀W L k',k'.node=k.node→Heap w0 (.keeper b k'::L) W→W.cell? ⟨b,0,none⟩=some (.int .i64 k.node)∧b<W.heap.size):=⟨fun W L k' e h=>by
  obtain ⟨bj,hx⟩:=h.kpx_of;obtain ⟨hp,g,cap,bb,bm,hx⟩:=hx.open_kpx;have:=hx.cell 0 0 rfl rfl;rw [e] at this;exact ⟨this,hx.lt 0 rfl⟩⟩
 clear x0 x1 x2 x3 x4 x5 x6 xf hlx;obtain ⟨x0,x1,x2,x3,x4,x5,x6,xf⟩:=H4.out.cB7 1 rfl;have hlx:=H4.out.lt 1 rfl;obtain ⟨c0,hlb⟩:=HC2.out _ _ _ HJ.out.1 H4.out;by_cases hs:s'=mgi k.st id
 ·have hsb:(s' != mgi k.st id)=false:=by simpa using hs
  have HRV:As (res=(if rk=0 then [] else [⟨rk,k.node,if rk=11∨rk=17 then 0 else frm,id,0,0,0⟩],k2)):=⟨by rw [HRES.out,if_pos hs];simp⟩;clear hs;obtain ⟨k3,hk3⟩:∃k3,k3=k2:=⟨_,rfl⟩;rw [←hk3] at HRV H4;by_cases hk0:rk=0
  ·subst hk0;go_wp2_with (fail);go_ret;refine ⟨_,rfl,?_⟩;rw [HRV.out];exact ((H4.out.frt 1 rfl).drop).nRw 113 7
  ·have hk0b:(rk==0)=false:=by simpa using hk0
   by_cases hk1:rk=11
   ·have hk1b:(rk==11)=true:=by simpa using hk1
    have HRQ:As (res=([⟨rk,k.node,0,id,0,0,0⟩],k3)):=⟨by rw [HRV.out,if_neg hk0,if_pos (.inl hk1)]⟩;subst hk1;go_wp2_with (fail);refine wro0 [(0,.f),(1,.f),(2,.f),(3,.f),(4,.s),(5,.f),(6,.f),(7,.s),(8,.f),(9,.e),(10,.f)] ?_;repeat (first
     |(refine vg rfl rfl ?_;apply ex2;intro w' hw';go_simp;rfl;go_simp)
     |(refine vs_ rfl (fun K hK=>?_);go_simp;refine hK _ ?_;clear hK K)
     |(refine ve rfl rfl ?_;go_wp2_with (fail);refine ⟨trivial,?_⟩;go_simp))
    refine vn ?_;go_simp;go_wp2_with (fail);go_ret;refine ⟨_,rfl,?_⟩;rw [HRQ.out];have h6:=Heap.asSlc (k:=1) (size:=7) ((H4.out.drew).new (.cells #[.int .i64 11,.int .i64 k.node,.int .i64 0,.int .i64 id,.int .i64 0,.int .i64 0,.int .i64 0] 113)) (by decide) rfl;exact (h6.frt 2 rfl).drop
   ·have hk1b:(rk==11)=false:=by simpa using hk1
    by_cases hk2:rk=17
    ·have hk2b:(rk==17)=true:=by simpa using hk2
     have HRQ:As (res=([⟨rk,k.node,0,id,0,0,0⟩],k3)):=⟨by rw [HRV.out,if_neg hk0,if_pos (.inr hk2)]⟩;subst hk2;go_wp2_with (fail);refine wro0 [(0,.f),(1,.f),(2,.f),(3,.f),(4,.s),(5,.f),(6,.f),(7,.s),(8,.f),(9,.e),(10,.f)] ?_;repeat (first
      |(refine vg rfl rfl ?_;apply ex2;intro w' hw';go_simp;rfl;go_simp)
      |(refine vs_ rfl (fun K hK=>?_);go_simp;refine hK _ ?_;clear hK K)
      |(refine ve rfl rfl ?_;go_wp2_with (fail);refine ⟨trivial,?_⟩;go_simp))
     refine vn ?_;go_simp;go_wp2_with (fail);go_ret;refine ⟨_,rfl,?_⟩;rw [HRQ.out];have h6:=Heap.asSlc (k:=1) (size:=7) ((H4.out.drew).new (.cells #[.int .i64 17,.int .i64 k.node,.int .i64 0,.int .i64 id,.int .i64 0,.int .i64 0,.int .i64 0] 113)) (by decide) rfl;exact (h6.frt 2 rfl).drop
    ·have hk2b:(rk==17)=false:=by simpa using hk2
     have HRQ:As (res=([⟨rk,k.node,frm,id,0,0,0⟩],k3)):=⟨by rw [HRV.out,if_neg hk0,if_neg (by simp [hk1,hk2])]⟩;go_wp2_with (fail);refine wro0 [(0,.f),(1,.f),(2,.f),(3,.f),(4,.s),(5,.f),(6,.f),(7,.s),(8,.f),(9,.e),(10,.f)] ?_;repeat (first
      |(refine vg rfl rfl ?_;apply ex2;intro w' hw';go_simp;rfl;go_simp)
      |(refine vs_ rfl (fun K hK=>?_);go_simp;refine hK _ ?_;clear hK K)
      |(refine ve rfl rfl ?_;go_wp2_with (fail);refine ⟨trivial,?_⟩;go_simp))
     refine vn ?_;go_simp;go_wp2_with (fail);go_ret;refine ⟨_,rfl,?_⟩;rw [HRQ.out];have h6:=Heap.asSlc (k:=1) (size:=7) ((H4.out.drew).new (.cells #[.int .i64 rk,.int .i64 k.node,.int .i64 frm,.int .i64 id,.int .i64 0,.int .i64 0,.int .i64 0] 113)) (by decide) rfl;exact (h6.frt 2 rfl).drop
 ·rcases HVC.out with hq|⟨hs1,hk6, -⟩|hs1|hs1
  ·exact absurd hq hs
  ·have hsb:(s' != mgi k.st id)=true:=by simpa using hs
   have HRV:As (res=(if (k2.notes (kEnt s' id a q)).1=false then [] else if rk=0 then [] else [⟨rk,k.node,if rk=11∨rk=17 then 0 else frm,id,0,0,0⟩],(k2.notes (kEnt s' id a q)).2)):=⟨by rw [HRES.out,if_neg hs]⟩;clear hs;have hK:=zk (KpE.ready id a.toNat q h0 h1 (by have:=HMM.out hk6;omega) (by have:=HMM.out hk6;omega) (by have:=HMM.out hk6;omega));rw [Int.toNat_of_nonneg (HMM.out hk6).1] at hK;subst hs1;have HV:As (kEnt 1 id a q=⟨.ready,id,[a,q]⟩):=⟨rfl⟩;rw [HV.out] at HRV;have HN:=zk (fun W v (h:Heap w0 (.keeper b k2::.slc v 3 1 2 [.int .i64 a,.int .i64 q]::.pts w.heap.size (.cells #[.int .i64 kind,.int .i64 frm,.int .i64 k.node,.int .i64 id,.int .i64 step,.int .i64 a,.int .i64 q] 113)::R) W)=>knotes_ok (e:=⟨.ready,id,[a,q]⟩) h hK.out HD2.out);have HNH:=zk (fun W (h:Heap w0 (.keeper b k2::.pts w.heap.size (.cells #[.int .i64 kind,.int .i64 frm,.int .i64 k.node,.int .i64 id,.int .i64 step,.int .i64 a,.int .i64 q] 113)::R) W)=>(Heap.asSlc (k:=2) (size:=1) (h.new (.cells #[.int .i64 a,.int .i64 q] 3)) (by decide) rfl).frt 1 rfl);have HNN:=zk (knotes_node k2 (⟨.ready,id,[a,q]⟩:Entry));simp only [stOf] at HN;generalize k2.notes ⟨.ready,id,[a,q]⟩=p at *;obtain ⟨ok,k3⟩:=p;simp only at HRV HN HNN;clear HV hK;cases ok
   ·simp only [if_true] at HRV;go_wp2_with (go_at_call 106;refine (HN.out _ _ (HNH.out _ H4.out)).mono ?_;rintro e w5 ⟨rfl,h5⟩;clear x0 x1 x2 x3 x4 x5 x6 xf c0 hlb hlx;obtain ⟨x0,x1,x2,x3,x4,x5,x6,xf⟩:=h5.cB7 2 rfl;have hlx:=h5.lt 2 rfl;obtain ⟨c0,hlb⟩:=HC2.out _ _ _ (HNN.out.trans HJ.out.1) h5;have H5:=zk (h5.frt 1 rfl).drop;clear h5);go_ret;refine ⟨_,rfl,?_⟩;rw [HRV.out];exact ((H5.out.frt 1 rfl).drop).nRw 113 7
   ·simp only [Bool.true_eq_false,if_false] at HRV;by_cases hk0:rk=0
    ·subst hk0;go_wp2_with (go_at_call 106;refine (HN.out _ _ (HNH.out _ H4.out)).mono ?_;rintro e w5 ⟨rfl,h5⟩;clear x0 x1 x2 x3 x4 x5 x6 xf c0 hlb hlx;obtain ⟨x0,x1,x2,x3,x4,x5,x6,xf⟩:=h5.cB7 2 rfl;have hlx:=h5.lt 2 rfl;obtain ⟨c0,hlb⟩:=HC2.out _ _ _ (HNN.out.trans HJ.out.1) h5;have H5:=zk (h5.frt 1 rfl).drop;clear h5);go_ret;refine ⟨_,rfl,?_⟩;rw [HRV.out];exact ((H5.out.frt 1 rfl).drop).nRw 113 7
    ·have hk0b:(rk==0)=false:=by simpa using hk0
     by_cases hk1:rk=11
     ·have hk1b:(rk==11)=true:=by simpa using hk1
      have HRQ:As (res=([⟨rk,k.node,0,id,0,0,0⟩],k3)):=⟨by rw [HRV.out,if_neg hk0,if_pos (.inl hk1)]⟩;subst hk1;go_wp2_with (go_at_call 106;refine (HN.out _ _ (HNH.out _ H4.out)).mono ?_;rintro e w5 ⟨rfl,h5⟩;clear x0 x1 x2 x3 x4 x5 x6 xf c0 hlb hlx;obtain ⟨x0,x1,x2,x3,x4,x5,x6,xf⟩:=h5.cB7 2 rfl;have hlx:=h5.lt 2 rfl;obtain ⟨c0,hlb⟩:=HC2.out _ _ _ (HNN.out.trans HJ.out.1) h5;have H5:=zk (h5.frt 1 rfl).drop;clear h5);refine wro0 [(0,.f),(1,.f),(2,.f),(3,.f),(4,.s),(5,.f),(6,.f),(7,.s),(8,.f),(9,.e),(10,.f)] ?_;repeat (first
       |(refine vg rfl rfl ?_;apply ex2;intro w' hw';go_simp;rfl;go_simp)
       |(refine vs_ rfl (fun K hK=>?_);go_simp;refine hK _ ?_;clear hK K)
       |(refine ve rfl rfl ?_;go_wp2_with (fail);refine ⟨trivial,?_⟩;go_simp))
      refine vn ?_;go_simp;go_wp2_with (fail);go_ret;refine ⟨_,rfl,?_⟩;rw [HRQ.out];have h6:=Heap.asSlc (k:=1) (size:=7) ((H5.out.drew).new (.cells #[.int .i64 11,.int .i64 k.node,.int .i64 0,.int .i64 id,.int .i64 0,.int .i64 0,.int .i64 0] 113)) (by decide) rfl;exact (h6.frt 2 rfl).drop
     ·have hk1b:(rk==11)=false:=by simpa using hk1
      by_cases hk2:rk=17
      ·have hk2b:(rk==17)=true:=by simpa using hk2
       have HRQ:As (res=([⟨rk,k.node,0,id,0,0,0⟩],k3)):=⟨by rw [HRV.out,if_neg hk0,if_pos (.inr hk2)]⟩;subst hk2;go_wp2_with (go_at_call 106;refine (HN.out _ _ (HNH.out _ H4.out)).mono ?_;rintro e w5 ⟨rfl,h5⟩;clear x0 x1 x2 x3 x4 x5 x6 xf c0 hlb hlx;obtain ⟨x0,x1,x2,x3,x4,x5,x6,xf⟩:=h5.cB7 2 rfl;have hlx:=h5.lt 2 rfl;obtain ⟨c0,hlb⟩:=HC2.out _ _ _ (HNN.out.trans HJ.out.1) h5;have H5:=zk (h5.frt 1 rfl).drop;clear h5);refine wro0 [(0,.f),(1,.f),(2,.f),(3,.f),(4,.s),(5,.f),(6,.f),(7,.s),(8,.f),(9,.e),(10,.f)] ?_;repeat (first
        |(refine vg rfl rfl ?_;apply ex2;intro w' hw';go_simp;rfl;go_simp)
        |(refine vs_ rfl (fun K hK=>?_);go_simp;refine hK _ ?_;clear hK K)
        |(refine ve rfl rfl ?_;go_wp2_with (fail);refine ⟨trivial,?_⟩;go_simp))
       refine vn ?_;go_simp;go_wp2_with (fail);go_ret;refine ⟨_,rfl,?_⟩;rw [HRQ.out];have h6:=Heap.asSlc (k:=1) (size:=7) ((H5.out.drew).new (.cells #[.int .i64 17,.int .i64 k.node,.int .i64 0,.int .i64 id,.int .i64 0,.int .i64 0,.int .i64 0] 113)) (by decide) rfl;exact (h6.frt 2 rfl).drop
      ·have hk2b:(rk==17)=false:=by simpa using hk2
       have HRQ:As (res=([⟨rk,k.node,frm,id,0,0,0⟩],k3)):=⟨by rw [HRV.out,if_neg hk0,if_neg (by simp [hk1,hk2])]⟩;go_wp2_with (go_at_call 106;refine (HN.out _ _ (HNH.out _ H4.out)).mono ?_;rintro e w5 ⟨rfl,h5⟩;clear x0 x1 x2 x3 x4 x5 x6 xf c0 hlb hlx;obtain ⟨x0,x1,x2,x3,x4,x5,x6,xf⟩:=h5.cB7 2 rfl;have hlx:=h5.lt 2 rfl;obtain ⟨c0,hlb⟩:=HC2.out _ _ _ (HNN.out.trans HJ.out.1) h5;have H5:=zk (h5.frt 1 rfl).drop;clear h5);refine wro0 [(0,.f),(1,.f),(2,.f),(3,.f),(4,.s),(5,.f),(6,.f),(7,.s),(8,.f),(9,.e),(10,.f)] ?_;repeat (first
        |(refine vg rfl rfl ?_;apply ex2;intro w' hw';go_simp;rfl;go_simp)
        |(refine vs_ rfl (fun K hK=>?_);go_simp;refine hK _ ?_;clear hK K)
        |(refine ve rfl rfl ?_;go_wp2_with (fail);refine ⟨trivial,?_⟩;go_simp))
       refine vn ?_;go_simp;go_wp2_with (fail);go_ret;refine ⟨_,rfl,?_⟩;rw [HRQ.out];have h6:=Heap.asSlc (k:=1) (size:=7) ((H5.out.drew).new (.cells #[.int .i64 rk,.int .i64 k.node,.int .i64 frm,.int .i64 id,.int .i64 0,.int .i64 0,.int .i64 0] 113)) (by decide) rfl;exact (h6.frt 2 rfl).drop
  ·have hsb:(s' != mgi k.st id)=true:=by simpa using hs
   have HRV:As (res=(if (k2.notes (kEnt s' id a q)).1=false then [] else if rk=0 then [] else [⟨rk,k.node,if rk=11∨rk=17 then 0 else frm,id,0,0,0⟩],(k2.notes (kEnt s' id a q)).2)):=⟨by rw [HRES.out,if_neg hs]⟩;clear hs;have hK:=zk (KpE.yes id h0 h1);subst hs1;have HV:As (kEnt 2 id a q=⟨.yes,id,[]⟩):=⟨rfl⟩;rw [HV.out] at HRV;have HN:=zk (fun W v (h:Heap w0 (.keeper b k2::.slc v 3 1 0 []::.pts w.heap.size (.cells #[.int .i64 kind,.int .i64 frm,.int .i64 k.node,.int .i64 id,.int .i64 step,.int .i64 a,.int .i64 q] 113)::R) W)=>knotes_ok (e:=⟨.yes,id,[]⟩) h hK.out HD2.out);have HNH:=zk (fun W (h:Heap w0 (.keeper b k2::.pts w.heap.size (.cells #[.int .i64 kind,.int .i64 frm,.int .i64 k.node,.int .i64 id,.int .i64 step,.int .i64 a,.int .i64 q] 113)::R) W)=>(h.nRw 3 1).frt 1 rfl);have HNN:=zk (knotes_node k2 (⟨.yes,id,[]⟩:Entry));simp only [stOf] at HN;generalize k2.notes ⟨.yes,id,[]⟩=p at *;obtain ⟨ok,k3⟩:=p;simp only at HRV HN HNN;clear HV hK;cases ok
   ·simp only [if_true] at HRV;go_wp2_with (go_at_call 106;refine (HN.out _ _ (HNH.out _ H4.out)).mono ?_;rintro e w5 ⟨rfl,h5⟩;clear x0 x1 x2 x3 x4 x5 x6 xf c0 hlb hlx;obtain ⟨x0,x1,x2,x3,x4,x5,x6,xf⟩:=h5.cB7 2 rfl;have hlx:=h5.lt 2 rfl;obtain ⟨c0,hlb⟩:=HC2.out _ _ _ (HNN.out.trans HJ.out.1) h5;have H5:=zk (h5.frt 1 rfl).drop;clear h5);go_ret;refine ⟨_,rfl,?_⟩;rw [HRV.out];exact ((H5.out.frt 1 rfl).drop).nRw 113 7
   ·simp only [Bool.true_eq_false,if_false] at HRV;by_cases hk0:rk=0
    ·subst hk0;go_wp2_with (go_at_call 106;refine (HN.out _ _ (HNH.out _ H4.out)).mono ?_;rintro e w5 ⟨rfl,h5⟩;clear x0 x1 x2 x3 x4 x5 x6 xf c0 hlb hlx;obtain ⟨x0,x1,x2,x3,x4,x5,x6,xf⟩:=h5.cB7 2 rfl;have hlx:=h5.lt 2 rfl;obtain ⟨c0,hlb⟩:=HC2.out _ _ _ (HNN.out.trans HJ.out.1) h5;have H5:=zk (h5.frt 1 rfl).drop;clear h5);go_ret;refine ⟨_,rfl,?_⟩;rw [HRV.out];exact ((H5.out.frt 1 rfl).drop).nRw 113 7
    ·have hk0b:(rk==0)=false:=by simpa using hk0
     by_cases hk1:rk=11
     ·have hk1b:(rk==11)=true:=by simpa using hk1
      have HRQ:As (res=([⟨rk,k.node,0,id,0,0,0⟩],k3)):=⟨by rw [HRV.out,if_neg hk0,if_pos (.inl hk1)]⟩;subst hk1;go_wp2_with (go_at_call 106;refine (HN.out _ _ (HNH.out _ H4.out)).mono ?_;rintro e w5 ⟨rfl,h5⟩;clear x0 x1 x2 x3 x4 x5 x6 xf c0 hlb hlx;obtain ⟨x0,x1,x2,x3,x4,x5,x6,xf⟩:=h5.cB7 2 rfl;have hlx:=h5.lt 2 rfl;obtain ⟨c0,hlb⟩:=HC2.out _ _ _ (HNN.out.trans HJ.out.1) h5;have H5:=zk (h5.frt 1 rfl).drop;clear h5);refine wro0 [(0,.f),(1,.f),(2,.f),(3,.f),(4,.s),(5,.f),(6,.f),(7,.s),(8,.f),(9,.e),(10,.f)] ?_;repeat (first
       |(refine vg rfl rfl ?_;apply ex2;intro w' hw';go_simp;rfl;go_simp)
       |(refine vs_ rfl (fun K hK=>?_);go_simp;refine hK _ ?_;clear hK K)
       |(refine ve rfl rfl ?_;go_wp2_with (fail);refine ⟨trivial,?_⟩;go_simp))
      refine vn ?_;go_simp;go_wp2_with (fail);go_ret;refine ⟨_,rfl,?_⟩;rw [HRQ.out];have h6:=Heap.asSlc (k:=1) (size:=7) ((H5.out.drew).new (.cells #[.int .i64 11,.int .i64 k.node,.int .i64 0,.int .i64 id,.int .i64 0,.int .i64 0,.int .i64 0] 113)) (by decide) rfl;exact (h6.frt 2 rfl).drop
     ·have hk1b:(rk==11)=false:=by simpa using hk1
      by_cases hk2:rk=17
      ·have hk2b:(rk==17)=true:=by simpa using hk2
       have HRQ:As (res=([⟨rk,k.node,0,id,0,0,0⟩],k3)):=⟨by rw [HRV.out,if_neg hk0,if_pos (.inr hk2)]⟩;subst hk2;go_wp2_with (go_at_call 106;refine (HN.out _ _ (HNH.out _ H4.out)).mono ?_;rintro e w5 ⟨rfl,h5⟩;clear x0 x1 x2 x3 x4 x5 x6 xf c0 hlb hlx;obtain ⟨x0,x1,x2,x3,x4,x5,x6,xf⟩:=h5.cB7 2 rfl;have hlx:=h5.lt 2 rfl;obtain ⟨c0,hlb⟩:=HC2.out _ _ _ (HNN.out.trans HJ.out.1) h5;have H5:=zk (h5.frt 1 rfl).drop;clear h5);refine wro0 [(0,.f),(1,.f),(2,.f),(3,.f),(4,.s),(5,.f),(6,.f),(7,.s),(8,.f),(9,.e),(10,.f)] ?_;repeat (first
        |(refine vg rfl rfl ?_;apply ex2;intro w' hw';go_simp;rfl;go_simp)
        |(refine vs_ rfl (fun K hK=>?_);go_simp;refine hK _ ?_;clear hK K)
        |(refine ve rfl rfl ?_;go_wp2_with (fail);refine ⟨trivial,?_⟩;go_simp))
       refine vn ?_;go_simp;go_wp2_with (fail);go_ret;refine ⟨_,rfl,?_⟩;rw [HRQ.out];have h6:=Heap.asSlc (k:=1) (size:=7) ((H5.out.drew).new (.cells #[.int .i64 17,.int .i64 k.node,.int .i64 0,.int .i64 id,.int .i64 0,.int .i64 0,.int .i64 0] 113)) (by decide) rfl;exact (h6.frt 2 rfl).drop
      ·have hk2b:(rk==17)=false:=by simpa using hk2
       have HRQ:As (res=([⟨rk,k.node,frm,id,0,0,0⟩],k3)):=⟨by rw [HRV.out,if_neg hk0,if_neg (by simp [hk1,hk2])]⟩;go_wp2_with (go_at_call 106;refine (HN.out _ _ (HNH.out _ H4.out)).mono ?_;rintro e w5 ⟨rfl,h5⟩;clear x0 x1 x2 x3 x4 x5 x6 xf c0 hlb hlx;obtain ⟨x0,x1,x2,x3,x4,x5,x6,xf⟩:=h5.cB7 2 rfl;have hlx:=h5.lt 2 rfl;obtain ⟨c0,hlb⟩:=HC2.out _ _ _ (HNN.out.trans HJ.out.1) h5;have H5:=zk (h5.frt 1 rfl).drop;clear h5);refine wro0 [(0,.f),(1,.f),(2,.f),(3,.f),(4,.s),(5,.f),(6,.f),(7,.s),(8,.f),(9,.e),(10,.f)] ?_;repeat (first
        |(refine vg rfl rfl ?_;apply ex2;intro w' hw';go_simp;rfl;go_simp)
        |(refine vs_ rfl (fun K hK=>?_);go_simp;refine hK _ ?_;clear hK K)
        |(refine ve rfl rfl ?_;go_wp2_with (fail);refine ⟨trivial,?_⟩;go_simp))
       refine vn ?_;go_simp;go_wp2_with (fail);go_ret;refine ⟨_,rfl,?_⟩;rw [HRQ.out];have h6:=Heap.asSlc (k:=1) (size:=7) ((H5.out.drew).new (.cells #[.int .i64 rk,.int .i64 k.node,.int .i64 frm,.int .i64 id,.int .i64 0,.int .i64 0,.int .i64 0] 113)) (by decide) rfl;exact (h6.frt 2 rfl).drop
  ·have hsb:(s' != mgi k.st id)=true:=by simpa using hs
   have HRV:As (res=(if (k2.notes (kEnt s' id a q)).1=false then [] else if rk=0 then [] else [⟨rk,k.node,if rk=11∨rk=17 then 0 else frm,id,0,0,0⟩],(k2.notes (kEnt s' id a q)).2)):=⟨by rw [HRES.out,if_neg hs]⟩;clear hs;have hK:=zk (KpE.no id h0 h1);subst hs1;have HV:As (kEnt 3 id a q=⟨.no,id,[]⟩):=⟨rfl⟩;rw [HV.out] at HRV;have HN:=zk (fun W v (h:Heap w0 (.keeper b k2::.slc v 3 1 0 []::.pts w.heap.size (.cells #[.int .i64 kind,.int .i64 frm,.int .i64 k.node,.int .i64 id,.int .i64 step,.int .i64 a,.int .i64 q] 113)::R) W)=>knotes_ok (e:=⟨.no,id,[]⟩) h hK.out HD2.out);have HNH:=zk (fun W (h:Heap w0 (.keeper b k2::.pts w.heap.size (.cells #[.int .i64 kind,.int .i64 frm,.int .i64 k.node,.int .i64 id,.int .i64 step,.int .i64 a,.int .i64 q] 113)::R) W)=>(h.nRw 3 1).frt 1 rfl);have HNN:=zk (knotes_node k2 (⟨.no,id,[]⟩:Entry));simp only [stOf] at HN;generalize k2.notes ⟨.no,id,[]⟩=p at *;obtain ⟨ok,k3⟩:=p;simp only at HRV HN HNN;clear HV hK;cases ok
   ·simp only [if_true] at HRV;go_wp2_with (go_at_call 106;refine (HN.out _ _ (HNH.out _ H4.out)).mono ?_;rintro e w5 ⟨rfl,h5⟩;clear x0 x1 x2 x3 x4 x5 x6 xf c0 hlb hlx;obtain ⟨x0,x1,x2,x3,x4,x5,x6,xf⟩:=h5.cB7 2 rfl;have hlx:=h5.lt 2 rfl;obtain ⟨c0,hlb⟩:=HC2.out _ _ _ (HNN.out.trans HJ.out.1) h5;have H5:=zk (h5.frt 1 rfl).drop;clear h5);go_ret;refine ⟨_,rfl,?_⟩;rw [HRV.out];exact ((H5.out.frt 1 rfl).drop).nRw 113 7
   ·simp only [Bool.true_eq_false,if_false] at HRV;by_cases hk0:rk=0
    ·subst hk0;go_wp2_with (go_at_call 106;refine (HN.out _ _ (HNH.out _ H4.out)).mono ?_;rintro e w5 ⟨rfl,h5⟩;clear x0 x1 x2 x3 x4 x5 x6 xf c0 hlb hlx;obtain ⟨x0,x1,x2,x3,x4,x5,x6,xf⟩:=h5.cB7 2 rfl;have hlx:=h5.lt 2 rfl;obtain ⟨c0,hlb⟩:=HC2.out _ _ _ (HNN.out.trans HJ.out.1) h5;have H5:=zk (h5.frt 1 rfl).drop;clear h5);go_ret;refine ⟨_,rfl,?_⟩;rw [HRV.out];exact ((H5.out.frt 1 rfl).drop).nRw 113 7
    ·have hk0b:(rk==0)=false:=by simpa using hk0
     by_cases hk1:rk=11
     ·have hk1b:(rk==11)=true:=by simpa using hk1
      have HRQ:As (res=([⟨rk,k.node,0,id,0,0,0⟩],k3)):=⟨by rw [HRV.out,if_neg hk0,if_pos (.inl hk1)]⟩;subst hk1;go_wp2_with (go_at_call 106;refine (HN.out _ _ (HNH.out _ H4.out)).mono ?_;rintro e w5 ⟨rfl,h5⟩;clear x0 x1 x2 x3 x4 x5 x6 xf c0 hlb hlx;obtain ⟨x0,x1,x2,x3,x4,x5,x6,xf⟩:=h5.cB7 2 rfl;have hlx:=h5.lt 2 rfl;obtain ⟨c0,hlb⟩:=HC2.out _ _ _ (HNN.out.trans HJ.out.1) h5;have H5:=zk (h5.frt 1 rfl).drop;clear h5);refine wro0 [(0,.f),(1,.f),(2,.f),(3,.f),(4,.s),(5,.f),(6,.f),(7,.s),(8,.f),(9,.e),(10,.f)] ?_;repeat (first
       |(refine vg rfl rfl ?_;apply ex2;intro w' hw';go_simp;rfl;go_simp)
       |(refine vs_ rfl (fun K hK=>?_);go_simp;refine hK _ ?_;clear hK K)
       |(refine ve rfl rfl ?_;go_wp2_with (fail);refine ⟨trivial,?_⟩;go_simp))
      refine vn ?_;go_simp;go_wp2_with (fail);go_ret;refine ⟨_,rfl,?_⟩;rw [HRQ.out];have h6:=Heap.asSlc (k:=1) (size:=7) ((H5.out.drew).new (.cells #[.int .i64 11,.int .i64 k.node,.int .i64 0,.int .i64 id,.int .i64 0,.int .i64 0,.int .i64 0] 113)) (by decide) rfl;exact (h6.frt 2 rfl).drop
     ·have hk1b:(rk==11)=false:=by simpa using hk1
      by_cases hk2:rk=17
      ·have hk2b:(rk==17)=true:=by simpa using hk2
       have HRQ:As (res=([⟨rk,k.node,0,id,0,0,0⟩],k3)):=⟨by rw [HRV.out,if_neg hk0,if_pos (.inr hk2)]⟩;subst hk2;go_wp2_with (go_at_call 106;refine (HN.out _ _ (HNH.out _ H4.out)).mono ?_;rintro e w5 ⟨rfl,h5⟩;clear x0 x1 x2 x3 x4 x5 x6 xf c0 hlb hlx;obtain ⟨x0,x1,x2,x3,x4,x5,x6,xf⟩:=h5.cB7 2 rfl;have hlx:=h5.lt 2 rfl;obtain ⟨c0,hlb⟩:=HC2.out _ _ _ (HNN.out.trans HJ.out.1) h5;have H5:=zk (h5.frt 1 rfl).drop;clear h5);refine wro0 [(0,.f),(1,.f),(2,.f),(3,.f),(4,.s),(5,.f),(6,.f),(7,.s),(8,.f),(9,.e),(10,.f)] ?_;repeat (first
        |(refine vg rfl rfl ?_;apply ex2;intro w' hw';go_simp;rfl;go_simp)
        |(refine vs_ rfl (fun K hK=>?_);go_simp;refine hK _ ?_;clear hK K)
        |(refine ve rfl rfl ?_;go_wp2_with (fail);refine ⟨trivial,?_⟩;go_simp))
       refine vn ?_;go_simp;go_wp2_with (fail);go_ret;refine ⟨_,rfl,?_⟩;rw [HRQ.out];have h6:=Heap.asSlc (k:=1) (size:=7) ((H5.out.drew).new (.cells #[.int .i64 17,.int .i64 k.node,.int .i64 0,.int .i64 id,.int .i64 0,.int .i64 0,.int .i64 0] 113)) (by decide) rfl;exact (h6.frt 2 rfl).drop
      ·have hk2b:(rk==17)=false:=by simpa using hk2
       have HRQ:As (res=([⟨rk,k.node,frm,id,0,0,0⟩],k3)):=⟨by rw [HRV.out,if_neg hk0,if_neg (by simp [hk1,hk2])]⟩;go_wp2_with (go_at_call 106;refine (HN.out _ _ (HNH.out _ H4.out)).mono ?_;rintro e w5 ⟨rfl,h5⟩;clear x0 x1 x2 x3 x4 x5 x6 xf c0 hlb hlx;obtain ⟨x0,x1,x2,x3,x4,x5,x6,xf⟩:=h5.cB7 2 rfl;have hlx:=h5.lt 2 rfl;obtain ⟨c0,hlb⟩:=HC2.out _ _ _ (HNN.out.trans HJ.out.1) h5;have H5:=zk (h5.frt 1 rfl).drop;clear h5);refine wro0 [(0,.f),(1,.f),(2,.f),(3,.f),(4,.s),(5,.f),(6,.f),(7,.s),(8,.f),(9,.e),(10,.f)] ?_;repeat (first
        |(refine vg rfl rfl ?_;apply ex2;intro w' hw';go_simp;rfl;go_simp)
        |(refine vs_ rfl (fun K hK=>?_);go_simp;refine hK _ ?_;clear hK K)
        |(refine ve rfl rfl ?_;go_wp2_with (fail);refine ⟨trivial,?_⟩;go_simp))
       refine vn ?_;go_simp;go_wp2_with (fail);go_ret;refine ⟨_,rfl,?_⟩;rw [HRQ.out];have h6:=Heap.asSlc (k:=1) (size:=7) ((H5.out.drew).new (.cells #[.int .i64 rk,.int .i64 k.node,.int .i64 frm,.int .i64 id,.int .i64 0,.int .i64 0,.int .i64 0] 113)) (by decide) rfl;exact (h6.frt 2 rfl).drop):P:=h
theorem zKpb2 {P:Prop} (h:P:=by
 go_enter Tryz.func215,Tryz.ntmps215;go_wp2_with (fail);go_quiet ((first|(refine (HDN.out _ _ ((HH.out.alloc _).drewN _)).mono ?_;rintro e w' ⟨rfl,rfl⟩;exact ⟨rfl,_,rfl⟩)|(refine (HID.out _).mono ?_;rintro e w' ⟨rfl,rfl⟩;exact ⟨rfl,_,rfl⟩)|(refine (HOT.out _ _ ((HH.out.alloc _).drewN _)).mono ?_;rintro e w' ⟨rfl,rfl⟩;exact ⟨rfl,_,rfl⟩)));go_wp2_with (fail);go_ret;refine ⟨_,rfl,?_⟩;rw [HRES.out];exact ((HH.out.alloc _).drewN nq).nRw 113 7):P:=h
theorem knotes_node (k:Keeper) (e:Entry):(k.notes e).2.node=k.node:=by
 unfold Keeper.notes;split
 ·rfl
 ·rw [kplays_node]
set_option maxHeartbeats 64000000 in
theorem khandle_ok {w0 w:World} {b:Nat} {k:Keeper} {R:List SA} (h:Heap w0 (.keeper b k::R) w) (kind frm id step a q:Int) (hfr:frm=0∨frm=3-k.node) (h0:1≤id) (h1:id≤999) (hm:kind=6→0≤a∧a<8∧0<q∧q≤1000000000):
 Calls Tryz.prog 215 #[.pointer (some ⟨b,0,none⟩),Msg.val ⟨kind,frm,k.node,id,step,a,q⟩] w fun en w'=>∃v',en=.returned v'∧Heap w0 (.slc v' 113 7 (k.handle ⟨kind,frm,k.node,id,step,a,q⟩).1.length (mcells (k.handle ⟨kind,frm,k.node,id,step,a,q⟩).1)::.keeper b (k.handle ⟨kind,frm,k.node,id,step,a,q⟩).2::R) w':=by
 have HH:=zk h;have hb:=h.new (.cells #[.int .i64 kind,.int .i64 frm,.int .i64 k.node,.int .i64 id,.int .i64 step,.int .i64 a,.int .i64 q] 113);have HB:=zk hb;have HDN:As (∀W L,Heap w0 (.keeper b k::L) W→Calls Tryz.prog 19 #[.pointer (some ⟨b,0,none⟩)] W fun e w'=>e=.returned (.bool k.j.down)∧W=w'):=⟨fun W L h=>kdown_ok h⟩;have HOT:As (∀W L,Heap w0 (.keeper b k::L) W→Calls Tryz.prog 110 #[.pointer (some ⟨b,0,none⟩)] W fun e w'=>e=.returned (.int .i64 (3-k.node))∧W=w'):=⟨fun W L h=>by
  obtain ⟨bj,hx⟩:=h.kpx_of;exact kother_ok hx⟩
 have HID:=zk (kid_ok id h0 h1);have HCELL:As (∀W L,Heap w0 (.keeper b k::L) W→W.cell? ⟨b,0,none⟩=some (.int .i64 k.node)∧b<W.heap.size):=⟨fun W L h=>by
  obtain ⟨bj,hx⟩:=h.kpx_of;obtain ⟨hp,g,cap,bb,bm,hx⟩:=hx.open_kpx;exact ⟨hx.cell 0 0 rfl rfl,hx.lt 0 rfl⟩⟩
 obtain ⟨c0,hlb⟩:=HCELL.out _ _ h;have HMM:=zk hm;obtain ⟨bj,hx⟩:=h.kpx_of;have hnode:=hx.open_kpx.1.node;have hfd:(frm != 0)=false∨((frm != 0)=true∧(frm != 3-k.node)=false):=by
  rcases hfr with rfl|rfl
  ·exact .inl rfl
  ·refine .inr ⟨by rcases hnode with e|e<;>rw [e]<;>rfl,by simp⟩
 clear h hb hm hx;unfold Msg.val;cases hd:k.j.down
 ·have HD2:As ((k.can kind id a q).2.j.down=false):=⟨by rw [(can_node k kind id a q).2.2];exact hd⟩;rw [hd] at HDN;have HRES:As (k.handle ⟨kind,frm,k.node,id,step,a,q⟩=((if (if (vNext (mgi k.st id) kind (k.can kind id a q).1).1=mgi k.st id then (true,(k.can kind id a q).2) else (k.can kind id a q).2.notes (kEnt (vNext (mgi k.st id) kind (k.can kind id a q).1).1 id a q)).1=false then [] else if (vNext (mgi k.st id) kind (k.can kind id a q).1).2=0 then [] else [⟨(vNext (mgi k.st id) kind (k.can kind id a q).1).2,k.node,if (vNext (mgi k.st id) kind (k.can kind id a q).1).2=11∨(vNext (mgi k.st id) kind (k.can kind id a q).1).2=17 then 0 else frm,id,0,0,0⟩]),(if (vNext (mgi k.st id) kind (k.can kind id a q).1).1=mgi k.st id then (true,(k.can kind id a q).2) else (k.can kind id a q).2.notes (kEnt (vNext (mgi k.st id) kind (k.can kind id a q).1).1 id a q)).2)):=⟨by unfold Keeper.handle;rw [if_neg (by simp [hd])]⟩;generalize k.handle ⟨kind,frm,k.node,id,step,a,q⟩=res at *;rcases hfd with hf1|⟨hf1,hf2⟩
  ·exact zKpb1
  ·exact zKpb1
 ·rw [hd] at HDN;have HRES:As (k.handle ⟨kind,frm,k.node,id,step,a,q⟩=([],k)):=⟨by unfold Keeper.handle;rw [if_pos hd]⟩;generalize k.handle ⟨kind,frm,k.node,id,step,a,q⟩=res at *;rcases hfd with hf1|⟨hf1,hf2⟩
  ·exact zKpb2
  ·exact zKpb2
end Go.Proofs.YtlnghlamnehfjaaGreatDoor.S
