/- Contracts and plain laws of the program, part N35. -/
import Derived.Test.YtlnghlamnehfjaaGreatDoorN10
import Derived.Test.YtlnghlamnehfjaaGreatDoorN21
import Derived.Test.YtlnghlamnehfjaaGreatDoorN26
import Derived.Test.YtlnghlamnehfjaaGreatDoorN27
import Derived.Test.YtlnghlamnehfjaaGreatDoorN29
import Derived.Test.YtlnghlamnehfjaaGreatDoorN31
import Derived.Test.YtlnghlamnehfjaaGreatDoorN32
import Derived.Test.YtlnghlamnehfjaaGreatDoorN33
import Derived.Test.YtlnghlamnehfjaaGreatDoorN34
set_option linter.unusedVariables false
set_option linter.unusedSimpArgs false
set_option maxRecDepth 100000
set_option maxHeartbeats 64000000
namespace Go.Proofs.YtlnghlamnehfjaaGreatDoor.S
open Go.RowKit Go.Maps
theorem zChc1 {P:Prop} (h:P:=by
 go_enter Tryz.func285,Tryz.ntmps285;go_wp2_with (fail);go_quiet (fail);go_wp2_with (fail);go_ret;exact ⟨by rw [HR.out];rfl,HH.out.drewN _⟩):P:=h
def Msg.box (m:Msg):Obj:=.cells #[.int .i64 m.kind,.int .i64 m.frm,.int .i64 m.to,.int .i64 m.id,.int .i64 m.step,.int .i64 m.a,.int .i64 m.b] 113
theorem lservice_ok {w0 w:World} {b:Nat} {x:Led} {R:List SA} {id:Int} (h:Heap w0 (.led b x::R) w) (hx:x.ok id) (m:Msg):
 Calls Tryz.prog 285 #[.pointer (some ⟨b,0,none⟩),m.val] w fun e w'=>e=.returned (.bool (x.service m.step m.frm))∧Heap w0 (.led b x::R) w':=by
 have HH:=zk (h.alloc m.box);have HS:As (x.service m.step m.frm=(decide (0≤m.step)&&decide (m.step<x.o.steps.length)&&decide ((x.o.steps.map Sp.svc).getD m.step.toNat 0=m.frm))):=⟨rfl⟩;obtain ⟨vs,vd,vu,tb,hpa,h⟩:=h.open_led;obtain ⟨c0,c1,c2,c3,c4,c5,c6,c7,c8,c9,c10,c11,c12,c13,c14,c15,c16,c17,cf⟩:=h.cA8 0 rfl;have hlb:=h.lt 0 rfl;obtain ⟨as1,ks,rfl⟩:=vS2 (h.row 1 rfl);have H:=zk h;have hl3:=hx.o.len;clear h hpa hx;obtain ⟨kind,frm,tt,id',step,a,mb⟩:=m;unfold Msg.box at HH;simp only at HS HH;unfold Msg.val;simp only;generalize x.service step frm=res at *;by_cases h0:0≤step
 ·by_cases h1:step<(x.o.steps.length:Int)
  ·obtain ⟨k,rfl⟩:=Int.eq_ofNat_of_zero_le h0;have hk:k<x.o.steps.length:=by omega
   rcases H.out.shp 1 rfl with ⟨-,hz, -⟩|⟨g,cap,hv, -, -,hcel⟩
   ·omega
   obtain ⟨rfl,rfl⟩:as1=some ⟨g,0,none⟩∧ks=cap:=by cases hv;exact ⟨rfl,rfl⟩
   have x0:w.cell? ⟨g,k*2,none⟩=some (.int .i64 x.o.steps[k].svc):=hcel (k*2+0) _ (scells_get x.o.steps k 0 hk (by omega));have hgl:=World.block_lt_of_cell? w _ x0;have HR:As (res=(x.o.steps[k].svc==frm)):=⟨by
    rw [HS.out,show (x.o.steps[k].svc==frm)=decide (x.o.steps[k].svc=frm) from rfl];simp [hk]⟩
   generalize x.o.steps[k].svc=sv at *;clear hcel hv;exact zChc1
  ·have hd:decide (step<(x.o.steps.length:Int))=false:=by simpa using h1
   have HR:As (res=false):=⟨by rw [HS.out,hd];simp⟩;clear h1;exact zChc1
 ·have hd:decide (0≤step)=false:=by simpa using h0
  have HR:As (res=false):=⟨by rw [HS.out,hd];simp⟩;clear h0;exact zChc1
theorem Heap.one_msg {w0 w:World} {R:List SA} {g:Nat} {m:Msg} (h:Heap w0 (.pts g m.box::R) w):Heap w0 (.slc (.slice (some ⟨g,0,none⟩) 1 1) 113 7 [m].length (mcells [m])::R) w:=by
 have:=Heap.asSlc (k:=1) (size:=7) (cs:= #[.int .i64 m.kind,.int .i64 m.frm,.int .i64 m.to,.int .i64 m.id,.int .i64 m.step,.int .i64 m.a,.int .i64 m.b]) h (by decide) rfl;exact this
def xptr (A:Int→Nat) (id:Int):Option Led→Value
 |none=>.pointer none
 |some _=>.pointer (some ⟨A id,0,none⟩)
theorem ctells_ok {w0 w:World} {b bj:Nat} {A:Int→Nat} {c:Chief} {R:List SA} (h:Heap w0 (.cha b bj A c::R) w) (m:Msg) (hf:m.frm=1∨m.frm=2):
 Calls Tryz.prog 280 #[.pointer (some ⟨b,0,none⟩),xptr A m.id (mget c.l m.id),m.val] w fun e w'=>∃v',e=.returned v'∧Heap w0 (.slc v' 113 7 (c.tells m).length (mcells (c.tells m))::.cha b bj A c::R) w':=by
 have HT:As (c.tells m=match mget c.l m.id with
  |none=> [⟨14,0,m.frm,m.id,0,0,0⟩]
  |some x=>if x.f.turned=true then [⟨14,0,m.frm,m.id,0,0,0⟩] else if x.f.yes=true then [⟨13,0,m.frm,m.id,0,0,0⟩] else []):=⟨rfl⟩
 have HK:=zk (ckeeper_ok m.frm hf);have HA:=zk (h.alloc m.box);have HB:=zk ((h.alloc m.box).new (Msg.box ⟨0,0,m.frm,m.id,0,0,0⟩));have HL:=zk (@led_at w0 w b bj A c R m.id);have H:=zk h;clear h hf;obtain ⟨kind,frm,tt,id,step,a,mb⟩:=m;unfold Msg.box at HB HA;simp only at HT HB HK HL HA;unfold Msg.val;simp only;generalize c.tells ⟨kind,frm,tt,id,step,a,mb⟩=res at *;cases hx:mget c.l id with
 |none=>
  simp only [hx] at HT;unfold xptr;simp only;go_enter Tryz.func280,Tryz.ntmps280;go_wp2_with (go_at_call 284;refine (HK.out _).mono ?_;rintro en w1 ⟨rfl,rfl⟩);go_ret;rw [HT.out];have h2:=Heap.nAt (n:=w.heap.size+1+1) (Heap.nAt (n:=w.heap.size+1) HA.out (Msg.box ⟨14,0,frm,id,0,0,0⟩) (by simp)) (Msg.box ⟨14,0,frm,id,0,0,0⟩) (by simp);exact ⟨_,rfl,h2.one_msg.sel (p:= [_,_,_]) [0,2] 3 rfl (by decide)⟩
 |some x=>
  simp only [hx] at HT;obtain ⟨vs,vd,vu,tb,⟨c0,c1,c2,c3,c4,c5,c6,c7,c8,c9,c10,c11,c12,c13,c14,c15,c16,c17,cf⟩,hlb⟩:=HL.out H.out hx;unfold xptr;simp only;cases ht:x.f.turned
  ·rw [ht] at c10 HT;cases hy:x.f.yes
   ·rw [hy] at c9 HT;simp only [Bool.false_eq_true,if_false] at HT;go_enter Tryz.func280,Tryz.ntmps280;go_wp2_with (go_at_call 284;refine (HK.out _).mono ?_;rintro en w1 ⟨rfl,rfl⟩);go_ret;rw [HT.out];exact ⟨_,rfl,HB.out.drop.nRw 113 7⟩
   ·rw [hy] at c9 HT;simp only [Bool.false_eq_true,if_false,if_true] at HT;go_enter Tryz.func280,Tryz.ntmps280;go_wp2_with (go_at_call 284;refine (HK.out _).mono ?_;rintro en w1 ⟨rfl,rfl⟩);go_ret;rw [HT.out];have h2:=Heap.nAt (n:=w.heap.size+1+1) (Heap.nAt (n:=w.heap.size+1) HA.out (Msg.box ⟨13,0,frm,id,0,0,0⟩) (by simp)) (Msg.box ⟨13,0,frm,id,0,0,0⟩) (by simp);exact ⟨_,rfl,h2.one_msg.sel (p:= [_,_,_]) [0,2] 3 rfl (by decide)⟩
  ·rw [ht] at c10 HT;simp only [if_true] at HT;go_enter Tryz.func280,Tryz.ntmps280;go_wp2_with (go_at_call 284;refine (HK.out _).mono ?_;rintro en w1 ⟨rfl,rfl⟩);go_ret;rw [HT.out];have h2:=Heap.nAt (n:=w.heap.size+1+1) (Heap.nAt (n:=w.heap.size+1) HA.out (Msg.box ⟨14,0,frm,id,0,0,0⟩) (by simp)) (Msg.box ⟨14,0,frm,id,0,0,0⟩) (by simp);exact ⟨_,rfl,h2.one_msg.sel (p:= [_,_,_]) [0,2] 3 rfl (by decide)⟩
theorem zChd1 {P:Prop} (h:P:=by
 go_simp;repeat (first
  |(refine vg rfl rfl ?_;apply ex2;intro w' hw';obtain ⟨q4,q3⟩:=hw';go_simp;rfl;go_simp)
  |(refine vgw rfl rfl ?_;apply ex2;intro w' hw';obtain ⟨q4,q3⟩:=hw';go_simp;rfl;go_simp)
  |(refine vgo rfl rfl ?_;go_simp)
  |(refine vs_ rfl (fun K hK=>?_);go_simp;refine hK _ ?_;clear hK K))
 refine veo rfl rfl ⟨⟨x4,x3⟩,?_⟩;go_simp;refine veo rfl rfl ⟨⟨x4,x3⟩,?_⟩;go_simp;refine veo rfl rfl ⟨⟨x4,x3⟩,?_⟩;go_simp;refine veo rfl rfl ⟨⟨x4,x3⟩,?_⟩;go_simp;repeat (first
  |(refine vg rfl rfl ?_;apply ex2;intro w' hw';obtain ⟨q4,q3⟩:=hw';go_simp;rfl;go_simp)
  |(refine vgw rfl rfl ?_;apply ex2;intro w' hw';obtain ⟨q4,q3⟩:=hw';go_simp;rfl;go_simp)
  |(refine vgo rfl rfl ?_;go_simp)
  |(refine vs_ rfl (fun K hK=>?_);go_simp;refine hK _ ?_;clear hK K))
 refine vn ?_;go_simp;go_wp2_with (fail);go_ret;rw [HST.out];exact ⟨_,rfl,(H1.out.drew.sel (p:= [_,_,_]) [0,2] 3 rfl (by decide)).nRw 113 7⟩):P:=h
theorem zChd2 {P:Prop} (h:P:=by
 refine ⟨⟨H2.out.cell 2 4 rfl rfl,H2.out.cell 2 3 rfl rfl⟩,?_⟩;go_simp;first
  |refine vew rfl rfl ?_
  |refine ve rfl rfl ?_
 go_wp2_with (go_at_call 101;refine (cey H2.out _ _ _ _ _).mono ?_;rintro en w3 ⟨rfl,h3⟩;have H3:=zk h3;clear h3);refine ⟨⟨H3.out.cell 2 4 rfl rfl,H3.out.cell 2 3 rfl rfl⟩,?_⟩;go_simp;first
  |refine vew rfl rfl ?_
  |refine ve rfl rfl ?_
 go_wp2_with (fail);refine ⟨⟨(H3.out.alloc _).cell 2 4 rfl rfl,(H3.out.alloc _).cell 2 3 rfl rfl⟩,?_⟩;go_simp;first
  |refine vew rfl rfl ?_
  |refine ve rfl rfl ?_
 go_wp2_with (go_at_call 132;refine (HN.out _ _ _ (H3.out.sel (p:= [_,_,_,_]) [1,3,0,2] 4 rfl (by decide))).mono ?_;rintro en w4 ⟨rfl,h4⟩;have H4:=zk h4;clear h4);refine ⟨⟨H4.out.cell 2 4 rfl rfl,H4.out.cell 2 3 rfl rfl⟩,?_⟩;go_simp;repeat (first
  |(refine vg rfl rfl ?_;apply ex2;intro w' hw';obtain ⟨q4,q3⟩:=hw';go_simp;rfl;go_simp)
  |(refine vgw rfl rfl ?_;apply ex2;intro w' hw';obtain ⟨q4,q3⟩:=hw';go_simp;rfl;go_simp)
  |(refine vgo rfl rfl ?_;go_simp)
  |(refine vs_ rfl (fun K hK=>?_);go_simp;refine hK _ ?_;clear hK K))
 refine vn ?_;go_simp;go_wp2_with (go_at_call 131;refine (HGO.out _ _ (H4.out.sel (p:= [_,_,_]) [0,1] 3 rfl (by decide))).mono ?_;rintro en w5 ⟨v5,rfl,h5⟩;have H5:=zk h5;clear h5);go_ret;rw [HST.out];exact ⟨_,rfl,H5.out⟩):P:=h
theorem zChd3 {P:Prop} (h:P:=by
 refine ⟨⟨H2.out.cell 2 4 rfl rfl,H2.out.cell 2 3 rfl rfl⟩,?_⟩;go_simp;first
  |refine vew rfl rfl ?_
  |refine ve rfl rfl ?_
 go_wp2_with (go_at_call 101;refine (cey H2.out _ _ _ _ _).mono ?_;rintro en w3 ⟨rfl,h3⟩;have H3:=zk h3;clear h3);refine ⟨⟨H3.out.cell 2 4 rfl rfl,H3.out.cell 2 3 rfl rfl⟩,?_⟩;go_simp;first
  |refine vew rfl rfl ?_
  |refine ve rfl rfl ?_
 go_wp2_with (fail);refine ⟨⟨(H3.out.alloc _).cell 2 4 rfl rfl,(H3.out.alloc _).cell 2 3 rfl rfl⟩,?_⟩;go_simp;first
  |refine vew rfl rfl ?_
  |refine ve rfl rfl ?_
 go_wp2_with (go_at_call 132;refine (HN.out _ _ _ (H3.out.sel (p:= [_,_,_,_]) [1,3,0,2] 4 rfl (by decide))).mono ?_;rintro en w4 ⟨rfl,h4⟩;have H4:=zk h4;clear h4);refine ⟨⟨H4.out.cell 2 4 rfl rfl,H4.out.cell 2 3 rfl rfl⟩,?_⟩;go_simp;repeat (first
  |(refine vg rfl rfl ?_;apply ex2;intro w' hw';obtain ⟨q4,q3⟩:=hw';go_simp;rfl;go_simp)
  |(refine vgw rfl rfl ?_;apply ex2;intro w' hw';obtain ⟨q4,q3⟩:=hw';go_simp;rfl;go_simp)
  |(refine vgo rfl rfl ?_;go_simp)
  |(refine vs_ rfl (fun K hK=>?_);go_simp;refine hK _ ?_;clear hK K))
 refine vn ?_;go_simp;go_wp2_with (fail);go_ret;rw [HST.out];exact ⟨_,rfl,(H4.out.sel (p:= [_,_,_]) [0,1] 3 rfl (by decide)).nRw 113 7⟩):P:=h
theorem zChd4 {P:Prop} (h:P:=by
 repeat (first
  |(refine vg rfl rfl ?_;apply ex2;intro w' hw';obtain ⟨q4,q3⟩:=hw';go_simp;rfl;go_simp)
  |(refine vgw rfl rfl ?_;apply ex2;intro w' hw';obtain ⟨q4,q3⟩:=hw';go_simp;rfl;go_simp)
  |(refine vgo rfl rfl ?_;go_simp)
  |(refine vs_ rfl (fun K hK=>?_);go_simp;refine hK _ ?_;clear hK K))
 refine veo rfl rfl ⟨⟨x4,x3⟩,?_⟩;exact zChd1):P:=h
theorem cservice_ok {w0 w:World} {b bj:Nat} {A:Int→Nat} {c:Chief} {R:List SA} {id:Int} {x:Led} (h:Heap w0 (.cha b bj A c::R) w) (hx:mget c.l id=some x) (m:Msg):
 Calls Tryz.prog 285 #[.pointer (some ⟨A id,0,none⟩),m.val] w fun e w'=>e=.returned (.bool (x.service m.step m.frm))∧Heap w0 (.cha b bj A c::R) w':=by
 obtain ⟨hp,bm,bt,h⟩:=h.cha_at hx;refine (lservice_ok h (hp.get hx).1 m).mono ?_;rintro e w' ⟨rfl,h'⟩;exact ⟨rfl,Heap.cha_same hp hx h'⟩
theorem cdk {w0 w:World} {b bj:Nat} {A:Int→Nat} {c:Chief} {R:List SA} {id:Int} {x:Led} (h:Heap w0 (.cha b bj A c::R) w) (hx:mget c.l id=some x):
 Calls Tryz.prog 98 #[.pointer (some ⟨A id,0,none⟩)] w fun e w'=>e=.returned (.bool x.decided)∧w=w':=by
 obtain ⟨hp,bm,bt,h⟩:=h.cha_at hx;exact ldecided_ok h
theorem led_rows {w0 w:World} {b bj:Nat} {A:Int→Nat} {c:Chief} {R:List SA} {id:Int} {x:Led} (h:Heap w0 (.cha b bj A c::R) w) (hx:mget c.l id=some x):∃vs vd vu tb,LedAt w (A id) x vs vd vu (x.tp tb)∧A id<w.heap.size∧(∃a m k,vd=.slice a m k)∧(∃a m k,vu=.slice a m k)∧w.ownsRow 0 4 1 vd x.f.done.length (bools x.f.done)∧w.ownsRow 0 4 1 vu x.f.undone.length (bools x.f.undone):=by
 obtain ⟨hp,bm,bt,h⟩:=h.cha_at hx;obtain ⟨vs,vd,vu,tb,hpa,h⟩:=h.open_led;exact ⟨vs,vd,vu,tb,h.cA8 0 rfl,h.lt 0 rfl,vslice2' (h.row 2 rfl),vslice2' (h.row 3 rfl),h.row 2 rfl,h.row 3 rfl⟩
theorem ent1_ok {id n:Int} (h0:1≤id) (h1:id≤999) (hn:0≤n∧n≤100) (k:Kd):Entry.ok ⟨k,id,[n]⟩:=⟨by simp only;omega,h1,by simp,by simp [numOk];omega⟩
theorem notes_down (c:Chief) (es:List Entry):(c.notes es).2.j.down=c.j.down:=by
 rw [notes_eq];split
 ·rfl
 ·exact (fold_used _ c).2.2
theorem cnoteN_ok {w0 w:World} {b bj:Nat} {A:Int→Nat} {c:Chief} {R:List SA} {k:Kd} {id n:Int} {g:Nat} (h:Heap w0 (.cha b bj A c::.jrn bj c.j::.pts g (.cells #[.int .i64 n] 3)::R) w) (hf:c.Fits ⟨k,id,[n]⟩) (he:Entry.ok ⟨k,id,[n]⟩) (hk:k≠ .begin) (hd:c.j.down=false):
 Calls Tryz.prog 132 #[.pointer (some ⟨b,0,none⟩),.slice (some ⟨w.heap.size,0,none⟩) 1 1] (w.alloc (.cells #[.string k.str,.int .i64 id,.slice (some ⟨g,0,none⟩) 1 1] 171)) fun en w'=>en=.returned (.bool (c.notes [⟨k,id,[n]⟩]).1)∧Heap w0 (.cha b bj A (c.notes [⟨k,id,[n]⟩]).2::.jrn bj (c.notes [⟨k,id,[n]⟩]).2.j::R) w':=by
 have h2:=Heap.asSlc (k:=1) (size:=1) (h.frt 2 rfl) (by decide) rfl;exact cnote1_ok (e:=⟨k,id,[n]⟩) (u:=.slice (some ⟨g,0,none⟩) 1 1) (h2.sel (p:= [_,_,_]) [1,2,0] 3 rfl (by decide)) hf he hk hd
theorem csureN_ok {w0 w:World} {b bj:Nat} {A:Int→Nat} {c:Chief} {R:List SA} {k:Kd} {id n:Int} {g:Nat} (h:Heap w0 (.cha b bj A c::.jrn bj c.j::.pts g (.cells #[.int .i64 n] 3)::R) w) (hf:c.Fits ⟨k,id,[n]⟩) (he:Entry.ok ⟨k,id,[n]⟩) (hk:k≠ .begin) (hd:c.j.down=false):
 Calls Tryz.prog 100 #[.pointer (some ⟨b,0,none⟩),.slice (some ⟨w.heap.size,0,none⟩) 1 1] (w.alloc (.cells #[.string k.str,.int .i64 id,.slice (some ⟨g,0,none⟩) 1 1] 171)) fun en w'=>en=.returned (.bool (c.sures [⟨k,id,[n]⟩]).1)∧Heap w0 (.cha b bj A (c.sures [⟨k,id,[n]⟩]).2::.jrn bj (c.sures [⟨k,id,[n]⟩]).2.j::R) w':=by
 have h2:=Heap.asSlc (k:=1) (size:=1) (h.frt 2 rfl) (by decide) rfl;exact csure1_ok (e:=⟨k,id,[n]⟩) (u:=.slice (some ⟨g,0,none⟩) 1 1) (h2.sel (p:= [_,_,_]) [1,2,0] 3 rfl (by decide)) hf he hk hd
theorem noteGo_eq (c:Chief) (e:Entry):c.noteGo e=if (c.notes [e]).1=true then (c.notes [e]).2.goes e.id else ([],(c.notes [e]).2):=rfl
theorem sureGo_eq (c:Chief) (e:Entry):c.sureGo e=if (c.sures [e]).1=true then (c.sures [e]).2.goes e.id else ([],(c.sures [e]).2):=rfl
theorem csteps_ok {w0 w:World} {b bj:Nat} {A:Int→Nat} {c:Chief} {R:List SA} {x:Led} (h:Heap w0 (.cha b bj A c::.jrn bj c.j::R) w) (m:Msg) (hx:mget c.l m.id=some x) (hk:m.kind=2∨m.kind=3∨m.kind=5) (hd:c.j.down=false):
 Calls Tryz.prog 281 #[.pointer (some ⟨b,0,none⟩),.pointer (some ⟨A m.id,0,none⟩),m.val] w (Sends w0 b bj A R (c.steps x m)):=by
 have hok:=(h.cha_ok).get hx;have HXO:=zk hok.1;have hi0:=hok.2.1;have hi1:=hok.2.2;have HST:As (c.steps x m=if x.service m.step m.frm=false then ([],c) else
  if (decide (m.kind=3)&& !x.decided)=true then ((c.turns m.id).1,(c.turns m.id).2.2) else
  if m.kind=2 then (if (!x.f.asked&& !x.decided&&decide (bfind x.f.done false=m.step))=true then c.noteGo ⟨.done,m.id,[m.step]⟩ else ([],c)) else
  if m.kind=5 then (if (x.f.turned&&decide (lastFalse x.f.undone=m.step))=true then c.noteGo ⟨.undone,m.id,[m.step]⟩ else ([],c)) else ([],c)):=⟨rfl⟩
 have HX:=zk hx;have HD:=zk hd;have HB:=zk ((h.new m.box).frt 1 rfl);have HSV:As (∀W L,Heap w0 (.cha b bj A c::L) W→Calls Tryz.prog 285 #[.pointer (some ⟨A m.id,0,none⟩),m.val] W fun e w'=>e=.returned (.bool (x.service m.step m.frm))∧Heap w0 (.cha b bj A c::L) w'):=⟨fun W L h=>cservice_ok h HX.out m⟩;have HSL:As (x.service m.step m.frm=true→0≤m.step∧m.step<3):=⟨fun hs=>by
  have h3:=HXO.out.o.len;unfold Led.service at hs;simp only [Bool.and_eq_true,decide_eq_true_eq] at hs;omega⟩
 clear h hx hd hok;obtain ⟨kind,frm,tt,id,step,a,mb⟩:=m;unfold Msg.box at HB;simp only at HST HX HB HSV HSL hi0 hi1 hk;unfold Msg.val at *;simp only at HSV⊢;generalize c.steps x ⟨kind,frm,tt,id,step,a,mb⟩=res at *;generalize x.service step frm=sv at *;cases sv
 ·simp only [if_true] at HST;go_enter Tryz.func281,Tryz.ntmps281;go_wp2_with (go_at_call 285;refine (HSV.out _ _ HB.out).mono ?_;rintro en w1 ⟨rfl,h1⟩;obtain ⟨x0,x1,x2,x3,x4,x5,x6,xf⟩:=h1.cB7 1 rfl;obtain ⟨vs,vd,vu,tb,⟨y0,y1,y2,y3,y4,y5,y6,y7,y8,y9,y10,y11,y12,y13,y14,y15,y16,y17,yf⟩,hla,⟨ad,md,kd,rfl⟩,⟨au,mu,ku,rfl⟩,hrd,hru⟩:=led_rows h1 HX.out;have hlx:=h1.lt 1 rfl;have HRD:=zk hrd;have HRU:=zk hru;have H1:=zk h1;clear h1 hrd hru);go_ret;rw [HST.out];exact ⟨_,rfl,(H1.out.sel (p:= [_,_,_]) [0,2] 3 rfl (by decide)).nRw 113 7⟩
 ·simp only [Bool.true_eq_false,if_false] at HST;have hst:=HSL.out rfl;rcases hk with rfl|rfl|rfl
  ·simp only [Int.reduceEq,decide_false,Bool.false_and,Bool.false_eq_true,if_false,if_true] at HST;cases ha:x.f.asked
   ·rw [ha] at HST;have HA:=zk ha;cases hde:x.decided
    ·rw [hde] at HST;have HDE:=zk hde;by_cases hix:bfind x.f.done false=step
     ·simp only [hix,decide_true,Bool.not_false,Bool.and_self,if_true] at HST;have HIX:As (bfind x.f.done false=((step.toNat:Nat):Int)):=⟨by rw [hix];omega⟩;have HFT:As (c.Fits ⟨.done,id,[step]⟩):=⟨by
       have:=Chief.Fits.done (c:=c) id step.toNat x HX.out ha hde HIX.out;rw [Int.toNat_of_nonneg hst.1] at this;exact this⟩
      have HEO:=zk (ent1_ok (n:=step) hi0 hi1 (by omega) .done);have HGE:As (c.noteGo ⟨.done,id,[step]⟩=_):=⟨noteGo_eq c ⟨.done,id,[step]⟩⟩;have HN:As (∀W L g,Heap w0 (.cha b bj A c::.jrn bj c.j::.pts g (.cells #[.int .i64 step] 3)::L) W→Calls Tryz.prog 132 #[.pointer (some ⟨b,0,none⟩),.slice (some ⟨W.heap.size,0,none⟩) 1 1] (W.alloc (.cells #[.string (Kd.str .done),.int .i64 id,.slice (some ⟨g,0,none⟩) 1 1] 171)) fun en w'=>en=.returned (.bool (c.notes [⟨.done,id,[step]⟩]).1)∧Heap w0 (.cha b bj A (c.notes [⟨.done,id,[step]⟩]).2::.jrn bj (c.notes [⟨.done,id,[step]⟩]).2.j::L) w'):=⟨fun W L g h=>cnoteN_ok h HFT.out HEO.out (by simp) HD.out⟩;have HGX:=zk (fun h=>notes_get1 (c:=c) (e:=⟨.done,id,[step]⟩) (x:=x) h HX.out (by simp));have HDN:As ((c.notes [⟨.done,id,[step]⟩]).2.j.down=false):=⟨(notes_down _ _).trans HD.out⟩;rw [HGE.out] at HST;clear HGE;generalize c.notes [⟨.done,id,[step]⟩]=p at *;obtain ⟨okp,nc⟩:=p;simp only at HN HST HGX HDN;have hbs:(bfind x.f.done false==step)=true:=by simpa using hix
      clear hix hde ha;cases okp
      ·simp only [Bool.false_eq_true,if_false] at HST;go_enter Tryz.func281,Tryz.ntmps281;go_wp2_with (go_at_call 285;refine (HSV.out _ _ HB.out).mono ?_;rintro en w1 ⟨rfl,h1⟩;obtain ⟨x0,x1,x2,x3,x4,x5,x6,xf⟩:=h1.cB7 1 rfl;obtain ⟨vs,vd,vu,tb,⟨y0,y1,y2,y3,y4,y5,y6,y7,y8,y9,y10,y11,y12,y13,y14,y15,y16,y17,yf⟩,hla,⟨ad,md,kd,rfl⟩,⟨au,mu,ku,rfl⟩,hrd,hru⟩:=led_rows h1 HX.out;rw [HA.out] at y8;have hlx:=h1.lt 1 rfl;have HRD:=zk hrd;have HRU:=zk hru;have H1:=zk h1;clear h1 hrd hru);refine wro (fun W=>W.cell? ⟨w.heap.size,4,none⟩=some (.int .i64 step)∧W.cell? ⟨w.heap.size,3,none⟩=some (.int .i64 id)) [(0,.f),(1,.f),(2,.f),(3,.f),(4,.s),(5,.f),(6,.f),(7,.f),(8,.e),(9,.f),(10,.f),(11,.f),(12,.f),(13,.f),(14,.f),(15,.f),(16,.s),(18,.f),(19,.f),(17,.e),(20,.f),(21,.f),(22,.f),(23,.f),(24,.f),(25,.f),(26,.f),(27,.s),(28,.e),(29,.e),(30,.e),(31,.e),(32,.f),(33,.f)] ⟨x4,x3⟩ ?_;repeat (first
        |(refine vg rfl rfl ?_;apply ex2;intro w' hw';obtain ⟨q4,q3⟩:=hw';go_simp;rfl;go_simp)
        |(refine vgw rfl rfl ?_;apply ex2;intro w' hw';obtain ⟨q4,q3⟩:=hw';go_simp;rfl;go_simp)
        |(refine vgo rfl rfl ?_;go_simp)
        |(refine vs_ rfl (fun K hK=>?_);go_simp;refine hK _ ?_;clear hK K))
       first
        |refine vew rfl rfl ?_
        |refine ve rfl rfl ?_
       go_wp2_with (go_at_call 98;refine (cdk (H1.out.drew) HX.out).mono ?_;rintro en w2 ⟨rfl,rfl⟩;rw [HDE.out]);refine ⟨⟨x4,x3⟩,?_⟩;go_simp;repeat (first
        |(refine vg rfl rfl ?_;apply ex2;intro w' hw';obtain ⟨q4,q3⟩:=hw';go_simp;rfl;go_simp)
        |(refine vgw rfl rfl ?_;apply ex2;intro w' hw';obtain ⟨q4,q3⟩:=hw';go_simp;rfl;go_simp)
        |(refine vgo rfl rfl ?_;go_simp)
        |(refine vs_ rfl (fun K hK=>?_);go_simp;refine hK _ ?_;clear hK K))
       first
        |refine vew rfl rfl ?_
        |refine ve rfl rfl ?_
       go_wp2_with (go_at_call 124;refine (bindex_ok _ _ _ _ (row_below HRD.out (Below.refl _ _).drew) (by have:=(mpt HXO.out.may).1;have:=HXO.out.o.len;omega)).mono ?_;rintro en w2 ⟨rfl,rfl⟩);refine ⟨⟨x4,x3⟩,?_⟩;go_simp;repeat (first
        |(refine vg rfl rfl ?_;apply ex2;intro w' hw';obtain ⟨q4,q3⟩:=hw';go_simp;rfl;go_simp)
        |(refine vgw rfl rfl ?_;apply ex2;intro w' hw';obtain ⟨q4,q3⟩:=hw';go_simp;rfl;go_simp)
        |(refine vgo rfl rfl ?_;go_simp)
        |(refine vs_ rfl (fun K hK=>?_);go_simp;refine hK _ ?_;clear hK K))
       first
        |refine vew rfl rfl ?_
        |refine ve rfl rfl ?_
       go_wp2_with (fail);have H2:=zk ((H1.out.new (.cells #[.int .i64 step] 3)).drew);exact zChd3
      ·simp only [if_true] at HST;have HGO:As (∀W L,Heap w0 (.cha b bj A nc::.jrn bj nc.j::L) W→Calls Tryz.prog 131 #[.pointer (some ⟨b,0,none⟩),.pointer (some ⟨A id,0,none⟩)] W (Sends w0 b bj A L (nc.goes id))):=⟨fun W L h=>cgoes_ok h (HGX.out rfl) HDN.out⟩;generalize nc.goes id=rg at *;go_enter Tryz.func281,Tryz.ntmps281;go_wp2_with (go_at_call 285;refine (HSV.out _ _ HB.out).mono ?_;rintro en w1 ⟨rfl,h1⟩;obtain ⟨x0,x1,x2,x3,x4,x5,x6,xf⟩:=h1.cB7 1 rfl;obtain ⟨vs,vd,vu,tb,⟨y0,y1,y2,y3,y4,y5,y6,y7,y8,y9,y10,y11,y12,y13,y14,y15,y16,y17,yf⟩,hla,⟨ad,md,kd,rfl⟩,⟨au,mu,ku,rfl⟩,hrd,hru⟩:=led_rows h1 HX.out;rw [HA.out] at y8;have hlx:=h1.lt 1 rfl;have HRD:=zk hrd;have HRU:=zk hru;have H1:=zk h1;clear h1 hrd hru);refine wro (fun W=>W.cell? ⟨w.heap.size,4,none⟩=some (.int .i64 step)∧W.cell? ⟨w.heap.size,3,none⟩=some (.int .i64 id)) [(0,.f),(1,.f),(2,.f),(3,.f),(4,.s),(5,.f),(6,.f),(7,.f),(8,.e),(9,.f),(10,.f),(11,.f),(12,.f),(13,.f),(14,.f),(15,.f),(16,.s),(18,.f),(19,.f),(17,.e),(20,.f),(21,.f),(22,.f),(23,.f),(24,.f),(25,.f),(26,.f),(27,.s),(28,.e),(29,.e),(30,.e),(31,.e),(32,.f),(33,.f)] ⟨x4,x3⟩ ?_;repeat (first
        |(refine vg rfl rfl ?_;apply ex2;intro w' hw';obtain ⟨q4,q3⟩:=hw';go_simp;rfl;go_simp)
        |(refine vgw rfl rfl ?_;apply ex2;intro w' hw';obtain ⟨q4,q3⟩:=hw';go_simp;rfl;go_simp)
        |(refine vgo rfl rfl ?_;go_simp)
        |(refine vs_ rfl (fun K hK=>?_);go_simp;refine hK _ ?_;clear hK K))
       first
        |refine vew rfl rfl ?_
        |refine ve rfl rfl ?_
       go_wp2_with (go_at_call 98;refine (cdk (H1.out.drew) HX.out).mono ?_;rintro en w2 ⟨rfl,rfl⟩;rw [HDE.out]);refine ⟨⟨x4,x3⟩,?_⟩;go_simp;repeat (first
        |(refine vg rfl rfl ?_;apply ex2;intro w' hw';obtain ⟨q4,q3⟩:=hw';go_simp;rfl;go_simp)
        |(refine vgw rfl rfl ?_;apply ex2;intro w' hw';obtain ⟨q4,q3⟩:=hw';go_simp;rfl;go_simp)
        |(refine vgo rfl rfl ?_;go_simp)
        |(refine vs_ rfl (fun K hK=>?_);go_simp;refine hK _ ?_;clear hK K))
       first
        |refine vew rfl rfl ?_
        |refine ve rfl rfl ?_
       go_wp2_with (go_at_call 124;refine (bindex_ok _ _ _ _ (row_below HRD.out (Below.refl _ _).drew) (by have:=(mpt HXO.out.may).1;have:=HXO.out.o.len;omega)).mono ?_;rintro en w2 ⟨rfl,rfl⟩);refine ⟨⟨x4,x3⟩,?_⟩;go_simp;repeat (first
        |(refine vg rfl rfl ?_;apply ex2;intro w' hw';obtain ⟨q4,q3⟩:=hw';go_simp;rfl;go_simp)
        |(refine vgw rfl rfl ?_;apply ex2;intro w' hw';obtain ⟨q4,q3⟩:=hw';go_simp;rfl;go_simp)
        |(refine vgo rfl rfl ?_;go_simp)
        |(refine vs_ rfl (fun K hK=>?_);go_simp;refine hK _ ?_;clear hK K))
       first
        |refine vew rfl rfl ?_
        |refine ve rfl rfl ?_
       go_wp2_with (fail);have H2:=zk ((H1.out.new (.cells #[.int .i64 step] 3)).drew);exact zChd2
     ·have hbs:(bfind x.f.done false==step)=false:=by simpa using hix
      simp only [hix,decide_false,Bool.and_false,Bool.false_eq_true,if_false] at HST;clear hix hde ha;go_enter Tryz.func281,Tryz.ntmps281;go_wp2_with (go_at_call 285;refine (HSV.out _ _ HB.out).mono ?_;rintro en w1 ⟨rfl,h1⟩;obtain ⟨x0,x1,x2,x3,x4,x5,x6,xf⟩:=h1.cB7 1 rfl;obtain ⟨vs,vd,vu,tb,⟨y0,y1,y2,y3,y4,y5,y6,y7,y8,y9,y10,y11,y12,y13,y14,y15,y16,y17,yf⟩,hla,⟨ad,md,kd,rfl⟩,⟨au,mu,ku,rfl⟩,hrd,hru⟩:=led_rows h1 HX.out;rw [HA.out] at y8;have hlx:=h1.lt 1 rfl;have HRD:=zk hrd;have HRU:=zk hru;have H1:=zk h1;clear h1 hrd hru);refine wro (fun W=>W.cell? ⟨w.heap.size,4,none⟩=some (.int .i64 step)∧W.cell? ⟨w.heap.size,3,none⟩=some (.int .i64 id)) [(0,.f),(1,.f),(2,.f),(3,.f),(4,.s),(5,.f),(6,.f),(7,.f),(8,.e),(9,.f),(10,.f),(11,.f),(12,.f),(13,.f),(14,.f),(15,.f),(16,.s),(18,.f),(19,.f),(17,.e),(20,.f),(21,.f),(22,.f),(23,.f),(24,.f),(25,.f),(26,.f),(27,.s),(28,.e),(29,.e),(30,.e),(31,.e),(32,.f),(33,.f)] ⟨x4,x3⟩ ?_;repeat (first
       |(refine vg rfl rfl ?_;apply ex2;intro w' hw';obtain ⟨q4,q3⟩:=hw';go_simp;rfl;go_simp)
       |(refine vgw rfl rfl ?_;apply ex2;intro w' hw';obtain ⟨q4,q3⟩:=hw';go_simp;rfl;go_simp)
       |(refine vgo rfl rfl ?_;go_simp)
       |(refine vs_ rfl (fun K hK=>?_);go_simp;refine hK _ ?_;clear hK K))
      first
       |refine vew rfl rfl ?_
       |refine ve rfl rfl ?_
      go_wp2_with (go_at_call 98;refine (cdk (H1.out.drew) HX.out).mono ?_;rintro en w2 ⟨rfl,rfl⟩;rw [HDE.out]);refine ⟨⟨x4,x3⟩,?_⟩;go_simp;repeat (first
       |(refine vg rfl rfl ?_;apply ex2;intro w' hw';obtain ⟨q4,q3⟩:=hw';go_simp;rfl;go_simp)
       |(refine vgw rfl rfl ?_;apply ex2;intro w' hw';obtain ⟨q4,q3⟩:=hw';go_simp;rfl;go_simp)
       |(refine vgo rfl rfl ?_;go_simp)
       |(refine vs_ rfl (fun K hK=>?_);go_simp;refine hK _ ?_;clear hK K))
      first
       |refine vew rfl rfl ?_
       |refine ve rfl rfl ?_
      go_wp2_with (go_at_call 124;refine (bindex_ok _ _ _ _ (row_below HRD.out (Below.refl _ _).drew) (by have:=(mpt HXO.out.may).1;have:=HXO.out.o.len;omega)).mono ?_;rintro en w2 ⟨rfl,rfl⟩);refine ⟨⟨x4,x3⟩,?_⟩;exact zChd1
    ·rw [hde] at HST;have HDE:=zk hde;simp only [Bool.not_true,Bool.and_false,Bool.false_and,Bool.false_eq_true,if_false] at HST;clear hde ha;go_enter Tryz.func281,Tryz.ntmps281;go_wp2_with (go_at_call 285;refine (HSV.out _ _ HB.out).mono ?_;rintro en w1 ⟨rfl,h1⟩;obtain ⟨x0,x1,x2,x3,x4,x5,x6,xf⟩:=h1.cB7 1 rfl;obtain ⟨vs,vd,vu,tb,⟨y0,y1,y2,y3,y4,y5,y6,y7,y8,y9,y10,y11,y12,y13,y14,y15,y16,y17,yf⟩,hla,⟨ad,md,kd,rfl⟩,⟨au,mu,ku,rfl⟩,hrd,hru⟩:=led_rows h1 HX.out;rw [HA.out] at y8;have hlx:=h1.lt 1 rfl;have HRD:=zk hrd;have HRU:=zk hru;have H1:=zk h1;clear h1 hrd hru);refine wro (fun W=>W.cell? ⟨w.heap.size,4,none⟩=some (.int .i64 step)∧W.cell? ⟨w.heap.size,3,none⟩=some (.int .i64 id)) [(0,.f),(1,.f),(2,.f),(3,.f),(4,.s),(5,.f),(6,.f),(7,.f),(8,.e),(9,.f),(10,.f),(11,.f),(12,.f),(13,.f),(14,.f),(15,.f),(16,.s),(18,.f),(19,.f),(17,.e),(20,.f),(21,.f),(22,.f),(23,.f),(24,.f),(25,.f),(26,.f),(27,.s),(28,.e),(29,.e),(30,.e),(31,.e),(32,.f),(33,.f)] ⟨x4,x3⟩ ?_;repeat (first
      |(refine vg rfl rfl ?_;apply ex2;intro w' hw';obtain ⟨q4,q3⟩:=hw';go_simp;rfl;go_simp)
      |(refine vgw rfl rfl ?_;apply ex2;intro w' hw';obtain ⟨q4,q3⟩:=hw';go_simp;rfl;go_simp)
      |(refine vgo rfl rfl ?_;go_simp)
      |(refine vs_ rfl (fun K hK=>?_);go_simp;refine hK _ ?_;clear hK K))
     first
      |refine vew rfl rfl ?_
      |refine ve rfl rfl ?_
     go_wp2_with (go_at_call 98;refine (cdk (H1.out.drew) HX.out).mono ?_;rintro en w2 ⟨rfl,rfl⟩;rw [HDE.out]);refine ⟨⟨x4,x3⟩,?_⟩;go_simp;exact zChd4
   ·rw [ha] at HST;have HA:=zk ha;simp only [Bool.not_true,Bool.false_and,Bool.false_eq_true,if_false] at HST;clear ha;go_enter Tryz.func281,Tryz.ntmps281;go_wp2_with (go_at_call 285;refine (HSV.out _ _ HB.out).mono ?_;rintro en w1 ⟨rfl,h1⟩;obtain ⟨x0,x1,x2,x3,x4,x5,x6,xf⟩:=h1.cB7 1 rfl;obtain ⟨vs,vd,vu,tb,⟨y0,y1,y2,y3,y4,y5,y6,y7,y8,y9,y10,y11,y12,y13,y14,y15,y16,y17,yf⟩,hla,⟨ad,md,kd,rfl⟩,⟨au,mu,ku,rfl⟩,hrd,hru⟩:=led_rows h1 HX.out;rw [HA.out] at y8;have hlx:=h1.lt 1 rfl;have HRD:=zk hrd;have HRU:=zk hru;have H1:=zk h1;clear h1 hrd hru);refine wro (fun W=>W.cell? ⟨w.heap.size,4,none⟩=some (.int .i64 step)∧W.cell? ⟨w.heap.size,3,none⟩=some (.int .i64 id)) [(0,.f),(1,.f),(2,.f),(3,.f),(4,.s),(5,.f),(6,.f),(7,.f),(8,.e),(9,.f),(10,.f),(11,.f),(12,.f),(13,.f),(14,.f),(15,.f),(16,.s),(18,.f),(19,.f),(17,.e),(20,.f),(21,.f),(22,.f),(23,.f),(24,.f),(25,.f),(26,.f),(27,.s),(28,.e),(29,.e),(30,.e),(31,.e),(32,.f),(33,.f)] ⟨x4,x3⟩ ?_;repeat (first
     |(refine vg rfl rfl ?_;apply ex2;intro w' hw';obtain ⟨q4,q3⟩:=hw';go_simp;rfl;go_simp)
     |(refine vgw rfl rfl ?_;apply ex2;intro w' hw';obtain ⟨q4,q3⟩:=hw';go_simp;rfl;go_simp)
     |(refine vgo rfl rfl ?_;go_simp)
     |(refine vs_ rfl (fun K hK=>?_);go_simp;refine hK _ ?_;clear hK K))
    refine veo rfl rfl ⟨⟨x4,x3⟩,?_⟩;go_simp;exact zChd4
  ·simp only [Int.reduceEq,decide_true,Bool.true_and,if_false] at HST;cases hde:x.decided
   ·rw [hde] at HST;have HDE:=zk hde;simp only [Bool.not_false,if_true] at HST;have HTU:As (∀W L,Heap w0 (.cha b bj A c::.jrn bj c.j::L) W→Calls Tryz.prog 99 #[.pointer (some ⟨b,0,none⟩),.pointer (some ⟨A id,0,none⟩)] W (SendsE w0 b bj A L (c.turns id))):=⟨fun W L h=>cturns_ok h HX.out HD.out HDE.out⟩;generalize c.turns id=rt at *;clear hde;go_enter Tryz.func281,Tryz.ntmps281;go_wp2_with (first|(go_at_call 285;refine (HSV.out _ _ HB.out).mono ?_;rintro en w1 ⟨rfl,h1⟩;obtain ⟨x0,x1,x2,x3,x4,x5,x6,xf⟩:=h1.cB7 1 rfl;obtain ⟨vs,vd,vu,tb,⟨y0,y1,y2,y3,y4,y5,y6,y7,y8,y9,y10,y11,y12,y13,y14,y15,y16,y17,yf⟩,hla,⟨ad,md,kd,rfl⟩,⟨au,mu,ku,rfl⟩,hrd,hru⟩:=led_rows h1 HX.out;have hlx:=h1.lt 1 rfl;have HRD:=zk hrd;have HRU:=zk hru;have H1:=zk h1;clear h1 hrd hru)|(go_at_call 98;refine (cdk (H1.out) HX.out).mono ?_;rintro en w2 ⟨rfl,rfl⟩;rw [HDE.out])|(go_at_call 99;refine (HTU.out _ _ (H1.out.frt 2 rfl |>.frt 1 rfl)).mono ?_;rintro en w3 ⟨v3,rfl,h3⟩;have H3:=zk h3;clear h3));go_ret;rw [HST.out];exact ⟨_,rfl,H3.out.sel (p:= [_,_,_,_]) [0,1,2] 4 rfl (by decide)⟩
   ·rw [hde] at HST;have HDE:=zk hde;simp only [Bool.not_true,Bool.false_eq_true,if_false] at HST;clear hde;go_enter Tryz.func281,Tryz.ntmps281;go_wp2_with (first|(go_at_call 285;refine (HSV.out _ _ HB.out).mono ?_;rintro en w1 ⟨rfl,h1⟩;obtain ⟨x0,x1,x2,x3,x4,x5,x6,xf⟩:=h1.cB7 1 rfl;obtain ⟨vs,vd,vu,tb,⟨y0,y1,y2,y3,y4,y5,y6,y7,y8,y9,y10,y11,y12,y13,y14,y15,y16,y17,yf⟩,hla,⟨ad,md,kd,rfl⟩,⟨au,mu,ku,rfl⟩,hrd,hru⟩:=led_rows h1 HX.out;have hlx:=h1.lt 1 rfl;have HRD:=zk hrd;have HRU:=zk hru;have H1:=zk h1;clear h1 hrd hru)|(go_at_call 98;refine (cdk (H1.out) HX.out).mono ?_;rintro en w2 ⟨rfl,rfl⟩;rw [HDE.out]));go_ret;rw [HST.out];exact ⟨_,rfl,(H1.out.sel (p:= [_,_,_]) [0,2] 3 rfl (by decide)).nRw 113 7⟩
  ·simp only [Int.reduceEq,decide_false,Bool.false_and,Bool.false_eq_true,if_false,if_true] at HST;cases ha:x.f.turned
   ·rw [ha] at HST;have HA:=zk ha;simp only [Bool.false_and,Bool.false_eq_true,if_false] at HST;clear ha;go_enter Tryz.func281,Tryz.ntmps281;go_wp2_with (go_at_call 285;refine (HSV.out _ _ HB.out).mono ?_;rintro en w1 ⟨rfl,h1⟩;obtain ⟨x0,x1,x2,x3,x4,x5,x6,xf⟩:=h1.cB7 1 rfl;obtain ⟨vs,vd,vu,tb,⟨y0,y1,y2,y3,y4,y5,y6,y7,y8,y9,y10,y11,y12,y13,y14,y15,y16,y17,yf⟩,hla,⟨ad,md,kd,rfl⟩,⟨au,mu,ku,rfl⟩,hrd,hru⟩:=led_rows h1 HX.out;rw [HA.out] at y10;have hlx:=h1.lt 1 rfl;have HRD:=zk hrd;have HRU:=zk hru;have H1:=zk h1;clear h1 hrd hru);refine wro (fun W=>W.cell? ⟨w.heap.size,4,none⟩=some (.int .i64 step)∧W.cell? ⟨w.heap.size,3,none⟩=some (.int .i64 id)) [(0,.f),(1,.f),(2,.f),(3,.f),(4,.s),(5,.f),(6,.f),(7,.f),(8,.f),(9,.f),(10,.s),(12,.f),(13,.f),(11,.e),(14,.f),(15,.f),(16,.f),(17,.f),(18,.f),(19,.f),(20,.f),(21,.s),(22,.e),(23,.e),(24,.e),(25,.e),(26,.f),(27,.f)] ⟨x4,x3⟩ ?_;exact zChd4
   ·rw [ha] at HST;have HA:=zk ha;by_cases hix:lastFalse x.f.undone=step
    ·simp only [hix,decide_true,Bool.and_self,if_true] at HST;have HIX:As (lastFalse x.f.undone=((step.toNat:Nat):Int)):=⟨by rw [hix];omega⟩;have HFT:As (c.Fits ⟨.undone,id,[step]⟩):=⟨by
      have:=Chief.Fits.undone (c:=c) id step.toNat x HX.out ha HIX.out;rw [Int.toNat_of_nonneg hst.1] at this;exact this⟩
     have HEO:=zk (ent1_ok (n:=step) hi0 hi1 (by omega) .undone);have HGE:As (c.noteGo ⟨.undone,id,[step]⟩=_):=⟨noteGo_eq c ⟨.undone,id,[step]⟩⟩;have HN:As (∀W L g,Heap w0 (.cha b bj A c::.jrn bj c.j::.pts g (.cells #[.int .i64 step] 3)::L) W→Calls Tryz.prog 132 #[.pointer (some ⟨b,0,none⟩),.slice (some ⟨W.heap.size,0,none⟩) 1 1] (W.alloc (.cells #[.string (Kd.str .undone),.int .i64 id,.slice (some ⟨g,0,none⟩) 1 1] 171)) fun en w'=>en=.returned (.bool (c.notes [⟨.undone,id,[step]⟩]).1)∧Heap w0 (.cha b bj A (c.notes [⟨.undone,id,[step]⟩]).2::.jrn bj (c.notes [⟨.undone,id,[step]⟩]).2.j::L) w'):=⟨fun W L g h=>cnoteN_ok h HFT.out HEO.out (by simp) HD.out⟩;have HGX:=zk (fun h=>notes_get1 (c:=c) (e:=⟨.undone,id,[step]⟩) (x:=x) h HX.out (by simp));have HDN:As ((c.notes [⟨.undone,id,[step]⟩]).2.j.down=false):=⟨(notes_down _ _).trans HD.out⟩;rw [HGE.out] at HST;clear HGE;generalize c.notes [⟨.undone,id,[step]⟩]=p at *;obtain ⟨okp,nc⟩:=p;simp only at HN HST HGX HDN;have hbs:(lastFalse x.f.undone==step)=true:=by simpa using hix
     clear hix ha;cases okp
     ·simp only [Bool.false_eq_true,if_false] at HST;go_enter Tryz.func281,Tryz.ntmps281;go_wp2_with (go_at_call 285;refine (HSV.out _ _ HB.out).mono ?_;rintro en w1 ⟨rfl,h1⟩;obtain ⟨x0,x1,x2,x3,x4,x5,x6,xf⟩:=h1.cB7 1 rfl;obtain ⟨vs,vd,vu,tb,⟨y0,y1,y2,y3,y4,y5,y6,y7,y8,y9,y10,y11,y12,y13,y14,y15,y16,y17,yf⟩,hla,⟨ad,md,kd,rfl⟩,⟨au,mu,ku,rfl⟩,hrd,hru⟩:=led_rows h1 HX.out;rw [HA.out] at y10;have hlx:=h1.lt 1 rfl;have HRD:=zk hrd;have HRU:=zk hru;have H1:=zk h1;clear h1 hrd hru);refine wro (fun W=>W.cell? ⟨w.heap.size,4,none⟩=some (.int .i64 step)∧W.cell? ⟨w.heap.size,3,none⟩=some (.int .i64 id)) [(0,.f),(1,.f),(2,.f),(3,.f),(4,.s),(5,.f),(6,.f),(7,.f),(8,.f),(9,.f),(10,.s),(12,.f),(13,.f),(11,.e),(14,.f),(15,.f),(16,.f),(17,.f),(18,.f),(19,.f),(20,.f),(21,.s),(22,.e),(23,.e),(24,.e),(25,.e),(26,.f),(27,.f)] ⟨x4,x3⟩ ?_;repeat (first
       |(refine vg rfl rfl ?_;apply ex2;intro w' hw';obtain ⟨q4,q3⟩:=hw';go_simp;rfl;go_simp)
       |(refine vgw rfl rfl ?_;apply ex2;intro w' hw';obtain ⟨q4,q3⟩:=hw';go_simp;rfl;go_simp)
       |(refine vgo rfl rfl ?_;go_simp)
       |(refine vs_ rfl (fun K hK=>?_);go_simp;refine hK _ ?_;clear hK K))
      first
       |refine vew rfl rfl ?_
       |refine ve rfl rfl ?_
      go_wp2_with (go_at_call 286;refine (lastFalse_ok _ _ _ H1.out.drew.tab (row_below HRU.out (Below.refl _ _).drew) (by have:=(mpt HXO.out.may).2.1;have:=HXO.out.o.len;omega)).mono ?_;rintro en w2 ⟨rfl,hb2⟩;have H1b:=zk (H1.out.drew.below hb2);clear hb2 x0 x1 x2 x3 x4 x5 x6 xf hlx;obtain ⟨x0,x1,x2,x3,x4,x5,x6,xf⟩:=H1b.out.cB7 1 rfl;have hlx:=H1b.out.lt 1 rfl);refine ⟨⟨H1b.out.cell 1 4 rfl rfl,H1b.out.cell 1 3 rfl rfl⟩,?_⟩;go_simp;repeat (first
       |(refine vg rfl rfl ?_;apply ex2;intro w' hw';obtain ⟨q4,q3⟩:=hw';go_simp;rfl;go_simp)
       |(refine vgw rfl rfl ?_;apply ex2;intro w' hw';obtain ⟨q4,q3⟩:=hw';go_simp;rfl;go_simp)
       |(refine vgo rfl rfl ?_;go_simp)
       |(refine vs_ rfl (fun K hK=>?_);go_simp;refine hK _ ?_;clear hK K))
      first
       |refine vew rfl rfl ?_
       |refine ve rfl rfl ?_
      go_wp2_with (fail);have H2:=zk ((H1b.out.new (.cells #[.int .i64 step] 3)));exact zChd3
     ·simp only [if_true] at HST;have HGO:As (∀W L,Heap w0 (.cha b bj A nc::.jrn bj nc.j::L) W→Calls Tryz.prog 131 #[.pointer (some ⟨b,0,none⟩),.pointer (some ⟨A id,0,none⟩)] W (Sends w0 b bj A L (nc.goes id))):=⟨fun W L h=>cgoes_ok h (HGX.out rfl) HDN.out⟩;generalize nc.goes id=rg at *;go_enter Tryz.func281,Tryz.ntmps281;go_wp2_with (go_at_call 285;refine (HSV.out _ _ HB.out).mono ?_;rintro en w1 ⟨rfl,h1⟩;obtain ⟨x0,x1,x2,x3,x4,x5,x6,xf⟩:=h1.cB7 1 rfl;obtain ⟨vs,vd,vu,tb,⟨y0,y1,y2,y3,y4,y5,y6,y7,y8,y9,y10,y11,y12,y13,y14,y15,y16,y17,yf⟩,hla,⟨ad,md,kd,rfl⟩,⟨au,mu,ku,rfl⟩,hrd,hru⟩:=led_rows h1 HX.out;rw [HA.out] at y10;have hlx:=h1.lt 1 rfl;have HRD:=zk hrd;have HRU:=zk hru;have H1:=zk h1;clear h1 hrd hru);refine wro (fun W=>W.cell? ⟨w.heap.size,4,none⟩=some (.int .i64 step)∧W.cell? ⟨w.heap.size,3,none⟩=some (.int .i64 id)) [(0,.f),(1,.f),(2,.f),(3,.f),(4,.s),(5,.f),(6,.f),(7,.f),(8,.f),(9,.f),(10,.s),(12,.f),(13,.f),(11,.e),(14,.f),(15,.f),(16,.f),(17,.f),(18,.f),(19,.f),(20,.f),(21,.s),(22,.e),(23,.e),(24,.e),(25,.e),(26,.f),(27,.f)] ⟨x4,x3⟩ ?_;repeat (first
       |(refine vg rfl rfl ?_;apply ex2;intro w' hw';obtain ⟨q4,q3⟩:=hw';go_simp;rfl;go_simp)
       |(refine vgw rfl rfl ?_;apply ex2;intro w' hw';obtain ⟨q4,q3⟩:=hw';go_simp;rfl;go_simp)
       |(refine vgo rfl rfl ?_;go_simp)
       |(refine vs_ rfl (fun K hK=>?_);go_simp;refine hK _ ?_;clear hK K))
      first
       |refine vew rfl rfl ?_
       |refine ve rfl rfl ?_
      go_wp2_with (go_at_call 286;refine (lastFalse_ok _ _ _ H1.out.drew.tab (row_below HRU.out (Below.refl _ _).drew) (by have:=(mpt HXO.out.may).2.1;have:=HXO.out.o.len;omega)).mono ?_;rintro en w2 ⟨rfl,hb2⟩;have H1b:=zk (H1.out.drew.below hb2);clear hb2 x0 x1 x2 x3 x4 x5 x6 xf hlx;obtain ⟨x0,x1,x2,x3,x4,x5,x6,xf⟩:=H1b.out.cB7 1 rfl;have hlx:=H1b.out.lt 1 rfl);refine ⟨⟨H1b.out.cell 1 4 rfl rfl,H1b.out.cell 1 3 rfl rfl⟩,?_⟩;go_simp;repeat (first
       |(refine vg rfl rfl ?_;apply ex2;intro w' hw';obtain ⟨q4,q3⟩:=hw';go_simp;rfl;go_simp)
       |(refine vgw rfl rfl ?_;apply ex2;intro w' hw';obtain ⟨q4,q3⟩:=hw';go_simp;rfl;go_simp)
       |(refine vgo rfl rfl ?_;go_simp)
       |(refine vs_ rfl (fun K hK=>?_);go_simp;refine hK _ ?_;clear hK K))
      first
       |refine vew rfl rfl ?_
       |refine ve rfl rfl ?_
      go_wp2_with (fail);have H2:=zk ((H1b.out.new (.cells #[.int .i64 step] 3)));exact zChd2
    ·have hbs:(lastFalse x.f.undone==step)=false:=by simpa using hix
     simp only [hix,decide_false,Bool.and_false,Bool.false_eq_true,if_false] at HST;clear hix ha;go_enter Tryz.func281,Tryz.ntmps281;go_wp2_with (go_at_call 285;refine (HSV.out _ _ HB.out).mono ?_;rintro en w1 ⟨rfl,h1⟩;obtain ⟨x0,x1,x2,x3,x4,x5,x6,xf⟩:=h1.cB7 1 rfl;obtain ⟨vs,vd,vu,tb,⟨y0,y1,y2,y3,y4,y5,y6,y7,y8,y9,y10,y11,y12,y13,y14,y15,y16,y17,yf⟩,hla,⟨ad,md,kd,rfl⟩,⟨au,mu,ku,rfl⟩,hrd,hru⟩:=led_rows h1 HX.out;rw [HA.out] at y10;have hlx:=h1.lt 1 rfl;have HRD:=zk hrd;have HRU:=zk hru;have H1:=zk h1;clear h1 hrd hru);refine wro (fun W=>W.cell? ⟨w.heap.size,4,none⟩=some (.int .i64 step)∧W.cell? ⟨w.heap.size,3,none⟩=some (.int .i64 id)) [(0,.f),(1,.f),(2,.f),(3,.f),(4,.s),(5,.f),(6,.f),(7,.f),(8,.f),(9,.f),(10,.s),(12,.f),(13,.f),(11,.e),(14,.f),(15,.f),(16,.f),(17,.f),(18,.f),(19,.f),(20,.f),(21,.s),(22,.e),(23,.e),(24,.e),(25,.e),(26,.f),(27,.f)] ⟨x4,x3⟩ ?_;repeat (first
      |(refine vg rfl rfl ?_;apply ex2;intro w' hw';obtain ⟨q4,q3⟩:=hw';go_simp;rfl;go_simp)
      |(refine vgw rfl rfl ?_;apply ex2;intro w' hw';obtain ⟨q4,q3⟩:=hw';go_simp;rfl;go_simp)
      |(refine vgo rfl rfl ?_;go_simp)
      |(refine vs_ rfl (fun K hK=>?_);go_simp;refine hK _ ?_;clear hK K))
     first
      |refine vew rfl rfl ?_
      |refine ve rfl rfl ?_
     go_wp2_with (go_at_call 286;refine (lastFalse_ok _ _ _ H1.out.drew.tab (row_below HRU.out (Below.refl _ _).drew) (by have:=(mpt HXO.out.may).2.1;have:=HXO.out.o.len;omega)).mono ?_;rintro en w2 ⟨rfl,hb2⟩;have H1b:=zk (H1.out.drew.below hb2);clear hb2 x0 x1 x2 x3 x4 x5 x6 xf hlx;obtain ⟨x0,x1,x2,x3,x4,x5,x6,xf⟩:=H1b.out.cB7 1 rfl;have hlx:=H1b.out.lt 1 rfl);refine ⟨⟨H1b.out.cell 1 4 rfl rfl,H1b.out.cell 1 3 rfl rfl⟩,?_⟩;go_simp;repeat (first
      |(refine vg rfl rfl ?_;apply ex2;intro w' hw';obtain ⟨q4,q3⟩:=hw';go_simp;rfl;go_simp)
      |(refine vgw rfl rfl ?_;apply ex2;intro w' hw';obtain ⟨q4,q3⟩:=hw';go_simp;rfl;go_simp)
      |(refine vgo rfl rfl ?_;go_simp)
      |(refine vs_ rfl (fun K hK=>?_);go_simp;refine hK _ ?_;clear hK K))
     refine veo rfl rfl ⟨⟨H1b.out.cell 1 4 rfl rfl,H1b.out.cell 1 3 rfl rfl⟩,?_⟩;go_simp;refine veo rfl rfl ⟨⟨H1b.out.cell 1 4 rfl rfl,H1b.out.cell 1 3 rfl rfl⟩,?_⟩;go_simp;refine veo rfl rfl ⟨⟨H1b.out.cell 1 4 rfl rfl,H1b.out.cell 1 3 rfl rfl⟩,?_⟩;go_simp;refine veo rfl rfl ⟨⟨H1b.out.cell 1 4 rfl rfl,H1b.out.cell 1 3 rfl rfl⟩,?_⟩;go_simp;repeat (first
      |(refine vg rfl rfl ?_;apply ex2;intro w' hw';obtain ⟨q4,q3⟩:=hw';go_simp;rfl;go_simp)
      |(refine vgw rfl rfl ?_;apply ex2;intro w' hw';obtain ⟨q4,q3⟩:=hw';go_simp;rfl;go_simp)
      |(refine vgo rfl rfl ?_;go_simp)
      |(refine vs_ rfl (fun K hK=>?_);go_simp;refine hK _ ?_;clear hK K))
     refine vn ?_;go_simp;go_wp2_with (fail);go_ret;rw [HST.out];exact ⟨_,rfl,(H1b.out.sel (p:= [_,_,_]) [0,2] 3 rfl (by decide)).nRw 113 7⟩
theorem zChe1 {P:Prop} (h:P:=by
 go_ret;rw [HVT.out];simp only;rw [HSY.out];exact ⟨_,rfl,(H5.out.sel (p:= [_,_,_]) [0,2] 3 rfl (by decide)).nRw 113 7⟩):P:=h
theorem equal1_ok {w0 w:World} {L:List SA} {l:List Int} {v:Value} (h:Heap w0 (.slc v 3 1 l.length (l.map (Value.int .i64))::L) w) (hl:0<l.length) (hl2:l.length≤100) (i:Int):
 Calls Tryz.prog 288 #[v,.slice (some ⟨w.heap.size,0,none⟩) 1 1] (w.alloc (.cells #[.int .i64 i] 3)) fun e w'=>e=.returned (.bool (l== [i]))∧Heap w0 (.slc v 3 1 l.length (l.map (Value.int .i64))::L) w':=by
 rcases h.shp 0 rfl with ⟨-,hz, -⟩|⟨g,cap,rfl, -, -,hcel⟩
 ·omega
 have h2:=h.new (.cells #[.int .i64 i] 3);refine (Tryz.slices_Equal_int g 0 l.length cap w.heap.size 0 1 1 l [i] _ (Nat.le_refl _) (by simp) (by omega) (by omega) (fun j hj=>?_) (fun j hj=>?_)).mono ?_
 ·rw [Nat.zero_add];refine h2.rowCell 1 rfl j _ ?_;simp [hj]
 ·simp only [List.length_cons,List.length_nil] at hj;obtain rfl:j=0:=by omega
  exact h2.cell 0 0 rfl rfl
 ·rintro e w' ⟨rfl,q,rfl⟩;refine ⟨?_,(h2.drop).drewN q⟩;simp
theorem cha_tally {w0 w:World} {b bj:Nat} {A:Int→Nat} {c:Chief} {R:List SA} {id:Int} {x:Led} {s0 s1:Bool} (h:Heap w0 (.cha b bj A c::R) w) (hx:mget c.l id=some x) (ht:x.t=some (s0,s1)):
 ∃tb,(w.cell? ⟨A id,17,none⟩=some (.pointer (some ⟨tb,0,none⟩))∧A id<w.heap.size)∧∃L:List SA,Heap w0 (.tally tb s0 s1::(L++R)) w∧
  (∀W,Heap w0 (.tally tb s0 s1::(L++R)) W→Heap w0 (.cha b bj A c::R) W)∧(∀W r0 r1,Heap w0 (.tally tb r0 r1::(L++R)) W→Heap w0 (.cha b bj A {c with l:=mput c.l id {x with t:=some (r0,r1)}}::R) W)∧
  (∀W X,Heap w0 (X::.tally tb s0 s1::(L++R)) W→W.cell? ⟨A id,17,none⟩=some (.pointer (some ⟨tb,0,none⟩))∧A id<W.heap.size):=by
 obtain ⟨hp,bm,bt,h⟩:=h.cha_at hx;obtain ⟨vs,vd,vu,tb,hpa,h⟩:=h.open_led;have e1:x.tp tb=.pointer (some ⟨tb,0,none⟩):=by simp [Led.tp,ht]
 have e2:x.tsa tb=.tally tb s0 s1:=by simp [Led.tsa,ht]
 rw [e1,e2] at h;refine ⟨tb,⟨h.cell 0 17 rfl rfl,h.lt 0 rfl⟩,[.pts (A id) (.cells (x.cells vs vd vu (.pointer (some ⟨tb,0,none⟩))) 125),.slc vs 131 2 x.o.steps.length (scells x.o.steps),.slc vd 4 1 x.f.done.length (bools x.f.done),.slc vu 4 1 x.f.undone.length (bools x.f.undone),.pts b (.cells (chc c bj bm bt) 121),.map bm (mkeys (fun k=>.pointer (some ⟨A k,0,none⟩)) c.l),bks (fun k x=>.led (A k) x) (mdel c.l id),.tower bt c.bells],h.frt 4 rfl,fun W hW=>?_,fun W r0 r1 hW=>?_,fun W X hW=>⟨hW.cell 2 17 rfl rfl,hW.lt 2 rfl⟩⟩
 ·have h2:=hW.sel (p:= [_,_,_,_,_,_,_,_,_]) [1,2,3,4,0,5,6,7,8] 9 rfl (by decide);refine Heap.cha_same hp hx (bm:=bm) (bt:=bt) ?_;refine Heap.shut_led (vs:=vs) (vd:=vd) (vu:=vu) (tb:=tb) hpa ?_;rw [e1,e2];exact h2
 ·have h2:=hW.sel (p:= [_,_,_,_,_,_,_,_,_]) [1,2,3,4,0,5,6,7,8] 9 rfl (by decide);have hok:=hp.get hx;refine Heap.cha_back (c:=c) (x:=x) (x':= {x with t:=some (r0,r1)}) (bm:=bm) (bt:=bt) hp ⟨hp.keys.put _ hok.2.1 hok.2.2,fun p hq=>?_,hp.bells,hp.t0,hp.t1,hp.r1,hp.used0,hp.used1⟩ hx rfl ?_
  ·rcases mem_mput hq with rfl|hq
   ·exact ⟨hok.1.o,hok.1.id,hok.1.may,by have:=hok.1.tally;rw [ht] at this;exact this,hok.1.full⟩
   ·exact hp.led p hq
  ·refine Heap.shut_led (vs:=vs) (vd:=vd) (vu:=vu) (tb:=tb) ⟨hpa.s,hpa.d,hpa.u⟩ ?_;exact h2
theorem cvotes_ok {w0 w:World} {b bj:Nat} {A:Int→Nat} {c:Chief} {R:List SA} {x:Led} (h:Heap w0 (.cha b bj A c::.jrn bj c.j::R) w) (m:Msg) (hx:mget c.l m.id=some x) (hk:m.kind=7∨m.kind=8) (hf:m.frm=1∨m.frm=2) (htt:x.t≠some (true,true)) (hd:c.j.down=false):
 Calls Tryz.prog 282 #[.pointer (some ⟨b,0,none⟩),.pointer (some ⟨A m.id,0,none⟩),m.val] w (Sends w0 b bj A R (c.votes x m)):=by
 have hok:=(h.cha_ok).get hx;have hi0:=hok.2.1;have hi1:=hok.2.2;have HVT:As (c.votes x m=match x.t with
  |none=>([],c)
  |some (a,b)=>if m.kind=8 then c.sureGo ⟨.turn,m.id,[]⟩ else
   if (if m.frm=1 then b&& !a else a&& !b)=true then c.sureGo ⟨.yes,m.id,[]⟩ else ([],{c with l:=mput c.l m.id (x.says (m.frm-1))})):=⟨rfl⟩
 have HX:=zk hx;have HD:=zk hd;have HB:=zk ((h.new m.box).frt 1 rfl);have HK:=zk (ckeeper_ok m.frm hf);have HTL:=hok.1.tally;clear h hd;obtain ⟨kind,frm,tt,id,step,a,mb⟩:=m;unfold Msg.box at HB;simp only at HVT HX HB HK hi0 hi1 hk hf hx;unfold Msg.val;simp only;generalize c.votes x ⟨kind,frm,tt,id,step,a,mb⟩=res at *;obtain ⟨x0,x1,x2,x3,x4,x5,x6,xf⟩:=HB.out.cB7 1 rfl;have hlx:=HB.out.lt 1 rfl;cases ht:x.t with
 |none=>
  obtain ⟨vs,vd,vu,tb,⟨y0,y1,y2,y3,y4,y5,y6,y7,y8,y9,y10,y11,y12,y13,y14,y15,y16,y17,yf⟩,hla⟩:=led_at HB.out hx;have e1:x.tp tb=.pointer none:=by simp [Led.tp,ht]
  rw [e1] at y17;simp only [ht] at HVT;clear hok hx ht e1 htt HTL;go_enter Tryz.func282,Tryz.ntmps282;go_wp2_with (go_at_call 284;refine (HK.out _).mono ?_;rintro en w1 ⟨rfl,rfl⟩);go_ret;rw [HVT.out];have h2:=HB.out;exact ⟨_,rfl,(h2.sel (p:= [_,_,_]) [0,2] 3 rfl (by decide)).nRw 113 7⟩
 |some ab=>
  obtain ⟨s0,s1⟩:=ab;have HDE:As (x.f.asked=true∧x.decided=false):=⟨by
   rw [ht] at HTL;simp only [Option.isSome_some] at HTL;simpa using HTL.symm⟩
  simp only [ht] at HVT;obtain ⟨tb,⟨y17,hla⟩,L,hL,hsame,hput,hcl⟩:=cha_tally HB.out hx ht;have HW:=zk (twaits_ok hL);have HSAME:=zk hsame;have HPUT:=zk hput;have HCL:=zk hcl;have HTN:As (¬(s0=true∧s1=true)):=⟨fun ⟨e0,e1⟩=>htt (by rw [ht,e0,e1])⟩;have HT:=zk ht;clear hok hx ht htt HTL hL hsame hput hcl;rcases hk with rfl|rfl
  ·rcases hf with rfl|rfl
   ·cases s0<;>cases s1
    ·simp only [Int.reduceEq,Bool.not_true,Bool.not_false,Bool.and_true,Bool.and_false,Bool.and_self,Bool.false_eq_true,if_false,if_true] at HVT;have hwt:waits false false 2= [0,1]:=rfl;rw [hwt] at HW;simp only [List.length_cons,List.length_nil,List.map_cons,List.map_nil,Nat.zero_add,Nat.reduceAdd] at HW;have HSY:As (x.says (1-1)= {x with t:=some (true,false)}):=⟨by unfold Led.says;rw [HT.out];rfl⟩;go_enter Tryz.func282,Tryz.ntmps282;go_wp2_with (first|(go_at_call 284;refine (HK.out _).mono ?_;rintro en w1 ⟨rfl,rfl⟩)|(go_at_call 287;refine HW.out.mono ?_;rintro en w2 ⟨v2,rfl,h2⟩;obtain ⟨av,cv,rfl⟩:=vS2 (h2.row 0 rfl);clear y17 hla x0 x1 x2 x3 x4 x5 x6 xf hlx;obtain ⟨y17,hla⟩:=HCL.out _ _ h2;have H2:=zk h2;have H2c:=zk (HSAME.out _ h2.drop);obtain ⟨x0,x1,x2,x3,x4,x5,x6,xf⟩:=H2c.out.cB7 1 rfl;have hlx:=H2c.out.lt 1 rfl;clear h2)|(go_at_call 288;refine (equal1_ok (l:= [0,1]) H2.out (by decide) (by decide) 0).mono ?_;rintro en w3 ⟨rfl,h3⟩;clear y17 hla x0 x1 x2 x3 x4 x5 x6 xf hlx;obtain ⟨y17,hla⟩:=HCL.out _ _ h3;have H3c:=zk h3.drop;have H3:=zk (HSAME.out _ h3.drop);obtain ⟨x0,x1,x2,x3,x4,x5,x6,xf⟩:=H3.out.cB7 1 rfl;have hlx:=H3.out.lt 1 rfl;clear h3)|(go_at_call 289;refine (tsay0_ok H3c.out).mono ?_;rintro en w5 ⟨rfl,h5⟩;have H5:=zk (HPUT.out _ _ _ h5);clear h5));exact zChe1
    ·simp only [Int.reduceEq,Bool.not_true,Bool.not_false,Bool.and_true,Bool.and_false,Bool.and_self,Bool.false_eq_true,if_false,if_true] at HVT;have hwt:waits false true 2= [0]:=rfl;rw [hwt] at HW;simp only [List.length_cons,List.length_nil,List.map_cons,List.map_nil,Nat.zero_add,Nat.reduceAdd] at HW;have HFT:As (c.Fits ⟨.yes,id,[]⟩):=⟨.yes id x HX.out HDE.out.1 HDE.out.2⟩;have HEO:=zk (asked_ok hi0 hi1 .yes);have HGE:As (c.sureGo ⟨.yes,id,[]⟩=_):=⟨sureGo_eq c ⟨.yes,id,[]⟩⟩;have HN:As (∀W L,Heap w0 (.cha b bj A c::.jrn bj c.j::L) W→Calls Tryz.prog 100 #[.pointer (some ⟨b,0,none⟩),.slice (some ⟨W.heap.size,0,none⟩) 1 1] (W.alloc (.cells #[.string (Kd.str .yes),.int .i64 id,.slice none 0 0] 171)) fun en w'=>en=.returned (.bool (c.sures [⟨.yes,id,[]⟩]).1)∧Heap w0 (.cha b bj A (c.sures [⟨.yes,id,[]⟩]).2::.jrn bj (c.sures [⟨.yes,id,[]⟩]).2.j::L) w'):=⟨fun W L h=>csure0_ok h HFT.out HEO.out (by simp) HD.out⟩;have HGX:=zk (fun h=>sures_get1 (c:=c) (e:=⟨.yes,id,[]⟩) (x:=x) h HX.out (by simp));have HDN:As ((c.sures [⟨.yes,id,[]⟩]).2.j.down=false):=⟨(sures_down _ _).trans HD.out⟩;rw [HGE.out] at HVT;clear HGE;generalize c.sures [⟨.yes,id,[]⟩]=p at *;obtain ⟨okp,nc⟩:=p;simp only at HN HVT HGX HDN;cases okp
     ·simp only [Bool.false_eq_true,if_false] at HVT;go_enter Tryz.func282,Tryz.ntmps282;go_wp2_with (first|(go_at_call 284;refine (HK.out _).mono ?_;rintro en w1 ⟨rfl,rfl⟩)|(go_at_call 287;refine HW.out.mono ?_;rintro en w2 ⟨v2,rfl,h2⟩;obtain ⟨av,cv,rfl⟩:=vS2 (h2.row 0 rfl);clear y17 hla x0 x1 x2 x3 x4 x5 x6 xf hlx;obtain ⟨y17,hla⟩:=HCL.out _ _ h2;have H2:=zk h2;have H2c:=zk (HSAME.out _ h2.drop);obtain ⟨x0,x1,x2,x3,x4,x5,x6,xf⟩:=H2c.out.cB7 1 rfl;have hlx:=H2c.out.lt 1 rfl;clear h2)|(go_at_call 288;refine (equal1_ok (l:= [0]) H2.out (by decide) (by decide) 0).mono ?_;rintro en w3 ⟨rfl,h3⟩;clear y17 hla x0 x1 x2 x3 x4 x5 x6 xf hlx;obtain ⟨y17,hla⟩:=HCL.out _ _ h3;have H3c:=zk h3.drop;have H3:=zk (HSAME.out _ h3.drop);obtain ⟨x0,x1,x2,x3,x4,x5,x6,xf⟩:=H3.out.cB7 1 rfl;have hlx:=H3.out.lt 1 rfl;clear h3)|(go_at_call 101;refine (cey (H3.out) _ _ _ _ _).mono ?_;rintro en w4 ⟨rfl,h4⟩;have H4:=zk h4;clear h4)|(go_at_call 100;refine (HN.out _ _ (H4.out.sel (p:= [_,_,_]) [0,2,1] 3 rfl (by decide))).mono ?_;rintro en w5 ⟨rfl,h5⟩;have H5:=zk (h5.sel (p:= [_,_,_]) [0,1] 3 rfl (by decide));clear h5));go_ret;rw [HVT.out];exact ⟨_,rfl,H5.out.nRw 113 7⟩
     ·simp only [if_true] at HVT;have HGO:As (∀W L,Heap w0 (.cha b bj A nc::.jrn bj nc.j::L) W→Calls Tryz.prog 131 #[.pointer (some ⟨b,0,none⟩),.pointer (some ⟨A id,0,none⟩)] W (Sends w0 b bj A L (nc.goes id))):=⟨fun W L h=>cgoes_ok h (HGX.out rfl) HDN.out⟩;generalize nc.goes id=rg at *;go_enter Tryz.func282,Tryz.ntmps282;go_wp2_with (first|(go_at_call 284;refine (HK.out _).mono ?_;rintro en w1 ⟨rfl,rfl⟩)|(go_at_call 287;refine HW.out.mono ?_;rintro en w2 ⟨v2,rfl,h2⟩;obtain ⟨av,cv,rfl⟩:=vS2 (h2.row 0 rfl);clear y17 hla x0 x1 x2 x3 x4 x5 x6 xf hlx;obtain ⟨y17,hla⟩:=HCL.out _ _ h2;have H2:=zk h2;have H2c:=zk (HSAME.out _ h2.drop);obtain ⟨x0,x1,x2,x3,x4,x5,x6,xf⟩:=H2c.out.cB7 1 rfl;have hlx:=H2c.out.lt 1 rfl;clear h2)|(go_at_call 288;refine (equal1_ok (l:= [0]) H2.out (by decide) (by decide) 0).mono ?_;rintro en w3 ⟨rfl,h3⟩;clear y17 hla x0 x1 x2 x3 x4 x5 x6 xf hlx;obtain ⟨y17,hla⟩:=HCL.out _ _ h3;have H3c:=zk h3.drop;have H3:=zk (HSAME.out _ h3.drop);obtain ⟨x0,x1,x2,x3,x4,x5,x6,xf⟩:=H3.out.cB7 1 rfl;have hlx:=H3.out.lt 1 rfl;clear h3)|(go_at_call 101;refine (cey (H3.out) _ _ _ _ _).mono ?_;rintro en w4 ⟨rfl,h4⟩;have H4:=zk h4;clear h4)|(go_at_call 100;refine (HN.out _ _ (H4.out.sel (p:= [_,_,_]) [0,2,1] 3 rfl (by decide))).mono ?_;rintro en w5 ⟨rfl,h5⟩;have H5:=zk (h5.sel (p:= [_,_,_]) [0,1] 3 rfl (by decide));clear h5)|(go_at_call 131;refine (HGO.out _ _ H5.out).mono ?_;rintro en w6 ⟨v6,rfl,h6⟩;have H6:=zk h6;clear h6));go_ret;rw [HVT.out];exact ⟨_,rfl,H6.out⟩
    ·simp only [Int.reduceEq,Bool.not_true,Bool.not_false,Bool.and_true,Bool.and_false,Bool.and_self,Bool.false_eq_true,if_false,if_true] at HVT;have hwt:waits true false 2= [1]:=rfl;rw [hwt] at HW;simp only [List.length_cons,List.length_nil,List.map_cons,List.map_nil,Nat.zero_add,Nat.reduceAdd] at HW;have HSY:As (x.says (1-1)= {x with t:=some (true,false)}):=⟨by unfold Led.says;rw [HT.out];rfl⟩;go_enter Tryz.func282,Tryz.ntmps282;go_wp2_with (first|(go_at_call 284;refine (HK.out _).mono ?_;rintro en w1 ⟨rfl,rfl⟩)|(go_at_call 287;refine HW.out.mono ?_;rintro en w2 ⟨v2,rfl,h2⟩;obtain ⟨av,cv,rfl⟩:=vS2 (h2.row 0 rfl);clear y17 hla x0 x1 x2 x3 x4 x5 x6 xf hlx;obtain ⟨y17,hla⟩:=HCL.out _ _ h2;have H2:=zk h2;have H2c:=zk (HSAME.out _ h2.drop);obtain ⟨x0,x1,x2,x3,x4,x5,x6,xf⟩:=H2c.out.cB7 1 rfl;have hlx:=H2c.out.lt 1 rfl;clear h2)|(go_at_call 288;refine (equal1_ok (l:= [1]) H2.out (by decide) (by decide) 0).mono ?_;rintro en w3 ⟨rfl,h3⟩;clear y17 hla x0 x1 x2 x3 x4 x5 x6 xf hlx;obtain ⟨y17,hla⟩:=HCL.out _ _ h3;have H3c:=zk h3.drop;have H3:=zk (HSAME.out _ h3.drop);obtain ⟨x0,x1,x2,x3,x4,x5,x6,xf⟩:=H3.out.cB7 1 rfl;have hlx:=H3.out.lt 1 rfl;clear h3)|(go_at_call 289;refine (tsay0_ok H3c.out).mono ?_;rintro en w5 ⟨rfl,h5⟩;have H5:=zk (HPUT.out _ _ _ h5);clear h5));exact zChe1
    ·exact absurd ⟨rfl,rfl⟩ HTN.out
   ·cases s0<;>cases s1
    ·simp only [Int.reduceEq,Bool.not_true,Bool.not_false,Bool.and_true,Bool.and_false,Bool.and_self,Bool.false_eq_true,if_false,if_true] at HVT;have hwt:waits false false 2= [0,1]:=rfl;rw [hwt] at HW;simp only [List.length_cons,List.length_nil,List.map_cons,List.map_nil,Nat.zero_add,Nat.reduceAdd] at HW;have HSY:As (x.says (2-1)= {x with t:=some (false,true)}):=⟨by unfold Led.says;rw [HT.out];rfl⟩;go_enter Tryz.func282,Tryz.ntmps282;go_wp2_with (first|(go_at_call 284;refine (HK.out _).mono ?_;rintro en w1 ⟨rfl,rfl⟩)|(go_at_call 287;refine HW.out.mono ?_;rintro en w2 ⟨v2,rfl,h2⟩;obtain ⟨av,cv,rfl⟩:=vS2 (h2.row 0 rfl);clear y17 hla x0 x1 x2 x3 x4 x5 x6 xf hlx;obtain ⟨y17,hla⟩:=HCL.out _ _ h2;have H2:=zk h2;have H2c:=zk (HSAME.out _ h2.drop);obtain ⟨x0,x1,x2,x3,x4,x5,x6,xf⟩:=H2c.out.cB7 1 rfl;have hlx:=H2c.out.lt 1 rfl;clear h2)|(go_at_call 288;refine (equal1_ok (l:= [0,1]) H2.out (by decide) (by decide) 1).mono ?_;rintro en w3 ⟨rfl,h3⟩;clear y17 hla x0 x1 x2 x3 x4 x5 x6 xf hlx;obtain ⟨y17,hla⟩:=HCL.out _ _ h3;have H3c:=zk h3.drop;have H3:=zk (HSAME.out _ h3.drop);obtain ⟨x0,x1,x2,x3,x4,x5,x6,xf⟩:=H3.out.cB7 1 rfl;have hlx:=H3.out.lt 1 rfl;clear h3)|(go_at_call 289;refine (tsay1_ok H3c.out).mono ?_;rintro en w5 ⟨rfl,h5⟩;have H5:=zk (HPUT.out _ _ _ h5);clear h5));exact zChe1
    ·simp only [Int.reduceEq,Bool.not_true,Bool.not_false,Bool.and_true,Bool.and_false,Bool.and_self,Bool.false_eq_true,if_false,if_true] at HVT;have hwt:waits false true 2= [0]:=rfl;rw [hwt] at HW;simp only [List.length_cons,List.length_nil,List.map_cons,List.map_nil,Nat.zero_add,Nat.reduceAdd] at HW;have HSY:As (x.says (2-1)= {x with t:=some (false,true)}):=⟨by unfold Led.says;rw [HT.out];rfl⟩;go_enter Tryz.func282,Tryz.ntmps282;go_wp2_with (first|(go_at_call 284;refine (HK.out _).mono ?_;rintro en w1 ⟨rfl,rfl⟩)|(go_at_call 287;refine HW.out.mono ?_;rintro en w2 ⟨v2,rfl,h2⟩;obtain ⟨av,cv,rfl⟩:=vS2 (h2.row 0 rfl);clear y17 hla x0 x1 x2 x3 x4 x5 x6 xf hlx;obtain ⟨y17,hla⟩:=HCL.out _ _ h2;have H2:=zk h2;have H2c:=zk (HSAME.out _ h2.drop);obtain ⟨x0,x1,x2,x3,x4,x5,x6,xf⟩:=H2c.out.cB7 1 rfl;have hlx:=H2c.out.lt 1 rfl;clear h2)|(go_at_call 288;refine (equal1_ok (l:= [0]) H2.out (by decide) (by decide) 1).mono ?_;rintro en w3 ⟨rfl,h3⟩;clear y17 hla x0 x1 x2 x3 x4 x5 x6 xf hlx;obtain ⟨y17,hla⟩:=HCL.out _ _ h3;have H3c:=zk h3.drop;have H3:=zk (HSAME.out _ h3.drop);obtain ⟨x0,x1,x2,x3,x4,x5,x6,xf⟩:=H3.out.cB7 1 rfl;have hlx:=H3.out.lt 1 rfl;clear h3)|(go_at_call 289;refine (tsay1_ok H3c.out).mono ?_;rintro en w5 ⟨rfl,h5⟩;have H5:=zk (HPUT.out _ _ _ h5);clear h5));exact zChe1
    ·simp only [Int.reduceEq,Bool.not_true,Bool.not_false,Bool.and_true,Bool.and_false,Bool.and_self,Bool.false_eq_true,if_false,if_true] at HVT;have hwt:waits true false 2= [1]:=rfl;rw [hwt] at HW;simp only [List.length_cons,List.length_nil,List.map_cons,List.map_nil,Nat.zero_add,Nat.reduceAdd] at HW;have HFT:As (c.Fits ⟨.yes,id,[]⟩):=⟨.yes id x HX.out HDE.out.1 HDE.out.2⟩;have HEO:=zk (asked_ok hi0 hi1 .yes);have HGE:As (c.sureGo ⟨.yes,id,[]⟩=_):=⟨sureGo_eq c ⟨.yes,id,[]⟩⟩;have HN:As (∀W L,Heap w0 (.cha b bj A c::.jrn bj c.j::L) W→Calls Tryz.prog 100 #[.pointer (some ⟨b,0,none⟩),.slice (some ⟨W.heap.size,0,none⟩) 1 1] (W.alloc (.cells #[.string (Kd.str .yes),.int .i64 id,.slice none 0 0] 171)) fun en w'=>en=.returned (.bool (c.sures [⟨.yes,id,[]⟩]).1)∧Heap w0 (.cha b bj A (c.sures [⟨.yes,id,[]⟩]).2::.jrn bj (c.sures [⟨.yes,id,[]⟩]).2.j::L) w'):=⟨fun W L h=>csure0_ok h HFT.out HEO.out (by simp) HD.out⟩;have HGX:=zk (fun h=>sures_get1 (c:=c) (e:=⟨.yes,id,[]⟩) (x:=x) h HX.out (by simp));have HDN:As ((c.sures [⟨.yes,id,[]⟩]).2.j.down=false):=⟨(sures_down _ _).trans HD.out⟩;rw [HGE.out] at HVT;clear HGE;generalize c.sures [⟨.yes,id,[]⟩]=p at *;obtain ⟨okp,nc⟩:=p;simp only at HN HVT HGX HDN;cases okp
     ·simp only [Bool.false_eq_true,if_false] at HVT;go_enter Tryz.func282,Tryz.ntmps282;go_wp2_with (first|(go_at_call 284;refine (HK.out _).mono ?_;rintro en w1 ⟨rfl,rfl⟩)|(go_at_call 287;refine HW.out.mono ?_;rintro en w2 ⟨v2,rfl,h2⟩;obtain ⟨av,cv,rfl⟩:=vS2 (h2.row 0 rfl);clear y17 hla x0 x1 x2 x3 x4 x5 x6 xf hlx;obtain ⟨y17,hla⟩:=HCL.out _ _ h2;have H2:=zk h2;have H2c:=zk (HSAME.out _ h2.drop);obtain ⟨x0,x1,x2,x3,x4,x5,x6,xf⟩:=H2c.out.cB7 1 rfl;have hlx:=H2c.out.lt 1 rfl;clear h2)|(go_at_call 288;refine (equal1_ok (l:= [1]) H2.out (by decide) (by decide) 1).mono ?_;rintro en w3 ⟨rfl,h3⟩;clear y17 hla x0 x1 x2 x3 x4 x5 x6 xf hlx;obtain ⟨y17,hla⟩:=HCL.out _ _ h3;have H3c:=zk h3.drop;have H3:=zk (HSAME.out _ h3.drop);obtain ⟨x0,x1,x2,x3,x4,x5,x6,xf⟩:=H3.out.cB7 1 rfl;have hlx:=H3.out.lt 1 rfl;clear h3)|(go_at_call 101;refine (cey (H3.out) _ _ _ _ _).mono ?_;rintro en w4 ⟨rfl,h4⟩;have H4:=zk h4;clear h4)|(go_at_call 100;refine (HN.out _ _ (H4.out.sel (p:= [_,_,_]) [0,2,1] 3 rfl (by decide))).mono ?_;rintro en w5 ⟨rfl,h5⟩;have H5:=zk (h5.sel (p:= [_,_,_]) [0,1] 3 rfl (by decide));clear h5));go_ret;rw [HVT.out];exact ⟨_,rfl,H5.out.nRw 113 7⟩
     ·simp only [if_true] at HVT;have HGO:As (∀W L,Heap w0 (.cha b bj A nc::.jrn bj nc.j::L) W→Calls Tryz.prog 131 #[.pointer (some ⟨b,0,none⟩),.pointer (some ⟨A id,0,none⟩)] W (Sends w0 b bj A L (nc.goes id))):=⟨fun W L h=>cgoes_ok h (HGX.out rfl) HDN.out⟩;generalize nc.goes id=rg at *;go_enter Tryz.func282,Tryz.ntmps282;go_wp2_with (first|(go_at_call 284;refine (HK.out _).mono ?_;rintro en w1 ⟨rfl,rfl⟩)|(go_at_call 287;refine HW.out.mono ?_;rintro en w2 ⟨v2,rfl,h2⟩;obtain ⟨av,cv,rfl⟩:=vS2 (h2.row 0 rfl);clear y17 hla x0 x1 x2 x3 x4 x5 x6 xf hlx;obtain ⟨y17,hla⟩:=HCL.out _ _ h2;have H2:=zk h2;have H2c:=zk (HSAME.out _ h2.drop);obtain ⟨x0,x1,x2,x3,x4,x5,x6,xf⟩:=H2c.out.cB7 1 rfl;have hlx:=H2c.out.lt 1 rfl;clear h2)|(go_at_call 288;refine (equal1_ok (l:= [1]) H2.out (by decide) (by decide) 1).mono ?_;rintro en w3 ⟨rfl,h3⟩;clear y17 hla x0 x1 x2 x3 x4 x5 x6 xf hlx;obtain ⟨y17,hla⟩:=HCL.out _ _ h3;have H3c:=zk h3.drop;have H3:=zk (HSAME.out _ h3.drop);obtain ⟨x0,x1,x2,x3,x4,x5,x6,xf⟩:=H3.out.cB7 1 rfl;have hlx:=H3.out.lt 1 rfl;clear h3)|(go_at_call 101;refine (cey (H3.out) _ _ _ _ _).mono ?_;rintro en w4 ⟨rfl,h4⟩;have H4:=zk h4;clear h4)|(go_at_call 100;refine (HN.out _ _ (H4.out.sel (p:= [_,_,_]) [0,2,1] 3 rfl (by decide))).mono ?_;rintro en w5 ⟨rfl,h5⟩;have H5:=zk (h5.sel (p:= [_,_,_]) [0,1] 3 rfl (by decide));clear h5)|(go_at_call 131;refine (HGO.out _ _ H5.out).mono ?_;rintro en w6 ⟨v6,rfl,h6⟩;have H6:=zk h6;clear h6));go_ret;rw [HVT.out];exact ⟨_,rfl,H6.out⟩
    ·exact absurd ⟨rfl,rfl⟩ HTN.out
  ·simp only [if_true] at HVT;have HFT:As (c.Fits ⟨.turn,id,[]⟩):=⟨.turn id x HX.out HDE.out.2⟩;have HEO:=zk (asked_ok hi0 hi1 .turn);have HGE:As (c.sureGo ⟨.turn,id,[]⟩=_):=⟨sureGo_eq c ⟨.turn,id,[]⟩⟩;have HN:As (∀W L,Heap w0 (.cha b bj A c::.jrn bj c.j::L) W→Calls Tryz.prog 100 #[.pointer (some ⟨b,0,none⟩),.slice (some ⟨W.heap.size,0,none⟩) 1 1] (W.alloc (.cells #[.string (Kd.str .turn),.int .i64 id,.slice none 0 0] 171)) fun en w'=>en=.returned (.bool (c.sures [⟨.turn,id,[]⟩]).1)∧Heap w0 (.cha b bj A (c.sures [⟨.turn,id,[]⟩]).2::.jrn bj (c.sures [⟨.turn,id,[]⟩]).2.j::L) w'):=⟨fun W L h=>csure0_ok h HFT.out HEO.out (by simp) HD.out⟩;have HGX:=zk (fun h=>sures_get1 (c:=c) (e:=⟨.turn,id,[]⟩) (x:=x) h HX.out (by simp));have HDN:As ((c.sures [⟨.turn,id,[]⟩]).2.j.down=false):=⟨(sures_down _ _).trans HD.out⟩;rw [HGE.out] at HVT;clear HGE;generalize c.sures [⟨.turn,id,[]⟩]=p at *;obtain ⟨okp,nc⟩:=p;simp only at HN HVT HGX HDN;cases okp
   ·simp only [Bool.false_eq_true,if_false] at HVT;go_enter Tryz.func282,Tryz.ntmps282;go_wp2_with (first|(go_at_call 284;refine (HK.out _).mono ?_;rintro en w1 ⟨rfl,rfl⟩)|(go_at_call 287;refine HW.out.mono ?_;rintro en w2 ⟨v2,rfl,h2⟩;obtain ⟨av,cv,rfl⟩:=vS2 (h2.row 0 rfl);clear y17 hla x0 x1 x2 x3 x4 x5 x6 xf hlx;obtain ⟨y17,hla⟩:=HCL.out _ _ h2;have H2:=zk h2;have H2c:=zk (HSAME.out _ h2.drop);obtain ⟨x0,x1,x2,x3,x4,x5,x6,xf⟩:=H2c.out.cB7 1 rfl;have hlx:=H2c.out.lt 1 rfl;clear h2;have H3:=zk H2c.out)|(go_at_call 101;refine (cey (H3.out) _ _ _ _ _).mono ?_;rintro en w4 ⟨rfl,h4⟩;have H4:=zk h4;clear h4)|(go_at_call 100;refine (HN.out _ _ (H4.out.sel (p:= [_,_,_]) [0,2,1] 3 rfl (by decide))).mono ?_;rintro en w5 ⟨rfl,h5⟩;have H5:=zk (h5.sel (p:= [_,_,_]) [0,1] 3 rfl (by decide));clear h5));go_ret;rw [HVT.out];exact ⟨_,rfl,H5.out.nRw 113 7⟩
   ·simp only [if_true] at HVT;have HGO:As (∀W L,Heap w0 (.cha b bj A nc::.jrn bj nc.j::L) W→Calls Tryz.prog 131 #[.pointer (some ⟨b,0,none⟩),.pointer (some ⟨A id,0,none⟩)] W (Sends w0 b bj A L (nc.goes id))):=⟨fun W L h=>cgoes_ok h (HGX.out rfl) HDN.out⟩;generalize nc.goes id=rg at *;go_enter Tryz.func282,Tryz.ntmps282;go_wp2_with (first|(go_at_call 284;refine (HK.out _).mono ?_;rintro en w1 ⟨rfl,rfl⟩)|(go_at_call 287;refine HW.out.mono ?_;rintro en w2 ⟨v2,rfl,h2⟩;obtain ⟨av,cv,rfl⟩:=vS2 (h2.row 0 rfl);clear y17 hla x0 x1 x2 x3 x4 x5 x6 xf hlx;obtain ⟨y17,hla⟩:=HCL.out _ _ h2;have H2:=zk h2;have H2c:=zk (HSAME.out _ h2.drop);obtain ⟨x0,x1,x2,x3,x4,x5,x6,xf⟩:=H2c.out.cB7 1 rfl;have hlx:=H2c.out.lt 1 rfl;clear h2;have H3:=zk H2c.out)|(go_at_call 101;refine (cey (H3.out) _ _ _ _ _).mono ?_;rintro en w4 ⟨rfl,h4⟩;have H4:=zk h4;clear h4)|(go_at_call 100;refine (HN.out _ _ (H4.out.sel (p:= [_,_,_]) [0,2,1] 3 rfl (by decide))).mono ?_;rintro en w5 ⟨rfl,h5⟩;have H5:=zk (h5.sel (p:= [_,_,_]) [0,1] 3 rfl (by decide));clear h5)|(go_at_call 131;refine (HGO.out _ _ H5.out).mono ?_;rintro en w6 ⟨v6,rfl,h6⟩;have H6:=zk h6;clear h6));go_ret;rw [HVT.out];exact ⟨_,rfl,H6.out⟩
theorem zChf1 {P:Prop} (h:P:=by
 go_wp2_with (fail);refine ⟨⟨H7.out.cell 4 0 rfl rfl,H7.out.cell 4 1 rfl rfl,H7.out.cell 4 2 rfl rfl,H7.out.cell 4 3 rfl rfl,H7.out.cell 4 4 rfl rfl,H7.out.cell 4 5 rfl rfl,H7.out.cell 4 6 rfl rfl⟩,?_⟩;go_simp;first
  |(refine vxp rfl rfl ?_;apply ex2;intro w';go_simp;rfl;go_simp)
  |(refine vxg (by kernel_rfl) rfl rfl ?_;apply ex2;intro w' hw';obtain ⟨q0,q1,q2,q3,q4,q5,q6⟩:=hw';go_simp;rfl;go_simp)
 refine vxn ?_;go_simp;go_wp2_with (fail);go_ret;rw [HAT.out];simp only;have hz:rg.1= []:=List.eq_nil_of_length_eq_zero HNL.out.1;rw [hz];exact ⟨_,rfl,H7.out.sel (p:= [_,_,_,_,_]) [3,1,2] 5 rfl (by decide)⟩):P:=h
theorem zChf2 {P:Prop} (h:P:=by
 subst hv;refine vxe rfl rfl rfl ?_;refine wla H7.out 3 _ 113 7 1 _ rfl rfl _ _ 84 rfl i0 _ 56 Tryz.underlying84 HI.out.1 HI.out.2.1 HI.out.2.2.1 HI.out.2.2.2 rfl (by decide) rfl ⟨g,0,none⟩ rg.1.length cap (mcells rg.1) rfl (mcells_len rg.1) (fun j u hu=>by rw [addr_add];exact hcs j u hu) (fun u hu=>by obtain ⟨m,_,hm⟩:=List.mem_flatMap.1 hu;exact msg_one m u hm) (by have:=HLEN.out;omega) (by decide) (by omega) ?_;intro g2 cap2 w8 h8 _;have H8:=zk h8;clear h8;go_wp2_with (fail);refine ⟨⟨H8.out.cell 4 0 rfl rfl,H8.out.cell 4 1 rfl rfl,H8.out.cell 4 2 rfl rfl,H8.out.cell 4 3 rfl rfl,H8.out.cell 4 4 rfl rfl,H8.out.cell 4 5 rfl rfl,H8.out.cell 4 6 rfl rfl⟩,?_⟩;go_simp;first
  |(refine vxp rfl rfl ?_;apply ex2;intro w';go_simp;rfl;go_simp)
  |(refine vxg (by kernel_rfl) rfl rfl ?_;apply ex2;intro w' hw';obtain ⟨q0,q1,q2,q3,q4,q5,q6⟩:=hw';go_simp;rfl;go_simp)
 refine vxn ?_;go_simp;go_wp2_with (fail);go_ret;rw [HAT.out];simp only;have h9:=H8.out.sel (p:= [_,_,_,_,_]) [3,1,2] 5 rfl (by decide);refine ⟨.slice (some ⟨g2,0,none⟩) (1+rg.1.length) cap2,rfl,?_⟩;rw [show (⟨18,0,1,id,0,0,0⟩::rg.1:List Msg).length=1+rg.1.length by simp;omega];exact h9):P:=h
theorem zChf3 {P:Prop} (h:P:=by
 subst hv;refine vxe rfl rfl rfl ?_;refine wla H7.out 3 _ 113 7 1 _ rfl rfl _ _ 84 rfl i0 _ 56 Tryz.underlying84 HI.out.1 HI.out.2.1 HI.out.2.2.1 HI.out.2.2.2 rfl (by decide) rfl ⟨g,0,none⟩ rg.1.length cap (mcells rg.1) rfl (mcells_len rg.1) (fun j u hu=>by rw [addr_add];exact hcs j u hu) (fun u hu=>by obtain ⟨m,_,hm⟩:=List.mem_flatMap.1 hu;exact msg_one m u hm) (by have:=HLEN.out;omega) (by decide) (by omega) ?_;intro g2 cap2 w8 h8 _;have H8:=zk h8;clear h8;go_wp2_with (fail);refine ⟨⟨H8.out.cell 4 0 rfl rfl,H8.out.cell 4 1 rfl rfl,H8.out.cell 4 2 rfl rfl,H8.out.cell 4 3 rfl rfl,H8.out.cell 4 4 rfl rfl,H8.out.cell 4 5 rfl rfl,H8.out.cell 4 6 rfl rfl⟩,?_⟩;go_simp;first
  |(refine vxp rfl rfl ?_;apply ex2;intro w';go_simp;rfl;go_simp)
  |(refine vxg (by kernel_rfl) rfl rfl ?_;apply ex2;intro w' hw';obtain ⟨q0,q1,q2,q3,q4,q5,q6⟩:=hw';go_simp;rfl;go_simp)
 refine vxn ?_;go_simp;go_wp2_with (fail);go_ret;rw [HAT.out];simp only;have h9:=H8.out.sel (p:= [_,_,_,_,_]) [3,1,2] 5 rfl (by decide);refine ⟨.slice (some ⟨g2,0,none⟩) (1+rg.1.length) cap2,rfl,?_⟩;rw [show (⟨18,0,2,id,0,0,0⟩::rg.1:List Msg).length=1+rg.1.length by simp;omega];exact h9):P:=h
theorem zChf4 {P:Prop} (h:P:=by
 go_enter Tryz.func283,Tryz.ntmps283;go_wp2_with (first|(go_at_call 284;refine (HK.out _).mono ?_;rintro en w1 ⟨rfl,rfl⟩)|(go_at_call 98;refine (cdk HB.out HX.out).mono ?_;rintro en w2 ⟨rfl,rfl⟩;rw [HDE.out]));go_ret;rw [HAT.out];exact ⟨_,rfl,(HB.out.sel (p:= [_,_,_]) [0,2] 3 rfl (by decide)).nRw 113 7⟩):P:=h
theorem sends_len (c:Chief) (x:Led):(c.sends x).1.length≤3:=by
 unfold Chief.sends;split
 ·split
  ·exact next_len _ _
  ·simp
 ·exact next_len _ _
theorem goes_len (c:Chief) (id:Int):(c.goes id).1.length≤3:=by
 unfold Chief.goes;split
 ·simp
 ·unfold Chief.goesX;split
  ·simp
  ·exact sends_len _ _
theorem cacks_ok {w0 w:World} {b bj:Nat} {A:Int→Nat} {c:Chief} {R:List SA} {x:Led} (h:Heap w0 (.cha b bj A c::.jrn bj c.j::R) w) (m:Msg) (hx:mget c.l m.id=some x) (hk:m.kind=11∨m.kind=17) (hf:m.frm=1∨m.frm=2) (hd:c.j.down=false):
 Calls Tryz.prog 283 #[.pointer (some ⟨b,0,none⟩),.pointer (some ⟨A m.id,0,none⟩),m.val] w (Sends w0 b bj A R (c.acks x m)):=by
 have hok:=(h.cha_ok).get hx;have hi0:=hok.2.1;have hi1:=hok.2.2;have HAT:As (c.acks x m=if x.decided=false then ([],c) else
  if m.kind=11 then (if x.ackOf m.frm=true then ([],c) else c.noteGo ⟨.ack,m.id,[m.frm]⟩) else
  if x.damOf m.frm=true then ([⟨18,0,m.frm,m.id,0,0,0⟩],c) else
  if (c.sures [⟨.damage,m.id,[m.frm]⟩]).1=true then (⟨18,0,m.frm,m.id,0,0,0⟩::((c.sures [⟨.damage,m.id,[m.frm]⟩]).2.goes m.id).1,((c.sures [⟨.damage,m.id,[m.frm]⟩]).2.goes m.id).2) else ([],(c.sures [⟨.damage,m.id,[m.frm]⟩]).2)):=⟨rfl⟩
 have HX:=zk hx;have HD:=zk hd;have HB:=zk ((h.new m.box).frt 1 rfl);obtain ⟨i0,hj0,hj1,hj2,hj3⟩:=info_parts info113;have HI:=zk (And.intro hj0 (And.intro hj1 (And.intro hj2 hj3)));clear hj0 hj1 hj2 hj3;clear h hd hok;obtain ⟨kind,frm,tt,id,step,a,mb⟩:=m;unfold Msg.box at HB;simp only at HAT HX HB hi0 hi1 hk hf hx;unfold Msg.val;simp only;generalize c.acks x ⟨kind,frm,tt,id,step,a,mb⟩=res at *;obtain ⟨x0,x1,x2,x3,x4,x5,x6,xf⟩:=HB.out.cB7 1 rfl;have hlx:=HB.out.lt 1 rfl;obtain ⟨vs,vd,vu,tb,⟨y0,y1,y2,y3,y4,y5,y6,y7,y8,y9,y10,y11,y12,y13,y14,y15,y16,y17,yf⟩,hla⟩:=led_at HB.out hx;have hw0:(IntKind.i64.wrap 0).toNat=0:=by decide
 have hw1:(IntKind.i64.wrap 1).toNat=1:=by decide
 clear hx;rcases hf with rfl|rfl
 ·have HK:As (∀W,Calls Tryz.prog 284 #[.int .i64 1] W fun e w'=>e=.returned (.tuple #[.int .i64 0,.bool true])∧W=w'):=⟨fun W=>ckeeper_ok 1 (.inl rfl) W⟩;cases hde:x.decided
  ·rw [hde] at HAT;have HDE:=zk hde;simp only [if_true] at HAT;exact zChf4
  ·rw [hde] at HAT;have HDE:=zk hde;clear hde;simp only [Bool.true_eq_false,if_false] at HAT;rcases hk with rfl|rfl
   ·simp only [if_true] at HAT;have HAO:As (x.ackOf 1=x.f.ack0):=⟨rfl⟩;rw [HAO.out] at HAT;cases ha:x.f.ack0
    ·rw [ha] at HAT y11;simp only [Bool.false_eq_true,if_false] at HAT;clear ha;have HFT:As (c.Fits ⟨.ack,id,[1]⟩):=⟨.ack id 1 x HX.out (.inl rfl) HDE.out⟩;have HEO:=zk (ent1_ok (n:=1) hi0 hi1 (by decide) .ack);have HGE:As (c.noteGo ⟨.ack,id,[1]⟩=_):=⟨noteGo_eq c ⟨.ack,id,[1]⟩⟩;have HN:As (∀W L g,Heap w0 (.cha b bj A c::.jrn bj c.j::.pts g (.cells #[.int .i64 1] 3)::L) W→Calls Tryz.prog 132 #[.pointer (some ⟨b,0,none⟩),.slice (some ⟨W.heap.size,0,none⟩) 1 1] (W.alloc (.cells #[.string (Kd.str .ack),.int .i64 id,.slice (some ⟨g,0,none⟩) 1 1] 171)) fun en w'=>en=.returned (.bool (c.notes [⟨.ack,id,[1]⟩]).1)∧Heap w0 (.cha b bj A (c.notes [⟨.ack,id,[1]⟩]).2::.jrn bj (c.notes [⟨.ack,id,[1]⟩]).2.j::L) w'):=⟨fun W L g h=>cnoteN_ok h HFT.out HEO.out (by simp) HD.out⟩;have HGX:=zk (fun h=>notes_get1 (c:=c) (e:=⟨.ack,id,[1]⟩) (x:=x) h HX.out (by simp));have HDN:As ((c.notes [⟨.ack,id,[1]⟩]).2.j.down=false):=⟨(notes_down _ _).trans HD.out⟩;rw [HGE.out] at HAT;clear HGE;generalize c.notes [⟨.ack,id,[1]⟩]=p at *;obtain ⟨okp,nc⟩:=p;simp only at HN HAT HGX HDN;cases okp
     ·simp only [Bool.false_eq_true,if_false] at HAT;go_enter Tryz.func283,Tryz.ntmps283;go_wp2_with (first|(go_at_call 284;refine (HK.out _).mono ?_;rintro en w1 ⟨rfl,rfl⟩)|(go_at_call 98;refine (cdk HB.out HX.out).mono ?_;rintro en w2 ⟨rfl,rfl⟩;rw [HDE.out])|(go_at_call 101;refine (cey (Heap.nAt (n:=w.heap.size+1) HB.out (.cells #[.int .i64 1] 3) (by simp)) _ _ _ _ _).mono ?_;rintro en w4 ⟨rfl,h4⟩;have H4:=zk h4;clear h4)|(go_at_call 132;refine (HN.out _ _ _ (H4.out.sel (p:= [_,_,_,_]) [1,3,0,2] 4 rfl (by decide))).mono ?_;rintro en w5 ⟨rfl,h5⟩;have H5:=zk (h5.sel (p:= [_,_,_]) [0,1] 3 rfl (by decide));clear h5));go_ret;rw [HAT.out];exact ⟨_,rfl,H5.out.nRw 113 7⟩
     ·simp only [if_true] at HAT;have HGO:As (∀W L,Heap w0 (.cha b bj A nc::.jrn bj nc.j::L) W→Calls Tryz.prog 131 #[.pointer (some ⟨b,0,none⟩),.pointer (some ⟨A id,0,none⟩)] W (Sends w0 b bj A L (nc.goes id))):=⟨fun W L h=>cgoes_ok h (HGX.out rfl) HDN.out⟩;generalize nc.goes id=rg at *;go_enter Tryz.func283,Tryz.ntmps283;go_wp2_with (first|(go_at_call 284;refine (HK.out _).mono ?_;rintro en w1 ⟨rfl,rfl⟩)|(go_at_call 98;refine (cdk HB.out HX.out).mono ?_;rintro en w2 ⟨rfl,rfl⟩;rw [HDE.out])|(go_at_call 101;refine (cey (Heap.nAt (n:=w.heap.size+1) HB.out (.cells #[.int .i64 1] 3) (by simp)) _ _ _ _ _).mono ?_;rintro en w4 ⟨rfl,h4⟩;have H4:=zk h4;clear h4)|(go_at_call 132;refine (HN.out _ _ _ (H4.out.sel (p:= [_,_,_,_]) [1,3,0,2] 4 rfl (by decide))).mono ?_;rintro en w5 ⟨rfl,h5⟩;have H5:=zk (h5.sel (p:= [_,_,_]) [0,1] 3 rfl (by decide));clear h5)|(go_at_call 131;refine (HGO.out _ _ H5.out).mono ?_;rintro en w6 ⟨v6,rfl,h6⟩;have H6:=zk h6;clear h6));go_ret;rw [HAT.out];exact ⟨_,rfl,H6.out⟩
    ·rw [ha] at HAT y11;simp only [if_true] at HAT;clear ha;exact zChf4
   ·simp only [Int.reduceEq,if_false] at HAT;have HAO:As (x.damOf 1=x.f.dam0):=⟨rfl⟩;rw [HAO.out] at HAT;have HBK:=zk (Heap.nAt (n:=w.heap.size+1) HB.out (Msg.box ⟨18,0,1,id,0,0,0⟩) (by simp));unfold Msg.box at HBK;simp only at HBK;obtain ⟨z0,z1,z2,z3,z4,z5,z6,zf⟩:=HBK.out.cB7 0 rfl;clear y0 y1 y2 y3 y4 y5 y6 y7 y8 y9 y10 y11 y12 y13 y14 y15 y16 y17 yf hla;obtain ⟨vs,vd,vu,tb,⟨y0,y1,y2,y3,y4,y5,y6,y7,y8,y9,y10,y11,y12,y13,y14,y15,y16,y17,yf⟩,hla⟩:=led_at (HBK.out.frt 1 rfl) HX.out;obtain ⟨u0,u1,u2,u3,u4,u5,u6,uf⟩:=HBK.out.cB7 2 rfl;cases ha:x.f.dam0
    ·rw [ha] at HAT y14;simp only [Bool.false_eq_true,if_false] at HAT;clear ha;have HFT:As (c.Fits ⟨.damage,id,[1]⟩):=⟨.damage id 1 x HX.out (.inl rfl) HDE.out⟩;have HEO:=zk (ent1_ok (n:=1) hi0 hi1 (by decide) .damage);have HN:As (∀W L g,Heap w0 (.cha b bj A c::.jrn bj c.j::.pts g (.cells #[.int .i64 1] 3)::L) W→Calls Tryz.prog 100 #[.pointer (some ⟨b,0,none⟩),.slice (some ⟨W.heap.size,0,none⟩) 1 1] (W.alloc (.cells #[.string (Kd.str .damage),.int .i64 id,.slice (some ⟨g,0,none⟩) 1 1] 171)) fun en w'=>en=.returned (.bool (c.sures [⟨.damage,id,[1]⟩]).1)∧Heap w0 (.cha b bj A (c.sures [⟨.damage,id,[1]⟩]).2::.jrn bj (c.sures [⟨.damage,id,[1]⟩]).2.j::L) w'):=⟨fun W L g h=>csureN_ok h HFT.out HEO.out (by simp) HD.out⟩;have HGX:=zk (fun h=>sures_get1 (c:=c) (e:=⟨.damage,id,[1]⟩) (x:=x) h HX.out (by simp));have HDN:As ((c.sures [⟨.damage,id,[1]⟩]).2.j.down=false):=⟨(sures_down _ _).trans HD.out⟩;generalize c.sures [⟨.damage,id,[1]⟩]=p at *;obtain ⟨okp,nc⟩:=p;simp only at HN HAT HGX HDN;cases okp
     ·simp only [Bool.false_eq_true,if_false] at HAT;go_enter Tryz.func283,Tryz.ntmps283;go_wp2_with (first|(go_at_call 284;refine (HK.out _).mono ?_;rintro en w1 ⟨rfl,rfl⟩)|(go_at_call 98;refine (cdk HB.out HX.out).mono ?_;rintro en w2 ⟨rfl,rfl⟩;rw [HDE.out])|(go_at_call 101;refine (cey (Heap.nAt (n:=w.heap.size+1+1) HBK.out (.cells #[.int .i64 1] 3) (by simp)) _ _ _ _ _).mono ?_;rintro en w4 ⟨rfl,h4⟩;have H4:=zk h4;clear h4)|(go_at_call 100;refine (HN.out _ _ _ (H4.out.sel (p:= [_,_,_,_,_]) [2,4,0,1] 5 rfl (by decide))).mono ?_;rintro en w5 ⟨rfl,h5⟩;clear z0 z1 z2 z3 z4 z5 z6 zf;obtain ⟨z0,z1,z2,z3,z4,z5,z6,zf⟩:=h5.cB7 2 rfl;have hlz:=h5.lt 2 rfl;have H5:=zk h5;clear h5));go_ret;rw [HAT.out];exact ⟨_,rfl,(H5.out.sel (p:= [_,_,_]) [0,1] 3 rfl (by decide)).nRw 113 7⟩
     ·simp only [if_true] at HAT;have HGO:As (∀W L,Heap w0 (.cha b bj A nc::.jrn bj nc.j::L) W→Calls Tryz.prog 131 #[.pointer (some ⟨b,0,none⟩),.pointer (some ⟨A id,0,none⟩)] W (Sends w0 b bj A L (nc.goes id))):=⟨fun W L h=>cgoes_ok h (HGX.out rfl) HDN.out⟩;have HLEN:=zk (goes_len nc id);generalize nc.goes id=rg at *;go_enter Tryz.func283,Tryz.ntmps283;go_wp2_with (first|(go_at_call 284;refine (HK.out _).mono ?_;rintro en w1 ⟨rfl,rfl⟩)|(go_at_call 98;refine (cdk HB.out HX.out).mono ?_;rintro en w2 ⟨rfl,rfl⟩;rw [HDE.out])|(go_at_call 101;refine (cey (Heap.nAt (n:=w.heap.size+1+1) HBK.out (.cells #[.int .i64 1] 3) (by simp)) _ _ _ _ _).mono ?_;rintro en w4 ⟨rfl,h4⟩;have H4:=zk h4;clear h4)|(go_at_call 100;refine (HN.out _ _ _ (H4.out.sel (p:= [_,_,_,_,_]) [2,4,0,1] 5 rfl (by decide))).mono ?_;rintro en w5 ⟨rfl,h5⟩;clear z0 z1 z2 z3 z4 z5 z6 zf;obtain ⟨z0,z1,z2,z3,z4,z5,z6,zf⟩:=h5.cB7 2 rfl;have hlz:=h5.lt 2 rfl;have H5:=zk h5;clear h5));refine wrx (fun W=>W.cell? ⟨w.heap.size+1,0,none⟩=some (.int .i64 18)∧W.cell? ⟨w.heap.size+1,1,none⟩=some (.int .i64 0)∧W.cell? ⟨w.heap.size+1,2,none⟩=some (.int .i64 1)∧W.cell? ⟨w.heap.size+1,3,none⟩=some (.int .i64 id)∧W.cell? ⟨w.heap.size+1,4,none⟩=some (.int .i64 0)∧W.cell? ⟨w.heap.size+1,5,none⟩=some (.int .i64 0)∧W.cell? ⟨w.heap.size+1,6,none⟩=some (.int .i64 0)) [] (.op 0 .f (.op 2 .f (.op 3 .f (.fork 1 (.op 4 .e (.op 5 .e (.op 6 .f .nil))) (.op 4 .e (.op 1 .e (.op 5 .e (.op 6 .f .nil)))))))) (by kernel_rfl) (by kernel_rfl) ⟨z0,z1,z2,z3,z4,z5,z6⟩ ?_;iterate 3
       first
        |(refine vxp rfl rfl ?_;apply ex2;intro w';go_simp;rfl;go_simp)
        |(refine vxg (by kernel_rfl) rfl rfl ?_;apply ex2;intro w' hw';obtain ⟨q0,q1,q2,q3,q4,q5,q6⟩:=hw';go_simp;rfl;go_simp)
      refine vxf rfl rfl ?_ ?_
      ·go_wp2_with (fail);have H6:=zk (H5.out.new (Msg.box ⟨18,0,1,id,0,0,0⟩)).drew;refine ⟨⟨H6.out.cell 3 0 rfl rfl,H6.out.cell 3 1 rfl rfl,H6.out.cell 3 2 rfl rfl,H6.out.cell 3 3 rfl rfl,H6.out.cell 3 4 rfl rfl,H6.out.cell 3 5 rfl rfl,H6.out.cell 3 6 rfl rfl⟩,?_⟩;go_simp;refine vxe rfl rfl rfl ?_;go_wp2_with (go_at_call 131;refine (HGO.out _ _ (H6.out.sel (p:= [_,_,_,_]) [1,2,0,3] 4 rfl (by decide))).mono ?_;rintro en w6 ⟨v6,rfl,h6⟩;have H7:=zk ((h6.frt 3 rfl).one_msg.sel (p:= [_,_,_,_,_]) [1,2,3,0,4] 5 rfl (by decide));clear h6);refine ⟨⟨H7.out.cell 4 0 rfl rfl,H7.out.cell 4 1 rfl rfl,H7.out.cell 4 2 rfl rfl,H7.out.cell 4 3 rfl rfl,H7.out.cell 4 4 rfl rfl,H7.out.cell 4 5 rfl rfl,H7.out.cell 4 6 rfl rfl⟩,?_⟩;go_simp;clear x0 x1 x2 x3 x4 x5 x6 xf hlx y0 y1 y2 y3 y4 y5 y6 y7 y8 y9 y10 y11 y12 y13 y14 y15 y16 y17 yf hla z0 z1 z2 z3 z4 z5 z6 zf;rcases H7.out.shp 0 rfl with ⟨hv,hn,hxx⟩|⟨g,cap,hv, -, -,hcs⟩
       ·subst hv;have HNL:=zk (And.intro hn hxx);clear hn hxx;refine vxe rfl rfl rfl ?_;refine wpList_append_own_none rfl _ _ 84 rfl 0 113 i0 7 Tryz.underlying84 HI.out.1 (.slice (some ⟨w5.heap.size,0,none⟩) 1 1) 1 (mcells [⟨18,0,1,id,0,0,0⟩]) rfl (H7.out.row 3 rfl) rfl ?_;exact zChf1
       ·exact zChf2
      ·refine vxe rfl rfl rfl ?_;go_wp2_with (go_at_call 131;refine (HGO.out _ _ H5.out.drew).mono ?_;rintro en w6 ⟨v6,rfl,h6⟩;have H6:=zk h6;clear h6);refine ⟨⟨H6.out.cell 3 0 rfl rfl,H6.out.cell 3 1 rfl rfl,H6.out.cell 3 2 rfl rfl,H6.out.cell 3 3 rfl rfl,H6.out.cell 3 4 rfl rfl,H6.out.cell 3 5 rfl rfl,H6.out.cell 3 6 rfl rfl⟩,?_⟩;go_simp;clear x0 x1 x2 x3 x4 x5 x6 xf hlx y0 y1 y2 y3 y4 y5 y6 y7 y8 y9 y10 y11 y12 y13 y14 y15 y16 y17 yf hla z0 z1 z2 z3 z4 z5 z6 zf;refine vxe rfl rfl rfl ?_;go_wp2_with (fail);have H7:=zk ((H6.out.new (Msg.box ⟨18,0,1,id,0,0,0⟩)).one_msg.sel (p:= [_,_,_,_,_]) [1,2,3,0,4] 5 rfl (by decide));refine ⟨⟨H7.out.cell 4 0 rfl rfl,H7.out.cell 4 1 rfl rfl,H7.out.cell 4 2 rfl rfl,H7.out.cell 4 3 rfl rfl,H7.out.cell 4 4 rfl rfl,H7.out.cell 4 5 rfl rfl,H7.out.cell 4 6 rfl rfl⟩,?_⟩;go_simp;rcases H7.out.shp 0 rfl with ⟨hv,hn,hxx⟩|⟨g,cap,hv, -, -,hcs⟩
       ·subst hv;have HNL:=zk (And.intro hn hxx);clear hn hxx;refine vxe rfl rfl rfl ?_;refine wpList_append_own_none rfl _ _ 84 rfl 0 113 i0 7 Tryz.underlying84 HI.out.1 (.slice (some ⟨w6.heap.size,0,none⟩) 1 1) 1 (mcells [⟨18,0,1,id,0,0,0⟩]) rfl (H7.out.row 3 rfl) rfl ?_;exact zChf1
       ·exact zChf2
    ·rw [ha] at HAT y14;simp only [if_true] at HAT;clear ha;go_enter Tryz.func283,Tryz.ntmps283;go_wp2_with (first|(go_at_call 284;refine (HK.out _).mono ?_;rintro en w1 ⟨rfl,rfl⟩)|(go_at_call 98;refine (cdk HB.out HX.out).mono ?_;rintro en w2 ⟨rfl,rfl⟩;rw [HDE.out]));go_ret;rw [HAT.out];have h2:=Heap.nAt (n:=w.heap.size+1+1) HBK.out (Msg.box ⟨18,0,1,id,0,0,0⟩) (by simp);exact ⟨_,rfl,h2.one_msg.sel (p:= [_,_,_,_,_]) [0,2,4] 5 rfl (by decide)⟩
 ·have HK:As (∀W,Calls Tryz.prog 284 #[.int .i64 2] W fun e w'=>e=.returned (.tuple #[.int .i64 1,.bool true])∧W=w'):=⟨fun W=>ckeeper_ok 2 (.inr rfl) W⟩;cases hde:x.decided
  ·rw [hde] at HAT;have HDE:=zk hde;simp only [if_true] at HAT;exact zChf4
  ·rw [hde] at HAT;have HDE:=zk hde;clear hde;simp only [Bool.true_eq_false,if_false] at HAT;rcases hk with rfl|rfl
   ·simp only [if_true] at HAT;have HAO:As (x.ackOf 2=x.f.ack1):=⟨rfl⟩;rw [HAO.out] at HAT;cases ha:x.f.ack1
    ·rw [ha] at HAT y12;simp only [Bool.false_eq_true,if_false] at HAT;clear ha;have HFT:As (c.Fits ⟨.ack,id,[2]⟩):=⟨.ack id 2 x HX.out (.inr rfl) HDE.out⟩;have HEO:=zk (ent1_ok (n:=2) hi0 hi1 (by decide) .ack);have HGE:As (c.noteGo ⟨.ack,id,[2]⟩=_):=⟨noteGo_eq c ⟨.ack,id,[2]⟩⟩;have HN:As (∀W L g,Heap w0 (.cha b bj A c::.jrn bj c.j::.pts g (.cells #[.int .i64 2] 3)::L) W→Calls Tryz.prog 132 #[.pointer (some ⟨b,0,none⟩),.slice (some ⟨W.heap.size,0,none⟩) 1 1] (W.alloc (.cells #[.string (Kd.str .ack),.int .i64 id,.slice (some ⟨g,0,none⟩) 1 1] 171)) fun en w'=>en=.returned (.bool (c.notes [⟨.ack,id,[2]⟩]).1)∧Heap w0 (.cha b bj A (c.notes [⟨.ack,id,[2]⟩]).2::.jrn bj (c.notes [⟨.ack,id,[2]⟩]).2.j::L) w'):=⟨fun W L g h=>cnoteN_ok h HFT.out HEO.out (by simp) HD.out⟩;have HGX:=zk (fun h=>notes_get1 (c:=c) (e:=⟨.ack,id,[2]⟩) (x:=x) h HX.out (by simp));have HDN:As ((c.notes [⟨.ack,id,[2]⟩]).2.j.down=false):=⟨(notes_down _ _).trans HD.out⟩;rw [HGE.out] at HAT;clear HGE;generalize c.notes [⟨.ack,id,[2]⟩]=p at *;obtain ⟨okp,nc⟩:=p;simp only at HN HAT HGX HDN;cases okp
     ·simp only [Bool.false_eq_true,if_false] at HAT;go_enter Tryz.func283,Tryz.ntmps283;go_wp2_with (first|(go_at_call 284;refine (HK.out _).mono ?_;rintro en w1 ⟨rfl,rfl⟩)|(go_at_call 98;refine (cdk HB.out HX.out).mono ?_;rintro en w2 ⟨rfl,rfl⟩;rw [HDE.out])|(go_at_call 101;refine (cey (Heap.nAt (n:=w.heap.size+1) HB.out (.cells #[.int .i64 2] 3) (by simp)) _ _ _ _ _).mono ?_;rintro en w4 ⟨rfl,h4⟩;have H4:=zk h4;clear h4)|(go_at_call 132;refine (HN.out _ _ _ (H4.out.sel (p:= [_,_,_,_]) [1,3,0,2] 4 rfl (by decide))).mono ?_;rintro en w5 ⟨rfl,h5⟩;have H5:=zk (h5.sel (p:= [_,_,_]) [0,1] 3 rfl (by decide));clear h5));go_ret;rw [HAT.out];exact ⟨_,rfl,H5.out.nRw 113 7⟩
     ·simp only [if_true] at HAT;have HGO:As (∀W L,Heap w0 (.cha b bj A nc::.jrn bj nc.j::L) W→Calls Tryz.prog 131 #[.pointer (some ⟨b,0,none⟩),.pointer (some ⟨A id,0,none⟩)] W (Sends w0 b bj A L (nc.goes id))):=⟨fun W L h=>cgoes_ok h (HGX.out rfl) HDN.out⟩;generalize nc.goes id=rg at *;go_enter Tryz.func283,Tryz.ntmps283;go_wp2_with (first|(go_at_call 284;refine (HK.out _).mono ?_;rintro en w1 ⟨rfl,rfl⟩)|(go_at_call 98;refine (cdk HB.out HX.out).mono ?_;rintro en w2 ⟨rfl,rfl⟩;rw [HDE.out])|(go_at_call 101;refine (cey (Heap.nAt (n:=w.heap.size+1) HB.out (.cells #[.int .i64 2] 3) (by simp)) _ _ _ _ _).mono ?_;rintro en w4 ⟨rfl,h4⟩;have H4:=zk h4;clear h4)|(go_at_call 132;refine (HN.out _ _ _ (H4.out.sel (p:= [_,_,_,_]) [1,3,0,2] 4 rfl (by decide))).mono ?_;rintro en w5 ⟨rfl,h5⟩;have H5:=zk (h5.sel (p:= [_,_,_]) [0,1] 3 rfl (by decide));clear h5)|(go_at_call 131;refine (HGO.out _ _ H5.out).mono ?_;rintro en w6 ⟨v6,rfl,h6⟩;have H6:=zk h6;clear h6));go_ret;rw [HAT.out];exact ⟨_,rfl,H6.out⟩
    ·rw [ha] at HAT y12;simp only [if_true] at HAT;clear ha;exact zChf4
   ·simp only [Int.reduceEq,if_false] at HAT;have HAO:As (x.damOf 2=x.f.dam1):=⟨rfl⟩;rw [HAO.out] at HAT;have HBK:=zk (Heap.nAt (n:=w.heap.size+1) HB.out (Msg.box ⟨18,0,2,id,0,0,0⟩) (by simp));unfold Msg.box at HBK;simp only at HBK;obtain ⟨z0,z1,z2,z3,z4,z5,z6,zf⟩:=HBK.out.cB7 0 rfl;clear y0 y1 y2 y3 y4 y5 y6 y7 y8 y9 y10 y11 y12 y13 y14 y15 y16 y17 yf hla;obtain ⟨vs,vd,vu,tb,⟨y0,y1,y2,y3,y4,y5,y6,y7,y8,y9,y10,y11,y12,y13,y14,y15,y16,y17,yf⟩,hla⟩:=led_at (HBK.out.frt 1 rfl) HX.out;obtain ⟨u0,u1,u2,u3,u4,u5,u6,uf⟩:=HBK.out.cB7 2 rfl;cases ha:x.f.dam1
    ·rw [ha] at HAT y15;simp only [Bool.false_eq_true,if_false] at HAT;clear ha;have HFT:As (c.Fits ⟨.damage,id,[2]⟩):=⟨.damage id 2 x HX.out (.inr rfl) HDE.out⟩;have HEO:=zk (ent1_ok (n:=2) hi0 hi1 (by decide) .damage);have HN:As (∀W L g,Heap w0 (.cha b bj A c::.jrn bj c.j::.pts g (.cells #[.int .i64 2] 3)::L) W→Calls Tryz.prog 100 #[.pointer (some ⟨b,0,none⟩),.slice (some ⟨W.heap.size,0,none⟩) 1 1] (W.alloc (.cells #[.string (Kd.str .damage),.int .i64 id,.slice (some ⟨g,0,none⟩) 1 1] 171)) fun en w'=>en=.returned (.bool (c.sures [⟨.damage,id,[2]⟩]).1)∧Heap w0 (.cha b bj A (c.sures [⟨.damage,id,[2]⟩]).2::.jrn bj (c.sures [⟨.damage,id,[2]⟩]).2.j::L) w'):=⟨fun W L g h=>csureN_ok h HFT.out HEO.out (by simp) HD.out⟩;have HGX:=zk (fun h=>sures_get1 (c:=c) (e:=⟨.damage,id,[2]⟩) (x:=x) h HX.out (by simp));have HDN:As ((c.sures [⟨.damage,id,[2]⟩]).2.j.down=false):=⟨(sures_down _ _).trans HD.out⟩;generalize c.sures [⟨.damage,id,[2]⟩]=p at *;obtain ⟨okp,nc⟩:=p;simp only at HN HAT HGX HDN;cases okp
     ·simp only [Bool.false_eq_true,if_false] at HAT;go_enter Tryz.func283,Tryz.ntmps283;go_wp2_with (first|(go_at_call 284;refine (HK.out _).mono ?_;rintro en w1 ⟨rfl,rfl⟩)|(go_at_call 98;refine (cdk HB.out HX.out).mono ?_;rintro en w2 ⟨rfl,rfl⟩;rw [HDE.out])|(go_at_call 101;refine (cey (Heap.nAt (n:=w.heap.size+1+1) HBK.out (.cells #[.int .i64 2] 3) (by simp)) _ _ _ _ _).mono ?_;rintro en w4 ⟨rfl,h4⟩;have H4:=zk h4;clear h4)|(go_at_call 100;refine (HN.out _ _ _ (H4.out.sel (p:= [_,_,_,_,_]) [2,4,0,1] 5 rfl (by decide))).mono ?_;rintro en w5 ⟨rfl,h5⟩;clear z0 z1 z2 z3 z4 z5 z6 zf;obtain ⟨z0,z1,z2,z3,z4,z5,z6,zf⟩:=h5.cB7 2 rfl;have hlz:=h5.lt 2 rfl;have H5:=zk h5;clear h5));go_ret;rw [HAT.out];exact ⟨_,rfl,(H5.out.sel (p:= [_,_,_]) [0,1] 3 rfl (by decide)).nRw 113 7⟩
     ·simp only [if_true] at HAT;have HGO:As (∀W L,Heap w0 (.cha b bj A nc::.jrn bj nc.j::L) W→Calls Tryz.prog 131 #[.pointer (some ⟨b,0,none⟩),.pointer (some ⟨A id,0,none⟩)] W (Sends w0 b bj A L (nc.goes id))):=⟨fun W L h=>cgoes_ok h (HGX.out rfl) HDN.out⟩;have HLEN:=zk (goes_len nc id);generalize nc.goes id=rg at *;go_enter Tryz.func283,Tryz.ntmps283;go_wp2_with (first|(go_at_call 284;refine (HK.out _).mono ?_;rintro en w1 ⟨rfl,rfl⟩)|(go_at_call 98;refine (cdk HB.out HX.out).mono ?_;rintro en w2 ⟨rfl,rfl⟩;rw [HDE.out])|(go_at_call 101;refine (cey (Heap.nAt (n:=w.heap.size+1+1) HBK.out (.cells #[.int .i64 2] 3) (by simp)) _ _ _ _ _).mono ?_;rintro en w4 ⟨rfl,h4⟩;have H4:=zk h4;clear h4)|(go_at_call 100;refine (HN.out _ _ _ (H4.out.sel (p:= [_,_,_,_,_]) [2,4,0,1] 5 rfl (by decide))).mono ?_;rintro en w5 ⟨rfl,h5⟩;clear z0 z1 z2 z3 z4 z5 z6 zf;obtain ⟨z0,z1,z2,z3,z4,z5,z6,zf⟩:=h5.cB7 2 rfl;have hlz:=h5.lt 2 rfl;have H5:=zk h5;clear h5));refine wrx (fun W=>W.cell? ⟨w.heap.size+1,0,none⟩=some (.int .i64 18)∧W.cell? ⟨w.heap.size+1,1,none⟩=some (.int .i64 0)∧W.cell? ⟨w.heap.size+1,2,none⟩=some (.int .i64 2)∧W.cell? ⟨w.heap.size+1,3,none⟩=some (.int .i64 id)∧W.cell? ⟨w.heap.size+1,4,none⟩=some (.int .i64 0)∧W.cell? ⟨w.heap.size+1,5,none⟩=some (.int .i64 0)∧W.cell? ⟨w.heap.size+1,6,none⟩=some (.int .i64 0)) [] (.op 0 .f (.op 2 .f (.op 3 .f (.fork 1 (.op 4 .e (.op 5 .e (.op 6 .f .nil))) (.op 4 .e (.op 1 .e (.op 5 .e (.op 6 .f .nil)))))))) (by kernel_rfl) (by kernel_rfl) ⟨z0,z1,z2,z3,z4,z5,z6⟩ ?_;iterate 3
       first
        |(refine vxp rfl rfl ?_;apply ex2;intro w';go_simp;rfl;go_simp)
        |(refine vxg (by kernel_rfl) rfl rfl ?_;apply ex2;intro w' hw';obtain ⟨q0,q1,q2,q3,q4,q5,q6⟩:=hw';go_simp;rfl;go_simp)
      refine vxf rfl rfl ?_ ?_
      ·go_wp2_with (fail);have H6:=zk (H5.out.new (Msg.box ⟨18,0,2,id,0,0,0⟩)).drew;refine ⟨⟨H6.out.cell 3 0 rfl rfl,H6.out.cell 3 1 rfl rfl,H6.out.cell 3 2 rfl rfl,H6.out.cell 3 3 rfl rfl,H6.out.cell 3 4 rfl rfl,H6.out.cell 3 5 rfl rfl,H6.out.cell 3 6 rfl rfl⟩,?_⟩;go_simp;refine vxe rfl rfl rfl ?_;go_wp2_with (go_at_call 131;refine (HGO.out _ _ (H6.out.sel (p:= [_,_,_,_]) [1,2,0,3] 4 rfl (by decide))).mono ?_;rintro en w6 ⟨v6,rfl,h6⟩;have H7:=zk ((h6.frt 3 rfl).one_msg.sel (p:= [_,_,_,_,_]) [1,2,3,0,4] 5 rfl (by decide));clear h6);refine ⟨⟨H7.out.cell 4 0 rfl rfl,H7.out.cell 4 1 rfl rfl,H7.out.cell 4 2 rfl rfl,H7.out.cell 4 3 rfl rfl,H7.out.cell 4 4 rfl rfl,H7.out.cell 4 5 rfl rfl,H7.out.cell 4 6 rfl rfl⟩,?_⟩;go_simp;clear x0 x1 x2 x3 x4 x5 x6 xf hlx y0 y1 y2 y3 y4 y5 y6 y7 y8 y9 y10 y11 y12 y13 y14 y15 y16 y17 yf hla z0 z1 z2 z3 z4 z5 z6 zf;rcases H7.out.shp 0 rfl with ⟨hv,hn,hxx⟩|⟨g,cap,hv, -, -,hcs⟩
       ·subst hv;have HNL:=zk (And.intro hn hxx);clear hn hxx;refine vxe rfl rfl rfl ?_;refine wpList_append_own_none rfl _ _ 84 rfl 0 113 i0 7 Tryz.underlying84 HI.out.1 (.slice (some ⟨w5.heap.size,0,none⟩) 1 1) 1 (mcells [⟨18,0,2,id,0,0,0⟩]) rfl (H7.out.row 3 rfl) rfl ?_;exact zChf1
       ·exact zChf3
      ·refine vxe rfl rfl rfl ?_;go_wp2_with (go_at_call 131;refine (HGO.out _ _ H5.out.drew).mono ?_;rintro en w6 ⟨v6,rfl,h6⟩;have H6:=zk h6;clear h6);refine ⟨⟨H6.out.cell 3 0 rfl rfl,H6.out.cell 3 1 rfl rfl,H6.out.cell 3 2 rfl rfl,H6.out.cell 3 3 rfl rfl,H6.out.cell 3 4 rfl rfl,H6.out.cell 3 5 rfl rfl,H6.out.cell 3 6 rfl rfl⟩,?_⟩;go_simp;clear x0 x1 x2 x3 x4 x5 x6 xf hlx y0 y1 y2 y3 y4 y5 y6 y7 y8 y9 y10 y11 y12 y13 y14 y15 y16 y17 yf hla z0 z1 z2 z3 z4 z5 z6 zf;refine vxe rfl rfl rfl ?_;go_wp2_with (fail);have H7:=zk ((H6.out.new (Msg.box ⟨18,0,2,id,0,0,0⟩)).one_msg.sel (p:= [_,_,_,_,_]) [1,2,3,0,4] 5 rfl (by decide));refine ⟨⟨H7.out.cell 4 0 rfl rfl,H7.out.cell 4 1 rfl rfl,H7.out.cell 4 2 rfl rfl,H7.out.cell 4 3 rfl rfl,H7.out.cell 4 4 rfl rfl,H7.out.cell 4 5 rfl rfl,H7.out.cell 4 6 rfl rfl⟩,?_⟩;go_simp;rcases H7.out.shp 0 rfl with ⟨hv,hn,hxx⟩|⟨g,cap,hv, -, -,hcs⟩
       ·subst hv;have HNL:=zk (And.intro hn hxx);clear hn hxx;refine vxe rfl rfl rfl ?_;refine wpList_append_own_none rfl _ _ 84 rfl 0 113 i0 7 Tryz.underlying84 HI.out.1 (.slice (some ⟨w6.heap.size,0,none⟩) 1 1) 1 (mcells [⟨18,0,2,id,0,0,0⟩]) rfl (H7.out.row 3 rfl) rfl ?_;exact zChf1
       ·exact zChf3
    ·rw [ha] at HAT y15;simp only [if_true] at HAT;clear ha;go_enter Tryz.func283,Tryz.ntmps283;go_wp2_with (first|(go_at_call 284;refine (HK.out _).mono ?_;rintro en w1 ⟨rfl,rfl⟩)|(go_at_call 98;refine (cdk HB.out HX.out).mono ?_;rintro en w2 ⟨rfl,rfl⟩;rw [HDE.out]));go_ret;rw [HAT.out];have h2:=Heap.nAt (n:=w.heap.size+1+1) HBK.out (Msg.box ⟨18,0,2,id,0,0,0⟩) (by simp);exact ⟨_,rfl,h2.one_msg.sel (p:= [_,_,_,_,_]) [0,2,4] 5 rfl (by decide)⟩
theorem zChg1 {P:Prop} (h:P:=by
 go_enter Tryz.func278,Tryz.ntmps278;go_wp2_with (fail);rw [HW1.out,HPE.out];go_wp2_with (go_at_call 97;refine HDN.out.mono ?_;rintro en w1 ⟨rfl,rfl⟩);refine wro0 [(0,.f),(1,.f),(2,.f),(3,.s),(4,.f),(5,.s),(6,.s),(7,.f)] ?_;repeat (first
  |(refine vg rfl rfl ?_;apply ex2;intro w' hw';go_simp;rfl;go_simp)
  |(refine vs_ rfl (fun K hK=>?_);go_simp;refine hK _ ?_;clear hK K))
 refine vn ?_;go_simp;go_wp2_with (fail);go_ret;rw [HH.out];exact ⟨_,rfl,(Heap.cha_to (bj:=bj) (A:=A) (HB.out.drew.sel (p:= [_,_,_]) [0,2] 3 rfl (by decide))).nRw 113 7⟩):P:=h
theorem zChg2 {P:Prop} (h:P:=by
 clear hx;go_enter Tryz.func278,Tryz.ntmps278;go_wp2_with (fail);rw [HW1.out,HPE.out];go_wp2_with (go_at_call 97;refine HDN.out.mono ?_;rintro en w1 ⟨rfl,rfl⟩);refine wro0 [(0,.f),(1,.f),(2,.f),(3,.s),(4,.f),(5,.s),(6,.s),(7,.f)] ?_;repeat (first
  |(refine vg rfl rfl ?_;apply ex2;intro w' hw';go_simp;rfl;go_simp)
  |(refine vs_ rfl (fun K hK=>?_);go_simp;refine hK _ ?_;clear hK K))
 refine vn ?_;go_simp;go_wp2_with (go_at_call 281;refine (HC.out _ _ (HB.out.drew.sel (p:= [_,_,_]) [0,2] 3 rfl (by decide))).mono ?_;rintro en w2 ⟨v2,rfl,h2⟩;have H2:=zk h2;clear h2);go_ret;rw [HH.out];exact ⟨_,rfl,(Heap.cha_to (bj:=bj) (A:=A) (H2.out.sel (p:= [_,_,_]) [1,2,0] 3 rfl (by decide))).frt 1 rfl⟩):P:=h
theorem zChg3 {P:Prop} (h:P:=by
 clear hx;go_enter Tryz.func278,Tryz.ntmps278;go_wp2_with (fail);rw [HW1.out,HPE.out];go_wp2_with (go_at_call 97;refine HDN.out.mono ?_;rintro en w1 ⟨rfl,rfl⟩);refine wro0 [(0,.f),(1,.f),(2,.f),(3,.s),(4,.f),(5,.s),(6,.s),(7,.f)] ?_;repeat (first
  |(refine vg rfl rfl ?_;apply ex2;intro w' hw';go_simp;rfl;go_simp)
  |(refine vs_ rfl (fun K hK=>?_);go_simp;refine hK _ ?_;clear hK K))
 refine vn ?_;go_simp;go_wp2_with (go_at_call 282;refine (HC.out _ _ (HB.out.drew.sel (p:= [_,_,_]) [0,2] 3 rfl (by decide))).mono ?_;rintro en w2 ⟨v2,rfl,h2⟩;have H2:=zk h2;clear h2);go_ret;rw [HH.out];exact ⟨_,rfl,(Heap.cha_to (bj:=bj) (A:=A) (H2.out.sel (p:= [_,_,_]) [1,2,0] 3 rfl (by decide))).frt 1 rfl⟩):P:=h
theorem zChg4 {P:Prop} (h:P:=by
 clear hx;go_enter Tryz.func278,Tryz.ntmps278;go_wp2_with (fail);rw [HW1.out,HPE.out];go_wp2_with (go_at_call 97;refine HDN.out.mono ?_;rintro en w1 ⟨rfl,rfl⟩);refine wro0 [(0,.f),(1,.f),(2,.f),(3,.s),(4,.f),(5,.s),(6,.s),(7,.f)] ?_;repeat (first
  |(refine vg rfl rfl ?_;apply ex2;intro w' hw';go_simp;rfl;go_simp)
  |(refine vs_ rfl (fun K hK=>?_);go_simp;refine hK _ ?_;clear hK K))
 refine vn ?_;go_simp;go_wp2_with (go_at_call 283;refine (HC.out _ _ (HB.out.drew.sel (p:= [_,_,_]) [0,2] 3 rfl (by decide))).mono ?_;rintro en w2 ⟨v2,rfl,h2⟩;have H2:=zk h2;clear h2);go_ret;rw [HH.out];exact ⟨_,rfl,(Heap.cha_to (bj:=bj) (A:=A) (H2.out.sel (p:= [_,_,_]) [1,2,0] 3 rfl (by decide))).frt 1 rfl⟩):P:=h
structure ChM (c:Chief) (m:Msg):Prop where
 dst:m.to=0
 id0:1≤m.id
 id1:m.id≤999
 frm:m.kind=12∨m.kind=7∨m.kind=8∨m.kind=11∨m.kind=17→m.frm=1∨m.frm=2
 two:∀x,mget c.l m.id=some x→x.t≠some (true,true)
theorem look_x {w0 w:World} {b bj:Nat} {A:Int→Nat} {c:Chief} {R:List SA} {id:Int} (h:Heap w0 (.cha b bj A c::R) w) (h0:1≤id) (h1:id≤999):
 ∃bm bt,(w.cell? ⟨b,5,none⟩=some (.map (some bm))∧w.cell? ⟨b,6,none⟩=some (.pointer (some ⟨bt,0,none⟩)))∧(w.cell? ⟨b,3,none⟩=some (.pointer (some ⟨bj,0,none⟩))∧(∀j,w.frozen? ⟨b,j,none⟩=false)∧b<w.heap.size)∧
  (Instr.lookup 118 (.map (some bm)) (.int .i64 id) false).run Tryz.prog w=.ok (xptr A id (mget c.l id)) w∧(Instr.lookup 118 (.map (some bm)) (.int .i64 id) false).run Tryz.prog w.drew=.ok (xptr A id (mget c.l id)) w.drew:=by
 obtain ⟨hp,bm,bt,h⟩:=h.open_cha;obtain ⟨c0,c1,c2,c3,c4,c5,c6,cf⟩:=h.cB7 0 rfl;have hlb:=h.lt 0 rfl;obtain ⟨hk,h⟩:=(h.frt 1 rfl).open_book;have key:∀W L,Heap w0 (.map bm (mkeys (fun k=>.pointer (some ⟨A k,0,none⟩)) c.l)::L) W→(Instr.lookup 118 (.map (some bm)) (.int .i64 id) false).run Tryz.prog W=.ok (xptr A id (mget c.l id)) W:=fun W L hW=>by
  have:=look_led hW 0 rfl h0 h1;cases hm:mget c.l id<;>rw [hm] at this<;>exact this
 have h2:=key _ _ h;have h3:=key _ _ h.drew;exact ⟨bm,bt,⟨c5,c6⟩,⟨c3,cf,hlb⟩,h2,h3⟩
theorem chandle_ok {w0 w:World} {b:Nat} {c:Chief} {R:List SA} (h:Heap w0 (.chief b c::R) w) (m:Msg) (hm:ChM c m):
 Calls Tryz.prog 278 #[.pointer (some ⟨b,0,none⟩),m.val] w fun e w'=>∃v',e=.returned v'∧Heap w0 (.slc v' 113 7 (c.handle m).1.length (mcells (c.handle m).1)::.chief b (c.handle m).2::R) w':=by
 have HH:As (c.handle m=if c.j.down=true then ([],c) else
  if m.kind=12 then (c.tells m,c) else
  match mget c.l m.id with
  |none=>([],c)
  |some x=>
   if m.kind=2∨m.kind=3∨m.kind=5 then c.steps x m else
   if m.kind=7∨m.kind=8 then c.votes x m else
   if m.kind=11∨m.kind=17 then c.acks x m else
   if m.kind=16 then (if (decide (m.frm=3)&&x.f.yes&& !x.f.shipped)=true then c.noteGo ⟨.shipped,m.id,[]⟩ else ([],c)) else ([],c)):=⟨rfl⟩
 have HM:=zk hm;have hto:=hm.dst;have hi0:=hm.id0;have hi1:=hm.id1;have HBX:=zk ((h.new m.box).frt 1 rfl);have HDN:=zk (cdown_ok HBX.out);obtain ⟨bj,A,h⟩:=h.cha_of;have HB:=zk ((h.new m.box).frt 1 rfl);clear hm h;obtain ⟨kind,frm,tt,id,step,a,mb⟩:=m;unfold Msg.box at *;simp only at HH HM hto hi0 hi1 HBX HDN HB;subst hto;unfold Msg.val;simp only;have HTE:As (∀W L,kind=12→Heap w0 (.cha b bj A c::L) W→Calls Tryz.prog 280 #[.pointer (some ⟨b,0,none⟩),xptr A id (mget c.l id),Msg.val ⟨kind,frm,0,id,step,a,mb⟩] W fun e w'=>∃v',e=.returned v'∧Heap w0 (.slc v' 113 7 (c.tells ⟨kind,frm,0,id,step,a,mb⟩).length (mcells (c.tells ⟨kind,frm,0,id,step,a,mb⟩))::.cha b bj A c::L) w'):=⟨fun W L hk h=>ctells_ok h ⟨kind,frm,0,id,step,a,mb⟩ (HM.out.frm (.inl hk))⟩;unfold Msg.val at HTE;simp only at HTE;generalize c.handle ⟨kind,frm,0,id,step,a,mb⟩=res at *;obtain ⟨W1,hW1⟩:∃W1,w.alloc (.cells #[.int .i64 kind,.int .i64 frm,.int .i64 0,.int .i64 id,.int .i64 step,.int .i64 a,.int .i64 mb] 113)=W1:=⟨_,rfl⟩;obtain ⟨pe,hpe⟩:∃pe,w.heap.size=pe:=⟨_,rfl⟩;rw [hW1,hpe] at HB HBX;rw [hW1] at HDN;have HW1:=zk hW1;have HPE:=zk hpe;clear hW1 hpe;obtain ⟨x0,x1,x2,x3,x4,x5,x6,xf⟩:=HB.out.cB7 1 rfl;have hlx:=HB.out.lt 1 rfl;cases hd:c.j.down
 ·rw [hd] at HDN HH;simp only [Bool.false_eq_true,if_false] at HH;have HD:As (c.j.down=false):=⟨hd⟩;clear hd;obtain ⟨bm,bt,⟨c5,c6⟩,⟨c3,cf,hlb⟩,hlk,hlk2⟩:=look_x HB.out hi0 hi1;by_cases hk12:kind=12
  ·subst hk12;simp only [if_true] at HH;generalize c.tells ⟨12,frm,0,id,step,a,mb⟩=rt at *;generalize xptr A id (mget c.l id)=xp at *;go_enter Tryz.func278,Tryz.ntmps278;go_wp2_with (fail);rw [HW1.out,HPE.out];go_wp2_with (go_at_call 97;refine HDN.out.mono ?_;rintro en w1 ⟨rfl,rfl⟩);refine wro0 [(0,.f),(1,.f),(2,.f),(3,.s),(4,.f),(5,.s),(6,.s),(7,.f)] ?_;repeat (first
    |(refine vg rfl rfl ?_;apply ex2;intro w' hw';go_simp;rfl;go_simp)
    |(refine vs_ rfl (fun K hK=>?_);go_simp;refine hK _ ?_;clear hK K))
   refine vn ?_;go_simp;go_wp2_with (go_at_call 280;refine (HTE.out _ _ (by trivial) HB.out.drew).mono ?_;rintro en w2 ⟨v2,rfl,h2⟩;have H2:=zk h2;clear h2);go_ret;rw [HH.out];exact ⟨_,rfl,(Heap.cha_to (bj:=bj) (A:=A) (H2.out.sel (p:= [_,_,_,_]) [1,3,0] 4 rfl (by decide))).frt 1 rfl⟩
  ·have hb12:(kind==12)=false:=by simpa using hk12
   simp only [if_neg hk12] at HH;clear hk12 HTE;cases hx:mget c.l id with
   |none=>
    simp only [hx] at HH;rw [hx] at hlk hlk2;simp only [xptr] at hlk hlk2;clear hx;go_enter Tryz.func278,Tryz.ntmps278;go_wp2_with (fail);rw [HW1.out,HPE.out];go_wp2_with (go_at_call 97;refine HDN.out.mono ?_;rintro en w1 ⟨rfl,rfl⟩);refine wro0 [(0,.f),(1,.f),(2,.f),(3,.s),(4,.f),(5,.s),(6,.s),(7,.f)] ?_;repeat (first
     |(refine vg rfl rfl ?_;apply ex2;intro w' hw';go_simp;rfl;go_simp)
     |(refine vs_ rfl (fun K hK=>?_);go_simp;refine hK _ ?_;clear hK K))
    refine vn ?_;go_simp;go_wp2_with (fail);go_ret;rw [HH.out];exact ⟨_,rfl,(Heap.cha_to (bj:=bj) (A:=A) (HB.out.drew.sel (p:= [_,_,_]) [0,2] 3 rfl (by decide))).nRw 113 7⟩
   |some x=>
    simp only [hx] at HH;rw [hx] at hlk hlk2;simp only [xptr] at hlk hlk2;have HX:=zk hx;by_cases hs:kind=2∨kind=3∨kind=5
    ·rcases hs with rfl|rfl|rfl
     ·simp only [Int.reduceEq,or_false,false_or,or_true,true_or,or_self,if_true,if_false] at HH;have HC:As (∀W L,Heap w0 (.cha b bj A c::.jrn bj c.j::L) W→Calls Tryz.prog 281 #[.pointer (some ⟨b,0,none⟩),.pointer (some ⟨A id,0,none⟩),Msg.val ⟨2,frm,0,id,step,a,mb⟩] W (Sends w0 b bj A L (c.steps x ⟨2,frm,0,id,step,a,mb⟩))):=⟨fun W L h=>csteps_ok h ⟨2,frm,0,id,step,a,mb⟩ HX.out (by simp) HD.out⟩;unfold Msg.val at HC;simp only at HC;generalize c.steps x ⟨2,frm,0,id,step,a,mb⟩=rt at *;exact zChg2
     ·simp only [Int.reduceEq,or_false,false_or,or_true,true_or,or_self,if_true,if_false] at HH;have HC:As (∀W L,Heap w0 (.cha b bj A c::.jrn bj c.j::L) W→Calls Tryz.prog 281 #[.pointer (some ⟨b,0,none⟩),.pointer (some ⟨A id,0,none⟩),Msg.val ⟨3,frm,0,id,step,a,mb⟩] W (Sends w0 b bj A L (c.steps x ⟨3,frm,0,id,step,a,mb⟩))):=⟨fun W L h=>csteps_ok h ⟨3,frm,0,id,step,a,mb⟩ HX.out (by simp) HD.out⟩;unfold Msg.val at HC;simp only at HC;generalize c.steps x ⟨3,frm,0,id,step,a,mb⟩=rt at *;exact zChg2
     ·simp only [Int.reduceEq,or_false,false_or,or_true,true_or,or_self,if_true,if_false] at HH;have HC:As (∀W L,Heap w0 (.cha b bj A c::.jrn bj c.j::L) W→Calls Tryz.prog 281 #[.pointer (some ⟨b,0,none⟩),.pointer (some ⟨A id,0,none⟩),Msg.val ⟨5,frm,0,id,step,a,mb⟩] W (Sends w0 b bj A L (c.steps x ⟨5,frm,0,id,step,a,mb⟩))):=⟨fun W L h=>csteps_ok h ⟨5,frm,0,id,step,a,mb⟩ HX.out (by simp) HD.out⟩;unfold Msg.val at HC;simp only at HC;generalize c.steps x ⟨5,frm,0,id,step,a,mb⟩=rt at *;exact zChg2
    ·rw [if_neg hs] at HH;have hn2:(kind==2)=false:=by simp;exact fun e=>hs (.inl e)
     have hn3:(kind==3)=false:=by simp;exact fun e=>hs (.inr (.inl e))
     have hn5:(kind==5)=false:=by simp;exact fun e=>hs (.inr (.inr e))
     clear hs;by_cases hs:kind=7∨kind=8
     ·rcases hs with rfl|rfl
      ·simp only [Int.reduceEq,or_false,false_or,or_true,true_or,or_self,if_true,if_false] at HH;have HC:As (∀W L,Heap w0 (.cha b bj A c::.jrn bj c.j::L) W→Calls Tryz.prog 282 #[.pointer (some ⟨b,0,none⟩),.pointer (some ⟨A id,0,none⟩),Msg.val ⟨7,frm,0,id,step,a,mb⟩] W (Sends w0 b bj A L (c.votes x ⟨7,frm,0,id,step,a,mb⟩))):=⟨fun W L h=>cvotes_ok h ⟨7,frm,0,id,step,a,mb⟩ HX.out (by simp) (HM.out.frm (by simp)) (HM.out.two x HX.out) HD.out⟩;unfold Msg.val at HC;simp only at HC;generalize c.votes x ⟨7,frm,0,id,step,a,mb⟩=rt at *;exact zChg3
      ·simp only [Int.reduceEq,or_false,false_or,or_true,true_or,or_self,if_true,if_false] at HH;have HC:As (∀W L,Heap w0 (.cha b bj A c::.jrn bj c.j::L) W→Calls Tryz.prog 282 #[.pointer (some ⟨b,0,none⟩),.pointer (some ⟨A id,0,none⟩),Msg.val ⟨8,frm,0,id,step,a,mb⟩] W (Sends w0 b bj A L (c.votes x ⟨8,frm,0,id,step,a,mb⟩))):=⟨fun W L h=>cvotes_ok h ⟨8,frm,0,id,step,a,mb⟩ HX.out (by simp) (HM.out.frm (by simp)) (HM.out.two x HX.out) HD.out⟩;unfold Msg.val at HC;simp only at HC;generalize c.votes x ⟨8,frm,0,id,step,a,mb⟩=rt at *;exact zChg3
     ·rw [if_neg hs] at HH;have hn7:(kind==7)=false:=by simp;exact fun e=>hs (.inl e)
      have hn8:(kind==8)=false:=by simp;exact fun e=>hs (.inr e)
      clear hs;by_cases hs:kind=11∨kind=17
      ·rcases hs with rfl|rfl
       ·simp only [Int.reduceEq,or_false,false_or,or_true,true_or,or_self,if_true,if_false] at HH;have HC:As (∀W L,Heap w0 (.cha b bj A c::.jrn bj c.j::L) W→Calls Tryz.prog 283 #[.pointer (some ⟨b,0,none⟩),.pointer (some ⟨A id,0,none⟩),Msg.val ⟨11,frm,0,id,step,a,mb⟩] W (Sends w0 b bj A L (c.acks x ⟨11,frm,0,id,step,a,mb⟩))):=⟨fun W L h=>cacks_ok h ⟨11,frm,0,id,step,a,mb⟩ HX.out (by simp) (HM.out.frm (by simp)) HD.out⟩;unfold Msg.val at HC;simp only at HC;generalize c.acks x ⟨11,frm,0,id,step,a,mb⟩=rt at *;exact zChg4
       ·simp only [Int.reduceEq,or_false,false_or,or_true,true_or,or_self,if_true,if_false] at HH;have HC:As (∀W L,Heap w0 (.cha b bj A c::.jrn bj c.j::L) W→Calls Tryz.prog 283 #[.pointer (some ⟨b,0,none⟩),.pointer (some ⟨A id,0,none⟩),Msg.val ⟨17,frm,0,id,step,a,mb⟩] W (Sends w0 b bj A L (c.acks x ⟨17,frm,0,id,step,a,mb⟩))):=⟨fun W L h=>cacks_ok h ⟨17,frm,0,id,step,a,mb⟩ HX.out (by simp) (HM.out.frm (by simp)) HD.out⟩;unfold Msg.val at HC;simp only at HC;generalize c.acks x ⟨17,frm,0,id,step,a,mb⟩=rt at *;exact zChg4
      ·rw [if_neg hs] at HH;have hn11:(kind==11)=false:=by simp;exact fun e=>hs (.inl e)
       have hn17:(kind==17)=false:=by simp;exact fun e=>hs (.inr e)
       clear hs;by_cases hs:kind=16
       ·subst hs;simp only [if_true] at HH;by_cases hf:frm=3
        ·subst hf;simp only [decide_true,Bool.true_and] at HH;obtain ⟨vs,vd,vu,tb,⟨y0,y1,y2,y3,y4,y5,y6,y7,y8,y9,y10,y11,y12,y13,y14,y15,y16,y17,yf⟩,hla⟩:=led_at HB.out.drew HX.out;cases hy:x.f.yes
         ·rw [hy] at HH y9;simp only [Bool.false_and,Bool.false_eq_true,if_false] at HH;clear hy hx;exact zChg1
         ·rw [hy] at HH y9;have HY:=zk hy;cases hsh:x.f.shipped
          ·rw [hsh] at HH y13;simp only [Bool.not_false,Bool.and_true,if_true] at HH;have HFT:As (c.Fits ⟨.shipped,id,[]⟩):=⟨.shipped id x HX.out HY.out⟩;have HEO:=zk (asked_ok hi0 hi1 .shipped);have HGE:As (c.noteGo ⟨.shipped,id,[]⟩=_):=⟨noteGo_eq c ⟨.shipped,id,[]⟩⟩;have HN:As (∀W L,Heap w0 (.cha b bj A c::.jrn bj c.j::L) W→Calls Tryz.prog 132 #[.pointer (some ⟨b,0,none⟩),.slice (some ⟨W.heap.size,0,none⟩) 1 1] (W.alloc (.cells #[.string (Kd.str .shipped),.int .i64 id,.slice none 0 0] 171)) fun en w'=>en=.returned (.bool (c.notes [⟨.shipped,id,[]⟩]).1)∧Heap w0 (.cha b bj A (c.notes [⟨.shipped,id,[]⟩]).2::.jrn bj (c.notes [⟨.shipped,id,[]⟩]).2.j::L) w'):=⟨fun W L h=>cnote0_ok h HFT.out HEO.out (by simp) HD.out⟩;have HGX:=zk (fun h=>notes_get1 (c:=c) (e:=⟨.shipped,id,[]⟩) (x:=x) h HX.out (by simp));have HDW:As ((c.notes [⟨.shipped,id,[]⟩]).2.j.down=false):=⟨(notes_down _ _).trans HD.out⟩;rw [HGE.out] at HH;clear HGE hy hx hsh;generalize c.notes [⟨.shipped,id,[]⟩]=p at *;obtain ⟨okp,nc⟩:=p;simp only at HN HH HGX HDW;cases okp
           ·simp only [Bool.false_eq_true,if_false] at HH;go_enter Tryz.func278,Tryz.ntmps278;go_wp2_with (fail);rw [HW1.out,HPE.out];go_wp2_with (go_at_call 97;refine HDN.out.mono ?_;rintro en w1 ⟨rfl,rfl⟩);refine wro0 [(0,.f),(1,.f),(2,.f),(3,.s),(4,.f),(5,.s),(6,.s),(7,.f)] ?_;repeat (first
             |(refine vg rfl rfl ?_;apply ex2;intro w' hw';go_simp;rfl;go_simp)
             |(refine vs_ rfl (fun K hK=>?_);go_simp;refine hK _ ?_;clear hK K))
            refine vn ?_;go_simp;go_wp2_with (first|(go_at_call 101;refine (cey HB.out.drew _ _ _ _ _).mono ?_;rintro en w4 ⟨rfl,h4⟩;have H4:=zk h4;clear h4)|(go_at_call 132;refine (HN.out _ _ (H4.out.sel (p:= [_,_,_]) [0,2] 3 rfl (by decide))).mono ?_;rintro en w5 ⟨rfl,h5⟩;have H5:=zk h5;clear h5));go_ret;rw [HH.out];exact ⟨_,rfl,(Heap.cha_to (bj:=bj) (A:=A) H5.out).nRw 113 7⟩
           ·simp only [if_true] at HH;have HGO:As (∀W L,Heap w0 (.cha b bj A nc::.jrn bj nc.j::L) W→Calls Tryz.prog 131 #[.pointer (some ⟨b,0,none⟩),.pointer (some ⟨A id,0,none⟩)] W (Sends w0 b bj A L (nc.goes id))):=⟨fun W L h=>cgoes_ok h (HGX.out rfl) HDW.out⟩;generalize nc.goes id=rg at *;go_enter Tryz.func278,Tryz.ntmps278;go_wp2_with (fail);rw [HW1.out,HPE.out];go_wp2_with (go_at_call 97;refine HDN.out.mono ?_;rintro en w1 ⟨rfl,rfl⟩);refine wro0 [(0,.f),(1,.f),(2,.f),(3,.s),(4,.f),(5,.s),(6,.s),(7,.f)] ?_;repeat (first
             |(refine vg rfl rfl ?_;apply ex2;intro w' hw';go_simp;rfl;go_simp)
             |(refine vs_ rfl (fun K hK=>?_);go_simp;refine hK _ ?_;clear hK K))
            refine vn ?_;go_simp;go_wp2_with (first|(go_at_call 101;refine (cey HB.out.drew _ _ _ _ _).mono ?_;rintro en w4 ⟨rfl,h4⟩;have H4:=zk h4;clear h4)|(go_at_call 132;refine (HN.out _ _ (H4.out.sel (p:= [_,_,_]) [0,2] 3 rfl (by decide))).mono ?_;rintro en w5 ⟨rfl,h5⟩;have H5:=zk h5;clear h5)|(go_at_call 131;refine (HGO.out _ _ H5.out).mono ?_;rintro en w6 ⟨v6,rfl,h6⟩;have H6:=zk h6;clear h6));go_ret;rw [HH.out];exact ⟨_,rfl,(Heap.cha_to (bj:=bj) (A:=A) (H6.out.sel (p:= [_,_,_]) [1,2,0] 3 rfl (by decide))).frt 1 rfl⟩
          ·rw [hsh] at HH y13;simp only [Bool.not_true,Bool.and_false,Bool.false_eq_true,if_false] at HH;clear hy hx hsh;exact zChg1
        ·have hfb:(frm==3)=false:=by simpa using hf
         simp only [hf,decide_false,Bool.false_and,Bool.false_eq_true,if_false] at HH;clear hf hx;exact zChg1
       ·have hn16:(kind==16)=false:=by simpa using hs
        rw [if_neg hs] at HH;clear hs hx;exact zChg1
 ·rw [hd] at HDN HH;simp only [if_true] at HH;go_enter Tryz.func278,Tryz.ntmps278;go_wp2_with (fail);rw [HW1.out,HPE.out];go_wp2_with (go_at_call 97;refine HDN.out.mono ?_;rintro en w1 ⟨rfl,rfl⟩);go_ret;rw [HH.out];exact ⟨_,rfl,(HBX.out.sel (p:= [_,_]) [0] 2 rfl (by decide)).nRw 113 7⟩
theorem cforgetP_ok {w0 w:World} {b bj:Nat} {R:List SA} {most room tries:Int} {v4 v5 v6:Value} (h:Heap w0 (.pts b (.cells #[.int .i64 most,.int .i64 room,.int .i64 tries,.pointer (some ⟨bj,0,none⟩),v4,v5,v6] 121)::R) w) (ht0:1≤tries) (ht1:tries≤20):
 Calls Tryz.prog 114 #[.pointer (some ⟨b,0,none⟩)] w fun e w'=>e=.returned (.tuple #[])∧∃bm bt,Heap w0 (.pts b (.cells #[.int .i64 most,.int .i64 room,.int .i64 tries,.pointer (some ⟨bj,0,none⟩),.int .i64 0,.map (some bm),.pointer (some ⟨bt,0,none⟩)] 121)::.map bm []::.tower bt ⟨tries,[]⟩::R) w':=by
 obtain ⟨c0,c1,c2,c3,c4,c5,c6,cf⟩:=h.cB7 0 rfl;have hlb:=h.lt 0 rfl;have hmm:= @run_makeMap Tryz.prog;have h2:=h.newMapAt (n:=w.heap.size) rfl;have HT:=zk (tower_new_ok h2 tries ht0 ht1);clear h h2;go_enter Tryz.func114,Tryz.ntmps114;go_wp2_with (go_at_call 141;refine HT.out.mono ?_;rintro e w1 ⟨bt,rfl,h1⟩;clear c0 c1 c2 c3 c4 c5 c6 cf hlb;obtain ⟨c0,c1,c2,c3,c4,c5,c6,cf⟩:=h1.cB7 2 rfl;have hlb:=h1.lt 2 rfl;have H1:=zk h1;clear h1);go_end0;refine ⟨rfl,w.heap.size,bt,?_⟩;have h9:=((H1.out.sAt 2 4 (.int .i64 0) rfl).sAt 2 5 (.map (some w.heap.size)) rfl).sAt 2 6 (.pointer (some ⟨bt,0,none⟩)) rfl;exact h9.sel (p:= [_,_,_]) [2,1,0] 3 rfl (by decide)
theorem book_nil {w0 w:World} {R:List SA} {bm:Nat} {A:Int→Nat} (h:Heap w0 (.map bm []::R) w):Heap w0 (leds A bm []::R) w:=
 Heap.shut_book (val:=fun k=>.pointer (some ⟨A k,0,none⟩)) (give:=fun k x=>.led (A k) x) KeysOk.nil (h.addemp.frt 1 rfl)
theorem forget_ok' {c:Chief} (h:c.ok):c.forget.ok:=⟨KeysOk.nil,(fun p hp=>by cases hp),KeysOk.nil,h.t0,h.t1,h.r1,(by show (0:Int)≤0;omega),(by show (0:Int)≤4096;omega)⟩
theorem cforget_ok {w0 w:World} {b bj:Nat} {A:Int→Nat} {c:Chief} {R:List SA} (h:Heap w0 (.cha b bj A c::R) w):
 Calls Tryz.prog 114 #[.pointer (some ⟨b,0,none⟩)] w fun e w'=>e=.returned (.tuple #[])∧Heap w0 (.cha b bj A c.forget::R) w':=by
 obtain ⟨hp,bm,bt,h⟩:=h.open_cha;refine (cforgetP_ok h hp.t0 hp.t1).mono ?_;rintro e w' ⟨rfl,bm2,bt2,h2⟩;refine ⟨rfl,Heap.shut_cha (bm:=bm2) (bt:=bt2) (forget_ok' hp) ?_⟩;have h3:=h2.sel (p:= [_,_,_,_,_]) [1,0,2] 5 rfl (by decide);exact (book_nil h3).frt 1 rfl
theorem ccrash_ok {w0 w:World} {b:Nat} {c:Chief} {R:List SA} (h:Heap w0 (.chief b c::R) w) (stay torn:Int):
 Calls Tryz.prog 277 #[.pointer (some ⟨b,0,none⟩),.int .i64 stay,.int .i64 torn] w fun en w'=>en=.returned (.tuple #[])∧Heap w0 (.chief b (c.crash stay)::R) w':=by
 have HH:=zk h;have HDN:=zk (cdown_ok h);obtain ⟨bj,A,h⟩:=h.cha_of;have hx:=h;obtain ⟨hp,bm,bt,hx⟩:=hx.open_cha;obtain ⟨c0,c1,c2,c3,c4,c5,c6,cf⟩:=hx.cB7 0 rfl;have HS:As (c.crash stay=if c.j.down=true then c else ({c with j:=c.j.crash stay}:Chief).forget):=⟨rfl⟩;cases hd:c.j.down
 ·have HC:=zk (jcrash_ok (h.frt 1 rfl) hd stay torn);rw [hd] at HDN HS;clear h hx hp hd;go_enter Tryz.func277,Tryz.ntmps277;go_wp2_with (first|(go_at_call 97;refine HDN.out.mono ?_;rintro e w' ⟨rfl,rfl⟩)|(go_at_call 217;refine HC.out.mono ?_;rintro e w1 ⟨⟨cv,rfl⟩,h1⟩;have H1:=zk ((h1.frt 1 rfl).cha_j (c.j.crash stay));clear h1)|(go_at_call 114;refine (cforget_ok H1.out).mono ?_;rintro e w2 ⟨rfl,h2⟩;have H2:=zk h2;clear h2));go_end0;rw [HS.out];exact ⟨rfl,Heap.cha_to (bj:=bj) (A:=A) H2.out⟩
 ·rw [hd] at HDN HS;clear h hx hp hd;go_enter Tryz.func277,Tryz.ntmps277;go_wp2_with (go_at_call 97;refine HDN.out.mono ?_;rintro e w' ⟨rfl,rfl⟩);refine bodyPost_ret (results_none rfl _ _ _) rfl ⟨rfl,?_⟩;rw [HS.out];exact HH.out
theorem cnew_ok {w0 w:World} {R:List SA} (h:Heap w0 R w) (orders room tries:Int) (ho0:1≤orders) (ho1:orders≤64) (hr0:1≤room) (hr1:room≤4096) (ht0:1≤tries) (ht1:tries≤20):
 Calls Tryz.prog 72 #[.int .i64 orders,.int .i64 room,.int .i64 tries] w fun e w'=>∃b,e=.returned (.pointer (some ⟨b,0,none⟩))∧Heap w0 (.chief b ⟨orders,room,tries,⟨room,[],0,false⟩,0,[],⟨tries,[]⟩⟩::R) w':=by
 have HJ:=zk (jnew_ok h room hr0 hr1);have hm1:min orders 64=orders:=by omega
 have hm2:max 1 orders=orders:=by omega
 have hm3:min room 4096=room:=by omega
 have hm4:max 1 room=room:=by omega
 clear h;go_enter Tryz.func72,Tryz.ntmps72;go_wp2_with (first
  |(go_at_call 73;refine HJ.out.mono ?_;rintro e w1 ⟨bj,rfl,h1⟩;have HF:=zk (cforgetP_ok (h1.new (.cells #[.int .i64 orders,.int .i64 room,.int .i64 tries,.pointer (some ⟨bj,0,none⟩),.int .i64 0,.map none,.pointer none] 121)) ht0 ht1);clear h1)
  |(go_at_call 114;refine HF.out.mono ?_;rintro e w2 ⟨rfl,bm,bt,h2⟩;have H2:=zk h2;clear h2))
 go_ret;refine ⟨_,rfl,?_⟩;have h3:=H2.out.sel (p:= [_,_,_,_]) [1,0,2,3] 4 rfl (by decide);have h4:=(book_nil (A:=fun _=>0) h3).frt 1 rfl;exact Heap.cha_to (bj:=bj) (A:=fun _=>0) (Heap.shut_cha (c:=⟨orders,room,tries,⟨room,[],0,false⟩,0,[],⟨tries,[]⟩⟩) (bm:=bm) (bt:=bt) ⟨KeysOk.nil,(fun p hp=>by cases hp),KeysOk.nil,ht0,ht1,hr1,by simp,by simp⟩ h4)
theorem ccancel_ok {w0 w:World} {b:Nat} {c:Chief} {R:List SA} (h:Heap w0 (.chief b c::R) w) (id:Int) (h0:1≤id) (h1:id≤999):
 Calls Tryz.prog 62 #[.pointer (some ⟨b,0,none⟩),.int .i64 id] w fun e w'=>∃v',e=.returned (.tuple #[v',.int .i64 (c.cancel id).2.1])∧Heap w0 (.slc v' 113 7 (c.cancel id).1.length (mcells (c.cancel id).1)::.chief b (c.cancel id).2.2::R) w':=by
 have HH:As (c.cancel id=if c.j.down=true then ([],10,c) else match mget c.l id with
  |none=>([],6,c)
  |some x=>if x.decided=true then ([],7,c) else c.turns id):=⟨rfl⟩
 have HDN:=zk (cdown_ok h);have HB:=zk h;obtain ⟨bj,A,h⟩:=h.cha_of;obtain ⟨bm,bt,⟨c5,c6⟩,⟨c3,cf,hlb⟩,hlk,hlk2⟩:=look_x h h0 h1;have H:=zk h;clear h;generalize c.cancel id=res at *;cases hd:c.j.down
 ·rw [hd] at HDN HH;simp only [Bool.false_eq_true,if_false] at HH;cases hx:mget c.l id with
  |none=>
   simp only [hx] at HH;rw [hx] at hlk hlk2;simp only [xptr] at hlk hlk2;clear hx hd;go_enter Tryz.func62,Tryz.ntmps62;go_wp2_with (go_at_call 97;refine HDN.out.mono ?_;rintro e w' ⟨rfl,rfl⟩);rw [HH.out];exact bodyPost_ret (v:=.tuple #[.slice none 0 0,.int .i64 6]) (by simp [results,Tryz.results62,go_sem]) rfl ⟨_,rfl,HB.out.nRw 113 7⟩
  |some x=>
   simp only [hx] at HH;rw [hx] at hlk hlk2;simp only [xptr] at hlk hlk2;have HX:=zk hx;cases hde:x.decided
   ·rw [hde] at HH;simp only [Bool.false_eq_true,if_false] at HH;have HDE:=zk hde;have HTU:As (∀W L,Heap w0 (.cha b bj A c::.jrn bj c.j::L) W→Calls Tryz.prog 99 #[.pointer (some ⟨b,0,none⟩),.pointer (some ⟨A id,0,none⟩)] W (SendsE w0 b bj A L (c.turns id))):=⟨fun W L h=>cturns_ok h HX.out hd HDE.out⟩;generalize c.turns id=rt at *;clear hx hd hde;go_enter Tryz.func62,Tryz.ntmps62;go_wp2_with (first
     |(go_at_call 97;refine HDN.out.mono ?_;rintro e w' ⟨rfl,rfl⟩)
     |(go_at_call 98;refine (cdk H.out HX.out).mono ?_;rintro e w' ⟨rfl,rfl⟩;rw [HDE.out])
     |(go_at_call 99;refine (HTU.out _ _ H.out).mono ?_;rintro e w2 ⟨v2,rfl,h2⟩;have H2:=zk h2;clear h2))
    rw [HH.out];exact bodyPost_ret (v:=.tuple #[v2,.int .i64 rt.2.1]) (by simp [results,Tryz.results62,go_sem]) rfl ⟨_,rfl,(Heap.cha_to (bj:=bj) (A:=A) (H2.out.sel (p:= [_,_,_]) [1,2,0] 3 rfl (by decide))).frt 1 rfl⟩
   ·rw [hde] at HH;simp only [if_true] at HH;have HDE:=zk hde;clear hx hd hde;go_enter Tryz.func62,Tryz.ntmps62;go_wp2_with (first
     |(go_at_call 97;refine HDN.out.mono ?_;rintro e w' ⟨rfl,rfl⟩)
     |(go_at_call 98;refine (cdk H.out HX.out).mono ?_;rintro e w' ⟨rfl,rfl⟩;rw [HDE.out]))
    rw [HH.out];exact bodyPost_ret (v:=.tuple #[.slice none 0 0,.int .i64 7]) (by simp [results,Tryz.results62,go_sem]) rfl ⟨_,rfl,HB.out.nRw 113 7⟩
 ·rw [hd] at HDN HH;simp only [if_true] at HH;clear hd;go_enter Tryz.func62,Tryz.ntmps62;go_wp2_with (go_at_call 97;refine HDN.out.mono ?_;rintro e w' ⟨rfl,rfl⟩);rw [HH.out];exact bodyPost_ret (v:=.tuple #[.slice none 0 0,.int .i64 10]) (by simp [results,Tryz.results62,go_sem]) rfl ⟨_,rfl,HB.out.nRw 113 7⟩
theorem cstate_ok {w0 w:World} {b bj:Nat} {A:Int→Nat} {c:Chief} {R:List SA} (h:Heap w0 (.cha b bj A c::R) w) (id:Int) (h0:1≤id) (h1:id≤999):
 Calls Tryz.prog 28 #[.pointer (some ⟨b,0,none⟩),.int .i64 id] w fun e w'=>e=.returned (.int .i64 (c.state id))∧Heap w0 (.cha b bj A c::R) w':=by
 have HS:As (c.state id=match mget c.l id with
  |none=>0
  |some x=>x.f.state x.o.steps.length):=⟨rfl⟩
 have H:=zk h;obtain ⟨bm,bt,⟨c5,c6⟩,⟨c3,cf,hlb⟩,hlk,hlk2⟩:=look_x h h0 h1;generalize c.state id=res at *;cases hx:mget c.l id with
 |none=>
  simp only [hx] at HS;rw [hx] at hlk hlk2;simp only [xptr] at hlk hlk2;clear hx h;go_enter Tryz.func28,Tryz.ntmps28;go_wp2;go_ret;rw [HS.out];exact ⟨rfl,H.out⟩
 |some x=>
  simp only [hx] at HS;rw [hx] at hlk hlk2;simp only [xptr] at hlk hlk2;obtain ⟨hp,bm',bt',h⟩:=h.cha_at hx;obtain ⟨vs,vd,vu,tb,hpa,h⟩:=h.open_led;obtain ⟨y0,y1,y2,y3,y4,y5,y6,y7,y8,y9,y10,y11,y12,y13,y14,y15,y16,y17,yf⟩:=h.cA8 0 rfl;have hla:=h.lt 0 rfl;have HST:As (∀W L,Below w.heap.size w W→Heap w0 L W→Calls Tryz.prog 53 #[x.o.val vs,x.f.val vd vu] W fun e w'=>e=.returned (.int .i64 (x.f.state x.o.steps.length))∧Below W.heap.size W w'):=⟨fun W L hb hW=>state_ok x.o x.f vs vd vu W hW.tab (((hp.get hx).1.ofs hpa (h.row 1 rfl) (h.row 2 rfl) (h.row 3 rfl)).below hb)⟩;obtain ⟨asl,cs,rfl⟩:=vS2 (h.row 1 rfl);obtain ⟨ad,cd,rfl⟩:=vS2 (h.row 2 rfl);obtain ⟨au,cu,rfl⟩:=vS2 (h.row 3 rfl);unfold Od.val Facts.val at HST;clear hx h hp hpa;go_enter Tryz.func28,Tryz.ntmps28;go_wp2_with (fail);refine wro0 [(0,.f),(1,.f),(2,.f),(3,.s),(4,.f),(5,.s),(6,.f),(7,.f),(8,.s),(9,.f),(10,.f),(11,.f),(12,.s),(13,.f),(14,.s),(15,.f),(16,.f),(17,.s),(18,.e),(19,.f)] ?_;refine vg rfl rfl ?_;apply ex2;intro w' hw';go_simp;rfl;go_simp;refine vg rfl rfl ?_;apply ex2;intro w' hw';go_simp;rfl;go_simp;refine vg rfl rfl ?_;apply ex2;intro w' hw';go_simp;rfl;go_simp;refine vs_ rfl (fun K hK=>?_);go_simp;refine hK _ ?_;clear hK K;refine vg rfl rfl ?_;apply ex2;intro w' hw';go_simp;rfl;go_simp;refine vs_ rfl (fun K hK=>?_);go_simp;refine hK _ ?_;clear hK K;refine vg rfl rfl ?_;apply ex2;intro w' hw';go_simp;rfl;go_simp;refine vg rfl rfl ?_;apply ex2;intro w' hw';go_simp;rfl;go_simp;refine vs_ rfl (fun K hK=>?_);go_simp;refine hK _ ?_;clear hK K;refine vg rfl rfl ?_;apply ex2;intro w' hw';go_simp;rfl;go_simp;refine vg rfl rfl ?_;apply ex2;intro w' hw';go_simp;rfl;go_simp;refine vg rfl rfl ?_;apply ex2;intro w' hw';go_simp;rfl;go_simp;refine vs_ rfl (fun K hK=>?_);go_simp;refine hK _ ?_;clear hK K;refine vg rfl rfl ?_;apply ex2;intro w' hw';go_simp;rfl;go_simp;refine vs_ rfl (fun K hK=>?_);go_simp;refine hK _ ?_;clear hK K;refine vg rfl rfl ?_;apply ex2;intro w' hw';go_simp;rfl;go_simp;refine vg rfl rfl ?_;apply ex2;intro w' hw';go_simp;rfl;go_simp;refine vs_ rfl (fun K hK=>?_);go_simp;refine hK _ ?_;clear hK K;refine ve rfl rfl ?_;go_wp2_with (go_at_call 53;refine (HST.out _ _ (Below.refl _ w).drew H.out.drew).mono ?_;rintro en w1 ⟨rfl,hb⟩;have H1:=zk (H.out.drew.below hb);clear hb);refine ⟨trivial,?_⟩;go_simp;refine vg rfl rfl ?_;apply ex2;intro w' hw';go_simp;rfl;go_simp;refine vn ?_;go_simp;go_wp2_with (fail);go_ret;rw [HS.out];exact ⟨rfl,H1.out⟩
theorem zChi1 {P:Prop} (h:P:=by
 go_ret;rw [HH.out];exact ⟨_,rfl,(Heap.cha_to (bj:=bj) (A:=A) (H3.out.sel (p:= [_,_,_]) [1,2,0] 3 rfl (by decide))).frt 1 rfl⟩):P:=h
theorem ring_has {t:Tower} {id:Int} (h:(t.ring id).1=true):t.has id=true:=by
 unfold Tower.ring at h;cases e:t.has id with
 |true=>rfl
 |false=>rw [if_pos e] at h;cases h
theorem cring_ok {w0 w:World} {b:Nat} {c:Chief} {R:List SA} (h:Heap w0 (.chief b c::R) w) (id:Int) (h0:1≤id) (h1:id≤999) (hbell:∀x,mget c.l id=some x→c.bells.has id=true→x.over=false):
 Calls Tryz.prog 68 #[.pointer (some ⟨b,0,none⟩),.int .i64 id] w fun e w'=>∃v',e=.returned v'∧Heap w0 (.slc v' 113 7 (c.ring id).1.length (mcells (c.ring id).1)::.chief b (c.ring id).2::R) w':=by
 have HH:As (c.ring id=if c.j.down=true then ([],c) else match mget c.l id with
  |none=>([],{c with bells:=(c.bells.ring id).2.2})
  |some x=>
   if (c.bells.ring id).1=false then ([],{c with bells:=(c.bells.ring id).2.2}) else
   if (c.bells.ring id).2.1=true then
    (if x.decided=false then ((({c with bells:=(c.bells.ring id).2.2}:Chief).turns id).1,(({c with bells:=(c.bells.ring id).2.2}:Chief).turns id).2.2)
     else (({c with bells:=(c.bells.ring id).2.2}:Chief).again id).sends x)
   else ({c with bells:=(c.bells.ring id).2.2}:Chief).sends x):=⟨rfl⟩
 have HDN:=zk (cdown_ok h);have HB:=zk h;obtain ⟨bj,A,h⟩:=h.cha_of;have HC:=zk h;have hok:=h.cha_ok;obtain ⟨bm',bt',⟨c5',c6'⟩, -,hlk,hlk2⟩:=look_x h h0 h1;obtain ⟨hp,bm,bt,h⟩:=h.open_cha;obtain ⟨c0,c1,c2,c3,c4,c5,c6,cf⟩:=h.cB7 0 rfl;have hlb:=h.lt 0 rfl;obtain rfl:bm'=bm:=by rw [c5] at c5';cases c5';rfl
 clear c5' c6';have HBL:As (c.bells.left.length<1000000):=⟨by have:=hp.bells.len;omega⟩;have HRK:=zk (ring_keys hp.bells id);have HOK1:=zk (hok.bell HRK.out);have HRG:=zk (ring_ok (h.frt 2 rfl) id (by omega) (by omega) HBL);have HHAS:As ((c.bells.ring id).1=true→c.bells.has id=true):=⟨ring_has⟩;clear h hp;generalize c.ring id=res at *;generalize c.bells.ring id=p at *;obtain ⟨rg,off,t⟩:=p;simp only at HH HRG HRK HOK1 HHAS;cases hd:c.j.down
 ·rw [hd] at HDN HH;simp only [Bool.false_eq_true,if_false] at HH;have HD:As (c.j.down=false):=⟨hd⟩;clear hd;cases hx:mget c.l id with
  |none=>
   simp only [hx] at HH;rw [hx] at hlk hlk2;simp only [xptr] at hlk hlk2;clear hx;cases rg;all_goals
    go_enter Tryz.func68,Tryz.ntmps68;go_wp2_with (first
     |(go_at_call 97;refine HDN.out.mono ?_;rintro e w' ⟨rfl,rfl⟩)
     |(go_at_call 107;refine HRG.out.mono ?_;rintro e w2 ⟨rfl,h2⟩;have H2:=zk (Heap.shut_cha (c:= {c with bells:=t}) HOK1.out (h2.sel (p:= [_,_,_,_]) [1,2,0,3] 4 rfl (by decide)));clear h2))
    go_ret;rw [HH.out];exact ⟨_,rfl,(Heap.cha_to (bj:=bj) (A:=A) (c:= {c with bells:=t}) H2.out).nRw 113 7⟩
  |some x=>
   simp only [hx] at HH;rw [hx] at hlk hlk2;simp only [xptr] at hlk hlk2;have HX:=zk hx;have HHV:=zk (fun h=>hbell x hx (HHAS.out h));clear hbell;cases rg
   ·simp only [if_true] at HH;clear hx;go_enter Tryz.func68,Tryz.ntmps68;go_wp2_with (first
     |(go_at_call 97;refine HDN.out.mono ?_;rintro e w' ⟨rfl,rfl⟩)
     |(go_at_call 107;refine HRG.out.mono ?_;rintro e w2 ⟨rfl,h2⟩;have H2:=zk (Heap.shut_cha (c:= {c with bells:=t}) HOK1.out (h2.sel (p:= [_,_,_,_]) [1,2,0,3] 4 rfl (by decide)));clear h2))
    go_ret;rw [HH.out];exact ⟨_,rfl,(Heap.cha_to (bj:=bj) (A:=A) (c:= {c with bells:=t}) H2.out).nRw 113 7⟩
   ·simp only [Bool.true_eq_false,if_false] at HH;have HOV:=zk (HHV.out rfl);cases off
    ·simp only [Bool.false_eq_true,if_false] at HH;have HSD:As (∀W L,Heap w0 (.cha b bj A {c with bells:=t}::.jrn bj c.j::L) W→Calls Tryz.prog 109 #[.pointer (some ⟨b,0,none⟩),.pointer (some ⟨A id,0,none⟩)] W fun e w'=>∃v',e=.returned v'∧Heap w0 (.slc v' 113 7 (({c with bells:=t}:Chief).sends x).1.length (mcells (({c with bells:=t}:Chief).sends x).1)::.cha b bj A (({c with bells:=t}:Chief).sends x).2::.jrn bj (({c with bells:=t}:Chief).sends x).2.j::L) w'):=⟨fun W L h=>csends_ok (c:= {c with bells:=t}) h HX.out HOV.out HD.out⟩;generalize ({c with bells:=t}:Chief).sends x=rs at *;clear hx;go_enter Tryz.func68,Tryz.ntmps68;go_wp2_with (first
      |(go_at_call 97;refine HDN.out.mono ?_;rintro e w' ⟨rfl,rfl⟩)
      |(go_at_call 107;refine HRG.out.mono ?_;rintro e w2 ⟨rfl,h2⟩;have H2:=zk (Heap.shut_cha (c:= {c with bells:=t}) HOK1.out (h2.sel (p:= [_,_,_,_]) [1,2,0,3] 4 rfl (by decide)));clear h2)
      |(go_at_call 109;refine (HSD.out _ _ H2.out).mono ?_;rintro e w3 ⟨v3,rfl,h3⟩;have H3:=zk h3;clear h3))
     exact zChi1
    ·simp only [if_true] at HH;cases hde:x.decided
     ·rw [hde] at HH;simp only [if_true] at HH;have HDE:=zk hde;have HTU:As (∀W L,Heap w0 (.cha b bj A {c with bells:=t}::.jrn bj c.j::L) W→Calls Tryz.prog 99 #[.pointer (some ⟨b,0,none⟩),.pointer (some ⟨A id,0,none⟩)] W (SendsE w0 b bj A L (({c with bells:=t}:Chief).turns id))):=⟨fun W L h=>cturns_ok (c:= {c with bells:=t}) h HX.out HD.out HDE.out⟩;generalize ({c with bells:=t}:Chief).turns id=rt at *;clear hx hde;go_enter Tryz.func68,Tryz.ntmps68;go_wp2_with (first
       |(go_at_call 97;refine HDN.out.mono ?_;rintro e w' ⟨rfl,rfl⟩)
       |(go_at_call 107;refine HRG.out.mono ?_;rintro e w2 ⟨rfl,h2⟩;have H2:=zk (Heap.shut_cha (c:= {c with bells:=t}) HOK1.out (h2.sel (p:= [_,_,_,_]) [1,2,0,3] 4 rfl (by decide)));clear h2)
       |(go_at_call 98;refine (cdk (c:= {c with bells:=t}) H2.out HX.out).mono ?_;rintro e w' ⟨rfl,rfl⟩;rw [HDE.out])
       |(go_at_call 99;refine (HTU.out _ _ H2.out).mono ?_;rintro e w3 ⟨v3,rfl,h3⟩;have H3:=zk h3;clear h3))
      exact zChi1
     ·rw [hde] at HH;simp only [Bool.true_eq_false,if_false] at HH;have HDE:=zk hde;have HAK:=zk (again_keys HRK.out id);have HOK2:As ((({c with bells:=t}:Chief).again id).ok):=⟨HOK1.out.bell HAK.out⟩;have HBL2:As (t.left.length<1000000):=⟨by have:=HRK.out.len;omega⟩;have HSD:As (∀W L,Heap w0 (.cha b bj A (({c with bells:=t}:Chief).again id)::.jrn bj c.j::L) W→Calls Tryz.prog 109 #[.pointer (some ⟨b,0,none⟩),.pointer (some ⟨A id,0,none⟩)] W fun e w'=>∃v',e=.returned v'∧Heap w0 (.slc v' 113 7 ((({c with bells:=t}:Chief).again id).sends x).1.length (mcells ((({c with bells:=t}:Chief).again id).sends x).1)::.cha b bj A ((({c with bells:=t}:Chief).again id).sends x).2::.jrn bj ((({c with bells:=t}:Chief).again id).sends x).2.j::L) w'):=⟨fun W L h=>csends_ok (c:=(({c with bells:=t}:Chief).again id)) h HX.out HOV.out HD.out⟩;generalize (({c with bells:=t}:Chief).again id).sends x=rs at *;clear hx hde;go_enter Tryz.func68,Tryz.ntmps68;go_wp2_with (first
       |(go_at_call 97;refine HDN.out.mono ?_;rintro e w' ⟨rfl,rfl⟩)
       |(go_at_call 107;refine HRG.out.mono ?_;rintro e w2 ⟨rfl,h2⟩;clear c0 c1 c2 c3 c4 c5 c6 cf hlb;obtain ⟨c0,c1,c2,c3,c4,c5,c6,cf⟩:=h2.cB7 1 rfl;have hlb:=h2.lt 1 rfl;have H2o:=zk h2;have H2:=zk (Heap.shut_cha (c:= {c with bells:=t}) HOK1.out (h2.sel (p:= [_,_,_,_]) [1,2,0,3] 4 rfl (by decide)));clear h2)
       |(go_at_call 98;refine (cdk (c:= {c with bells:=t}) H2.out HX.out).mono ?_;rintro e w' ⟨rfl,rfl⟩;rw [HDE.out])
       |(go_at_call 108;refine (again_ok H2o.out id (by omega) (by omega) HBL2).mono ?_;rintro e w3 ⟨rfl,h3⟩;have H3:=zk (Heap.shut_cha (c:=(({c with bells:=t}:Chief).again id)) HOK2.out (h3.sel (p:= [_,_,_,_]) [1,2,0,3] 4 rfl (by decide)));clear h3)
       |(go_at_call 109;refine (HSD.out _ _ H3.out).mono ?_;rintro e w4 ⟨v4,rfl,h4⟩;have H4:=zk h4;clear h4))
      go_ret;rw [HH.out];exact ⟨_,rfl,(Heap.cha_to (bj:=bj) (A:=A) (H4.out.sel (p:= [_,_,_]) [1,2,0] 3 rfl (by decide))).frt 1 rfl⟩
 ·rw [hd] at HDN HH;simp only [if_true] at HH;clear hd;go_enter Tryz.func68,Tryz.ntmps68;go_wp2_with (go_at_call 97;refine HDN.out.mono ?_;rintro e w' ⟨rfl,rfl⟩);go_ret;rw [HH.out];exact ⟨_,rfl,HB.out.nRw 113 7⟩
def osum (left:Lit→Bool) (m:IM Led):Nat:=(m.filter fun p=>left (.int .i64 p.1)&& !p.2.over).length
theorem osum_cons (left:Lit→Bool) (y:Int×Led) (m:IM Led):osum left (y::m)=(if (left (.int .i64 y.1)&& !y.2.over)=true then 1 else 0)+osum left m:=by
 unfold osum;rw [List.filter_cons];split
 ·simp;omega
 ·simp
theorem osum_same {m:IM Led} {k:Int} (h:∀p∈m,p.1≠k) (left:Lit→Bool):osum (fun z=>left z&& !z.sameKey (.int .i64 k)) m=osum left m:=by
 induction m with
 |nil=>rfl
 |cons y r ih=>
  rw [osum_cons,osum_cons,ih (fun p hp=>h p (by simp [hp]))];have:=h y (by simp);simp [sameKey_int,this]
theorem osum_take {m:IM Led} (hk:m.Pairwise (fun a b=>a.1<b.1)) {k:Int} {c:Led} (e:mget m k=some c) {left:Lit→Bool} (hl:left (.int .i64 k)=true):
 osum left m=osum (fun z=>left z&& !z.sameKey (.int .i64 k)) m+(if c.over=true then 0 else 1):=by
 induction m with
 |nil=>simp [mget] at e
 |cons y r ih=>
  obtain ⟨h1,h2⟩:=List.pairwise_cons.1 hk;rw [osum_cons,osum_cons];by_cases hy:y.1=k
  ·have hv:y=(k,c):=by
    simp [mget,hy] at e;exact Prod.ext hy e
   rw [osum_same (fun p hp=>by have:=h1 p hp;omega),hv];cases hc:c.over<;>simp [hl,sameKey_int]<;>omega
  ·have hg:mget r k=some c:=by simpa [mget,hy] using e
   rw [ih h2 hg];simp [sameKey_int,hy];omega
theorem osum_none {m:IM Led} {left:Lit→Bool} (h:∀k:Int,left (.int .i64 k)=false):osum left m=0:=by
 unfold osum;rw [List.length_eq_zero_iff,List.filter_eq_nil_iff];intro p _;simp [h]
theorem osum_has (m r:IM Led) (val:Int→Value) (h:∀p∈r,(mget m p.1).isSome):osum (Maps.has (DD (mkeys val m))) r=(r.filter fun p=>!p.2.over).length:=by
 unfold osum;congr 1;apply List.filter_congr;intro p hp;rw [DD_has,mget_mkeys];obtain ⟨u,hu⟩:=Option.isSome_iff_exists.1 (h p hp);rw [hu];simp
theorem copen_ok {w0 w:World} {b bj:Nat} {A:Int→Nat} {c:Chief} {R:List SA} (h:Heap w0 (.cha b bj A c::R) w):
 Calls Tryz.prog 129 #[.pointer (some ⟨b,0,none⟩)] w fun e w'=>e=.returned (.int .i64 (c.opens:Int))∧Heap w0 (.cha b bj A c::R) w':=by
 obtain ⟨hp,bm,bt,h⟩:=h.open_cha;obtain ⟨c0,c1,c2,c3,c4,c5,c6,cf⟩:=h.cB7 0 rfl;obtain ⟨hk,h⟩:=(h.frt 1 rfl).open_book;have hlb:=h.lt 2 rfl;have HP:=zk hp;have HK:=zk hk;have H:=zk h;have HL:=zk hk.len;have HO:As (osum (Maps.has (DD (mkeys (fun k=>Value.pointer (some ⟨A k,0,none⟩)) c.l))) c.l=c.opens):=⟨osum_has _ _ _ (fun p hp=>mget_of_mem hp)⟩;have HOL:As (c.opens≤c.l.length):=⟨List.length_filter_le _ _⟩;clear h hp hk;go_enter Tryz.func129,Tryz.ntmps129;go_wp2_with (refine wpList_rng H.out 0 bm _ rfl rfl _ 118 117 rfl Tryz.underlying118 rfl ?_;intro r w1 h1;have H1:=zk h1;clear h1;go_simp);clear c0 c1 c2 c3 c4 c5 c6 cf hlb
 go_loopg [3] (Maps.size (DD (mkeys (fun k=>Value.pointer (some ⟨A k,0,none⟩)) c.l))) (fun gk v wr=>∃(left:Lit→Bool) (x:Nat),v=.int .i64 (x:Int)∧As (x+osum left c.l=c.opens)∧As (Heap w0 (.rng bm r (mkeys (fun k=>Value.pointer (some ⟨A k,0,none⟩)) c.l) left gk::bks (fun k x=>.led (A k) x) c.l::.pts b (.cells (chc c bj bm bt) 121)::.tower bt c.bells::R) wr))
 case atStart=>exact ⟨_,0,rfl,⟨by rw [HO.out];omega⟩,H1⟩
 case round=>
  obtain ⟨left,x,rfl,HX,HR⟩:=hrel;clear H H1;go_wp2_with (refine wpList_nxt HR.out 0 bm r _ left gk rfl rfl _ rfl rfl ?done ?more)
  case done=>
   intro hd;have HD:=zk hd;clear hd;go_wp2;go_ret;have hx:x=c.opens:=by have:=HX.out;rw [osum_none HD.out] at this;omega
   refine ⟨by rw [hx];rfl,?_⟩;have h2:=Heap.shut_book (val:=fun k=>.pointer (some ⟨A k,0,none⟩)) (give:=fun k x=>.led (A k) x) HK.out (Heap.rngDone HR.out);exact Heap.shut_cha (bm:=bm) (bt:=bt) HP.out (h2.frt 1 rfl)
  case more=>
   intro k v w2 cnt2 hlk hm hlt h2 hen;rw [mget_mkeys] at hm;obtain ⟨y,hy,rfl⟩:=Option.map_eq_some_iff.1 hm;have HT:=zk (osum_take HK.out.1 hy hlk);have HOV:As (∀W L,Heap w0 (.led (A k) y::L) W→Calls Tryz.prog 102 #[.pointer (some ⟨A k,0,none⟩)] W fun e w'=>e=.returned (.bool y.over)∧Below W.heap.size W w'):=⟨fun W L h=>lover_ok h (HP.out.led _ (mget_mem hy))⟩;have HLT:=zk hlt;have h3:=Heap.focus (give:=fun k x=>SA.led (A k) x) HK.out hy (h2.frt 1 rfl);have H3:=zk h3;have HBK:As (∀W cnt',Heap w0 (.led (A k) y::bks (fun k x=>.led (A k) x) (mdel c.l k)::.rng bm r (mkeys (fun k=>Value.pointer (some ⟨A k,0,none⟩)) c.l) (fun z=>left z&& !z.sameKey (.int .i64 k)) cnt'::.pts b (.cells (chc c bj bm bt) 121)::.tower bt c.bells::R) W→Heap w0 (.rng bm r (mkeys (fun k=>Value.pointer (some ⟨A k,0,none⟩)) c.l) (fun z=>left z&& !z.sameKey (.int .i64 k)) cnt'::bks (fun k x=>.led (A k) x) c.l::.pts b (.cells (chc c bj bm bt) 121)::.tower bt c.bells::R) W):=⟨fun W cnt' h=>by
    have:=Heap.unfocus (give:=fun k x=>SA.led (A k) x) h;rw [mput_same HK.out.1 hy] at this;exact this.frt 1 rfl⟩
   have hxb:(x:Int)≤1000:=by
    have h1:=HX.out;have h2:=HOL.out;have h3:=HL.out;omega
   clear hm hlk hlt h2 hy h3;cases ho:y.over
   ·rw [ho] at HOV HT;clear ho;go_wp2_with (go_at_call 102;refine (HOV.out _ _ H3.out).mono ?_;rintro en w3 ⟨rfl,hb⟩;have H4:=zk (H3.out.below hb);clear hb);go_roundg cnt2
    case measure=>exact HLT.out
    case rel=>
     refine ⟨_,x+1,by go_num,⟨?_⟩,⟨HBK.out _ _ H4.out⟩⟩;have h1:=HT.out;have h2:=HX.out;simp only [Bool.false_eq_true,if_false] at h1;omega
   ·rw [ho] at HOV HT;clear ho;go_wp2_with (go_at_call 102;refine (HOV.out _ _ H3.out).mono ?_;rintro en w3 ⟨rfl,hb⟩;have H4:=zk (H3.out.below hb);clear hb);go_roundg cnt2
    case measure=>exact HLT.out
    case rel=>
     refine ⟨_,x,rfl,⟨?_⟩,⟨HBK.out _ _ H4.out⟩⟩;have h1:=HT.out;have h2:=HX.out;simp only [if_true] at h1;omega
theorem Od.ok.pre {o:Od} (h:o.ok) {l r:List Sp} (e:l++r=o.steps):({o with steps:=l}:Od).ok:=
 ⟨h.id0,h.id1,h.item0,h.item1,h.client0,h.client1,h.qty0,h.qty1,h.price0,h.price1,(by have:=h.len;rw [←e] at this;simp at this;show l.length≤3;omega),fun p hp=>h.svc p (by rw [←e];exact List.mem_append_left _ hp),(by
  have:=h.dist;rw [←e,List.map_append] at this;exact (List.nodup_append.1 this).1)⟩
def Led.fresh (o:Od) (l:List Sp):Led:=⟨{o with steps:=l},{Facts.zero with done:=List.replicate l.length false,undone:=List.replicate l.length false},none⟩
theorem fresh_more (o:Od) (l:List Sp) (s n:Int):(Led.fresh o l).more s n=Led.fresh o (l++ [⟨s,n⟩]):=by
 simp [Led.fresh,Led.more,List.replicate_succ']
theorem run_steps {o:Od} (ho:o.ok):∀(r l:List Sp) (c:Chief),l++r=o.steps→mget c.l o.id=some (Led.fresh o l)→c.Run (stepEs o.id l.length r)∧mget ((stepEs o.id l.length r).foldl Chief.note1 c).l o.id=some (Led.fresh o o.steps)
 | [],l,c,e,hx=>by
  rw [List.append_nil] at e;exact ⟨trivial,by rw [←e];exact hx⟩
 |s::r,l,c,e,hx=>by
  have hs:=ho.svc s (by rw [←e];simp);have hl:l.length≤3:=by have:=ho.len;rw [←e] at this;simp at this;omega
  have e2:(l++ [s])++r=o.steps:=by rw [←e];simp
  have hx2:mget ((c.note1 ⟨.step,o.id,[(l.length:Int),s.svc,s.n]⟩).l) o.id=some (Led.fresh o (l++ [s])):=by
   have:(c.note1 ⟨.step,o.id,[(l.length:Int),s.svc,s.n]⟩)=({c with j:=(c.j.add ⟨.step,o.id,[(l.length:Int),s.svc,s.n]⟩).2}:Chief).withL o.id ((Led.fresh o l).more s.svc s.n):=by
    unfold Chief.note1;simp only [Chief.plays,hx]
   rw [this,fresh_more];exact mget_put_same _ _ _
  have ih:=run_steps ho r (l++ [s]) (c.note1 ⟨.step,o.id,[(l.length:Int),s.svc,s.n]⟩) e2 hx2;rw [List.length_append,List.length_singleton] at ih;refine ⟨⟨.step o.id l.length s.svc s.n (Led.fresh o l) hx hl rfl rfl ?_,⟨by show 0≤o.id;have:=ho.id0;omega,ho.id1,by simp,?_⟩,ih.1⟩,ih.2⟩
  ·rw [fresh_more];exact ho.pre e2
  ·intro x hx;simp only [List.mem_cons,List.not_mem_nil,or_false] at hx;rcases hx with rfl|rfl|rfl
   ·unfold numOk;omega
   ·unfold numOk;omega
   ·unfold numOk;omega
theorem run_begin {o:Od} (ho:o.ok) {c:Chief} (hn:mget c.l o.id=none):c.Run (beginEs o)∧mget ((beginEs o).foldl Chief.note1 c).l o.id=some (Led.fresh o o.steps):=by
 have h1:mget ((c.note1 ⟨.begin,o.id,[o.item,o.qty,o.client,o.price]⟩).l) o.id=some (Led.fresh o []):=mget_put_same _ _ _;have h2:=run_steps ho o.steps [] (c.note1 ⟨.begin,o.id,[o.item,o.qty,o.client,o.price]⟩) rfl h1;refine ⟨⟨.begin o.id o.item o.qty o.client o.price (ho.pre (l:= []) rfl) hn,⟨by show 0≤o.id;have:=ho.id0;omega,ho.id1,by simp,?_⟩,h2.1⟩,h2.2⟩;intro x hx;have:=ho.item0;have:=ho.item1;have:=ho.client0;have:=ho.client1;have:=ho.qty0;have:=ho.qty1;have:=ho.price0;have:=ho.price1;simp only [List.mem_cons,List.not_mem_nil,or_false] at hx;rcases hx with rfl|rfl|rfl|rfl<;>unfold numOk<;>omega
theorem stepEs_len (id:Int):∀(r:List Sp) (i:Nat),(stepEs id i r).length=r.length
 | [],_=>rfl
 |s::r,i=>by simp [stepEs,stepEs_len id r (i+1)]
theorem stepEs_take (id:Int):∀(r:List Sp) (i k:Nat) (h:k<r.length),stepEs id i (r.take (k+1))=stepEs id i (r.take k)++ [⟨.step,id,[((i+k:Nat):Int),r[k].svc,r[k].n]⟩]
 |s::r,i,0,_=>by simp [stepEs]
 |s::r,i,k+1,h=>by
  have ih:=stepEs_take id r (i+1) k (by simpa using h);simp only [List.take_succ_cons,stepEs,List.getElem_cons_succ] at ih⊢;rw [ih,show i+1+k=i+(k+1) by omega];rfl
theorem fresh_over (o:Od):(Led.fresh o o.steps).over=false:=by
 unfold Led.over Facts.over Led.fresh Facts.ends;simp [Facts.zero]
theorem ecs_app (l r:List EV):ecs (l++r)=ecs l++ecs r:=by simp [ecs]
theorem Heap.all_snoc {w0 w:World} {L R:List SA} {X:SA} (h:Heap w0 (X::.all L::R) w):Heap w0 (.all (L++ [X])::R) w:=by
 have h2:Heap w0 (L++(X::R)) w:=Heap.spread (h.frt 1 rfl);exact Heap.gather (l:=L++ [X]) (by rw [List.append_assoc];exact h2)
theorem info171:(Tryz.prog.info? 171).map (fun i=>(i.zero,i.size,i.bytes))=some (some (.agg #[.string ⟨#[]⟩,.int .i64 0,.slice none 0 0]),3,48):=by kernel_rfl
theorem sures_ok_get {c:Chief} {es:List Entry} (h:(c.sures es).1=true):(c.sures es).2.l=(es.foldl Chief.note1 c).l∧(c.sures es).2.bells=c.bells:=by
 unfold Chief.sures at h⊢;split at h
 ·rename_i h1;rw [if_pos h1];rw [notes_eq] at h1⊢;split
  ·rename_i h2;rw [if_pos h2] at h1;cases h1
  ·refine ⟨rfl,?_⟩
   show (es.foldl Chief.note1 c).bells=c.bells
   have key:∀(es:List Entry) (c:Chief),(es.foldl Chief.note1 c).bells=c.bells:=by
    intro es
    induction es with
    |nil=>intro c;rfl
    |cons e r ih=>intro c;exact (ih _).trans (plays_room _ _).2.2.2.2
   exact key es c
 ·cases h
theorem cbegin_ok {w0 w:World} {b:Nat} {c:Chief} {R:List SA} {o:Od} {v:Value} (h:Heap w0 (.chief b c::.slc v 131 2 o.steps.length (scells o.steps)::R) w) (ho:o.ok):
 Calls Tryz.prog 96 #[.pointer (some ⟨b,0,none⟩),o.val v] w fun e w'=>∃v',e=.returned (.tuple #[v',.int .i64 (c.begin o).2.1])∧Heap w0 (.slc v' 113 7 (c.begin o).1.length (mcells (c.begin o).1)::.chief b (c.begin o).2.2::.slc v 131 2 o.steps.length (scells o.steps)::R) w':=by
 have HH:As (c.begin o=if c.j.down=true then ([],10,c) else
  if (mget c.l o.id).isSome=true then ([],8,c) else
  if c.most≤(c.opens:Int) then ([],5,c) else
  if (c.sures (beginEs o)).1=true then ((((c.sures (beginEs o)).2.hang o.id).goes o.id).1,0,(((c.sures (beginEs o)).2.hang o.id).goes o.id).2) else ([],5,(c.sures (beginEs o)).2)):=⟨rfl⟩
 have HO:=zk ho;have hi0:=ho.id0;have hi1:=ho.id1;have hl3:=ho.len;obtain ⟨av,cv,rfl⟩:=vS2 (h.row 1 rfl);have HBX:=zk ((h.new (.cells (o.cells (.slice av o.steps.length cv)) 32)).frt 1 rfl);have HDN:=zk (cdown_ok HBX.out);obtain ⟨bj,A,h⟩:=h.cha_of;have HB:=zk (h.new (.cells (o.cells (.slice av o.steps.length cv)) 32));have HMAY:As (∀W L,Heap w0 (.slc (.slice av o.steps.length cv) 131 2 o.steps.length (scells o.steps)::L) W→Calls Tryz.prog 93 #[o.val (.slice av o.steps.length cv)] W fun e w'=>e=.returned (.bool true)∧Below W.heap.size W w'):=⟨fun W L h=>omay_ok o _ W HO.out (h.row 0 rfl)⟩;clear h ho;obtain ⟨i0,hj0,hj1,hj2,hj3⟩:=info_parts info171;have HI:=zk (And.intro hj0 (And.intro hj1 (And.intro hj2 hj3)));clear hj0 hj1 hj2 hj3;generalize c.begin o=res at *;unfold Od.val Od.cells at *;obtain ⟨x0,x1,x2,x3,x4,x5,xf⟩:=HB.out.cB6 0 rfl;have hlx:=HB.out.lt 0 rfl;cases hd:c.j.down
 ·rw [hd] at HDN HH;simp only [Bool.false_eq_true,if_false] at HH;have HD:As (c.j.down=false):=⟨hd⟩;clear hd;go_enter Tryz.func96,Tryz.ntmps96;go_wp2_with (first
   |(go_at_call 97;refine HDN.out.mono ?_;rintro en w1 ⟨rfl,rfl⟩)
   |(go_at_call 93;refine (HMAY.out _ _ (HB.out.frt 3 rfl)).mono ?_;rintro en w1 ⟨rfl,hb⟩;have H1:=zk (HB.out.below hb);clear hb))
  generalize w.heap.size=bx at *;clear x0 x1 x2 x3 x4 x5 xf hlx;obtain ⟨x0,x1,x2,x3,x4,x5,xf⟩:=H1.out.cB6 0 rfl;have hlx:=H1.out.lt 0 rfl;obtain ⟨bm,bt,⟨c5,c6⟩,⟨c3,cf,hlb⟩,hlk,hlk2⟩:=look_x (H1.out.frt 1 rfl) hi0 hi1;cases hx:mget c.l o.id with
  |some x=>
   simp only [hx,Option.isSome_some,if_true] at HH;rw [hx] at hlk hlk2;simp only [xptr] at hlk hlk2;clear hx;refine wro0 [(0,.f),(1,.f),(2,.f),(3,.s),(4,.f),(5,.s),(6,.s),(7,.f),(8,.f)] ?_;refine vg rfl rfl ?_;apply ex2;intro w' hw';go_simp;rfl;go_simp;refine vg rfl rfl ?_;apply ex2;intro w' hw';go_simp;rfl;go_simp;refine vg rfl rfl ?_;apply ex2;intro w' hw';go_simp;rfl;go_simp;refine vs_ rfl (fun K hK=>?_);go_simp;refine hK _ ?_;clear hK K;refine vg rfl rfl ?_;apply ex2;intro w' hw';go_simp;rfl;go_simp;refine vs_ rfl (fun K hK=>?_);go_simp;refine hK _ ?_;clear hK K;refine vs_ rfl (fun K hK=>?_);go_simp;refine hK _ ?_;clear hK K;refine vg rfl rfl ?_;apply ex2;intro w' hw';go_simp;rfl;go_simp;refine vg rfl rfl ?_;apply ex2;intro w' hw';go_simp;rfl;go_simp;refine vn ?_;go_simp;go_wp2_with (fail);rw [HH.out];exact bodyPost_ret (v:=.tuple #[.slice none 0 0,.int .i64 8]) (by simp [results,Tryz.results96,go_sem]) rfl ⟨_,rfl,(Heap.cha_to (bj:=bj) (A:=A) (H1.out.drew.sel (p:= [_,_,_,_]) [1,2,3] 4 rfl (by decide))).nRw 113 7⟩
  |none=>
   simp only [hx,Option.isSome_none,Bool.false_eq_true,if_false] at HH;rw [hx] at hlk hlk2;simp only [xptr] at hlk hlk2;have HX:=zk hx;clear hx;refine wro0 [(0,.f),(1,.f),(2,.f),(3,.s),(4,.f),(5,.s),(6,.s),(7,.f),(8,.f)] ?_;refine vg rfl rfl ?_;apply ex2;intro w' hw';go_simp;rfl;go_simp;refine vg rfl rfl ?_;apply ex2;intro w' hw';go_simp;rfl;go_simp;refine vg rfl rfl ?_;apply ex2;intro w' hw';go_simp;rfl;go_simp;refine vs_ rfl (fun K hK=>?_);go_simp;refine hK _ ?_;clear hK K;refine vg rfl rfl ?_;apply ex2;intro w' hw';go_simp;rfl;go_simp;refine vs_ rfl (fun K hK=>?_);go_simp;refine hK _ ?_;clear hK K;refine vs_ rfl (fun K hK=>?_);go_simp;refine hK _ ?_;clear hK K;refine vg rfl rfl ?_;apply ex2;intro w' hw';go_simp;rfl;go_simp;refine vg rfl rfl ?_;apply ex2;intro w' hw';go_simp;rfl;go_simp;refine vn ?_;go_simp;go_wp2_with (fail);have H2:=zk H1.out.drew;generalize w1.drew=w2 at *;clear x0 x1 x2 x3 x4 x5 xf hlx hlk hlk2 c5 c6 c3 cf hlb;obtain ⟨x0,x1,x2,x3,x4,x5,xf⟩:=H2.out.cB6 0 rfl;have hlx:=H2.out.lt 0 rfl;obtain ⟨-,bm,bt,h3⟩:=(H2.out.frt 1 rfl).open_cha;obtain ⟨c0,c1,c2,c3,c4,c5,c6,cf⟩:=h3.cB7 0 rfl;have hlb:=h3.lt 0 rfl;clear h3;have HMO:As (∀W L,Heap w0 (.cha b bj A c::L) W→W.cell? ⟨b,0,none⟩=some (.int .i64 c.most)):=⟨fun W L h=>by
    obtain ⟨-,bm,bt,h⟩:=h.open_cha;exact h.cell 0 0 rfl rfl⟩
   by_cases hop:c.most≤(c.opens:Int)
   ·have hob:decide (c.most≤(c.opens:Int))=true:=by simpa using hop
    simp only [if_pos hop] at HH;clear hop;refine wro (fun W=>W.cell? ⟨b,0,none⟩=some (.int .i64 c.most)) [(0,.f),(2,.f),(3,.f),(4,.f),(5,.f),(1,.e),(6,.f),(7,.f)] c0 ?_;refine vg rfl rfl ?_;apply ex2;intro w' hw';go_simp;rfl;go_simp;refine vg rfl rfl ?_;apply ex2;intro w' hw';go_simp;rfl;go_simp;refine vg rfl rfl ?_;apply ex2;intro w' hw';go_simp;rfl;go_simp;refine vg rfl rfl ?_;apply ex2;intro w' hw';go_simp;rfl;go_simp;refine vg rfl rfl ?_;apply ex2;intro w' hw';go_simp;rfl;go_simp;refine ve rfl rfl ?_;go_wp2_with (go_at_call 129;refine (copen_ok (H2.out.drew.frt 1 rfl)).mono ?_;rintro en w4 ⟨rfl,h4⟩;have H4:=zk h4;clear h4);refine ⟨HMO.out _ _ H4.out,?_⟩;go_simp;refine vg rfl rfl ?_;apply ex2;intro w' hw';go_simp;rfl;go_simp;refine vg rfl rfl ?_;apply ex2;intro w' hw';go_simp;rfl;go_simp;refine vn ?_;go_simp;go_wp2_with (fail);rw [HH.out];exact bodyPost_ret (v:=.tuple #[.slice none 0 0,.int .i64 5]) (by simp [results,Tryz.results96,go_sem]) rfl ⟨_,rfl,(Heap.cha_to (bj:=bj) (A:=A) (H4.out.sel (p:= [_,_,_,_]) [0,2,3] 4 rfl (by decide))).nRw 113 7⟩
   ·have hob:decide (c.most≤(c.opens:Int))=false:=by simpa using hop
    simp only [if_neg hop] at HH;clear hop;refine wro (fun W=>W.cell? ⟨b,0,none⟩=some (.int .i64 c.most)) [(0,.f),(2,.f),(3,.f),(4,.f),(5,.f),(1,.e),(6,.f),(7,.f)] c0 ?_;refine vg rfl rfl ?_;apply ex2;intro w' hw';go_simp;rfl;go_simp;refine vg rfl rfl ?_;apply ex2;intro w' hw';go_simp;rfl;go_simp;refine vg rfl rfl ?_;apply ex2;intro w' hw';go_simp;rfl;go_simp;refine vg rfl rfl ?_;apply ex2;intro w' hw';go_simp;rfl;go_simp;refine vg rfl rfl ?_;apply ex2;intro w' hw';go_simp;rfl;go_simp;refine ve rfl rfl ?_;go_wp2_with (go_at_call 129;refine (copen_ok (H2.out.drew.frt 1 rfl)).mono ?_;rintro en w4 ⟨rfl,h4⟩;have H4:=zk h4;clear h4);refine ⟨HMO.out _ _ H4.out,?_⟩;go_simp;refine vg rfl rfl ?_;apply ex2;intro w' hw';go_simp;rfl;go_simp;refine vg rfl rfl ?_;apply ex2;intro w' hw';go_simp;rfl;go_simp;refine vn ?_;go_simp;clear x0 x1 x2 x3 x4 x5 xf hlx c0 c1 c2 c3 c4 c5 c6 cf hlb H2;obtain ⟨x0,x1,x2,x3,x4,x5,xf⟩:=H4.out.cB6 1 rfl;have hlx:=H4.out.lt 1 rfl;go_wp2_with (go_at_call 101;refine (cey (H4.out.new (.cells #[.int .i64 o.item,.int .i64 o.qty,.int .i64 o.client,.int .i64 o.price] 3)) _ _ _ _ _).mono ?_;rintro en w5 ⟨rfl,h5⟩;clear x0 x1 x2 x3 x4 x5 xf hlx;obtain ⟨x0,x1,x2,x3,x4,x5,xf⟩:=h5.cB6 2 rfl;have hlx:=h5.lt 2 rfl;have H5:=zk h5;clear h5);have h6:=H5.out.new (.cells #[.string (Kd.str .begin),.int .i64 o.id,.slice (some ⟨w4.heap.size,0,none⟩) 4 4] 171);have h7:=((Heap.asSlc (k:=4) (size:=1) (h6.frt 1 rfl) (by decide) rfl).frt 1 rfl).one_entry (e:=⟨.begin,o.id,[o.item,o.qty,o.client,o.price]⟩);have H7:=zk (h7.sel (p:= [_,_,_,_,_,_]) [0,1,3,2,4,5] 6 rfl (by decide));clear h6 h7 x0 x1 x2 x3 x4 x5 xf hlx;have HBE:As (mget c.l o.id=none→c.Run (beginEs o)∧mget ((beginEs o).foldl Chief.note1 c).l o.id=some (Led.fresh o o.steps)):=⟨run_begin HO.out⟩
    go_loopg [6,52] o.steps.length (fun gk lv iv wr=>∃(k:Nat) (L:List EV) (g cap:Nat),lv=.slice (some ⟨g,0,none⟩) L.length cap∧iv=.int .i64 k∧k≤o.steps.length∧As (gk+k=o.steps.length)∧As (L.map (·.1)=⟨.begin,o.id,[o.item,o.qty,o.client,o.price]⟩::stepEs o.id 0 (o.steps.take k))∧As (Heap w0 (.slc (.slice (some ⟨g,0,none⟩) L.length cap) 171 3 L.length (ecs L)::eslc L::.pts bx (.cells #[.int .i64 o.id,.int .i64 o.item,.int .i64 o.qty,.int .i64 o.client,.int .i64 o.price,.slice av o.steps.length cv] 32)::.cha b bj A c::.jrn bj c.j::.slc (.slice av o.steps.length cv) 131 2 o.steps.length (scells o.steps)::R) wr))
    case atStart=>exact ⟨0,[(⟨.begin,o.id,[o.item,o.qty,o.client,o.price]⟩,.slice (some ⟨w4.heap.size,0,none⟩) 4 4)],w5.heap.size,1,rfl,rfl,Nat.zero_le _,⟨rfl⟩,⟨rfl⟩,⟨H7.out⟩⟩
    case round=>
     obtain ⟨k,L,g,cap,rfl,rfl,hk,HG,HLM,HR⟩:=hrel;clear H7 H5 H4 H1 HB HBX HDN HMAY;obtain ⟨x0,x1,x2,x3,x4,x5,xf⟩:=HR.out.cB6 2 rfl;have hlx:=HR.out.lt 2 rfl;by_cases hlt:k<o.steps.length
     ·rcases HR.out.shp 5 rfl with ⟨-,hz, -⟩|⟨gs,cap',hv, -, -,hcel⟩
      ·omega
      obtain ⟨rfl,rfl⟩:av=some ⟨gs,0,none⟩∧cv=cap':=by cases hv;exact ⟨rfl,rfl⟩
      have s0:wr.cell? ⟨gs,k*2,none⟩=some (.int .i64 o.steps[k].svc):=hcel (k*2+0) _ (scells_get o.steps k 0 hlt (by omega));have s1:wr.cell? ⟨gs,k*2+1,none⟩=some (.int .i64 o.steps[k].n):=hcel (k*2+1) _ (scells_get o.steps k 1 hlt (by omega));have hgs:=World.block_lt_of_cell? wr _ s0;have HTK:=zk (stepEs_take o.id o.steps 0 k hlt);simp only [Nat.zero_add] at HTK;generalize o.steps[k]=sp at *;have hk1:(k:Int)<(o.steps.length:Int):=by omega
      have HLL:As (L.length≤10):=⟨by
       have:=congrArg List.length HLM.out;simp only [List.length_map,List.length_cons,stepEs_len,List.length_take] at this;omega⟩
      have HN:=zk (Heap.nAt (n:=wr.heap.size+1) (HR.out.new (.cells #[.int .i64 sp.svc,.int .i64 sp.n] 131)) (.cells #[.int .i64 (k:Int),.int .i64 sp.svc,.int .i64 sp.n] 3) (by simp));have HLT:=zk hlt;clear hcel hv hlt;go_wp2_with (first
       |(go_at_call 101;refine (cey HN.out _ _ _ _ _).mono ?_;rintro en w6 ⟨rfl,h6⟩;have H6:=zk (h6.new (.cells #[.string (Kd.str .step),.int .i64 o.id,.slice (some ⟨wr.heap.size+1,0,none⟩) 3 3] 171));clear h6)
       |(at_builtin;refine wla H6.out 3 _ 171 3 L.length _ rfl rfl _ _ 204 rfl i0 _ 48 Tryz.underlying204 HI.out.1 HI.out.2.1 HI.out.2.2.1 HI.out.2.2.2 rfl (by decide) rfl ⟨w6.heap.size,0,none⟩ 1 1 [.string (Kd.str .step),.int .i64 o.id,.slice (some ⟨wr.heap.size+1,0,none⟩) 3 3] rfl rfl (fun j u hu=>by rw [addr_add];exact H6.out.cell 0 j rfl (by simpa using hu)) (by simp [Value.oneCell']) (by have:=HLL.out;omega) (by decide) (by omega) ?_;intro g2 cap2 w7 h7 _;have H7:=zk h7;clear h7))
      go_roundg (o.steps.length-(k+1))
      case measure=>have:=HG.out;have:=HLT.out;omega
      case rel=>
       have hL:(L++ [((⟨.step,o.id,[(k:Int),sp.svc,sp.n]⟩,.slice (some ⟨wr.heap.size+1,0,none⟩) 3 3):EV)]).length=L.length+1:=by simp
       refine ⟨k+1,L++ [(⟨.step,o.id,[(k:Int),sp.svc,sp.n]⟩,.slice (some ⟨wr.heap.size+1,0,none⟩) 3 3)],g2,cap2,by rw [hL],by go_num,by have:=HLT.out;omega,⟨by have:=HG.out;have:=HLT.out;omega⟩,⟨by rw [List.map_append,HLM.out,HTK.out];rfl⟩,⟨?_⟩⟩;rw [hL];have h8:=Heap.asSlc (k:=3) (size:=1) (H7.out.frt 1 rfl) (by decide) rfl;have h9:=h8.sel (p:= [_,_,_,_,_,_,_,_,_]) [0,4,3,5,6,7,8] 9 rfl (by decide);have h10:=Heap.all_snoc (L:=L.map EV.sa) (X:=EV.sa (⟨.step,o.id,[(k:Int),sp.svc,sp.n]⟩,.slice (some ⟨wr.heap.size+1,0,none⟩) 3 3)) h9;have e1:eslc (L++ [((⟨.step,o.id,[(k:Int),sp.svc,sp.n]⟩,.slice (some ⟨wr.heap.size+1,0,none⟩) 3 3):EV)])=.all (L.map EV.sa++ [EV.sa (⟨.step,o.id,[(k:Int),sp.svc,sp.n]⟩,.slice (some ⟨wr.heap.size+1,0,none⟩) 3 3)]):=by simp [eslc]
       rw [e1,ecs_app];exact h10.frt 1 rfl
     ·obtain rfl:k=o.steps.length:=by omega
      have HLM2:As (L.map (·.1)=beginEs o):=⟨by rw [HLM.out,List.take_length];rfl⟩;have HLL:As (0<L.length∧L.length≤1000):=⟨by
       have:=congrArg List.length HLM2.out;simp only [beginEs,List.length_map,List.length_cons,stepEs_len] at this;omega⟩
      have HSU:=zk (csures_ok (l:=L) (HR.out.sel (p:= [_,_,_,_,_,_]) [3,4,0,1,2,5] 6 rfl (by decide)) (by rw [HLM2.out];exact (HBE.out HX.out).1) HD.out HLL.out.1 HLL.out.2);rw [HLM2.out] at HSU;have HSG:=zk (fun h=>sures_ok_get (c:=c) (es:=beginEs o) h);have HSD:=zk (sures_down c (beginEs o));clear hk HG HLM;generalize c.sures (beginEs o)=p at *;obtain ⟨okp,nc⟩:=p;simp only at HH HSU HSG HSD;cases okp
      ·simp only [Bool.false_eq_true,if_false] at HH;go_wp2_with (go_at_call 100;refine HSU.out.mono ?_;rintro en w6 ⟨rfl,A2, -,h6⟩;have H6:=zk h6;clear h6);rw [HH.out];exact bodyPost_ret (v:=.tuple #[.slice none 0 0,.int .i64 5]) (by simp [results,Tryz.results96,go_sem]) rfl ⟨_,rfl,(Heap.cha_to (bj:=bj) (A:=A2) (H6.out.sel (p:= [_,_,_,_,_,_]) [0,1,5] 6 rfl (by decide))).nRw 113 7⟩
      ·simp only [if_true] at HH;have hg:=HSG.out rfl;have hnx:mget nc.l o.id=some (Led.fresh o o.steps):=by rw [hg.1];exact (HBE.out HX.out).2
       have HNX:=zk hnx;clear hg hnx;go_wp2_with (go_at_call 100;refine HSU.out.mono ?_;rintro en w6 ⟨rfl,A2, -,h6⟩;clear x0 x1 x2 x3 x4 x5 xf hlx;obtain ⟨x0,x1,x2,x3,x4,x5,xf⟩:=h6.cB6 4 rfl;have hlx:=h6.lt 4 rfl;have H6:=zk h6;clear h6);have HNOK:=H6.out.cha_ok;have HOKH:=zk (HNOK.bell (hang_keys HNOK.bells o.id));have HBL:As (nc.bells.left.length<1000000):=⟨by have:=HNOK.bells.len;omega⟩;clear HNOK;obtain ⟨-,bm2,bt2,h7⟩:=H6.out.open_cha;obtain ⟨c0,c1,c2,c3,c4,c5,c6,cf⟩:=h7.cB7 0 rfl;have hlb:=h7.lt 0 rfl;have H7:=zk h7;clear h7;have HGO:As (∀W L,Heap w0 (.cha b bj A2 (nc.hang o.id)::.jrn bj nc.j::L) W→Calls Tryz.prog 131 #[.pointer (some ⟨b,0,none⟩),.pointer (some ⟨A2 o.id,0,none⟩)] W (Sends w0 b bj A2 L ((nc.hang o.id).goes o.id))):=⟨fun W L h=>cgoes_ok (c:=nc.hang o.id) h HNX.out (HSD.out.trans HD.out)⟩;generalize hrg:(nc.hang o.id).goes o.id=rg at *;clear hrg;refine wro0 [(0,.f),(1,.f),(2,.f),(3,.s),(4,.f),(5,.s),(6,.e)] ?_;refine vg rfl rfl ?_;apply ex2;intro w' hw';go_simp;rfl;go_simp;refine vg rfl rfl ?_;apply ex2;intro w' hw';go_simp;rfl;go_simp;refine vg rfl rfl ?_;apply ex2;intro w' hw';go_simp;rfl;go_simp;refine vs_ rfl (fun K hK=>?_);go_simp;refine hK _ ?_;clear hK K;refine vg rfl rfl ?_;apply ex2;intro w' hw';go_simp;rfl;go_simp;refine vs_ rfl (fun K hK=>?_);go_simp;refine hK _ ?_;clear hK K;refine ve rfl rfl ?_;go_wp2_with (go_at_call 130;refine (hang_ok (H7.out.drew.frt 2 rfl) o.id hi0 hi1 HBL).mono ?_;rintro en w8 ⟨rfl,h8⟩;have H8:=zk (Heap.shut_cha (c:=nc.hang o.id) HOKH.out (h8.sel (p:= [_,_,_,_]) [1,2,0,3] 4 rfl (by decide)));clear h8);refine ⟨trivial,?_⟩;go_simp;refine vn ?_;go_simp;clear x0 x1 x2 x3 x4 x5 xf hlx c0 c1 c2 c3 c4 c5 c6 cf hlb;obtain ⟨x0,x1,x2,x3,x4,x5,xf⟩:=H8.out.cB6 4 rfl;have hlx:=H8.out.lt 4 rfl;obtain ⟨bm3,bt3,⟨c5,c6⟩,⟨c3,cf,hlb⟩,hlk,hlk2⟩:=look_x H8.out hi0 hi1;have hnx2:mget (nc.hang o.id).l o.id=some (Led.fresh o o.steps):=HNX.out;rw [hnx2] at hlk hlk2;simp only [xptr] at hlk hlk2;clear hnx2;go_wp2_with (fail);refine wro0 [(0,.f),(1,.f),(2,.f),(3,.f),(4,.s),(5,.f),(6,.s),(7,.s),(8,.e),(9,.f),(10,.f)] ?_;refine vg rfl rfl ?_;apply ex2;intro w' hw';go_simp;rfl;go_simp;refine vg rfl rfl ?_;apply ex2;intro w' hw';go_simp;rfl;go_simp;refine vg rfl rfl ?_;apply ex2;intro w' hw';go_simp;rfl;go_simp;refine vg rfl rfl ?_;apply ex2;intro w' hw';go_simp;rfl;go_simp;refine vs_ rfl (fun K hK=>?_);go_simp;refine hK _ ?_;clear hK K;refine vg rfl rfl ?_;apply ex2;intro w' hw';go_simp;rfl;go_simp;refine vs_ rfl (fun K hK=>?_);go_simp;refine hK _ ?_;clear hK K;refine vs_ rfl (fun K hK=>?_);go_simp;refine hK _ ?_;clear hK K;refine ve rfl rfl ?_;go_wp2_with (go_at_call 131;refine (HGO.out _ _ H8.out.drew).mono ?_;rintro en w9 ⟨v9,rfl,h9⟩;have H9:=zk h9;clear h9);refine ⟨trivial,?_⟩;go_simp;refine vg rfl rfl ?_;apply ex2;intro w' hw';go_simp;rfl;go_simp;refine vg rfl rfl ?_;apply ex2;intro w' hw';go_simp;rfl;go_simp;refine vn ?_;go_simp;go_wp2_with (fail);rw [HH.out];exact bodyPost_ret (v:=.tuple #[v9,.int .i64 0]) (by simp [results,Tryz.results96,go_sem]) rfl ⟨_,rfl,(Heap.cha_to (bj:=bj) (A:=A2) (H9.out.sel (p:= [_,_,_,_,_,_,_]) [1,2,0,6] 7 rfl (by decide))).frt 1 rfl⟩
 ·rw [hd] at HDN HH;simp only [if_true] at HH;clear hd;go_enter Tryz.func96,Tryz.ntmps96;go_wp2_with (go_at_call 97;refine HDN.out.mono ?_;rintro en w1 ⟨rfl,rfl⟩);rw [HH.out];exact bodyPost_ret (v:=.tuple #[.slice none 0 0,.int .i64 10]) (by simp [results,Tryz.results96,go_sem]) rfl ⟨_,rfl,(HBX.out.sel (p:= [_,_,_]) [0,2] 3 rfl (by decide)).nRw 113 7⟩
end Go.Proofs.YtlnghlamnehfjaaGreatDoor.S
