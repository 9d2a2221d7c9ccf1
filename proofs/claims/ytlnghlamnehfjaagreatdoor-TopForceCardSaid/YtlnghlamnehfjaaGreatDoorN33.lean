/- Contracts and plain laws of the program, part N33. -/
import Derived.Test.YtlnghlamnehfjaaGreatDoorN24
import Derived.Test.YtlnghlamnehfjaaGreatDoorN29
import Derived.Test.YtlnghlamnehfjaaGreatDoorN32
set_option linter.unusedVariables false
set_option linter.unusedSimpArgs false
set_option maxRecDepth 100000
set_option maxHeartbeats 64000000
namespace Go.Proofs.YtlnghlamnehfjaaGreatDoor.S
open Go.RowKit Go.Maps
theorem isPrep_mem {l:List Msg} (h:isPrep l=true):∃m∈l,m.kind=6:=by
 cases l with
 |nil=>cases h
 |cons m r=>exact ⟨m,by simp,by simpa [isPrep] using h⟩
theorem decision_mem {k:Int} {o:Od} {f:Facts} {m:Msg} (h:m∈decisionM k o f):(m=tellM k 1 o∧f.ack0=false)∨(m=tellM k 2 o∧f.ack1=false):=by
 unfold decisionM at h;rcases List.mem_append.1 h with h|h
 ·cases h0:f.ack0<;>simp [h0] at h
  exact .inl ⟨h,rfl⟩
 ·cases h0:f.ack1<;>simp [h0] at h
  exact .inr ⟨h,rfl⟩
theorem undo_mem {o:Od} {f:Facts} {m:Msg} (h:m∈undoM o f):∃i s,f.undone.reverse.findIdx? (fun b=>!b)=some i∧o.steps[f.undone.length-1-i]? =some s∧m=⟨4,0,s.svc,o.id,((f.undone.length-1-i:Nat):Int),0,0⟩:=by
 unfold undoM at h;split at h
 ·cases h
 ·rename_i i hi;split at h
  ·cases h
  ·rename_i s hs;exact ⟨i,s,hi,hs,by simpa using h⟩
theorem prep_is {o:Od} {f:Facts} (h:isPrep (nextM o f)=true):f.turned=false∧f.yes=false∧f.done.contains false=false:=by
 obtain ⟨m,hm,hk⟩:=isPrep_mem h;have hdec:∀k,k≠6→m∈decisionM k o f→False:=fun k hk6 hmem=>by
  rcases decision_mem hmem with ⟨rfl,_⟩|⟨rfl,_⟩<;>exact hk6 hk
 unfold nextM at hm;split at hm
 ·cases hm
 split at hm
 ·rcases List.mem_append.1 hm with h|h
  ·exact (hdec 10 (by decide) h).elim
  ·obtain ⟨i,s,_,_,rfl⟩:=undo_mem h;cases hk
 rename_i ht;split at hm
 ·exact (hdec 9 (by decide) hm).elim
 split at hm
 ·rcases List.mem_append.1 hm with h|h
  ·exact (hdec 9 (by decide) h).elim
  ·simp at h;subst h;cases hk
 rename_i hy;refine ⟨by simpa using ht,by simpa using hy,?_⟩;unfold forwardM at hm;split at hm
 ·split at hm
  ·simp at hm;subst hm;cases hk
  ·cases hm
 ·rename_i hn;rw [List.findIdx?_eq_none_iff] at hn;rw [←Bool.not_eq_true];intro hc;simp at hc;have:=hn _ hc;simp at this
theorem next_len (o:Od) (f:Facts):(nextM o f).length≤3:=by
 unfold nextM decisionM undoM forwardM tellM;repeat' split
 all_goals simp
theorem vslice2' {w:World} {k size:Nat} {T:TypeId} {v:Value} {n:Nat} {xs:List Value} (hr:w.ownsRow k T size v n xs):∃a m cap,v=.slice a m cap:=by
 obtain ⟨a,c,h⟩:=vS2 hr;exact ⟨a,n,c,h⟩
theorem asked_ok {id:Int} (h0:1≤id) (h1:id≤999) (k:Kd):Entry.ok ⟨k,id,[]⟩:=⟨by simp only;omega,h1,by simp,by simp⟩
def LedAt (w:World) (b:Nat) (x:Led) (vs vd vu tp:Value):Prop:=w.cell? ⟨b,0,none⟩=some (.int .i64 x.o.id)∧w.cell? ⟨b,1,none⟩=some (.int .i64 x.o.item)∧w.cell? ⟨b,2,none⟩=some (.int .i64 x.o.qty)∧w.cell? ⟨b,3,none⟩=some (.int .i64 x.o.client)∧w.cell? ⟨b,4,none⟩=some (.int .i64 x.o.price)∧w.cell? ⟨b,5,none⟩=some vs∧w.cell? ⟨b,6,none⟩=some vd∧w.cell? ⟨b,7,none⟩=some vu∧w.cell? ⟨b,8,none⟩=some (.bool x.f.asked)∧w.cell? ⟨b,9,none⟩=some (.bool x.f.yes)∧w.cell? ⟨b,10,none⟩=some (.bool x.f.turned)∧w.cell? ⟨b,11,none⟩=some (.bool x.f.ack0)∧w.cell? ⟨b,12,none⟩=some (.bool x.f.ack1)∧w.cell? ⟨b,13,none⟩=some (.bool x.f.shipped)∧w.cell? ⟨b,14,none⟩=some (.bool x.f.dam0)∧w.cell? ⟨b,15,none⟩=some (.bool x.f.dam1)∧w.cell? ⟨b,16,none⟩=some (.bool x.f.accepted)∧w.cell? ⟨b,17,none⟩=some tp∧(∀j,w.frozen? ⟨b,j,none⟩=false)
theorem cnext_ok {w0 w:World} {b bj:Nat} {A:Int→Nat} {c:Chief} {R:List SA} {id:Int} {x:Led} (h:Heap w0 (.cha b bj A c::R) w) (hx:mget c.l id=some x) (hov:x.over=false):
 ∃vs vd vu tb,LedAt w (A id) x vs vd vu (x.tp tb)∧(∃a m k,vs=.slice a m k)∧(∃a m k,vd=.slice a m k)∧(∃a m k,vu=.slice a m k)∧A id<w.heap.size∧
  ∀W L,Below w.heap.size w W→Heap w0 L W→Calls Tryz.prog 139 #[x.o.val vs,x.f.val vd vu] W fun e w'=>∃v',e=.returned v'∧Heap w0 (.slc v' 113 7 (nextM x.o x.f).length (mcells (nextM x.o x.f))::L) w':=by
 obtain ⟨hp,bm,bt,h⟩:=h.cha_at hx;obtain ⟨vs,vd,vu,tb,hpa,h⟩:=h.open_led;refine ⟨vs,vd,vu,tb,h.cA8 0 rfl,vslice2' (h.row 1 rfl),vslice2' (h.row 2 rfl),vslice2' (h.row 3 rfl),h.lt 0 rfl,fun W L hb hW=>?_⟩;refine (next_ok x.o x.f vs vd vu W hW.tab (((hp.get hx).1.ofs hpa (h.row 1 rfl) (h.row 2 rfl) (h.row 3 rfl)).below hb) hov).mono ?_;rintro e w' ⟨v',rfl,h'⟩;exact ⟨v',rfl,hW.join h'⟩
theorem led_at {w0 w:World} {b bj:Nat} {A:Int→Nat} {c:Chief} {R:List SA} {id:Int} {x:Led} (h:Heap w0 (.cha b bj A c::R) w) (hx:mget c.l id=some x):∃vs vd vu tb,LedAt w (A id) x vs vd vu (x.tp tb)∧A id<w.heap.size:=by
 obtain ⟨hp,bm,bt,h⟩:=h.cha_at hx;obtain ⟨vs,vd,vu,tb,hpa,h⟩:=h.open_led;exact ⟨vs,vd,vu,tb,h.cA8 0 rfl,h.lt 0 rfl⟩
theorem csends_ok {w0 w:World} {b bj:Nat} {A:Int→Nat} {c:Chief} {R:List SA} {id:Int} {x:Led} (h:Heap w0 (.cha b bj A c::.jrn bj c.j::R) w) (hx:mget c.l id=some x) (hov:x.over=false) (hd:c.j.down=false):
 Calls Tryz.prog 109 #[.pointer (some ⟨b,0,none⟩),.pointer (some ⟨A id,0,none⟩)] w fun e w'=>∃v',e=.returned v'∧Heap w0 (.slc v' 113 7 (c.sends x).1.length (mcells (c.sends x).1)::.cha b bj A (c.sends x).2::.jrn bj (c.sends x).2.j::R) w':=by
 have hok:=(h.cha_ok).get hx;obtain ⟨vs,vd,vu,tb,⟨c0,c1,c2,c3,c4,c5,c6,c7,c8,c9,c10,c11,c12,c13,c14,c15,c16,c17,cf⟩,⟨as1,ms,ks,rfl⟩,⟨ad,md,kd,rfl⟩,⟨au,mu,ku,rfl⟩,hla,hnx⟩:=cnext_ok h hx hov;have hid:x.o.id=id:=hok.1.id;have HNX:=zk hnx;have HS:As (c.sends x=if (isPrep (nextM x.o x.f)&& !x.f.asked)=true then (if (c.notes [⟨.asked,x.o.id,[]⟩]).1=true then (nextM x.o x.f,(c.notes [⟨.asked,x.o.id,[]⟩]).2) else ([],(c.notes [⟨.asked,x.o.id,[]⟩]).2)) else (nextM x.o x.f,c)):=⟨rfl⟩;rw [hid] at HS;have HX:=zk hx;have HP:As (isPrep (nextM x.o x.f)=true→(x.f.turned=false∧x.f.yes=false∧x.f.done.contains false=false)):=⟨prep_is⟩;have HL:=zk (next_len x.o x.f);have H:=zk h;have HD:=zk hd;have hi0:=hok.2.1;have hi1:=hok.2.2;clear h hnx hx hok hov hd;unfold Od.val Facts.val at HNX;rw [hid] at HNX c0;generalize nextM x.o x.f=ms' at *;generalize c.sends x=res at *;go_enter Tryz.func109,Tryz.ntmps109;go_wp2_with (fail);refine wro0 [(0,.f),(1,.f),(2,.f),(3,.s),(4,.f),(5,.f),(6,.f),(7,.s),(8,.e),(9,.f)] ?_;repeat (first
  |(refine vg rfl rfl ?_;apply ex2;intro w' hw';go_simp;rfl;go_simp)
  |(refine vs_ rfl (fun K hK=>?_);go_simp;refine hK _ ?_;clear hK K)
  |(refine ve rfl rfl ?_;go_wp2_with (go_at_call 139;refine (HNX.out _ _ ((Below.refl _ w).drew) H.out.drew).mono ?_;rintro en w1 ⟨v1,rfl,h1⟩;obtain ⟨a1,k1,rfl⟩:=vS2 (h1.row 0 rfl);have H1:=zk h1;clear h1);refine ⟨trivial,?_⟩;go_simp))
 refine vn ?_;go_simp;clear c0 c1 c2 c3 c4 c5 c6 c7 c8 c9 c10 c11 c12 c13 c14 c15 c16 c17 cf hla;rcases ms' with _|⟨m,mr⟩
 ·have HR:As (res=([],c)):=⟨by rw [HS.out];rfl⟩;go_wp2_with (fail);go_ret;rw [HR.out];exact ⟨_,rfl,H1.out⟩
 ·rcases H1.out.shp 0 rfl with ⟨-,hz, -⟩|⟨g,cap,hv, -, -,hcel⟩
  ·simp at hz
  obtain ⟨rfl,rfl⟩:a1=some ⟨g,0,none⟩∧k1=cap:=by cases hv;exact ⟨rfl,rfl⟩
  have y0:w1.cell? ⟨g,0,none⟩=some (.int .i64 m.kind):=hcel 0 _ rfl;have hgl:=World.block_lt_of_cell? w1 _ y0;obtain ⟨vs,vd,vu,tb,⟨c0,c1,c2,c3,c4,c5,c6,c7,c8,c9,c10,c11,c12,c13,c14,c15,c16,c17,cf⟩,hla⟩:=led_at (H1.out.frt 1 rfl) HX.out;clear hcel hv;simp only [List.length_cons] at *;have hml:(0:Int)<((mr.length+1:Nat):Int):=by omega
  by_cases hk:m.kind=6
  ·cases ha:x.f.asked
   ·rw [ha] at c8 HS;simp only [isPrep,hk,decide_true,Bool.not_false,Bool.and_self,if_true] at HS;rw [hk] at y0;have HF:As (c.Fits ⟨.asked,id,[]⟩):=⟨.asked id x HX.out (by have:=HP.out (by simp [isPrep,hk]);simp [Led.decided,this.1,this.2.1]) (HP.out (by simp [isPrep,hk])).2.2⟩;have HO:=zk (asked_ok hi0 hi1 .asked);clear ha hk;have HN:As (∀W L,Heap w0 (.cha b bj A c::.jrn bj c.j::L) W→Calls Tryz.prog 132 #[.pointer (some ⟨b,0,none⟩),.slice (some ⟨W.heap.size,0,none⟩) 1 1] (W.alloc (.cells #[.string (Kd.str .asked),.int .i64 id,.slice none 0 0] 171)) fun en w'=>en=.returned (.bool (c.notes [⟨.asked,id,[]⟩]).1)∧Heap w0 (.cha b bj A (c.notes [⟨.asked,id,[]⟩]).2::.jrn bj (c.notes [⟨.asked,id,[]⟩]).2.j::L) w'):=⟨fun W L h=>cnote0_ok h HF.out HO.out (by simp) HD.out⟩;generalize c.notes [⟨.asked,id,[]⟩]=p at *;obtain ⟨okp,nc⟩:=p;simp only at HN HS;cases okp
    ·simp only [Bool.false_eq_true,if_false] at HS;go_wp2_with (first
      |(go_at_call 101;refine (cey H1.out _ _ _ _ _).mono ?_;rintro en w2 ⟨rfl,h2⟩;have H2:=zk (h2.sel (p:= [_,_,_]) [1,2,0] 3 rfl (by decide));clear h2)
      |(go_at_call 132;refine (HN.out _ _ H2.out).mono ?_;rintro en w3 ⟨rfl,h3⟩;have H3:=zk h3;clear h3))
     go_ret;rw [HS.out];exact ⟨_,rfl,(H3.out.sel (p:= [_,_,_]) [0,1] 3 rfl (by decide)).nRw 113 7⟩
    ·simp only [if_true] at HS;go_wp2_with (first
      |(go_at_call 101;refine (cey H1.out _ _ _ _ _).mono ?_;rintro en w2 ⟨rfl,h2⟩;have H2:=zk (h2.sel (p:= [_,_,_]) [1,2,0] 3 rfl (by decide));clear h2)
      |(go_at_call 132;refine (HN.out _ _ H2.out).mono ?_;rintro en w3 ⟨rfl,h3⟩;have H3:=zk h3;clear h3))
     go_ret;rw [HS.out];exact ⟨_,rfl,H3.out.sel (p:= [_,_,_]) [2,0,1] 3 rfl (by decide)⟩
   ·rw [ha] at c8 HS;have HR:As (res=(m::mr,c)):=⟨by rw [HS.out];simp⟩;rw [hk] at y0;clear ha hk;go_wp2_with (fail);go_ret;rw [HR.out];exact ⟨_,rfl,H1.out⟩
  ·have hkb:(m.kind==6)=false:=by simpa using hk
   have HR:As (res=(m::mr,c)):=⟨by rw [HS.out];simp [isPrep,hk]⟩;clear hk;go_wp2_with (fail);go_ret;rw [HR.out];exact ⟨_,rfl,H1.out⟩
theorem KeysOk.mem_put {t:IM Int} (h:KeysOk t) {id:Int} (hs:(mget t id).isSome=true) (v:Int):KeysOk (mput t id v):=by
 cases e:mget t id with
 |none=>rw [e] at hs;cases hs
 |some u=>exact h.put v (h.get e).1 (h.get e).2
theorem again_keys {t:Tower} (h:KeysOk t.left) (id:Int):KeysOk (t.again id).left:=by
 unfold Tower.again;split
 ·exact h.mem_put ‹_› _
 ·exact h
theorem cut_keys {t:Tower} (h:KeysOk t.left) (id:Int):KeysOk (t.cut id).left:=by
 unfold Tower.cut;split
 ·exact h.del id
 ·exact h
theorem hang_keys {t:Tower} (h:KeysOk t.left) (id:Int):KeysOk (t.hang id).left:=by
 unfold Tower.hang;split
 ·exact h.put _ (by omega) (by omega)
 ·exact h
theorem ring_keys {t:Tower} (h:KeysOk t.left) (id:Int):KeysOk (t.ring id).2.2.left:=by
 unfold Tower.ring;split
 ·exact h
 ·split
  ·exact h
  ·rename_i h1 h2;refine h.mem_put ?_ _;cases e:t.has id with
   |false=>exact absurd e h1
   |true=>exact e
theorem Chief.ok.bell {c:Chief} (h:c.ok) {t:Tower} (ht:KeysOk t.left):({c with bells:=t}:Chief).ok:=⟨h.keys,h.led,ht,h.t0,h.t1,h.r1,h.used0,h.used1⟩
def Sends (w0:World) (b bj:Nat) (A:Int→Nat) (R:List SA) (r:List Msg×Chief) (e:Ending) (w':World):Prop:=∃v',e=.returned v'∧Heap w0 (.slc v' 113 7 r.1.length (mcells r.1)::.cha b bj A r.2::.jrn bj r.2.j::R) w'
theorem goes_eq {c:Chief} {id:Int} {x:Led} (hx:mget c.l id=some x) (hid:x.o.id=id):c.goes id=if x.over=true then ([],(c.again id).cut id) else (c.again id).sends x:=by
 unfold Chief.goes;simp only [hx];unfold Chief.goesX;rw [hid]
theorem cgoes_ok {w0 w:World} {b bj:Nat} {A:Int→Nat} {c:Chief} {R:List SA} {id:Int} {x:Led} (h:Heap w0 (.cha b bj A c::.jrn bj c.j::R) w) (hx:mget c.l id=some x) (hd:c.j.down=false):
 Calls Tryz.prog 131 #[.pointer (some ⟨b,0,none⟩),.pointer (some ⟨A id,0,none⟩)] w (Sends w0 b bj A R (c.goes id)):=by
 have hok:=(h.cha_ok).get hx;have hid:x.o.id=id:=hok.1.id;have HG:=zk (goes_eq hx hid);obtain ⟨vs,vd,vu,tb,⟨y0,y1,y2,y3,y4,y5,y6,y7,y8,y9,y10,y11,y12,y13,y14,y15,y16,y17,yf⟩,hla⟩:=led_at h hx;have HXO:=zk hok.1;have hi0:=hok.2.1;have hi1:=hok.2.2;rw [hid] at y0;obtain ⟨hp,bm,bt,h⟩:=h.open_cha;obtain ⟨c0,c1,c2,c3,c4,c5,c6,cf⟩:=h.cB7 0 rfl;have hlb:=h.lt 0 rfl;have HBL:As (c.bells.left.length<1000000):=⟨by have:=hp.bells.len;omega⟩;have HBL2:As ((c.bells.again id).left.length<1000000):=⟨by have:=(again_keys hp.bells id).len;omega⟩;have HOK1:=zk (hp.bell (again_keys hp.bells id));have HOK2:=zk (hp.bell (cut_keys (again_keys hp.bells id) id));have HX:=zk hx;have HD:=zk hd;have H:=zk h;have HLD:As (∀W L c',Heap w0 (.cha b bj A c'::L) W→mget c'.l id=some x→W.cell? ⟨A id,0,none⟩=some (.int .i64 id)∧A id<W.heap.size∧Calls Tryz.prog 102 #[.pointer (some ⟨A id,0,none⟩)] W fun e w'=>e=.returned (.bool x.over)∧Below W.heap.size W w'):=⟨fun W L c' h hx=>by
  obtain ⟨hp,bm,bt,h⟩:=h.cha_at hx;have h2:=lover_ok h HXO.out;obtain ⟨vs,vd,vu,tb,hpa,h⟩:=h.open_led;have:W.cell? ⟨A id,0,none⟩=some (.int .i64 x.o.id):=h.cell 0 0 rfl rfl;rw [hid] at this;exact ⟨this,h.lt 0 rfl,h2⟩⟩
 clear h hp hx hd hok hid;generalize c.goes id=res at *;go_enter Tryz.func131,Tryz.ntmps131;go_wp2_with (fail);refine wro0 [(0,.f),(1,.f),(2,.f),(3,.s),(4,.f),(5,.f),(6,.f),(7,.f),(8,.s),(9,.e)] ?_;repeat (first
  |(refine vg rfl rfl ?_;apply ex2;intro w' hw';go_simp;rfl;go_simp)
  |(refine vs_ rfl (fun K hK=>?_);go_simp;refine hK _ ?_;clear hK K)
  |(refine ve rfl rfl ?_;go_wp2_with (go_at_call 108;refine (again_ok (H.out.drew.frt 2 rfl) id (by omega) (by omega) HBL).mono ?_;rintro en w1 ⟨rfl,h1⟩;have H1:=zk (Heap.shut_cha (c:=c.again id) HOK1.out (h1.sel (p:= [_,_,_]) [1,2,0] 3 rfl (by decide)));clear h1);refine ⟨trivial,?_⟩;go_simp))
 refine vn ?_;go_simp;clear y0 y1 y2 y3 y4 y5 y6 y7 y8 y9 y10 y11 y12 y13 y14 y15 y16 y17 yf hla c0 c1 c2 c3 c4 c5 c6 cf hlb;obtain ⟨y0,hla,hov⟩:=HLD.out _ _ _ H1.out HX.out;have HOV:=zk hov;clear hov;cases hov:x.over
 ·rw [hov] at HOV HG;simp only [Bool.false_eq_true,if_false] at HG;have HSD:As (∀W L,Heap w0 (.cha b bj A (c.again id)::.jrn bj c.j::L) W→Calls Tryz.prog 109 #[.pointer (some ⟨b,0,none⟩),.pointer (some ⟨A id,0,none⟩)] W fun e w'=>∃v',e=.returned v'∧Heap w0 (.slc v' 113 7 ((c.again id).sends x).1.length (mcells ((c.again id).sends x).1)::.cha b bj A ((c.again id).sends x).2::.jrn bj ((c.again id).sends x).2.j::L) w'):=⟨fun W L h=>csends_ok (c:=c.again id) h HX.out hov HD.out⟩;generalize (c.again id).sends x=rs at *;clear hov;go_wp2_with (first
   |(go_at_call 102;refine HOV.out.mono ?_;rintro en w2 ⟨rfl,hb⟩;have H2:=zk (H1.out.below hb);clear hb)
   |(go_at_call 109;refine (HSD.out _ _ H2.out).mono ?_;rintro en w3 ⟨v3,rfl,h3⟩;have H3:=zk h3;clear h3))
  go_ret;rw [HG.out];exact ⟨_,rfl,H3.out⟩
 ·rw [hov] at HOV HG;simp only [if_true] at HG;clear hov;go_wp2_with (go_at_call 102;refine HOV.out.mono ?_;rintro en w2 ⟨rfl,hb⟩;have H2:=zk (H1.out.below hb);clear hb);clear y0 hla;obtain ⟨y0,hla, -⟩:=HLD.out _ _ _ H2.out HX.out;obtain ⟨-,bm,bt,h2⟩:=H2.out.open_cha;obtain ⟨c0,c1,c2,c3,c4,c5,c6,cf⟩:=h2.cB7 0 rfl;have hlb:=h2.lt 0 rfl;have H3:=zk h2;clear h2;refine wro0 [(0,.f),(1,.f),(2,.f),(3,.s),(4,.f),(5,.f),(6,.f),(7,.f),(8,.s),(9,.e)] ?_;repeat (first
   |(refine vg rfl rfl ?_;apply ex2;intro w' hw';go_simp;rfl;go_simp)
   |(refine vs_ rfl (fun K hK=>?_);go_simp;refine hK _ ?_;clear hK K)
   |(refine ve rfl rfl ?_;go_wp2_with (go_at_call 103;refine (cut_ok (H3.out.drew.frt 2 rfl) id (by omega) (by omega)).mono ?_;rintro en w4 ⟨rfl,h4⟩;have H4:=zk (Heap.shut_cha (c:=(c.again id).cut id) HOK2.out (h4.sel (p:= [_,_,_]) [1,2,0] 3 rfl (by decide)));clear h4);refine ⟨trivial,?_⟩;go_simp))
  refine vn ?_;go_simp;go_wp2_with (fail);go_ret;rw [HG.out];exact ⟨_,rfl,H4.out.nRw 113 7⟩
theorem sures_down (c:Chief) (es:List Entry):(c.sures es).2.j.down=c.j.down:=by
 have h:(c.notes es).2.j.down=c.j.down:=by
  rw [notes_eq];split
  ·rfl
  ·exact (fold_used _ c).2.2
 unfold Chief.sures;split<;>exact h
def SendsE (w0:World) (b bj:Nat) (A:Int→Nat) (R:List SA) (r:List Msg×Int×Chief) (e:Ending) (w':World):Prop:=∃v',e=.returned (.tuple #[v',.int .i64 r.2.1])∧Heap w0 (.slc v' 113 7 r.1.length (mcells r.1)::.cha b bj A r.2.2::.jrn bj r.2.2.j::R) w'
theorem notes_get1 {c:Chief} {e:Entry} {x:Led} (h:(c.notes [e]).1=true) (hx:mget c.l e.id=some x) (hk:e.kd≠ .begin∧e.kd≠ .step):mget (c.notes [e]).2.l e.id=some (x.facts e.kd (e.n.headD 0)):=by
 rw [notes_eq] at h⊢;split
 ·rename_i hr;rw [if_pos hr] at h;cases h
 ·show mget (({c with j:=(c.j.add e).2}:Chief).plays e).l e.id=_
  unfold Chief.plays;split
  ·exact absurd ‹_› hk.1
  ·exact absurd ‹_› hk.2
  ·simp only [hx];exact mget_put_same _ _ _
theorem sures_get1 {c:Chief} {e:Entry} {x:Led} (h:(c.sures [e]).1=true) (hx:mget c.l e.id=some x) (hk:e.kd≠ .begin∧e.kd≠ .step):mget (c.sures [e]).2.l e.id=some (x.facts e.kd (e.n.headD 0)):=by
 unfold Chief.sures at h⊢;split at h
 ·rename_i h1;rw [if_pos h1];exact notes_get1 h1 hx hk
 ·cases h
theorem cturns_ok {w0 w:World} {b bj:Nat} {A:Int→Nat} {c:Chief} {R:List SA} {id:Int} {x:Led} (h:Heap w0 (.cha b bj A c::.jrn bj c.j::R) w) (hx:mget c.l id=some x) (hd:c.j.down=false) (hdec:x.decided=false):
 Calls Tryz.prog 99 #[.pointer (some ⟨b,0,none⟩),.pointer (some ⟨A id,0,none⟩)] w (SendsE w0 b bj A R (c.turns id)):=by
 have hok:=(h.cha_ok).get hx;have hid:x.o.id=id:=hok.1.id;obtain ⟨vs,vd,vu,tb,⟨y0,y1,y2,y3,y4,y5,y6,y7,y8,y9,y10,y11,y12,y13,y14,y15,y16,y17,yf⟩,hla⟩:=led_at h hx;rw [hid] at y0;have HF:As (c.Fits ⟨.turn,id,[]⟩):=⟨.turn id x hx hdec⟩;have HO:=zk (asked_ok hok.2.1 hok.2.2 .turn);have HD:=zk hd;have HN:As (∀W L,Heap w0 (.cha b bj A c::.jrn bj c.j::L) W→Calls Tryz.prog 100 #[.pointer (some ⟨b,0,none⟩),.slice (some ⟨W.heap.size,0,none⟩) 1 1] (W.alloc (.cells #[.string (Kd.str .turn),.int .i64 id,.slice none 0 0] 171)) fun en w'=>en=.returned (.bool (c.sures [⟨.turn,id,[]⟩]).1)∧Heap w0 (.cha b bj A (c.sures [⟨.turn,id,[]⟩]).2::.jrn bj (c.sures [⟨.turn,id,[]⟩]).2.j::L) w'):=⟨fun W L h=>csure0_ok h HF.out HO.out (by simp) HD.out⟩;have HT:As (c.turns id=if (c.sures [⟨.turn,id,[]⟩]).1=true then (((c.sures [⟨.turn,id,[]⟩]).2.goes id).1,0,((c.sures [⟨.turn,id,[]⟩]).2.goes id).2) else ([],5,(c.sures [⟨.turn,id,[]⟩]).2)):=⟨rfl⟩;have HGX:=zk (fun h=>sures_get1 (c:=c) (e:=⟨.turn,id,[]⟩) (x:=x) h hx (by simp));have HDN:As ((c.sures [⟨.turn,id,[]⟩]).2.j.down=false):=⟨(sures_down _ _).trans hd⟩;have H:=zk h;clear h hx hd hok hid hdec;generalize c.turns id=res at *;generalize c.sures [⟨.turn,id,[]⟩]=p at *;obtain ⟨okp,nc⟩:=p;simp only at HN HT HGX HDN;cases okp
 ·simp only [Bool.false_eq_true,if_false] at HT;go_enter Tryz.func99,Tryz.ntmps99;go_wp2_with (first
   |(go_at_call 101;refine (cey H.out _ _ _ _ _).mono ?_;rintro en w2 ⟨rfl,h2⟩;have H2:=zk h2;clear h2)
   |(go_at_call 100;refine (HN.out _ _ H2.out).mono ?_;rintro en w3 ⟨rfl,h3⟩;have H3:=zk h3;clear h3))
  rw [HT.out];exact bodyPost_ret (v:=.tuple #[.slice none 0 0,.int .i64 5]) (by simp [results,Tryz.results99,go_sem]) rfl ⟨_,rfl,H3.out.nRw 113 7⟩
 ·simp only [if_true] at HT;have HGO:As (∀W L,Heap w0 (.cha b bj A nc::.jrn bj nc.j::L) W→Calls Tryz.prog 131 #[.pointer (some ⟨b,0,none⟩),.pointer (some ⟨A id,0,none⟩)] W (Sends w0 b bj A L (nc.goes id))):=⟨fun W L h=>cgoes_ok h (HGX.out rfl) HDN.out⟩;generalize nc.goes id=rg at *;go_enter Tryz.func99,Tryz.ntmps99;go_wp2_with (first
   |(go_at_call 101;refine (cey H.out _ _ _ _ _).mono ?_;rintro en w2 ⟨rfl,h2⟩;have H2:=zk h2;clear h2)
   |(go_at_call 100;refine (HN.out _ _ H2.out).mono ?_;rintro en w3 ⟨rfl,h3⟩;have H3:=zk h3;clear h3)
   |(go_at_call 131;refine (HGO.out _ _ H3.out).mono ?_;rintro en w4 ⟨v4,rfl,h4⟩;have H4:=zk h4;clear h4))
  rw [HT.out];exact bodyPost_ret (v:=.tuple #[v4,.int .i64 0]) (by simp [results,Tryz.results99,go_sem]) rfl ⟨_,rfl,H4.out⟩
end Go.Proofs.YtlnghlamnehfjaaGreatDoor.S
