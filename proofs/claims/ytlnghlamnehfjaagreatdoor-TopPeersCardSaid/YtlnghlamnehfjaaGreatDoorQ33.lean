/- Part Q33. -/
import Derived.Test.YtlnghlamnehfjaaGreatDoorQ24
import Derived.Test.YtlnghlamnehfjaaGreatDoorQ29
import Derived.Test.YtlnghlamnehfjaaGreatDoorQ32
set_option linter.unusedVariables false
set_option linter.unusedSimpArgs false
set_option maxRecDepth 100000
set_option maxHeartbeats 64000000
namespace Go.Proofs.YtlnghlamnehfjaaGreatDoor.S
open Go.RowKit Go.Maps
theorem Qol {l:List Msg} (h:Zn l=true):∃m∈l,m.kind=6:=by
 cases l with
 |nil=>cases h
 |cons m r=>exact ⟨m,by simp,by simpa [Zn] using h⟩
theorem UW {k:Int} {o:Od} {f:Facts} {m:Msg} (h:m∈Qu k o f):(m=QO k 1 o∧f.ack0=false)∨(m=QO k 2 o∧f.ack1=false):=by
 unfold Qu at h;rcases List.mem_append.1 h with h|h;cases h0:f.ack0<;>simp [h0] at h
 exact .inl ⟨h,rfl⟩;cases h0:f.ack1<;>simp [h0] at h
 exact .inr ⟨h,rfl⟩
theorem Qdp {o:Od} {f:Facts} {m:Msg} (h:m∈XX o f):∃i s,f.undone.reverse.findIdx? (fun b=>!b)=some i∧o.steps[f.undone.length-1-i]? =some s∧m=⟨4,0,s.svc,o.id,((f.undone.length-1-i:Nat):Int),0,0⟩:=by
 unfold XX at h;split at h;cases h;rename_i i hi;split at h;cases h;rename_i s hs;exact ⟨i,s,hi,hs,by simpa using h⟩
theorem Qbp {o:Od} {f:Facts} (h:Zn (Xa o f)=true):f.turned=false∧f.yes=false∧f.done.contains false=false:=by
 obtain ⟨m,hm,hk⟩:=Qol h;have hdec:∀k,k≠6→m∈Qu k o f→False:=fun k hk6 hmem=>by
  rcases UW hmem with ⟨rfl,_⟩|⟨rfl,_⟩<;>exact hk6 hk
 unfold Xa at hm;split at hm;cases hm;split at hm;rcases List.mem_append.1 hm with h|h;exact (hdec 10 (by decide) h).elim;obtain ⟨i,s,_,_,rfl⟩:=Qdp h;cases hk;rename_i ht;split at hm;exact (hdec 9 (by decide) hm).elim;split at hm;rcases List.mem_append.1 hm with h|h;exact (hdec 9 (by decide) h).elim;simp at h;subst h;cases hk;rename_i hy;refine ⟨by simpa using ht,by simpa using hy,?_⟩;unfold QW at hm;split at hm;split at hm;simp at hm;subst hm;cases hk;cases hm;rename_i hn;rw [List.findIdx?_eq_none_iff] at hn;rw [←Bool.not_eq_true];intro hc;simp at hc;have:=hn _ hc;simp at this
theorem DF (o:Od) (f:Facts):(Xa o f).length≤3:=by
 unfold Xa Qu XX QW QO;repeat' split
 all_goals simp
theorem TJ {w:World} {k size:Nat} {T:TypeId} {v:Value} {n:Nat} {xs:List Value} (hr:w.ownsRow k T size v n xs):∃a m cap,v=.slice a m cap:=by
 obtain ⟨a,c,h⟩:=vS2 hr;exact ⟨a,n,c,h⟩
theorem QB {id:Int} (h0:1≤id) (h1:id≤999) (k:Kd):Entry.ok ⟨k,id,[]⟩:=⟨by simp only;omega,h1,by simp,by simp⟩
def Qw1 (w:World) (b:Nat) (x:Led) (vs vd vu tp:Value):Prop:=w.cell? ⟨b,0,none⟩=some (.int .i64 x.o.id)∧w.cell? ⟨b,1,none⟩=some (.int .i64 x.o.item)∧w.cell? ⟨b,2,none⟩=some (.int .i64 x.o.qty)∧w.cell? ⟨b,3,none⟩=some (.int .i64 x.o.client)∧w.cell? ⟨b,4,none⟩=some (.int .i64 x.o.price)∧w.cell? ⟨b,5,none⟩=some vs∧w.cell? ⟨b,6,none⟩=some vd∧w.cell? ⟨b,7,none⟩=some vu∧w.cell? ⟨b,8,none⟩=some (.bool x.f.asked)∧w.cell? ⟨b,9,none⟩=some (.bool x.f.yes)∧w.cell? ⟨b,10,none⟩=some (.bool x.f.turned)∧w.cell? ⟨b,11,none⟩=some (.bool x.f.ack0)∧w.cell? ⟨b,12,none⟩=some (.bool x.f.ack1)∧w.cell? ⟨b,13,none⟩=some (.bool x.f.shipped)∧w.cell? ⟨b,14,none⟩=some (.bool x.f.dam0)∧w.cell? ⟨b,15,none⟩=some (.bool x.f.dam1)∧w.cell? ⟨b,16,none⟩=some (.bool x.f.accepted)∧w.cell? ⟨b,17,none⟩=some tp∧(∀j,w.frozen? ⟨b,j,none⟩=false)
theorem Qyl {w0 w:World} {b bj:Nat} {A:Int→Nat} {c:Qa} {R:List SA} {id:Int} {x:Led} (h:Heap w0 (.cha b bj A c::R) w) (hx:Qc c.l id=some x) (hov:x.over=false):
 ∃vs vd vu tb,Qw1 w (A id) x vs vd vu (x.tp tb)∧(∃a m k,vs=.slice a m k)∧(∃a m k,vd=.slice a m k)∧(∃a m k,vu=.slice a m k)∧A id<w.heap.size∧
  ∀W L,Below w.heap.size w W→Heap w0 L W→Calls Tryz.prog 139 #[x.o.val vs,x.f.val vd vu] W fun e w'=>∃v',e=.returned v'∧Heap w0 (.slc v' 113 7 (Xa x.o x.f).length (Qk (Xa x.o x.f))::L) w':=by
 obtain ⟨hp,bm,bt,h⟩:=h.Zu hx;obtain ⟨vs,vd,vu,tb,hpa,h⟩:=h.Xm;refine ⟨vs,vd,vu,tb,h.cA8 0 rfl,TJ (h.row 1 rfl),TJ (h.row 2 rfl),TJ (h.row 3 rfl),h.lt 0 rfl,fun W L hb hW=>?_⟩;refine (Qz5 x.o x.f vs vd vu W hW.tab (((hp.get hx).1.ofs hpa (h.row 1 rfl) (h.row 2 rfl) (h.row 3 rfl)).below hb) hov).mono ?_;rintro e w' ⟨v',rfl,h'⟩;exact ⟨v',rfl,hW.join h'⟩
theorem ZK {w0 w:World} {b bj:Nat} {A:Int→Nat} {c:Qa} {R:List SA} {id:Int} {x:Led} (h:Heap w0 (.cha b bj A c::R) w) (hx:Qc c.l id=some x):∃vs vd vu tb,Qw1 w (A id) x vs vd vu (x.tp tb)∧A id<w.heap.size:=by
 obtain ⟨hp,bm,bt,h⟩:=h.Zu hx;obtain ⟨vs,vd,vu,tb,hpa,h⟩:=h.Xm;exact ⟨vs,vd,vu,tb,h.cA8 0 rfl,h.lt 0 rfl⟩
theorem FO {w0 w:World} {b bj:Nat} {A:Int→Nat} {c:Qa} {R:List SA} {id:Int} {x:Led} (h:Heap w0 (.cha b bj A c::.jrn bj c.j::R) w) (hx:Qc c.l id=some x) (hov:x.over=false) (hd:c.j.down=false):
 Calls Tryz.prog 109 #[b,(A id)] w fun e w'=>∃v',e=.returned v'∧Heap w0 (.slc v' 113 7 (c.sends x).1.length (Qk (c.sends x).1)::.cha b bj A (c.sends x).2::.jrn bj (c.sends x).2.j::R) w':=by
 have hok:=(h.Yl).get hx;obtain ⟨vs,vd,vu,tb,⟨c0,c1,c2,c3,c4,c5,c6,c7,c8,c9,c10,c11,c12,c13,c14,c15,c16,c17,cf⟩,⟨as1,ms,ks,rfl⟩,⟨ad,md,kd,rfl⟩,⟨au,mu,ku,rfl⟩,hla,hnx⟩:=Qyl h hx hov;have hid:x.o.id=id:=hok.1.id;have HNX:=zk hnx;have HS:As (c.sends x=if (Zn (Xa x.o x.f)&& !x.f.asked)=true then (if (c.notes [⟨.asked,x.o.id,[]⟩]).1=true then (Xa x.o x.f,(c.notes [⟨.asked,x.o.id,[]⟩]).2) else ([],(c.notes [⟨.asked,x.o.id,[]⟩]).2)) else (Xa x.o x.f,c)):=⟨rfl⟩;rw [hid] at HS;have HX:=zk hx;have HP:As (Zn (Xa x.o x.f)=true→(x.f.turned=false∧x.f.yes=false∧x.f.done.contains false=false)):=⟨Qbp⟩;have HL:=zk (DF x.o x.f);have H:=zk h;have HD:=zk hd;have hi0:=hok.2.1;have hi1:=hok.2.2;clear h hnx hx hok hov hd;unfold Od.val Facts.val at HNX;rw [hid] at HNX c0;generalize Xa x.o x.f=ms' at *;generalize c.sends x=res at *;go_enter Tryz.func109,Tryz.ntmps109;go_wp2_with fail;refine Xh [(0,.f),(1,.f),(2,.f),(3,.s),(4,.f),(5,.f),(6,.f),(7,.s),(8,.e),(9,.f)] ?_;repeat (first
  |refine vR ?_
  |(refine ve rfl rfl ?_;go_wp2_with (go_at_call 139;refine (HNX.1 _ _ ((Below.refl _ w).drew) H.1.drew).mono ?_;rintro en w1 ⟨v1,rfl,h1⟩;obtain ⟨a1,k1,rfl⟩:=vS2 (h1.row 0 rfl);have H1:=zk h1;clear h1);refine ⟨trivial,?_⟩;go_simp))
 refine vn ?_;go_simp;clear c0 c1 c2 c3 c4 c5 c6 c7 c8 c9 c10 c11 c12 c13 c14 c15 c16 c17 cf hla;rcases ms' with _|⟨m,mr⟩
 ·have HR:As (res=([],c)):=⟨by rw [HS.1];rfl⟩;go_wp2_with fail;go_ret;rw [HR.1];exact ⟨_,rfl,H1.1⟩
 ·rcases H1.1.shp 0 rfl with ⟨-,hz, -⟩|⟨g,cap,hv, -, -,hcel⟩;simp at hz;obtain ⟨rfl,rfl⟩:a1=some ⟨g,0,none⟩∧k1=cap:=by cases hv;exact ⟨rfl,rfl⟩
  have y0:w1.cell? ⟨g,0,none⟩=some (.int .i64 m.kind):=hcel 0 _ rfl;have hgl:=World.block_lt_of_cell? w1 _ y0;obtain ⟨vs,vd,vu,tb,⟨c0,c1,c2,c3,c4,c5,c6,c7,c8,c9,c10,c11,c12,c13,c14,c15,c16,c17,cf⟩,hla⟩:=ZK (H1.1.frt 1 rfl) HX.1;clear hcel hv;simp only [List.length_cons] at *;have hml:(0:Int)<((mr.length+1:Nat):Int):=by omega
  by_cases hk:m.kind=6
  ·cases ha:x.f.asked
   ·rw [ha] at c8 HS;simp only [Zn,hk,decide_true,Bool.not_false,Bool.and_self,if_true] at HS;rw [hk] at y0;have HF:As (c.Fits ⟨.asked,id,[]⟩):=⟨.asked id x HX.1 (by have:=HP.1 (by simp [Zn,hk]);simp [Led.decided,this.1,this.2.1]) (HP.1 (by simp [Zn,hk])).2.2⟩;have HO:=zk (QB hi0 hi1 .asked);clear ha hk;have HN:As (∀W L,Heap w0 (.cha b bj A c::.jrn bj c.j::L) W→CH 132 #[b,.slice (some ⟨W.heap.size,0,none⟩) 1 1] (W.alloc (.cells #[.string (Kd.str .asked),id,.slice none 0 0] 171)) (.bool (c.notes [⟨.asked,id,[]⟩]).1) w0 (.cha b bj A (c.notes [⟨.asked,id,[]⟩]).2::.jrn bj (c.notes [⟨.asked,id,[]⟩]).2.j::L)):=⟨fun W L h=>Qgp h HF.1 HO.1 (by simp) HD.1⟩;generalize c.notes [⟨.asked,id,[]⟩]=p at *;obtain ⟨okp,nc⟩:=p;simp only at HN HS;cases okp
    ·simp only [Bool.false_eq_true,if_false] at HS;go_wp2_with (first
      |(go_at_call 101;refine (cey H1.1 _ _ _ _ _).m2 fun w2 h2=>?_;have H2:=zk (h2.sel (p:= [_,_,_]) [1,2,0] 3 rfl (by decide));clear h2)
      |(go_at_call 132;refine (HN.1 _ _ H2.1).m1 fun w3 H3=>?_))
     go_ret;rw [HS.1];exact ⟨_,rfl,(H3.1.sel (p:= [_,_,_]) [0,1] 3 rfl (by decide)).nRw 113 7⟩
    ·simp only [if_true] at HS;go_wp2_with (first
      |(go_at_call 101;refine (cey H1.1 _ _ _ _ _).m2 fun w2 h2=>?_;have H2:=zk (h2.sel (p:= [_,_,_]) [1,2,0] 3 rfl (by decide));clear h2)
      |(go_at_call 132;refine (HN.1 _ _ H2.1).m1 fun w3 H3=>?_))
     go_ret;rw [HS.1];exact ⟨_,rfl,H3.1.sel (p:= [_,_,_]) [2,0,1] 3 rfl (by decide)⟩
   ·rw [ha] at c8 HS;have HR:As (res=(m::mr,c)):=⟨by rw [HS.1];simp⟩;rw [hk] at y0;clear ha hk;go_wp2_with fail;go_ret;rw [HR.1];exact ⟨_,rfl,H1.1⟩
  ·have hkb:(m.kind==6)=false:=by simpa using hk
   have HR:As (res=(m::mr,c)):=⟨by rw [HS.1];simp [Zn,hk]⟩;clear hk;go_wp2_with fail;go_ret;rw [HR.1];exact ⟨_,rfl,H1.1⟩
theorem Ql.Qqx {t:IM Int} (h:Ql t) {id:Int} (hs:(Qc t id).isSome=true) (v:Int):Ql (Qt t id v):=by
 cases e:Qc t id with
 |none=>rw [e] at hs;cases hs
 |some u=>exact h.put v (h.get e).1 (h.get e).2
theorem Vv {t:Qy} (h:Ql t.left) (id:Int):Ql (t.again id).left:=by
 unfold Qy.again;split;exact h.Qqx ‹_› _;exact h
theorem Qle {t:Qy} (h:Ql t.left) (id:Int):Ql (t.cut id).left:=by
 unfold Qy.cut;split;exact h.del id;exact h
theorem YZ {t:Qy} (h:Ql t.left) (id:Int):Ql (t.hang id).left:=by
 unfold Qy.hang;split;exact h.put _ (by omega) (by omega);exact h
theorem Qf0 {t:Qy} (h:Ql t.left) (id:Int):Ql (t.ring id).2.2.left:=by
 unfold Qy.ring;split;exact h
 ·split;exact h
  ·rename_i h1 h2;refine h.Qqx ?_ _;cases e:t.has id with
   |false=>exact absurd e h1
   |true=>exact e
theorem Qa.ok.Xo {c:Qa} (h:c.ok) {t:Qy} (ht:Ql t.left):({c with Qf:=t}:Qa).ok:=⟨h.keys,h.led,ht,h.t0,h.t1,h.r1,h.used0,h.used1⟩
def Sends (w0:World) (b bj:Nat) (A:Int→Nat) (R:List SA) (r:List Msg×Qa) (e:Ending) (w':World):Prop:=∃v',e=.returned v'∧Heap w0 (.slc v' 113 7 r.1.length (Qk r.1)::.cha b bj A r.2::.jrn bj r.2.j::R) w'
theorem Dl {c:Qa} {id:Int} {x:Led} (hx:Qc c.l id=some x) (hid:x.o.id=id):c.goes id=if x.over=true then ([],(c.again id).cut id) else (c.again id).sends x:=by
 unfold Qa.goes;simp only [hx];unfold Qa.Qcs;rw [hid]
theorem Vl {w0 w:World} {b bj:Nat} {A:Int→Nat} {c:Qa} {R:List SA} {id:Int} {x:Led} (h:Heap w0 (.cha b bj A c::.jrn bj c.j::R) w) (hx:Qc c.l id=some x) (hd:c.j.down=false):
 Calls Tryz.prog 131 #[b,(A id)] w (Sends w0 b bj A R (c.goes id)):=by
 have hok:=(h.Yl).get hx;have hid:x.o.id=id:=hok.1.id;have HG:=zk (Dl hx hid);obtain ⟨vs,vd,vu,tb,⟨y0,y1,y2,y3,y4,y5,y6,y7,y8,y9,y10,y11,y12,y13,y14,y15,y16,y17,yf⟩,hla⟩:=ZK h hx;have HXO:=zk hok.1;have hi0:=hok.2.1;have hi1:=hok.2.2;rw [hid] at y0;obtain ⟨hp,bm,bt,h⟩:=h.QL;have c0:=h.cB7 0 rfl;have hlb:=h.lt 0 rfl;have HBL:As (c.Qf.left.length<1000000):=⟨by have:=hp.Qf.len;omega⟩;have HBL2:As ((c.Qf.again id).left.length<1000000):=⟨by have:=(Vv hp.Qf id).len;omega⟩;have HOK1:=zk (hp.Xo (Vv hp.Qf id));have HOK2:=zk (hp.Xo (Qle (Vv hp.Qf id) id));have HX:=zk hx;have HD:=zk hd;have H:=zk h;have HLD:As (∀W L c',Heap w0 (.cha b bj A c'::L) W→Qc c'.l id=some x→W.cell? ⟨A id,0,none⟩=some (.int .i64 id)∧A id<W.heap.size∧Calls Tryz.prog 102 #[(A id)] W fun e w'=>e=.returned (.bool x.over)∧Below W.heap.size W w'):=⟨fun W L c' h hx=>by
  obtain ⟨hp,bm,bt,h⟩:=h.Zu hx;have h2:=Qee h HXO.1;obtain ⟨vs,vd,vu,tb,hpa,h⟩:=h.Xm;have:W.cell? ⟨A id,0,none⟩=some (.int .i64 x.o.id):=h.cell 0 0 rfl rfl;rw [hid] at this;exact ⟨this,h.lt 0 rfl,h2⟩⟩
 clear h hp hx hd hok hid;generalize c.goes id=res at *;go_enter Tryz.func131,Tryz.ntmps131;go_wp2_with fail;refine Xh [(0,.f),(1,.f),(2,.f),(3,.s),(4,.f),(5,.f),(6,.f),(7,.f),(8,.s),(9,.e)] ?_;repeat (first
  |refine vR ?_
  |(refine ve rfl rfl ?_;go_wp2_with (go_at_call 108;refine (Qk9 (H.1.drew.frt 2 rfl) id (by omega) (by omega) HBL).m2 fun w1 h1=>?_;have H1:=zk (Heap.Xf (c:=c.again id) HOK1.1 (h1.sel (p:= [_,_,_]) [1,2,0] 3 rfl (by decide)));clear h1);refine ⟨trivial,?_⟩;go_simp))
 refine vn ?_;go_simp;clear y0 y1 y2 y3 y4 y5 y6 y7 y8 y9 y10 y11 y12 y13 y14 y15 y16 y17 yf hla c0 hlb;obtain ⟨y0,hla,hov⟩:=HLD.1 _ _ _ H1.1 HX.1;have HOV:=zk hov;clear hov;cases hov:x.over
 ·rw [hov] at HOV HG;simp only [Bool.false_eq_true,if_false] at HG;have HSD:As (∀W L,Heap w0 (.cha b bj A (c.again id)::.jrn bj c.j::L) W→Calls Tryz.prog 109 #[b,(A id)] W fun e w'=>∃v',e=.returned v'∧Heap w0 (.slc v' 113 7 ((c.again id).sends x).1.length (Qk ((c.again id).sends x).1)::.cha b bj A ((c.again id).sends x).2::.jrn bj ((c.again id).sends x).2.j::L) w'):=⟨fun W L h=>FO (c:=c.again id) h HX.1 hov HD.1⟩;generalize (c.again id).sends x=rs at *;clear hov;go_wp2_with (first
   |(go_at_call 102;refine HOV.1.m2 fun w2 hb=>?_;have H2:=zk (H1.1.below hb);clear hb)
   |(go_at_call 109;refine (HSD.1 _ _ H2.1).mono ?_;rintro en w3 ⟨v3,rfl,h3⟩;have H3:=zk h3;clear h3))
  go_ret;rw [HG.1];exact ⟨_,rfl,H3.1⟩
 ·rw [hov] at HOV HG;simp only [if_true] at HG;clear hov;go_wp2_with (go_at_call 102;refine HOV.1.m2 fun w2 hb=>?_;have H2:=zk (H1.1.below hb);clear hb);clear y0 hla;obtain ⟨y0,hla, -⟩:=HLD.1 _ _ _ H2.1 HX.1;obtain ⟨-,bm,bt,h2⟩:=H2.1.QL;have c0:=h2.cB7 0 rfl;have hlb:=h2.lt 0 rfl;have H3:=zk h2;clear h2;refine Xh [(0,.f),(1,.f),(2,.f),(3,.s),(4,.f),(5,.f),(6,.f),(7,.f),(8,.s),(9,.e)] ?_;repeat (first
   |refine vR ?_
   |(refine ve rfl rfl ?_;go_wp2_with (go_at_call 103;refine (QEb (H3.1.drew.frt 2 rfl) id (by omega) (by omega)).m2 fun w4 h4=>?_;have H4:=zk (Heap.Xf (c:=(c.again id).cut id) HOK2.1 (h4.sel (p:= [_,_,_]) [1,2,0] 3 rfl (by decide)));clear h4);refine ⟨trivial,?_⟩;go_simp))
  refine vn ?_;go_simp;go_wp2_with fail;go_ret;rw [HG.1];exact ⟨_,rfl,H4.1.nRw 113 7⟩
theorem YR (c:Qa) (es:List Entry):(c.Qm es).2.j.down=c.j.down:=by
 have h:(c.notes es).2.j.down=c.j.down:=by
  rw [YH];split;rfl;exact (ZZ _ c).2.2
 unfold Qa.Qm;split<;>exact h
def Qip (w0:World) (b bj:Nat) (A:Int→Nat) (R:List SA) (r:List Msg×Int×Qa) (e:Ending) (w':World):Prop:=∃v',e=.returned (.tuple #[v',.int .i64 r.2.1])∧Heap w0 (.slc v' 113 7 r.1.length (Qk r.1)::.cha b bj A r.2.2::.jrn bj r.2.2.j::R) w'
theorem YN {c:Qa} {e:Entry} {x:Led} (h:(c.notes [e]).1=true) (hx:Qc c.l e.id=some x) (hk:e.kd≠ .begin∧e.kd≠ .step):Qc (c.notes [e]).2.l e.id=some (x.facts e.kd (e.n.headD 0)):=by
 rw [YH] at h⊢;split;rename_i hr;rw [if_pos hr] at h;cases h
 show Qc (({c with j:=(c.j.add e).2}:Qa).Qg e).l e.id=_
 unfold Qa.Qg;split;exact absurd ‹_› hk.1;exact absurd ‹_› hk.2;simp only [hx];exact QJ _ _ _
theorem ZA {c:Qa} {e:Entry} {x:Led} (h:(c.Qm [e]).1=true) (hx:Qc c.l e.id=some x) (hk:e.kd≠ .begin∧e.kd≠ .step):Qc (c.Qm [e]).2.l e.id=some (x.facts e.kd (e.n.headD 0)):=by
 unfold Qa.Qm at h⊢;split at h;rename_i h1;rw [if_pos h1];exact YN h1 hx hk;cases h
theorem FX {w0 w:World} {b bj:Nat} {A:Int→Nat} {c:Qa} {R:List SA} {id:Int} {x:Led} (h:Heap w0 (.cha b bj A c::.jrn bj c.j::R) w) (hx:Qc c.l id=some x) (hd:c.j.down=false) (hdec:x.decided=false):
 Calls Tryz.prog 99 #[b,(A id)] w (Qip w0 b bj A R (c.turns id)):=by
 have hok:=(h.Yl).get hx;have hid:x.o.id=id:=hok.1.id;obtain ⟨vs,vd,vu,tb,⟨y0,y1,y2,y3,y4,y5,y6,y7,y8,y9,y10,y11,y12,y13,y14,y15,y16,y17,yf⟩,hla⟩:=ZK h hx;rw [hid] at y0;have HF:As (c.Fits ⟨.turn,id,[]⟩):=⟨.turn id x hx hdec⟩;have HO:=zk (QB hok.2.1 hok.2.2 .turn);have HD:=zk hd;have HN:As (∀W L,Heap w0 (.cha b bj A c::.jrn bj c.j::L) W→CH 100 #[b,.slice (some ⟨W.heap.size,0,none⟩) 1 1] (W.alloc (.cells #[.string (Kd.str .turn),id,.slice none 0 0] 171)) (.bool (c.Qm [⟨.turn,id,[]⟩]).1) w0 (.cha b bj A (c.Qm [⟨.turn,id,[]⟩]).2::.jrn bj (c.Qm [⟨.turn,id,[]⟩]).2.j::L)):=⟨fun W L h=>VX h HF.1 HO.1 (by simp) HD.1⟩;have HT:As (c.turns id=if (c.Qm [⟨.turn,id,[]⟩]).1=true then (((c.Qm [⟨.turn,id,[]⟩]).2.goes id).1,0,((c.Qm [⟨.turn,id,[]⟩]).2.goes id).2) else ([],5,(c.Qm [⟨.turn,id,[]⟩]).2)):=⟨rfl⟩;have HGX:=zk (fun h=>ZA (c:=c) (e:=⟨.turn,id,[]⟩) (x:=x) h hx (by simp));have HDN:As ((c.Qm [⟨.turn,id,[]⟩]).2.j.down=false):=⟨(YR _ _).trans hd⟩;have H:=zk h;clear h hx hd hok hid hdec;generalize c.turns id=res at *;generalize c.Qm [⟨.turn,id,[]⟩]=p at *;obtain ⟨okp,nc⟩:=p;simp only at HN HT HGX HDN;cases okp
 ·simp only [Bool.false_eq_true,if_false] at HT;go_enter Tryz.func99,Tryz.ntmps99;go_wp2_with (first
   |(go_at_call 101;refine (cey H.1 _ _ _ _ _).m1 fun w2 H2=>?_)
   |(go_at_call 100;refine (HN.1 _ _ H2.1).m1 fun w3 H3=>?_))
  rw [HT.1];exact bodyPost_ret (v:=.tuple #[.slice none 0 0,.int .i64 5]) (by simp [results,Tryz.results99,go_sem]) rfl ⟨_,rfl,H3.1.nRw 113 7⟩
 ·simp only [if_true] at HT;have HGO:As (∀W L,Heap w0 (.cha b bj A nc::.jrn bj nc.j::L) W→Calls Tryz.prog 131 #[b,(A id)] W (Sends w0 b bj A L (nc.goes id))):=⟨fun W L h=>Vl h (HGX.1 rfl) HDN.1⟩;generalize nc.goes id=rg at *;go_enter Tryz.func99,Tryz.ntmps99;go_wp2_with (first
   |(go_at_call 101;refine (cey H.1 _ _ _ _ _).m1 fun w2 H2=>?_)
   |(go_at_call 100;refine (HN.1 _ _ H2.1).m1 fun w3 H3=>?_)
   |(go_at_call 131;refine (HGO.1 _ _ H3.1).mono ?_;rintro en w4 ⟨v4,rfl,h4⟩;have H4:=zk h4;clear h4))
  rw [HT.1];exact bodyPost_ret (v:=.tuple #[v4,.int .i64 0]) (by simp [results,Tryz.results99,go_sem]) rfl ⟨_,rfl,H4.1⟩
theorem Qv1 {P:Prop} (h:P:=by
 go_enter Tryz.func285,Tryz.ntmps285;go_wp2_with fail;go_quiet (fail);go_wp2_with fail;go_ret;exact ⟨by rw [HR.1];rfl,HH.1.drewN _⟩):P:=h
def Msg.box (m:Msg):Obj:=.cells #[m.kind,m.frm,m.to,m.id,m.step,m.a,m.b] 113
theorem Qjw {w0 w:World} {b:Nat} {x:Led} {R:List SA} {id:Int} (h:Heap w0 (.led b x::R) w) (hx:x.ok id) (m:Msg):
 CH 285 #[b,m.val] w (.bool (x.service m.step m.frm)) w0 (.led b x::R):=by
 have HH:=zk (h.alloc m.box);have HS:As (x.service m.step m.frm=(decide (0≤m.step)&&decide (m.step<x.o.steps.length)&&decide ((x.o.steps.map Sp.svc).getD m.step.toNat 0=m.frm))):=⟨rfl⟩;obtain ⟨vs,vd,vu,tb,hpa,h⟩:=h.Xm;have c0:=h.cA8 0 rfl;have hlb:=h.lt 0 rfl;obtain ⟨as1,ks,rfl⟩:=vS2 (h.row 1 rfl);have H:=zk h;have hl3:=hx.o.len;clear h hpa hx;obtain ⟨kind,frm,tt,id',step,a,mb⟩:=m;unfold Msg.box at HH;simp only at HS HH;unfold Msg.val;simp only;generalize x.service step frm=res at *;by_cases h0:0≤step
 ·by_cases h1:step<(x.o.steps.length:Int)
  ·obtain ⟨k,rfl⟩:=Int.eq_ofNat_of_zero_le h0;have hk:k<x.o.steps.length:=by omega
   rcases H.1.shp 1 rfl with ⟨-,hz, -⟩|⟨g,cap,hv, -, -,hcel⟩;omega;obtain ⟨rfl,rfl⟩:as1=some ⟨g,0,none⟩∧ks=cap:=by cases hv;exact ⟨rfl,rfl⟩
   have x0:w.cell? ⟨g,k*2,none⟩=some (.int .i64 x.o.steps[k].svc):=hcel (k*2+0) _ (Xb x.o.steps k 0 hk (by omega));have hgl:=World.block_lt_of_cell? w _ x0;have HR:As (res=(x.o.steps[k].svc==frm)):=⟨by
    rw [HS.1,show (x.o.steps[k].svc==frm)=decide (x.o.steps[k].svc=frm) from rfl];simp [hk]⟩
   generalize x.o.steps[k].svc=sv at *;clear hcel hv;exact Qv1
  have hd:decide (step<(x.o.steps.length:Int))=false:=by simpa using h1
  have HR:As (res=false):=⟨by rw [HS.1,hd];simp⟩;clear h1;exact Qv1
 have hd:decide (0≤step)=false:=by simpa using h0
 have HR:As (res=false):=⟨by rw [HS.1,hd];simp⟩;clear h0;exact Qv1
theorem Heap.VE {w0 w:World} {R:List SA} {g:Nat} {m:Msg} (h:Heap w0 (.pts g m.box::R) w):Heap w0 (.slc (.slice (some ⟨g,0,none⟩) 1 1) 113 7 [m].length (Qk [m])::R) w:=by
 have:=Heap.XJ (k:=1) (size:=7) (cs:= #[m.kind,m.frm,m.to,m.id,m.step,m.a,m.b]) h (by decide) rfl;exact this
def VQ (A:Int→Nat) (id:Int):Option Led→Value
 |none=>.pointer none
 |some _=>.pointer (some ⟨A id,0,none⟩)
theorem Qrx {w0 w:World} {b bj:Nat} {A:Int→Nat} {c:Qa} {R:List SA} (h:Heap w0 (.cha b bj A c::R) w) (m:Msg) (hf:m.frm=1∨m.frm=2):
 Calls Tryz.prog 280 #[b,VQ A m.id (Qc c.l m.id),m.val] w fun e w'=>∃v',e=.returned v'∧Heap w0 (.slc v' 113 7 (c.tells m).length (Qk (c.tells m))::.cha b bj A c::R) w':=by
 have HT:As (c.tells m=match Qc c.l m.id with
  |none=> [⟨14,0,m.frm,m.id,0,0,0⟩]
  |some x=>if x.f.turned=true then [⟨14,0,m.frm,m.id,0,0,0⟩] else if x.f.yes=true then [⟨13,0,m.frm,m.id,0,0,0⟩] else []):=⟨rfl⟩
 have HK:=zk (UM m.frm hf);have HA:=zk (h.alloc m.box);have HB:=zk ((h.alloc m.box).new (Msg.box ⟨0,0,m.frm,m.id,0,0,0⟩));have HL:=zk (@ZK w0 w b bj A c R m.id);have H:=zk h;clear h hf;obtain ⟨kind,frm,tt,id,step,a,mb⟩:=m;unfold Msg.box at HB HA;simp only at HT HB HK HL HA;unfold Msg.val;simp only;generalize c.tells ⟨kind,frm,tt,id,step,a,mb⟩=res at *;cases hx:Qc c.l id with
 |none=>
  simp only [hx] at HT;unfold VQ;simp only;go_enter Tryz.func280,Tryz.ntmps280;go_wp2_with (go_at_call 284;refine (HK.1 _).m0 ?_);go_ret;rw [HT.1];have h2:=Heap.nAt (n:=w.heap.size+1+1) (Heap.nAt (n:=w.heap.size+1) HA.1 (Msg.box ⟨14,0,frm,id,0,0,0⟩) (by simp)) (Msg.box ⟨14,0,frm,id,0,0,0⟩) (by simp);exact ⟨_,rfl,h2.VE.sel (p:= [_,_,_]) [0,2] 3 rfl (by decide)⟩
 |some x=>
  simp only [hx] at HT;obtain ⟨vs,vd,vu,tb,⟨c0,c1,c2,c3,c4,c5,c6,c7,c8,c9,c10,c11,c12,c13,c14,c15,c16,c17,cf⟩,hlb⟩:=HL.1 H.1 hx;unfold VQ;simp only;cases ht:x.f.turned
  ·rw [ht] at c10 HT;cases hy:x.f.yes
   ·rw [hy] at c9 HT;simp only [Bool.false_eq_true,if_false] at HT;go_enter Tryz.func280,Tryz.ntmps280;go_wp2_with (go_at_call 284;refine (HK.1 _).m0 ?_);go_ret;rw [HT.1];exact ⟨_,rfl,HB.1.drop.nRw 113 7⟩
   ·rw [hy] at c9 HT;simp only [Bool.false_eq_true,if_false,if_true] at HT;go_enter Tryz.func280,Tryz.ntmps280;go_wp2_with (go_at_call 284;refine (HK.1 _).m0 ?_);go_ret;rw [HT.1];have h2:=Heap.nAt (n:=w.heap.size+1+1) (Heap.nAt (n:=w.heap.size+1) HA.1 (Msg.box ⟨13,0,frm,id,0,0,0⟩) (by simp)) (Msg.box ⟨13,0,frm,id,0,0,0⟩) (by simp);exact ⟨_,rfl,h2.VE.sel (p:= [_,_,_]) [0,2] 3 rfl (by decide)⟩
  ·rw [ht] at c10 HT;simp only [if_true] at HT;go_enter Tryz.func280,Tryz.ntmps280;go_wp2_with (go_at_call 284;refine (HK.1 _).m0 ?_);go_ret;rw [HT.1];have h2:=Heap.nAt (n:=w.heap.size+1+1) (Heap.nAt (n:=w.heap.size+1) HA.1 (Msg.box ⟨14,0,frm,id,0,0,0⟩) (by simp)) (Msg.box ⟨14,0,frm,id,0,0,0⟩) (by simp);exact ⟨_,rfl,h2.VE.sel (p:= [_,_,_]) [0,2] 3 rfl (by decide)⟩
theorem QDw {P:Prop} (h:P:=by
 go_simp;have tg:=Tg.mk 4;exact JY):P:=h
theorem QBj {P:Prop} (h:P:=by
 refine ⟨⟨H2.1.cell 2 4 rfl rfl,H2.1.cell 2 3 rfl rfl⟩,?_⟩;go_simp;first
  |refine vew rfl rfl ?_
  |refine ve rfl rfl ?_
 go_wp2_with (go_at_call 101;refine (cey H2.1 _ _ _ _ _).m1 fun w3 H3=>?_);refine ⟨⟨H3.1.cell 2 4 rfl rfl,H3.1.cell 2 3 rfl rfl⟩,?_⟩;go_simp;first
  |refine vew rfl rfl ?_
  |refine ve rfl rfl ?_
 go_wp2_with fail;refine ⟨⟨(H3.1.alloc _).cell 2 4 rfl rfl,(H3.1.alloc _).cell 2 3 rfl rfl⟩,?_⟩;go_simp;first
  |refine vew rfl rfl ?_
  |refine ve rfl rfl ?_
 go_wp2_with (go_at_call 132;refine (HN.1 _ _ _ (H3.1.sel (p:= [_,_,_,_]) [1,3,0,2] 4 rfl (by decide))).m1 fun w4 H4=>?_);refine ⟨⟨H4.1.cell 2 4 rfl rfl,H4.1.cell 2 3 rfl rfl⟩,?_⟩;go_simp;have tg:=Tg.mk 5;exact JY):P:=h
theorem QDy {P:Prop} (h:P:=by
 refine ⟨⟨H2.1.cell 2 4 rfl rfl,H2.1.cell 2 3 rfl rfl⟩,?_⟩;go_simp;first
  |refine vew rfl rfl ?_
  |refine ve rfl rfl ?_
 go_wp2_with (go_at_call 101;refine (cey H2.1 _ _ _ _ _).m1 fun w3 H3=>?_);refine ⟨⟨H3.1.cell 2 4 rfl rfl,H3.1.cell 2 3 rfl rfl⟩,?_⟩;go_simp;first
  |refine vew rfl rfl ?_
  |refine ve rfl rfl ?_
 go_wp2_with fail;refine ⟨⟨(H3.1.alloc _).cell 2 4 rfl rfl,(H3.1.alloc _).cell 2 3 rfl rfl⟩,?_⟩;go_simp;first
  |refine vew rfl rfl ?_
  |refine ve rfl rfl ?_
 go_wp2_with (go_at_call 132;refine (HN.1 _ _ _ (H3.1.sel (p:= [_,_,_,_]) [1,3,0,2] 4 rfl (by decide))).m1 fun w4 H4=>?_);refine ⟨⟨H4.1.cell 2 4 rfl rfl,H4.1.cell 2 3 rfl rfl⟩,?_⟩;go_simp;have tg:=Tg.mk 6;exact JY):P:=h
theorem Qxr {P:Prop} (h:P:=by
 have tg:=Tg.mk 7;exact JY):P:=h
theorem Qjx {P:Prop} (h:P:=by
 go_enter Tryz.func281,Tryz.ntmps281;go_wp2_with (go_at_call 285;refine (HSV.1 _ _ HB.1).m2 fun w1 h1=>?_;obtain ⟨x0,x1,x2,x3,x4,x5,x6,xf⟩:=h1.cB7 1 rfl;obtain ⟨vs,vd,vu,tb,⟨y0,y1,y2,y3,y4,y5,y6,y7,y8,y9,y10,y11,y12,y13,y14,y15,y16,y17,yf⟩,hla,⟨ad,md,kd,rfl⟩,⟨au,mu,ku,rfl⟩,hrd,hru⟩:=Ja h1 HX.1;rw [HA.1] at y8;have hlx:=h1.lt 1 rfl;have HRD:=zk hrd;have HRU:=zk hru;have H1:=zk h1;clear h1 hrd hru);refine wro (fun W=>W.cell? ⟨w.heap.size,4,none⟩=some (.int .i64 step)∧W.cell? ⟨w.heap.size,3,none⟩=some (.int .i64 id)) [(0,.f),(1,.f),(2,.f),(3,.f),(4,.s),(5,.f),(6,.f),(7,.f),(8,.e),(9,.f),(10,.f),(11,.f),(12,.f),(13,.f),(14,.f),(15,.f),(16,.s),(18,.f),(19,.f),(17,.e),(20,.f),(21,.f),(22,.f),(23,.f),(24,.f),(25,.f),(26,.f),(27,.s),(28,.e),(29,.e),(30,.e),(31,.e),(32,.f),(33,.f)] ⟨x4,x3⟩ ?_;repeat (first
  |(refine vg rfl rfl ?_;apply ex2;intro w' hw';obtain ⟨q4,q3⟩:=hw';go_simp;rfl;go_simp)
  |(refine vgw rfl rfl ?_;apply ex2;intro w' hw';obtain ⟨q4,q3⟩:=hw';go_simp;rfl;go_simp)
  |(refine vgo rfl rfl ?_;go_simp)
  |(refine vs_ rfl (fun K hK=>?_);go_simp;refine hK _ ?_;clear hK K))
 first
  |(have ty:Tg 1:=tg;first
     |refine vew rfl rfl ?_
     |refine ve rfl rfl ?_
    go_wp2_with (go_at_call 98;refine (cdk (H1.1.drew) HX.1).m0 ?_;rw [HDE.1]);refine ⟨⟨x4,x3⟩,?_⟩;go_simp;have tg:=Tg.mk 8;exact JY)
  |(have ty:Tg 2:=tg;first
     |refine vew rfl rfl ?_
     |refine ve rfl rfl ?_
    go_wp2_with (go_at_call 98;refine (cdk (H1.1.drew) HX.1).m0 ?_;rw [HDE.1]);refine ⟨⟨x4,x3⟩,?_⟩;go_simp;have tg:=Tg.mk 9;exact JY)
  |(have ty:Tg 3:=tg;first
     |refine vew rfl rfl ?_
     |refine ve rfl rfl ?_
    go_wp2_with (go_at_call 98;refine (cdk (H1.1.drew) HX.1).m0 ?_;rw [HDE.1]);refine ⟨⟨x4,x3⟩,?_⟩;go_simp;have tg:=Tg.mk 10;exact JY)
  |(have ty:Tg 4:=tg;first
     |refine vew rfl rfl ?_
     |refine ve rfl rfl ?_
    go_wp2_with (go_at_call 98;refine (cdk (H1.1.drew) HX.1).m0 ?_;rw [HDE.1]);refine ⟨⟨x4,x3⟩,?_⟩;go_simp;exact Qxr)
  |(have ty:Tg 5:=tg;refine veo rfl rfl ⟨⟨x4,x3⟩,?_⟩;go_simp;exact Qxr)):P:=h
theorem JY {P:Prop} (h:P:=by
 repeat (first
  |(refine vg rfl rfl ?_;apply ex2;intro w' hw';obtain ⟨q4,q3⟩:=hw';go_simp;rfl;go_simp)
  |(refine vgw rfl rfl ?_;apply ex2;intro w' hw';obtain ⟨q4,q3⟩:=hw';go_simp;rfl;go_simp)
  |(refine vgo rfl rfl ?_;go_simp)
  |(refine vs_ rfl (fun K hK=>?_);go_simp;refine hK _ ?_;clear hK K))
 first
  |(have ty:Tg 1:=tg;first
     |refine vew rfl rfl ?_
     |refine ve rfl rfl ?_
    have tg:=Tg.mk 1;exact Qx8)
  |(have ty:Tg 2:=tg;first
     |refine vew rfl rfl ?_
     |refine ve rfl rfl ?_
    have tg:=Tg.mk 2;exact Qx8)
  |(have ty:Tg 3:=tg;first
     |refine vew rfl rfl ?_
     |refine ve rfl rfl ?_
    have tg:=Tg.mk 3;exact Qx8)
  |(have ty:Tg 4:=tg;refine veo rfl rfl ⟨⟨x4,x3⟩,?_⟩;go_simp;refine veo rfl rfl ⟨⟨x4,x3⟩,?_⟩;go_simp;refine veo rfl rfl ⟨⟨x4,x3⟩,?_⟩;go_simp;refine veo rfl rfl ⟨⟨x4,x3⟩,?_⟩;have tg:=Tg.mk 1;exact Qp0)
  |(have ty:Tg 5:=tg;refine vn ?_;go_simp;go_wp2_with (go_at_call 131;refine (HGO.1 _ _ (H4.1.sel (p:= [_,_,_]) [0,1] 3 rfl (by decide))).mono ?_;rintro en w5 ⟨v5,rfl,h5⟩;have H5:=zk h5;clear h5);go_ret;rw [HST.1];exact ⟨_,rfl,H5.1⟩)
  |(have ty:Tg 6:=tg;refine vn ?_;go_simp;go_wp2_with fail;go_ret;rw [HST.1];exact ⟨_,rfl,(H4.1.sel (p:= [_,_,_]) [0,1] 3 rfl (by decide)).nRw 113 7⟩)
  |(have ty:Tg 7:=tg;refine veo rfl rfl ⟨⟨x4,x3⟩,?_⟩;exact QDw)
  |(have ty:Tg 8:=tg;first
     |refine vew rfl rfl ?_
     |refine ve rfl rfl ?_
    have tg:=Tg.mk 1;exact Qyy)
  |(have ty:Tg 9:=tg;first
     |refine vew rfl rfl ?_
     |refine ve rfl rfl ?_
    have tg:=Tg.mk 2;exact Qyy)
  |(have ty:Tg 10:=tg;first
     |refine vew rfl rfl ?_
     |refine ve rfl rfl ?_
    have tg:=Tg.mk 3;exact Qyy)):P:=h
theorem Qp2 {P:Prop} (h:P:=by
 go_enter Tryz.func281,Tryz.ntmps281;go_wp2_with (go_at_call 285;refine (HSV.1 _ _ HB.1).m2 fun w1 h1=>?_;obtain ⟨x0,x1,x2,x3,x4,x5,x6,xf⟩:=h1.cB7 1 rfl;obtain ⟨vs,vd,vu,tb,⟨y0,y1,y2,y3,y4,y5,y6,y7,y8,y9,y10,y11,y12,y13,y14,y15,y16,y17,yf⟩,hla,⟨ad,md,kd,rfl⟩,⟨au,mu,ku,rfl⟩,hrd,hru⟩:=Ja h1 HX.1;rw [HA.1] at y10;have hlx:=h1.lt 1 rfl;have HRD:=zk hrd;have HRU:=zk hru;have H1:=zk h1;clear h1 hrd hru);refine wro (fun W=>W.cell? ⟨w.heap.size,4,none⟩=some (.int .i64 step)∧W.cell? ⟨w.heap.size,3,none⟩=some (.int .i64 id)) [(0,.f),(1,.f),(2,.f),(3,.f),(4,.s),(5,.f),(6,.f),(7,.f),(8,.f),(9,.f),(10,.s),(12,.f),(13,.f),(11,.e),(14,.f),(15,.f),(16,.f),(17,.f),(18,.f),(19,.f),(20,.f),(21,.s),(22,.e),(23,.e),(24,.e),(25,.e),(26,.f),(27,.f)] ⟨x4,x3⟩ ?_;first
  |(have ty:Tg 1:=tg;exact Qxr)
  |(have ty:Tg 2:=tg;have tg:=Tg.mk 1;exact JY)
  |(have ty:Tg 3:=tg;have tg:=Tg.mk 2;exact JY)
  |(have ty:Tg 4:=tg;have tg:=Tg.mk 3;exact JY)):P:=h
theorem Qx8 {P:Prop} (h:P:=by
 go_wp2_with (go_at_call 286;refine (Qhu _ _ _ H1.1.drew.tab (QR HRU.1 (Below.refl _ _).drew) (by have:=(mpt HXO.1.may).2.1;have:=HXO.1.o.len;omega)).mono ?_;rintro en w2 ⟨rfl,hb2⟩;have H1b:=zk (H1.1.drew.below hb2);clear hb2 x0 x1 x2 x3 x4 x5 x6 xf hlx;obtain ⟨x0,x1,x2,x3,x4,x5,x6,xf⟩:=H1b.1.cB7 1 rfl;have hlx:=H1b.1.lt 1 rfl);refine ⟨⟨H1b.1.cell 1 4 rfl rfl,H1b.1.cell 1 3 rfl rfl⟩,?_⟩;go_simp;repeat (first
  |(refine vg rfl rfl ?_;apply ex2;intro w' hw';obtain ⟨q4,q3⟩:=hw';go_simp;rfl;go_simp)
  |(refine vgw rfl rfl ?_;apply ex2;intro w' hw';obtain ⟨q4,q3⟩:=hw';go_simp;rfl;go_simp)
  |(refine vgo rfl rfl ?_;go_simp)
  |(refine vs_ rfl (fun K hK=>?_);go_simp;refine hK _ ?_;clear hK K))
 first
  |(have ty:Tg 1:=tg;first
     |refine vew rfl rfl ?_
     |refine ve rfl rfl ?_
    go_wp2_with fail;have H2:=zk ((H1b.1.new (.cells #[step] 3)));exact QDy)
  |(have ty:Tg 2:=tg;first
     |refine vew rfl rfl ?_
     |refine ve rfl rfl ?_
    go_wp2_with fail;have H2:=zk ((H1b.1.new (.cells #[step] 3)));exact QBj)
  |(have ty:Tg 3:=tg;refine veo rfl rfl ⟨⟨H1b.1.cell 1 4 rfl rfl,H1b.1.cell 1 3 rfl rfl⟩,?_⟩;go_simp;refine veo rfl rfl ⟨⟨H1b.1.cell 1 4 rfl rfl,H1b.1.cell 1 3 rfl rfl⟩,?_⟩;go_simp;refine veo rfl rfl ⟨⟨H1b.1.cell 1 4 rfl rfl,H1b.1.cell 1 3 rfl rfl⟩,?_⟩;go_simp;refine veo rfl rfl ⟨⟨H1b.1.cell 1 4 rfl rfl,H1b.1.cell 1 3 rfl rfl⟩,?_⟩;have tg:=Tg.mk 4;exact Qp0)):P:=h
theorem Qp0 {P:Prop} (h:P:=by
 go_simp;repeat (first
  |(refine vg rfl rfl ?_;apply ex2;intro w' hw';obtain ⟨q4,q3⟩:=hw';go_simp;rfl;go_simp)
  |(refine vgw rfl rfl ?_;apply ex2;intro w' hw';obtain ⟨q4,q3⟩:=hw';go_simp;rfl;go_simp)
  |(refine vgo rfl rfl ?_;go_simp)
  |(refine vs_ rfl (fun K hK=>?_);go_simp;refine hK _ ?_;clear hK K))
 first
  |(have ty:Tg 1:=tg;refine vn ?_;go_simp;go_wp2_with fail;go_ret;rw [HST.1];exact ⟨_,rfl,(H1.1.drew.sel (p:= [_,_,_]) [0,2] 3 rfl (by decide)).nRw 113 7⟩)
  |(have ty:Tg 2:=tg;first
     |refine vew rfl rfl ?_
     |refine ve rfl rfl ?_
    go_wp2_with fail;have H2:=zk ((H1.1.new (.cells #[step] 3)).drew);exact QDy)
  |(have ty:Tg 3:=tg;first
     |refine vew rfl rfl ?_
     |refine ve rfl rfl ?_
    go_wp2_with fail;have H2:=zk ((H1.1.new (.cells #[step] 3)).drew);exact QBj)
  |(have ty:Tg 4:=tg;refine vn ?_;go_simp;go_wp2_with fail;go_ret;rw [HST.1];exact ⟨_,rfl,(H1b.1.sel (p:= [_,_,_]) [0,2] 3 rfl (by decide)).nRw 113 7⟩)):P:=h
theorem Qyy {P:Prop} (h:P:=by
 go_wp2_with (go_at_call 124;refine (Qhr _ _ _ _ (QR HRD.1 (Below.refl _ _).drew) (by have:=(mpt HXO.1.may).1;have:=HXO.1.o.len;omega)).mono ?_;rintro en w2 ⟨rfl,rfl⟩);refine ⟨⟨x4,x3⟩,?_⟩;first
  |(have ty:Tg 1:=tg;have tg:=Tg.mk 2;exact Qp0)
  |(have ty:Tg 2:=tg;have tg:=Tg.mk 3;exact Qp0)
  |(have ty:Tg 3:=tg;exact QDw)):P:=h
theorem Qme {w0 w:World} {b bj:Nat} {A:Int→Nat} {c:Qa} {R:List SA} {id:Int} {x:Led} (h:Heap w0 (.cha b bj A c::R) w) (hx:Qc c.l id=some x) (m:Msg):
 CH 285 #[(A id),m.val] w (.bool (x.service m.step m.frm)) w0 (.cha b bj A c::R):=by
 obtain ⟨hp,bm,bt,h⟩:=h.Zu hx;refine (Qjw h (hp.get hx).1 m).m2 fun w' h'=>?_;exact ⟨rfl,Heap.Qer hp hx h'⟩
theorem cdk {w0 w:World} {b bj:Nat} {A:Int→Nat} {c:Qa} {R:List SA} {id:Int} {x:Led} (h:Heap w0 (.cha b bj A c::R) w) (hx:Qc c.l id=some x):
 CE 98 #[(A id)] w (.bool x.decided):=by
 obtain ⟨hp,bm,bt,h⟩:=h.Zu hx;exact Qj3 h
theorem Ja {w0 w:World} {b bj:Nat} {A:Int→Nat} {c:Qa} {R:List SA} {id:Int} {x:Led} (h:Heap w0 (.cha b bj A c::R) w) (hx:Qc c.l id=some x):∃vs vd vu tb,Qw1 w (A id) x vs vd vu (x.tp tb)∧A id<w.heap.size∧(∃a m k,vd=.slice a m k)∧(∃a m k,vu=.slice a m k)∧w.ownsRow 0 4 1 vd x.f.done.length (bools x.f.done)∧w.ownsRow 0 4 1 vu x.f.undone.length (bools x.f.undone):=by
 obtain ⟨hp,bm,bt,h⟩:=h.Zu hx;obtain ⟨vs,vd,vu,tb,hpa,h⟩:=h.Xm;exact ⟨vs,vd,vu,tb,h.cA8 0 rfl,h.lt 0 rfl,TJ (h.row 2 rfl),TJ (h.row 3 rfl),h.row 2 rfl,h.row 3 rfl⟩
theorem JB {id n:Int} (h0:1≤id) (h1:id≤999) (hn:0≤n∧n≤100) (k:Kd):Entry.ok ⟨k,id,[n]⟩:=⟨by simp only;omega,h1,by simp,by simp [QU];omega⟩
theorem Vr (c:Qa) (es:List Entry):(c.notes es).2.j.down=c.j.down:=by
 rw [YH];split;rfl;exact (ZZ _ c).2.2
theorem JC {w0 w:World} {b bj:Nat} {A:Int→Nat} {c:Qa} {R:List SA} {k:Kd} {id n:Int} {g:Nat} (h:Heap w0 (.cha b bj A c::.jrn bj c.j::.pts g (.cells #[.int .i64 n] 3)::R) w) (hf:c.Fits ⟨k,id,[n]⟩) (he:Entry.ok ⟨k,id,[n]⟩) (hk:k≠ .begin) (hd:c.j.down=false):
 CH 132 #[b,.slice (some ⟨w.heap.size,0,none⟩) 1 1] (w.alloc (.cells #[.string k.str,id,.slice (some ⟨g,0,none⟩) 1 1] 171)) (.bool (c.notes [⟨k,id,[n]⟩]).1) w0 (.cha b bj A (c.notes [⟨k,id,[n]⟩]).2::.jrn bj (c.notes [⟨k,id,[n]⟩]).2.j::R):=by
 have h2:=Heap.XJ (k:=1) (size:=1) (h.frt 2 rfl) (by decide) rfl;exact Qfo (e:=⟨k,id,[n]⟩) (u:=.slice (some ⟨g,0,none⟩) 1 1) (h2.sel (p:= [_,_,_]) [1,2,0] 3 rfl (by decide)) hf he hk hd
theorem Qff {w0 w:World} {b bj:Nat} {A:Int→Nat} {c:Qa} {R:List SA} {k:Kd} {id n:Int} {g:Nat} (h:Heap w0 (.cha b bj A c::.jrn bj c.j::.pts g (.cells #[.int .i64 n] 3)::R) w) (hf:c.Fits ⟨k,id,[n]⟩) (he:Entry.ok ⟨k,id,[n]⟩) (hk:k≠ .begin) (hd:c.j.down=false):
 CH 100 #[b,.slice (some ⟨w.heap.size,0,none⟩) 1 1] (w.alloc (.cells #[.string k.str,id,.slice (some ⟨g,0,none⟩) 1 1] 171)) (.bool (c.Qm [⟨k,id,[n]⟩]).1) w0 (.cha b bj A (c.Qm [⟨k,id,[n]⟩]).2::.jrn bj (c.Qm [⟨k,id,[n]⟩]).2.j::R):=by
 have h2:=Heap.XJ (k:=1) (size:=1) (h.frt 2 rfl) (by decide) rfl;exact Qha (e:=⟨k,id,[n]⟩) (u:=.slice (some ⟨g,0,none⟩) 1 1) (h2.sel (p:= [_,_,_]) [1,2,0] 3 rfl (by decide)) hf he hk hd
theorem Ui (c:Qa) (e:Entry):c.QM e=if (c.notes [e]).1=true then (c.notes [e]).2.goes e.id else ([],(c.notes [e]).2):=rfl
theorem Qgr (c:Qa) (e:Entry):c.QN e=if (c.Qm [e]).1=true then (c.Qm [e]).2.goes e.id else ([],(c.Qm [e]).2):=rfl
theorem FT {w0 w:World} {b bj:Nat} {A:Int→Nat} {c:Qa} {R:List SA} {x:Led} (h:Heap w0 (.cha b bj A c::.jrn bj c.j::R) w) (m:Msg) (hx:Qc c.l m.id=some x) (hk:m.kind=2∨m.kind=3∨m.kind=5) (hd:c.j.down=false):
 Calls Tryz.prog 281 #[b,(A m.id),m.val] w (Sends w0 b bj A R (c.steps x m)):=by
 have hok:=(h.Yl).get hx;have HXO:=zk hok.1;have hi0:=hok.2.1;have hi1:=hok.2.2;have HST:As (c.steps x m=if x.service m.step m.frm=false then ([],c) else
  if (decide (m.kind=3)&& !x.decided)=true then ((c.turns m.id).1,(c.turns m.id).2.2) else
  if m.kind=2 then (if (!x.f.asked&& !x.decided&&decide (XY x.f.done false=m.step))=true then c.QM ⟨.done,m.id,[m.step]⟩ else ([],c)) else
  if m.kind=5 then (if (x.f.turned&&decide (QF x.f.undone=m.step))=true then c.QM ⟨.undone,m.id,[m.step]⟩ else ([],c)) else ([],c)):=⟨rfl⟩
 have HX:=zk hx;have HD:=zk hd;have HB:=zk ((h.new m.box).frt 1 rfl);have HSV:As (∀W L,Heap w0 (.cha b bj A c::L) W→CH 285 #[(A m.id),m.val] W (.bool (x.service m.step m.frm)) w0 (.cha b bj A c::L)):=⟨fun W L h=>Qme h HX.1 m⟩;have HSL:As (x.service m.step m.frm=true→0≤m.step∧m.step<3):=⟨fun hs=>by
  have h3:=HXO.1.o.len;unfold Led.service at hs;simp only [Bool.and_eq_true,decide_eq_true_eq] at hs;omega⟩
 clear h hx hd hok;obtain ⟨kind,frm,tt,id,step,a,mb⟩:=m;unfold Msg.box at HB;simp only at HST HX HB HSV HSL hi0 hi1 hk;unfold Msg.val at *;simp only at HSV⊢;generalize c.steps x ⟨kind,frm,tt,id,step,a,mb⟩=res at *;generalize x.service step frm=sv at *;cases sv
 ·simp only [if_true] at HST;go_enter Tryz.func281,Tryz.ntmps281;go_wp2_with (go_at_call 285;refine (HSV.1 _ _ HB.1).m2 fun w1 h1=>?_;obtain ⟨x0,x1,x2,x3,x4,x5,x6,xf⟩:=h1.cB7 1 rfl;obtain ⟨vs,vd,vu,tb,⟨y0,y1,y2,y3,y4,y5,y6,y7,y8,y9,y10,y11,y12,y13,y14,y15,y16,y17,yf⟩,hla,⟨ad,md,kd,rfl⟩,⟨au,mu,ku,rfl⟩,hrd,hru⟩:=Ja h1 HX.1;have hlx:=h1.lt 1 rfl;have HRD:=zk hrd;have HRU:=zk hru;have H1:=zk h1;clear h1 hrd hru);go_ret;rw [HST.1];exact ⟨_,rfl,(H1.1.sel (p:= [_,_,_]) [0,2] 3 rfl (by decide)).nRw 113 7⟩
 ·simp only [Bool.true_eq_false,if_false] at HST;have hst:=HSL.1 rfl;rcases hk with rfl|rfl|rfl
  ·simp only [Int.reduceEq,decide_false,Bool.false_and,Bool.false_eq_true,if_false,if_true] at HST;cases ha:x.f.asked
   ·rw [ha] at HST;have HA:=zk ha;cases hde:x.decided
    ·rw [hde] at HST;have HDE:=zk hde;by_cases hix:XY x.f.done false=step
     ·simp only [hix,decide_true,Bool.not_false,Bool.and_self,if_true] at HST;have HIX:As (XY x.f.done false=((step.toNat:Nat):Int)):=⟨by rw [hix];omega⟩;have HFT:As (c.Fits ⟨.done,id,[step]⟩):=⟨by
       have:=Qa.Fits.done (c:=c) id step.toNat x HX.1 ha hde HIX.1;rw [Int.toNat_of_nonneg hst.1] at this;exact this⟩
      have HEO:=zk (JB (n:=step) hi0 hi1 (by omega) .done);have HGE:As (c.QM ⟨.done,id,[step]⟩=_):=⟨Ui c ⟨.done,id,[step]⟩⟩;have HN:As (∀W L g,Heap w0 (.cha b bj A c::.jrn bj c.j::.pts g (.cells #[step] 3)::L) W→CH 132 #[b,.slice (some ⟨W.heap.size,0,none⟩) 1 1] (W.alloc (.cells #[.string (Kd.str .done),id,.slice (some ⟨g,0,none⟩) 1 1] 171)) (.bool (c.notes [⟨.done,id,[step]⟩]).1) w0 (.cha b bj A (c.notes [⟨.done,id,[step]⟩]).2::.jrn bj (c.notes [⟨.done,id,[step]⟩]).2.j::L)):=⟨fun W L g h=>JC h HFT.1 HEO.1 (by simp) HD.1⟩;have HGX:=zk (fun h=>YN (c:=c) (e:=⟨.done,id,[step]⟩) (x:=x) h HX.1 (by simp));have HDN:As ((c.notes [⟨.done,id,[step]⟩]).2.j.down=false):=⟨(Vr _ _).trans HD.1⟩;rw [HGE.1] at HST;clear HGE;generalize c.notes [⟨.done,id,[step]⟩]=p at *;obtain ⟨okp,nc⟩:=p;simp only at HN HST HGX HDN;have hbs:(XY x.f.done false==step)=true:=by simpa using hix
      clear hix hde ha;cases okp;simp only [Bool.false_eq_true,if_false] at HST;have tg:=Tg.mk 1;exact Qjx;simp only [if_true] at HST;have HGO:As (∀W L,Heap w0 (.cha b bj A nc::.jrn bj nc.j::L) W→Calls Tryz.prog 131 #[b,(A id)] W (Sends w0 b bj A L (nc.goes id))):=⟨fun W L h=>Vl h (HGX.1 rfl) HDN.1⟩;generalize nc.goes id=rg at *;have tg:=Tg.mk 2;exact Qjx
     have hbs:(XY x.f.done false==step)=false:=by simpa using hix
     simp only [hix,decide_false,Bool.and_false,Bool.false_eq_true,if_false] at HST;clear hix hde ha;have tg:=Tg.mk 3;exact Qjx
    rw [hde] at HST;have HDE:=zk hde;simp only [Bool.not_true,Bool.and_false,Bool.false_and,Bool.false_eq_true,if_false] at HST;clear hde ha;have tg:=Tg.mk 4;exact Qjx
   rw [ha] at HST;have HA:=zk ha;simp only [Bool.not_true,Bool.false_and,Bool.false_eq_true,if_false] at HST;clear ha;have tg:=Tg.mk 5;exact Qjx
  ·simp only [Int.reduceEq,decide_true,Bool.true_and,if_false] at HST;cases hde:x.decided
   ·rw [hde] at HST;have HDE:=zk hde;simp only [Bool.not_false,if_true] at HST;have HTU:As (∀W L,Heap w0 (.cha b bj A c::.jrn bj c.j::L) W→Calls Tryz.prog 99 #[b,(A id)] W (Qip w0 b bj A L (c.turns id))):=⟨fun W L h=>FX h HX.1 HD.1 HDE.1⟩;generalize c.turns id=rt at *;clear hde;go_enter Tryz.func281,Tryz.ntmps281;go_wp2_with (first|(go_at_call 285;refine (HSV.1 _ _ HB.1).m2 fun w1 h1=>?_;obtain ⟨x0,x1,x2,x3,x4,x5,x6,xf⟩:=h1.cB7 1 rfl;obtain ⟨vs,vd,vu,tb,⟨y0,y1,y2,y3,y4,y5,y6,y7,y8,y9,y10,y11,y12,y13,y14,y15,y16,y17,yf⟩,hla,⟨ad,md,kd,rfl⟩,⟨au,mu,ku,rfl⟩,hrd,hru⟩:=Ja h1 HX.1;have hlx:=h1.lt 1 rfl;have HRD:=zk hrd;have HRU:=zk hru;have H1:=zk h1;clear h1 hrd hru)|(go_at_call 98;refine (cdk (H1.1) HX.1).m0 ?_;rw [HDE.1])|(go_at_call 99;refine (HTU.1 _ _ (H1.1.frt 2 rfl |>.frt 1 rfl)).mono ?_;rintro en w3 ⟨v3,rfl,h3⟩;have H3:=zk h3;clear h3));go_ret;rw [HST.1];exact ⟨_,rfl,H3.1.sel (p:= [_,_,_,_]) [0,1,2] 4 rfl (by decide)⟩
   ·rw [hde] at HST;have HDE:=zk hde;simp only [Bool.not_true,Bool.false_eq_true,if_false] at HST;clear hde;go_enter Tryz.func281,Tryz.ntmps281;go_wp2_with (first|(go_at_call 285;refine (HSV.1 _ _ HB.1).m2 fun w1 h1=>?_;obtain ⟨x0,x1,x2,x3,x4,x5,x6,xf⟩:=h1.cB7 1 rfl;obtain ⟨vs,vd,vu,tb,⟨y0,y1,y2,y3,y4,y5,y6,y7,y8,y9,y10,y11,y12,y13,y14,y15,y16,y17,yf⟩,hla,⟨ad,md,kd,rfl⟩,⟨au,mu,ku,rfl⟩,hrd,hru⟩:=Ja h1 HX.1;have hlx:=h1.lt 1 rfl;have HRD:=zk hrd;have HRU:=zk hru;have H1:=zk h1;clear h1 hrd hru)|(go_at_call 98;refine (cdk (H1.1) HX.1).m0 ?_;rw [HDE.1]));go_ret;rw [HST.1];exact ⟨_,rfl,(H1.1.sel (p:= [_,_,_]) [0,2] 3 rfl (by decide)).nRw 113 7⟩
  ·simp only [Int.reduceEq,decide_false,Bool.false_and,Bool.false_eq_true,if_false,if_true] at HST;cases ha:x.f.turned;rw [ha] at HST;have HA:=zk ha;simp only [Bool.false_and,Bool.false_eq_true,if_false] at HST;clear ha;have tg:=Tg.mk 1;exact Qp2
   ·rw [ha] at HST;have HA:=zk ha;by_cases hix:QF x.f.undone=step
    ·simp only [hix,decide_true,Bool.and_self,if_true] at HST;have HIX:As (QF x.f.undone=((step.toNat:Nat):Int)):=⟨by rw [hix];omega⟩;have HFT:As (c.Fits ⟨.undone,id,[step]⟩):=⟨by
      have:=Qa.Fits.undone (c:=c) id step.toNat x HX.1 ha HIX.1;rw [Int.toNat_of_nonneg hst.1] at this;exact this⟩
     have HEO:=zk (JB (n:=step) hi0 hi1 (by omega) .undone);have HGE:As (c.QM ⟨.undone,id,[step]⟩=_):=⟨Ui c ⟨.undone,id,[step]⟩⟩;have HN:As (∀W L g,Heap w0 (.cha b bj A c::.jrn bj c.j::.pts g (.cells #[step] 3)::L) W→CH 132 #[b,.slice (some ⟨W.heap.size,0,none⟩) 1 1] (W.alloc (.cells #[.string (Kd.str .undone),id,.slice (some ⟨g,0,none⟩) 1 1] 171)) (.bool (c.notes [⟨.undone,id,[step]⟩]).1) w0 (.cha b bj A (c.notes [⟨.undone,id,[step]⟩]).2::.jrn bj (c.notes [⟨.undone,id,[step]⟩]).2.j::L)):=⟨fun W L g h=>JC h HFT.1 HEO.1 (by simp) HD.1⟩;have HGX:=zk (fun h=>YN (c:=c) (e:=⟨.undone,id,[step]⟩) (x:=x) h HX.1 (by simp));have HDN:As ((c.notes [⟨.undone,id,[step]⟩]).2.j.down=false):=⟨(Vr _ _).trans HD.1⟩;rw [HGE.1] at HST;clear HGE;generalize c.notes [⟨.undone,id,[step]⟩]=p at *;obtain ⟨okp,nc⟩:=p;simp only at HN HST HGX HDN;have hbs:(QF x.f.undone==step)=true:=by simpa using hix
     clear hix ha;cases okp;simp only [Bool.false_eq_true,if_false] at HST;have tg:=Tg.mk 2;exact Qp2;simp only [if_true] at HST;have HGO:As (∀W L,Heap w0 (.cha b bj A nc::.jrn bj nc.j::L) W→Calls Tryz.prog 131 #[b,(A id)] W (Sends w0 b bj A L (nc.goes id))):=⟨fun W L h=>Vl h (HGX.1 rfl) HDN.1⟩;generalize nc.goes id=rg at *;have tg:=Tg.mk 3;exact Qp2
    have hbs:(QF x.f.undone==step)=false:=by simpa using hix
    simp only [hix,decide_false,Bool.and_false,Bool.false_eq_true,if_false] at HST;clear hix ha;have tg:=Tg.mk 4;exact Qp2
theorem Qqa {P:Prop} (h:P:=by
 go_ret;rw [HVT.1];simp only;rw [HSY.1];exact ⟨_,rfl,(H5.1.sel (p:= [_,_,_]) [0,2] 3 rfl (by decide)).nRw 113 7⟩):P:=h
theorem QBm {P:Prop} (h:P:=by
 rw [hwt] at HW;simp only [List.length_cons,List.length_nil,List.map_cons,List.map_nil,Nat.zero_add,Nat.reduceAdd] at HW;have HFT:As (c.Fits ⟨.yes,id,[]⟩):=⟨.yes id x HX.1 HDE.1.1 HDE.1.2⟩;have HEO:=zk (QB hi0 hi1 .yes);have HGE:As (c.QN ⟨.yes,id,[]⟩=_):=⟨Qgr c ⟨.yes,id,[]⟩⟩;have HN:As (∀W L,Heap w0 (.cha b bj A c::.jrn bj c.j::L) W→CH 100 #[b,.slice (some ⟨W.heap.size,0,none⟩) 1 1] (W.alloc (.cells #[.string (Kd.str .yes),id,.slice none 0 0] 171)) (.bool (c.Qm [⟨.yes,id,[]⟩]).1) w0 (.cha b bj A (c.Qm [⟨.yes,id,[]⟩]).2::.jrn bj (c.Qm [⟨.yes,id,[]⟩]).2.j::L)):=⟨fun W L h=>VX h HFT.1 HEO.1 (by simp) HD.1⟩;have HGX:=zk (fun h=>ZA (c:=c) (e:=⟨.yes,id,[]⟩) (x:=x) h HX.1 (by simp));have HDN:As ((c.Qm [⟨.yes,id,[]⟩]).2.j.down=false):=⟨(YR _ _).trans HD.1⟩;rw [HGE.1] at HVT;clear HGE;generalize c.Qm [⟨.yes,id,[]⟩]=p at *;obtain ⟨okp,nc⟩:=p;simp only at HN HVT HGX HDN;cases okp;first
  |(have ty:Tg 1:=tg
    ·simp only [Bool.false_eq_true,if_false] at HVT;go_enter Tryz.func282,Tryz.ntmps282;go_wp2_with (first|(go_at_call 284;refine (HK.1 _).m0 ?_)|(go_at_call 287;refine HW.1.mono ?_;rintro en w2 ⟨v2,rfl,h2⟩;obtain ⟨av,cv,rfl⟩:=vS2 (h2.row 0 rfl);clear y17 hla x0 hlx;obtain ⟨y17,hla⟩:=HCL.1 _ _ h2;have H2:=zk h2;have H2c:=zk (HSAME.1 _ h2.drop);have x0:=H2c.1.cB7 1 rfl;have hlx:=H2c.1.lt 1 rfl;clear h2)|(go_at_call 288;refine (YV (l:= [0]) H2.1 (by decide) (by decide) 0).m2 fun w3 h3=>?_;clear y17 hla x0 hlx;obtain ⟨y17,hla⟩:=HCL.1 _ _ h3;have H3c:=zk h3.drop;have H3:=zk (HSAME.1 _ h3.drop);have x0:=H3.1.cB7 1 rfl;have hlx:=H3.1.lt 1 rfl;clear h3)|(go_at_call 101;refine (cey (H3.1) _ _ _ _ _).m1 fun w4 H4=>?_)|(go_at_call 100;refine (HN.1 _ _ (H4.1.sel (p:= [_,_,_]) [0,2,1] 3 rfl (by decide))).m2 fun w5 h5=>?_;have H5:=zk (h5.sel (p:= [_,_,_]) [0,1] 3 rfl (by decide));clear h5));go_ret;rw [HVT.1];exact ⟨_,rfl,H5.1.nRw 113 7⟩
    have tg:=Tg.mk 2;exact Qyd)
  |(have ty:Tg 2:=tg
    ·simp only [Bool.false_eq_true,if_false] at HVT;go_enter Tryz.func282,Tryz.ntmps282;go_wp2_with (first|(go_at_call 284;refine (HK.1 _).m0 ?_)|(go_at_call 287;refine HW.1.mono ?_;rintro en w2 ⟨v2,rfl,h2⟩;obtain ⟨av,cv,rfl⟩:=vS2 (h2.row 0 rfl);clear y17 hla x0 hlx;obtain ⟨y17,hla⟩:=HCL.1 _ _ h2;have H2:=zk h2;have H2c:=zk (HSAME.1 _ h2.drop);have x0:=H2c.1.cB7 1 rfl;have hlx:=H2c.1.lt 1 rfl;clear h2)|(go_at_call 288;refine (YV (l:= [1]) H2.1 (by decide) (by decide) 1).m2 fun w3 h3=>?_;clear y17 hla x0 hlx;obtain ⟨y17,hla⟩:=HCL.1 _ _ h3;have H3c:=zk h3.drop;have H3:=zk (HSAME.1 _ h3.drop);have x0:=H3.1.cB7 1 rfl;have hlx:=H3.1.lt 1 rfl;clear h3)|(go_at_call 101;refine (cey (H3.1) _ _ _ _ _).m1 fun w4 H4=>?_)|(go_at_call 100;refine (HN.1 _ _ (H4.1.sel (p:= [_,_,_]) [0,2,1] 3 rfl (by decide))).m2 fun w5 h5=>?_;have H5:=zk (h5.sel (p:= [_,_,_]) [0,1] 3 rfl (by decide));clear h5));go_ret;rw [HVT.1];exact ⟨_,rfl,H5.1.nRw 113 7⟩
    have tg:=Tg.mk 3;exact Qyd)):P:=h
theorem Qyd {P:Prop} (h:P:=by
 simp only [if_true] at HVT;have HGO:As (∀W L,Heap w0 (.cha b bj A nc::.jrn bj nc.j::L) W→Calls Tryz.prog 131 #[b,(A id)] W (Sends w0 b bj A L (nc.goes id))):=⟨fun W L h=>Vl h (HGX.1 rfl) HDN.1⟩;generalize nc.goes id=rg at *;go_enter Tryz.func282,Tryz.ntmps282;first
  |(have ty:Tg 1:=tg;go_wp2_with (first|(go_at_call 284;refine (HK.1 _).m0 ?_)|(go_at_call 287;refine HW.1.mono ?_;rintro en w2 ⟨v2,rfl,h2⟩;obtain ⟨av,cv,rfl⟩:=vS2 (h2.row 0 rfl);clear y17 hla x0 hlx;obtain ⟨y17,hla⟩:=HCL.1 _ _ h2;have H2:=zk h2;have H2c:=zk (HSAME.1 _ h2.drop);have x0:=H2c.1.cB7 1 rfl;have hlx:=H2c.1.lt 1 rfl;clear h2;have H3:=zk H2c.1)|(go_at_call 101;refine (cey (H3.1) _ _ _ _ _).m1 fun w4 H4=>?_)|(go_at_call 100;refine (HN.1 _ _ (H4.1.sel (p:= [_,_,_]) [0,2,1] 3 rfl (by decide))).m2 fun w5 h5=>?_;have H5:=zk (h5.sel (p:= [_,_,_]) [0,1] 3 rfl (by decide));clear h5)|(go_at_call 131;refine (HGO.1 _ _ H5.1).mono ?_;rintro en w6 ⟨v6,rfl,h6⟩;have H6:=zk h6;clear h6));go_ret;rw [HVT.1];exact ⟨_,rfl,H6.1⟩)
  |(have ty:Tg 2:=tg;go_wp2_with (first|(go_at_call 284;refine (HK.1 _).m0 ?_)|(go_at_call 287;refine HW.1.mono ?_;rintro en w2 ⟨v2,rfl,h2⟩;obtain ⟨av,cv,rfl⟩:=vS2 (h2.row 0 rfl);clear y17 hla x0 hlx;obtain ⟨y17,hla⟩:=HCL.1 _ _ h2;have H2:=zk h2;have H2c:=zk (HSAME.1 _ h2.drop);have x0:=H2c.1.cB7 1 rfl;have hlx:=H2c.1.lt 1 rfl;clear h2)|(go_at_call 288;refine (YV (l:= [0]) H2.1 (by decide) (by decide) 0).m2 fun w3 h3=>?_;clear y17 hla x0 hlx;obtain ⟨y17,hla⟩:=HCL.1 _ _ h3;have H3c:=zk h3.drop;have H3:=zk (HSAME.1 _ h3.drop);have x0:=H3.1.cB7 1 rfl;have hlx:=H3.1.lt 1 rfl;clear h3)|(go_at_call 101;refine (cey (H3.1) _ _ _ _ _).m1 fun w4 H4=>?_)|(go_at_call 100;refine (HN.1 _ _ (H4.1.sel (p:= [_,_,_]) [0,2,1] 3 rfl (by decide))).m2 fun w5 h5=>?_;have H5:=zk (h5.sel (p:= [_,_,_]) [0,1] 3 rfl (by decide));clear h5)|(go_at_call 131;refine (HGO.1 _ _ H5.1).mono ?_;rintro en w6 ⟨v6,rfl,h6⟩;have H6:=zk h6;clear h6));go_ret;rw [HVT.1];exact ⟨_,rfl,H6.1⟩)
  |(have ty:Tg 3:=tg;go_wp2_with (first|(go_at_call 284;refine (HK.1 _).m0 ?_)|(go_at_call 287;refine HW.1.mono ?_;rintro en w2 ⟨v2,rfl,h2⟩;obtain ⟨av,cv,rfl⟩:=vS2 (h2.row 0 rfl);clear y17 hla x0 hlx;obtain ⟨y17,hla⟩:=HCL.1 _ _ h2;have H2:=zk h2;have H2c:=zk (HSAME.1 _ h2.drop);have x0:=H2c.1.cB7 1 rfl;have hlx:=H2c.1.lt 1 rfl;clear h2)|(go_at_call 288;refine (YV (l:= [1]) H2.1 (by decide) (by decide) 1).m2 fun w3 h3=>?_;clear y17 hla x0 hlx;obtain ⟨y17,hla⟩:=HCL.1 _ _ h3;have H3c:=zk h3.drop;have H3:=zk (HSAME.1 _ h3.drop);have x0:=H3.1.cB7 1 rfl;have hlx:=H3.1.lt 1 rfl;clear h3)|(go_at_call 101;refine (cey (H3.1) _ _ _ _ _).m1 fun w4 H4=>?_)|(go_at_call 100;refine (HN.1 _ _ (H4.1.sel (p:= [_,_,_]) [0,2,1] 3 rfl (by decide))).m2 fun w5 h5=>?_;have H5:=zk (h5.sel (p:= [_,_,_]) [0,1] 3 rfl (by decide));clear h5)|(go_at_call 131;refine (HGO.1 _ _ H5.1).mono ?_;rintro en w6 ⟨v6,rfl,h6⟩;have H6:=zk h6;clear h6));go_ret;rw [HVT.1];exact ⟨_,rfl,H6.1⟩)):P:=h
theorem Qg5 {P:Prop} (h:P:=by
 simp only [Int.reduceEq,Bool.not_true,Bool.not_false,Bool.and_true,Bool.and_false,Bool.and_self,Bool.false_eq_true,if_false,if_true] at HVT;first
  |(have ty:Tg 1:=tg;have hwt:waits false false 2= [0,1]:=rfl;rw [hwt] at HW;simp only [List.length_cons,List.length_nil,List.map_cons,List.map_nil,Nat.zero_add,Nat.reduceAdd] at HW;have HSY:As (x.says (1-1)= {x with t:=some (true,false)}):=⟨by unfold Led.says;rw [HT.1];rfl⟩;go_enter Tryz.func282,Tryz.ntmps282;go_wp2_with (first|(go_at_call 284;refine (HK.1 _).m0 ?_)|(go_at_call 287;refine HW.1.mono ?_;rintro en w2 ⟨v2,rfl,h2⟩;obtain ⟨av,cv,rfl⟩:=vS2 (h2.row 0 rfl);clear y17 hla x0 hlx;obtain ⟨y17,hla⟩:=HCL.1 _ _ h2;have H2:=zk h2;have H2c:=zk (HSAME.1 _ h2.drop);have x0:=H2c.1.cB7 1 rfl;have hlx:=H2c.1.lt 1 rfl;clear h2)|(go_at_call 288;refine (YV (l:= [0,1]) H2.1 (by decide) (by decide) 0).m2 fun w3 h3=>?_;clear y17 hla x0 hlx;obtain ⟨y17,hla⟩:=HCL.1 _ _ h3;have H3c:=zk h3.drop;have H3:=zk (HSAME.1 _ h3.drop);have x0:=H3.1.cB7 1 rfl;have hlx:=H3.1.lt 1 rfl;clear h3)|(go_at_call 289;refine (Qlo H3c.1).m2 fun w5 h5=>?_;have H5:=zk (HPUT.1 _ _ _ h5);clear h5));exact Qqa)
  |(have ty:Tg 2:=tg;have hwt:waits false true 2= [0]:=rfl;have tg:=Tg.mk 1;exact QBm)
  |(have ty:Tg 3:=tg;have hwt:waits true false 2= [1]:=rfl;rw [hwt] at HW;simp only [List.length_cons,List.length_nil,List.map_cons,List.map_nil,Nat.zero_add,Nat.reduceAdd] at HW;have HSY:As (x.says (1-1)= {x with t:=some (true,false)}):=⟨by unfold Led.says;rw [HT.1];rfl⟩;go_enter Tryz.func282,Tryz.ntmps282;go_wp2_with (first|(go_at_call 284;refine (HK.1 _).m0 ?_)|(go_at_call 287;refine HW.1.mono ?_;rintro en w2 ⟨v2,rfl,h2⟩;obtain ⟨av,cv,rfl⟩:=vS2 (h2.row 0 rfl);clear y17 hla x0 hlx;obtain ⟨y17,hla⟩:=HCL.1 _ _ h2;have H2:=zk h2;have H2c:=zk (HSAME.1 _ h2.drop);have x0:=H2c.1.cB7 1 rfl;have hlx:=H2c.1.lt 1 rfl;clear h2)|(go_at_call 288;refine (YV (l:= [1]) H2.1 (by decide) (by decide) 0).m2 fun w3 h3=>?_;clear y17 hla x0 hlx;obtain ⟨y17,hla⟩:=HCL.1 _ _ h3;have H3c:=zk h3.drop;have H3:=zk (HSAME.1 _ h3.drop);have x0:=H3.1.cB7 1 rfl;have hlx:=H3.1.lt 1 rfl;clear h3)|(go_at_call 289;refine (Qlo H3c.1).m2 fun w5 h5=>?_;have H5:=zk (HPUT.1 _ _ _ h5);clear h5));exact Qqa)
  |(have ty:Tg 4:=tg;have hwt:waits false false 2= [0,1]:=rfl;rw [hwt] at HW;simp only [List.length_cons,List.length_nil,List.map_cons,List.map_nil,Nat.zero_add,Nat.reduceAdd] at HW;have HSY:As (x.says (2-1)= {x with t:=some (false,true)}):=⟨by unfold Led.says;rw [HT.1];rfl⟩;go_enter Tryz.func282,Tryz.ntmps282;go_wp2_with (first|(go_at_call 284;refine (HK.1 _).m0 ?_)|(go_at_call 287;refine HW.1.mono ?_;rintro en w2 ⟨v2,rfl,h2⟩;obtain ⟨av,cv,rfl⟩:=vS2 (h2.row 0 rfl);clear y17 hla x0 hlx;obtain ⟨y17,hla⟩:=HCL.1 _ _ h2;have H2:=zk h2;have H2c:=zk (HSAME.1 _ h2.drop);have x0:=H2c.1.cB7 1 rfl;have hlx:=H2c.1.lt 1 rfl;clear h2)|(go_at_call 288;refine (YV (l:= [0,1]) H2.1 (by decide) (by decide) 1).m2 fun w3 h3=>?_;clear y17 hla x0 hlx;obtain ⟨y17,hla⟩:=HCL.1 _ _ h3;have H3c:=zk h3.drop;have H3:=zk (HSAME.1 _ h3.drop);have x0:=H3.1.cB7 1 rfl;have hlx:=H3.1.lt 1 rfl;clear h3)|(go_at_call 289;refine (Qjj H3c.1).m2 fun w5 h5=>?_;have H5:=zk (HPUT.1 _ _ _ h5);clear h5));exact Qqa)
  |(have ty:Tg 5:=tg;have hwt:waits false true 2= [0]:=rfl;rw [hwt] at HW;simp only [List.length_cons,List.length_nil,List.map_cons,List.map_nil,Nat.zero_add,Nat.reduceAdd] at HW;have HSY:As (x.says (2-1)= {x with t:=some (false,true)}):=⟨by unfold Led.says;rw [HT.1];rfl⟩;go_enter Tryz.func282,Tryz.ntmps282;go_wp2_with (first|(go_at_call 284;refine (HK.1 _).m0 ?_)|(go_at_call 287;refine HW.1.mono ?_;rintro en w2 ⟨v2,rfl,h2⟩;obtain ⟨av,cv,rfl⟩:=vS2 (h2.row 0 rfl);clear y17 hla x0 hlx;obtain ⟨y17,hla⟩:=HCL.1 _ _ h2;have H2:=zk h2;have H2c:=zk (HSAME.1 _ h2.drop);have x0:=H2c.1.cB7 1 rfl;have hlx:=H2c.1.lt 1 rfl;clear h2)|(go_at_call 288;refine (YV (l:= [0]) H2.1 (by decide) (by decide) 1).m2 fun w3 h3=>?_;clear y17 hla x0 hlx;obtain ⟨y17,hla⟩:=HCL.1 _ _ h3;have H3c:=zk h3.drop;have H3:=zk (HSAME.1 _ h3.drop);have x0:=H3.1.cB7 1 rfl;have hlx:=H3.1.lt 1 rfl;clear h3)|(go_at_call 289;refine (Qjj H3c.1).m2 fun w5 h5=>?_;have H5:=zk (HPUT.1 _ _ _ h5);clear h5));exact Qqa)
  |(have ty:Tg 6:=tg;have hwt:waits true false 2= [1]:=rfl;have tg:=Tg.mk 2;exact QBm)):P:=h
theorem YV {w0 w:World} {L:List SA} {l:List Int} {v:Value} (h:Heap w0 (.slc v 3 1 l.length (l.map (Value.int .i64))::L) w) (hl:0<l.length) (hl2:l.length≤100) (i:Int):
 CH 288 #[v,.slice (some ⟨w.heap.size,0,none⟩) 1 1] (w.alloc (.cells #[.int .i64 i] 3)) (.bool (l== [i])) w0 (.slc v 3 1 l.length (l.map (Value.int .i64))::L):=by
 rcases h.shp 0 rfl with ⟨-,hz, -⟩|⟨g,cap,rfl, -, -,hcel⟩;omega;have h2:=h.new (.cells #[.int .i64 i] 3);refine (Tryz.slices_Equal_int g 0 l.length cap w.heap.size 0 1 1 l [i] _ (Nat.le_refl _) (by simp) (by omega) (by omega) (fun j hj=>?_) (fun j hj=>?_)).mono ?_;rw [Nat.zero_add];refine h2.YI 1 rfl j _ ?_;simp [hj];simp only [List.length_cons,List.length_nil] at hj;obtain rfl:j=0:=by omega
 exact h2.cell 0 0 rfl rfl;rintro e w' ⟨rfl,q,rfl⟩;refine ⟨?_,(h2.drop).drewN q⟩;simp
theorem Qr9 {w0 w:World} {b bj:Nat} {A:Int→Nat} {c:Qa} {R:List SA} {id:Int} {x:Led} {s0 s1:Bool} (h:Heap w0 (.cha b bj A c::R) w) (hx:Qc c.l id=some x) (ht:x.t=some (s0,s1)):
 ∃tb,(w.cell? ⟨A id,17,none⟩=some (.pointer (some ⟨tb,0,none⟩))∧A id<w.heap.size)∧∃L:List SA,Heap w0 (.tally tb s0 s1::(L++R)) w∧
  (∀W,Heap w0 (.tally tb s0 s1::(L++R)) W→Heap w0 (.cha b bj A c::R) W)∧(∀W r0 r1,Heap w0 (.tally tb r0 r1::(L++R)) W→Heap w0 (.cha b bj A {c with l:=Qt c.l id {x with t:=some (r0,r1)}}::R) W)∧
  (∀W X,Heap w0 (X::.tally tb s0 s1::(L++R)) W→W.cell? ⟨A id,17,none⟩=some (.pointer (some ⟨tb,0,none⟩))∧A id<W.heap.size):=by
 obtain ⟨hp,bm,bt,h⟩:=h.Zu hx;obtain ⟨vs,vd,vu,tb,hpa,h⟩:=h.Xm;have e1:x.tp tb=.pointer (some ⟨tb,0,none⟩):=by simp [Led.tp,ht]
 have e2:x.tsa tb=.tally tb s0 s1:=by simp [Led.tsa,ht]
 rw [e1,e2] at h;refine ⟨tb,⟨h.cell 0 17 rfl rfl,h.lt 0 rfl⟩,[.pts (A id) (.cells (x.cells vs vd vu (.pointer (some ⟨tb,0,none⟩))) 125),.slc vs 131 2 x.o.steps.length (Qs x.o.steps),.slc vd 4 1 x.f.done.length (bools x.f.done),.slc vu 4 1 x.f.undone.length (bools x.f.undone),.pts b (.cells (chc c bj bm bt) 121),.map bm (QE (fun k=>.pointer (some ⟨A k,0,none⟩)) c.l),bks (fun k x=>.led (A k) x) (QI c.l id),.tower bt c.Qf],h.frt 4 rfl,fun W hW=>?_,fun W r0 r1 hW=>?_,fun W X hW=>⟨hW.cell 2 17 rfl rfl,hW.lt 2 rfl⟩⟩;have h2:=hW.sel (p:= [_,_,_,_,_,_,_,_,_]) [1,2,3,4,0,5,6,7,8] 9 rfl (by decide);refine Heap.Qer hp hx (bm:=bm) (bt:=bt) ?_;refine Heap.YF (vs:=vs) (vd:=vd) (vu:=vu) (tb:=tb) hpa ?_;rw [e1,e2];exact h2;have h2:=hW.sel (p:= [_,_,_,_,_,_,_,_,_]) [1,2,3,4,0,5,6,7,8] 9 rfl (by decide);have hok:=hp.get hx;refine Heap.Fe (c:=c) (x:=x) (x':= {x with t:=some (r0,r1)}) (bm:=bm) (bt:=bt) hp ⟨hp.keys.put _ hok.2.1 hok.2.2,fun p hq=>?_,hp.Qf,hp.t0,hp.t1,hp.r1,hp.used0,hp.used1⟩ hx rfl ?_;rcases YB hq with rfl|hq;exact ⟨hok.1.o,hok.1.id,hok.1.may,by have:=hok.1.tally;rw [ht] at this;exact this,hok.1.full⟩;exact hp.led p hq;refine Heap.YF (vs:=vs) (vd:=vd) (vu:=vu) (tb:=tb) ⟨hpa.s,hpa.d,hpa.u⟩ ?_;exact h2
theorem Qfk {w0 w:World} {b bj:Nat} {A:Int→Nat} {c:Qa} {R:List SA} {x:Led} (h:Heap w0 (.cha b bj A c::.jrn bj c.j::R) w) (m:Msg) (hx:Qc c.l m.id=some x) (hk:m.kind=7∨m.kind=8) (hf:m.frm=1∨m.frm=2) (htt:x.t≠some (true,true)) (hd:c.j.down=false):
 Calls Tryz.prog 282 #[b,(A m.id),m.val] w (Sends w0 b bj A R (c.Yo x m)):=by
 have hok:=(h.Yl).get hx;have hi0:=hok.2.1;have hi1:=hok.2.2;have HVT:As (c.Yo x m=match x.t with
  |none=>([],c)
  |some (a,b)=>if m.kind=8 then c.QN ⟨.turn,m.id,[]⟩ else
   if (if m.frm=1 then b&& !a else a&& !b)=true then c.QN ⟨.yes,m.id,[]⟩ else ([],{c with l:=Qt c.l m.id (x.says (m.frm-1))})):=⟨rfl⟩
 have HX:=zk hx;have HD:=zk hd;have HB:=zk ((h.new m.box).frt 1 rfl);have HK:=zk (UM m.frm hf);have HTL:=hok.1.tally;clear h hd;obtain ⟨kind,frm,tt,id,step,a,mb⟩:=m;unfold Msg.box at HB;simp only at HVT HX HB HK hi0 hi1 hk hf hx;unfold Msg.val;simp only;generalize c.Yo x ⟨kind,frm,tt,id,step,a,mb⟩=res at *;have x0:=HB.1.cB7 1 rfl;have hlx:=HB.1.lt 1 rfl;cases ht:x.t with
 |none=>
  obtain ⟨vs,vd,vu,tb,⟨y0,y1,y2,y3,y4,y5,y6,y7,y8,y9,y10,y11,y12,y13,y14,y15,y16,y17,yf⟩,hla⟩:=ZK HB.1 hx;have e1:x.tp tb=.pointer none:=by simp [Led.tp,ht]
  rw [e1] at y17;simp only [ht] at HVT;clear hok hx ht e1 htt HTL;go_enter Tryz.func282,Tryz.ntmps282;go_wp2_with (go_at_call 284;refine (HK.1 _).m0 ?_);go_ret;rw [HVT.1];have h2:=HB.1;exact ⟨_,rfl,(h2.sel (p:= [_,_,_]) [0,2] 3 rfl (by decide)).nRw 113 7⟩
 |some ab=>
  obtain ⟨s0,s1⟩:=ab;have HDE:As (x.f.asked=true∧x.decided=false):=⟨by
   rw [ht] at HTL;simp only [Option.isSome_some] at HTL;simpa using HTL.symm⟩
  simp only [ht] at HVT;obtain ⟨tb,⟨y17,hla⟩,L,hL,hsame,hput,hcl⟩:=Qr9 HB.1 hx ht;have HW:=zk (FM hL);have HSAME:=zk hsame;have HPUT:=zk hput;have HCL:=zk hcl;have HTN:As (¬(s0=true∧s1=true)):=⟨fun ⟨e0,e1⟩=>htt (by rw [ht,e0,e1])⟩;have HT:=zk ht;clear hok hx ht htt HTL hL hsame hput hcl;rcases hk with rfl|rfl;rcases hf with rfl|rfl;cases s0<;>cases s1
  have tg:=Tg.mk 1;exact Qg5;have tg:=Tg.mk 2;exact Qg5;have tg:=Tg.mk 3;exact Qg5;exact absurd ⟨rfl,rfl⟩ HTN.1;cases s0<;>cases s1
  have tg:=Tg.mk 4;exact Qg5;have tg:=Tg.mk 5;exact Qg5;have tg:=Tg.mk 6;exact Qg5;exact absurd ⟨rfl,rfl⟩ HTN.1
  ·simp only [if_true] at HVT;have HFT:As (c.Fits ⟨.turn,id,[]⟩):=⟨.turn id x HX.1 HDE.1.2⟩;have HEO:=zk (QB hi0 hi1 .turn);have HGE:As (c.QN ⟨.turn,id,[]⟩=_):=⟨Qgr c ⟨.turn,id,[]⟩⟩;have HN:As (∀W L,Heap w0 (.cha b bj A c::.jrn bj c.j::L) W→CH 100 #[b,.slice (some ⟨W.heap.size,0,none⟩) 1 1] (W.alloc (.cells #[.string (Kd.str .turn),id,.slice none 0 0] 171)) (.bool (c.Qm [⟨.turn,id,[]⟩]).1) w0 (.cha b bj A (c.Qm [⟨.turn,id,[]⟩]).2::.jrn bj (c.Qm [⟨.turn,id,[]⟩]).2.j::L)):=⟨fun W L h=>VX h HFT.1 HEO.1 (by simp) HD.1⟩;have HGX:=zk (fun h=>ZA (c:=c) (e:=⟨.turn,id,[]⟩) (x:=x) h HX.1 (by simp));have HDN:As ((c.Qm [⟨.turn,id,[]⟩]).2.j.down=false):=⟨(YR _ _).trans HD.1⟩;rw [HGE.1] at HVT;clear HGE;generalize c.Qm [⟨.turn,id,[]⟩]=p at *;obtain ⟨okp,nc⟩:=p;simp only at HN HVT HGX HDN;cases okp
   ·simp only [Bool.false_eq_true,if_false] at HVT;go_enter Tryz.func282,Tryz.ntmps282;go_wp2_with (first|(go_at_call 284;refine (HK.1 _).m0 ?_)|(go_at_call 287;refine HW.1.mono ?_;rintro en w2 ⟨v2,rfl,h2⟩;obtain ⟨av,cv,rfl⟩:=vS2 (h2.row 0 rfl);clear y17 hla x0 hlx;obtain ⟨y17,hla⟩:=HCL.1 _ _ h2;have H2:=zk h2;have H2c:=zk (HSAME.1 _ h2.drop);have x0:=H2c.1.cB7 1 rfl;have hlx:=H2c.1.lt 1 rfl;clear h2;have H3:=zk H2c.1)|(go_at_call 101;refine (cey (H3.1) _ _ _ _ _).m1 fun w4 H4=>?_)|(go_at_call 100;refine (HN.1 _ _ (H4.1.sel (p:= [_,_,_]) [0,2,1] 3 rfl (by decide))).m2 fun w5 h5=>?_;have H5:=zk (h5.sel (p:= [_,_,_]) [0,1] 3 rfl (by decide));clear h5));go_ret;rw [HVT.1];exact ⟨_,rfl,H5.1.nRw 113 7⟩
   have tg:=Tg.mk 1;exact Qyd
theorem Qqp {P:Prop} (h:P:=by
 go_wp2_with fail;refine ⟨⟨H7.1.cell 4 0 rfl rfl,H7.1.cell 4 1 rfl rfl,H7.1.cell 4 2 rfl rfl,H7.1.cell 4 3 rfl rfl,H7.1.cell 4 4 rfl rfl,H7.1.cell 4 5 rfl rfl,H7.1.cell 4 6 rfl rfl⟩,?_⟩;go_simp;first
  |(refine vxp rfl rfl ?_;apply ex2;intro w';go_simp;rfl;go_simp)
  |(refine vxg (by kernel_rfl) rfl rfl ?_;apply ex2;intro w' hw';obtain ⟨q0,q1,q2,q3,q4,q5,q6⟩:=hw';go_simp;rfl;go_simp)
 refine vxn ?_;go_simp;go_wp2_with fail;go_ret;rw [HAT.1];simp only;have hz:rg.1= []:=List.eq_nil_of_length_eq_zero HNL.1.1;rw [hz];exact ⟨_,rfl,H7.1.sel (p:= [_,_,_,_,_]) [3,1,2] 5 rfl (by decide)⟩):P:=h
theorem QDi {P:Prop} (h:P:=by
 have tg:=Tg.mk 1;exact QDl):P:=h
theorem QC9 {P:Prop} (h:P:=by
 have tg:=Tg.mk 2;exact QDl):P:=h
theorem Qrb {P:Prop} (h:P:=by
 go_enter Tryz.func283,Tryz.ntmps283;go_wp2_with (first|(go_at_call 284;refine (HK.1 _).m0 ?_)|(go_at_call 98;refine (cdk HB.1 HX.1).m0 ?_;rw [HDE.1]));go_ret;rw [HAT.1];exact ⟨_,rfl,(HB.1.sel (p:= [_,_,_]) [0,2] 3 rfl (by decide)).nRw 113 7⟩):P:=h
theorem QCf {P:Prop} (h:P:=by
 refine ⟨⟨H6.1.cell 3 0 rfl rfl,H6.1.cell 3 1 rfl rfl,H6.1.cell 3 2 rfl rfl,H6.1.cell 3 3 rfl rfl,H6.1.cell 3 4 rfl rfl,H6.1.cell 3 5 rfl rfl,H6.1.cell 3 6 rfl rfl⟩,?_⟩;go_simp;refine vxe rfl rfl rfl ?_;go_wp2_with (go_at_call 131;refine (HGO.1 _ _ (H6.1.sel (p:= [_,_,_,_]) [1,2,0,3] 4 rfl (by decide))).mono ?_;rintro en w6 ⟨v6,rfl,h6⟩;have H7:=zk ((h6.frt 3 rfl).VE.sel (p:= [_,_,_,_,_]) [1,2,3,0,4] 5 rfl (by decide));clear h6);refine ⟨⟨H7.1.cell 4 0 rfl rfl,H7.1.cell 4 1 rfl rfl,H7.1.cell 4 2 rfl rfl,H7.1.cell 4 3 rfl rfl,H7.1.cell 4 4 rfl rfl,H7.1.cell 4 5 rfl rfl,H7.1.cell 4 6 rfl rfl⟩,?_⟩;go_simp;clear x0 hlx y0 y1 y2 y3 y4 y5 y6 y7 y8 y9 y10 y11 y12 y13 y14 y15 y16 y17 yf hla z0;rcases H7.1.shp 0 rfl with ⟨hv,hn,hxx⟩|⟨g,cap,hv, -, -,hcs⟩;first
  |(have ty:Tg 1:=tg;subst hv;have HNL:=zk (And.intro hn hxx);clear hn hxx;refine vxe rfl rfl rfl ?_;refine wpList_append_own_none rfl _ _ 84 rfl 0 113 i0 7 Tryz.underlying84 HI.1.1 (.slice (some ⟨w5.heap.size,0,none⟩) 1 1) 1 (Qk [⟨18,0,1,id,0,0,0⟩]) rfl (H7.1.row 3 rfl) rfl ?_;exact Qqp;exact QDi)
  |(have ty:Tg 2:=tg;subst hv;have HNL:=zk (And.intro hn hxx);clear hn hxx;refine vxe rfl rfl rfl ?_;refine wpList_append_own_none rfl _ _ 84 rfl 0 113 i0 7 Tryz.underlying84 HI.1.1 (.slice (some ⟨w5.heap.size,0,none⟩) 1 1) 1 (Qk [⟨18,0,2,id,0,0,0⟩]) rfl (H7.1.row 3 rfl) rfl ?_;exact Qqp;exact QC9)):P:=h
theorem QDl {P:Prop} (h:P:=by
 subst hv;refine vxe rfl rfl rfl ?_;refine wla H7.1 3 _ 113 7 1 _ rfl rfl _ _ 84 rfl i0 _ 56 Tryz.underlying84 HI.1.1 HI.1.2.1 HI.1.2.2.1 HI.1.2.2.2 rfl (by decide) rfl ⟨g,0,none⟩ rg.1.length cap (Qk rg.1) rfl (Qeq rg.1) (fun j u hu=>by rw [addr_add];exact hcs j u hu) (fun u hu=>by obtain ⟨m,_,hm⟩:=List.mem_flatMap.1 hu;exact Jk m u hm) (by have:=HLEN.1;omega) (by decide) (by omega) ?_;intro g2 cap2 w8 h8 _;have H8:=zk h8;clear h8;go_wp2_with fail;refine ⟨⟨H8.1.cell 4 0 rfl rfl,H8.1.cell 4 1 rfl rfl,H8.1.cell 4 2 rfl rfl,H8.1.cell 4 3 rfl rfl,H8.1.cell 4 4 rfl rfl,H8.1.cell 4 5 rfl rfl,H8.1.cell 4 6 rfl rfl⟩,?_⟩;go_simp;first
  |(have ty:Tg 1:=tg;first
     |(refine vxp rfl rfl ?_;apply ex2;intro w';go_simp;rfl;go_simp)
     |(refine vxg (by kernel_rfl) rfl rfl ?_;apply ex2;intro w' hw';obtain ⟨q0,q1,q2,q3,q4,q5,q6⟩:=hw';go_simp;rfl;go_simp)
    refine vxn ?_;go_simp;go_wp2_with fail;go_ret;rw [HAT.1];simp only;have h9:=H8.1.sel (p:= [_,_,_,_,_]) [3,1,2] 5 rfl (by decide);refine ⟨.slice (some ⟨g2,0,none⟩) (1+rg.1.length) cap2,rfl,?_⟩;rw [show (⟨18,0,1,id,0,0,0⟩::rg.1:List Msg).length=1+rg.1.length by simp;omega];exact h9)
  |(have ty:Tg 2:=tg;first
     |(refine vxp rfl rfl ?_;apply ex2;intro w';go_simp;rfl;go_simp)
     |(refine vxg (by kernel_rfl) rfl rfl ?_;apply ex2;intro w' hw';obtain ⟨q0,q1,q2,q3,q4,q5,q6⟩:=hw';go_simp;rfl;go_simp)
    refine vxn ?_;go_simp;go_wp2_with fail;go_ret;rw [HAT.1];simp only;have h9:=H8.1.sel (p:= [_,_,_,_,_]) [3,1,2] 5 rfl (by decide);refine ⟨.slice (some ⟨g2,0,none⟩) (1+rg.1.length) cap2,rfl,?_⟩;rw [show (⟨18,0,2,id,0,0,0⟩::rg.1:List Msg).length=1+rg.1.length by simp;omega];exact h9)):P:=h
theorem Qq0 {P:Prop} (h:P:=by
 simp only [if_true] at HAT;have HGO:As (∀W L,Heap w0 (.cha b bj A nc::.jrn bj nc.j::L) W→Calls Tryz.prog 131 #[b,(A id)] W (Sends w0 b bj A L (nc.goes id))):=⟨fun W L h=>Vl h (HGX.1 rfl) HDN.1⟩;first
  |(have ty:Tg 1:=tg;generalize nc.goes id=rg at *;go_enter Tryz.func283,Tryz.ntmps283;go_wp2_with (first|(go_at_call 284;refine (HK.1 _).m0 ?_)|(go_at_call 98;refine (cdk HB.1 HX.1).m0 ?_;rw [HDE.1])|(go_at_call 101;refine (cey (Heap.nAt (n:=w.heap.size+1) HB.1 (.cells #[.int .i64 1] 3) (by simp)) _ _ _ _ _).m1 fun w4 H4=>?_)|(go_at_call 132;refine (HN.1 _ _ _ (H4.1.sel (p:= [_,_,_,_]) [1,3,0,2] 4 rfl (by decide))).m2 fun w5 h5=>?_;have H5:=zk (h5.sel (p:= [_,_,_]) [0,1] 3 rfl (by decide));clear h5)|(go_at_call 131;refine (HGO.1 _ _ H5.1).mono ?_;rintro en w6 ⟨v6,rfl,h6⟩;have H6:=zk h6;clear h6));go_ret;rw [HAT.1];exact ⟨_,rfl,H6.1⟩)
  |(have ty:Tg 2:=tg;have HLEN:=zk (Vn nc id);generalize nc.goes id=rg at *;have tg:=Tg.mk 2;exact QDs)
  |(have ty:Tg 3:=tg;generalize nc.goes id=rg at *;go_enter Tryz.func283,Tryz.ntmps283;go_wp2_with (first|(go_at_call 284;refine (HK.1 _).m0 ?_)|(go_at_call 98;refine (cdk HB.1 HX.1).m0 ?_;rw [HDE.1])|(go_at_call 101;refine (cey (Heap.nAt (n:=w.heap.size+1) HB.1 (.cells #[.int .i64 2] 3) (by simp)) _ _ _ _ _).m1 fun w4 H4=>?_)|(go_at_call 132;refine (HN.1 _ _ _ (H4.1.sel (p:= [_,_,_,_]) [1,3,0,2] 4 rfl (by decide))).m2 fun w5 h5=>?_;have H5:=zk (h5.sel (p:= [_,_,_]) [0,1] 3 rfl (by decide));clear h5)|(go_at_call 131;refine (HGO.1 _ _ H5.1).mono ?_;rintro en w6 ⟨v6,rfl,h6⟩;have H6:=zk h6;clear h6));go_ret;rw [HAT.1];exact ⟨_,rfl,H6.1⟩)
  |(have ty:Tg 4:=tg;have HLEN:=zk (Vn nc id);generalize nc.goes id=rg at *;have tg:=Tg.mk 2;exact QDm)):P:=h
theorem QDs {P:Prop} (h:P:=by
 go_enter Tryz.func283,Tryz.ntmps283;go_wp2_with (first|(go_at_call 284;refine (HK.1 _).m0 ?_)|(go_at_call 98;refine (cdk HB.1 HX.1).m0 ?_;rw [HDE.1])|(go_at_call 101;refine (cey (Heap.nAt (n:=w.heap.size+1+1) HBK.1 (.cells #[.int .i64 1] 3) (by simp)) _ _ _ _ _).m1 fun w4 H4=>?_)|(go_at_call 100;refine (HN.1 _ _ _ (H4.1.sel (p:= [_,_,_,_,_]) [2,4,0,1] 5 rfl (by decide))).m2 fun w5 h5=>?_;clear z0;have z0:=h5.cB7 2 rfl;have hlz:=h5.lt 2 rfl;have H5:=zk h5;clear h5));first
  |(have ty:Tg 1:=tg;go_ret;rw [HAT.1];exact ⟨_,rfl,(H5.1.sel (p:= [_,_,_]) [0,1] 3 rfl (by decide)).nRw 113 7⟩)
  |(have ty:Tg 2:=tg;refine wrx (fun W=>W.cell? ⟨w.heap.size+1,0,none⟩=some (.int .i64 18)∧W.cell? ⟨w.heap.size+1,1,none⟩=some (.int .i64 0)∧W.cell? ⟨w.heap.size+1,2,none⟩=some (.int .i64 1)∧W.cell? ⟨w.heap.size+1,3,none⟩=some (.int .i64 id)∧W.cell? ⟨w.heap.size+1,4,none⟩=some (.int .i64 0)∧W.cell? ⟨w.heap.size+1,5,none⟩=some (.int .i64 0)∧W.cell? ⟨w.heap.size+1,6,none⟩=some (.int .i64 0)) [] (.op 0 .f (.op 2 .f (.op 3 .f (.fork 1 (.op 4 .e (.op 5 .e (.op 6 .f .nil))) (.op 4 .e (.op 1 .e (.op 5 .e (.op 6 .f .nil)))))))) (by kernel_rfl) (by kernel_rfl) ⟨z0.1,z0.2.1,z0.2.2.1,z0.2.2.2.1,z0.2.2.2.2.1,z0.2.2.2.2.2.1,z0.2.2.2.2.2.2.1⟩ ?_;iterate 3
     first
      |(refine vxp rfl rfl ?_;apply ex2;intro w';go_simp;rfl;go_simp)
      |(refine vxg (by kernel_rfl) rfl rfl ?_;apply ex2;intro w' hw';obtain ⟨q0,q1,q2,q3,q4,q5,q6⟩:=hw';go_simp;rfl;go_simp)
    refine vxf rfl rfl ?_ ?_
    ·go_wp2_with fail;have H6:=zk (H5.1.new (Msg.box ⟨18,0,1,id,0,0,0⟩)).drew;have tg:=Tg.mk 1;exact QCf
    have tg:=Tg.mk 1;exact QCo)):P:=h
theorem QDm {P:Prop} (h:P:=by
 go_enter Tryz.func283,Tryz.ntmps283;go_wp2_with (first|(go_at_call 284;refine (HK.1 _).m0 ?_)|(go_at_call 98;refine (cdk HB.1 HX.1).m0 ?_;rw [HDE.1])|(go_at_call 101;refine (cey (Heap.nAt (n:=w.heap.size+1+1) HBK.1 (.cells #[.int .i64 2] 3) (by simp)) _ _ _ _ _).m1 fun w4 H4=>?_)|(go_at_call 100;refine (HN.1 _ _ _ (H4.1.sel (p:= [_,_,_,_,_]) [2,4,0,1] 5 rfl (by decide))).m2 fun w5 h5=>?_;clear z0;have z0:=h5.cB7 2 rfl;have hlz:=h5.lt 2 rfl;have H5:=zk h5;clear h5));first
  |(have ty:Tg 1:=tg;go_ret;rw [HAT.1];exact ⟨_,rfl,(H5.1.sel (p:= [_,_,_]) [0,1] 3 rfl (by decide)).nRw 113 7⟩)
  |(have ty:Tg 2:=tg;refine wrx (fun W=>W.cell? ⟨w.heap.size+1,0,none⟩=some (.int .i64 18)∧W.cell? ⟨w.heap.size+1,1,none⟩=some (.int .i64 0)∧W.cell? ⟨w.heap.size+1,2,none⟩=some (.int .i64 2)∧W.cell? ⟨w.heap.size+1,3,none⟩=some (.int .i64 id)∧W.cell? ⟨w.heap.size+1,4,none⟩=some (.int .i64 0)∧W.cell? ⟨w.heap.size+1,5,none⟩=some (.int .i64 0)∧W.cell? ⟨w.heap.size+1,6,none⟩=some (.int .i64 0)) [] (.op 0 .f (.op 2 .f (.op 3 .f (.fork 1 (.op 4 .e (.op 5 .e (.op 6 .f .nil))) (.op 4 .e (.op 1 .e (.op 5 .e (.op 6 .f .nil)))))))) (by kernel_rfl) (by kernel_rfl) ⟨z0.1,z0.2.1,z0.2.2.1,z0.2.2.2.1,z0.2.2.2.2.1,z0.2.2.2.2.2.1,z0.2.2.2.2.2.2.1⟩ ?_;iterate 3
     first
      |(refine vxp rfl rfl ?_;apply ex2;intro w';go_simp;rfl;go_simp)
      |(refine vxg (by kernel_rfl) rfl rfl ?_;apply ex2;intro w' hw';obtain ⟨q0,q1,q2,q3,q4,q5,q6⟩:=hw';go_simp;rfl;go_simp)
    refine vxf rfl rfl ?_ ?_
    ·go_wp2_with fail;have H6:=zk (H5.1.new (Msg.box ⟨18,0,2,id,0,0,0⟩)).drew;have tg:=Tg.mk 2;exact QCf
    have tg:=Tg.mk 2;exact QCo)):P:=h
theorem QCo {P:Prop} (h:P:=by
 refine vxe rfl rfl rfl ?_;go_wp2_with (go_at_call 131;refine (HGO.1 _ _ H5.1.drew).mono ?_;rintro en w6 ⟨v6,rfl,h6⟩;have H6:=zk h6;clear h6);refine ⟨⟨H6.1.cell 3 0 rfl rfl,H6.1.cell 3 1 rfl rfl,H6.1.cell 3 2 rfl rfl,H6.1.cell 3 3 rfl rfl,H6.1.cell 3 4 rfl rfl,H6.1.cell 3 5 rfl rfl,H6.1.cell 3 6 rfl rfl⟩,?_⟩;go_simp;clear x0 hlx y0 y1 y2 y3 y4 y5 y6 y7 y8 y9 y10 y11 y12 y13 y14 y15 y16 y17 yf hla z0;refine vxe rfl rfl rfl ?_;go_wp2_with fail;first
  |(have ty:Tg 1:=tg;have H7:=zk ((H6.1.new (Msg.box ⟨18,0,1,id,0,0,0⟩)).VE.sel (p:= [_,_,_,_,_]) [1,2,3,0,4] 5 rfl (by decide));refine ⟨⟨H7.1.cell 4 0 rfl rfl,H7.1.cell 4 1 rfl rfl,H7.1.cell 4 2 rfl rfl,H7.1.cell 4 3 rfl rfl,H7.1.cell 4 4 rfl rfl,H7.1.cell 4 5 rfl rfl,H7.1.cell 4 6 rfl rfl⟩,?_⟩;go_simp;rcases H7.1.shp 0 rfl with ⟨hv,hn,hxx⟩|⟨g,cap,hv, -, -,hcs⟩;subst hv;have HNL:=zk (And.intro hn hxx);clear hn hxx;refine vxe rfl rfl rfl ?_;refine wpList_append_own_none rfl _ _ 84 rfl 0 113 i0 7 Tryz.underlying84 HI.1.1 (.slice (some ⟨w6.heap.size,0,none⟩) 1 1) 1 (Qk [⟨18,0,1,id,0,0,0⟩]) rfl (H7.1.row 3 rfl) rfl ?_;exact Qqp;exact QDi)
  |(have ty:Tg 2:=tg;have H7:=zk ((H6.1.new (Msg.box ⟨18,0,2,id,0,0,0⟩)).VE.sel (p:= [_,_,_,_,_]) [1,2,3,0,4] 5 rfl (by decide));refine ⟨⟨H7.1.cell 4 0 rfl rfl,H7.1.cell 4 1 rfl rfl,H7.1.cell 4 2 rfl rfl,H7.1.cell 4 3 rfl rfl,H7.1.cell 4 4 rfl rfl,H7.1.cell 4 5 rfl rfl,H7.1.cell 4 6 rfl rfl⟩,?_⟩;go_simp;rcases H7.1.shp 0 rfl with ⟨hv,hn,hxx⟩|⟨g,cap,hv, -, -,hcs⟩;subst hv;have HNL:=zk (And.intro hn hxx);clear hn hxx;refine vxe rfl rfl rfl ?_;refine wpList_append_own_none rfl _ _ 84 rfl 0 113 i0 7 Tryz.underlying84 HI.1.1 (.slice (some ⟨w6.heap.size,0,none⟩) 1 1) 1 (Qk [⟨18,0,2,id,0,0,0⟩]) rfl (H7.1.row 3 rfl) rfl ?_;exact Qqp;exact QC9)):P:=h
theorem QB2 {P:Prop} (h:P:=by
 unfold Msg.box at HBK;simp only at HBK;have z0:=HBK.1.cB7 0 rfl;clear y0 y1 y2 y3 y4 y5 y6 y7 y8 y9 y10 y11 y12 y13 y14 y15 y16 y17 yf hla;obtain ⟨vs,vd,vu,tb,⟨y0,y1,y2,y3,y4,y5,y6,y7,y8,y9,y10,y11,y12,y13,y14,y15,y16,y17,yf⟩,hla⟩:=ZK (HBK.1.frt 1 rfl) HX.1;have u0:=HBK.1.cB7 2 rfl;first
  |(have ty:Tg 1:=tg;cases ha:x.f.dam0;rw [ha] at HAT y14;simp only [Bool.false_eq_true,if_false] at HAT;clear ha;have HFT:As (c.Fits ⟨.damage,id,[1]⟩):=⟨.damage id 1 x HX.1 (.inl rfl) HDE.1⟩;have HEO:=zk (JB (n:=1) hi0 hi1 (by decide) .damage);have HN:As (∀W L g,Heap w0 (.cha b bj A c::.jrn bj c.j::.pts g (.cells #[.int .i64 1] 3)::L) W→CH 100 #[b,.slice (some ⟨W.heap.size,0,none⟩) 1 1] (W.alloc (.cells #[.string (Kd.str .damage),id,.slice (some ⟨g,0,none⟩) 1 1] 171)) (.bool (c.Qm [⟨.damage,id,[1]⟩]).1) w0 (.cha b bj A (c.Qm [⟨.damage,id,[1]⟩]).2::.jrn bj (c.Qm [⟨.damage,id,[1]⟩]).2.j::L)):=⟨fun W L g h=>Qff h HFT.1 HEO.1 (by simp) HD.1⟩;have HGX:=zk (fun h=>ZA (c:=c) (e:=⟨.damage,id,[1]⟩) (x:=x) h HX.1 (by simp));have HDN:As ((c.Qm [⟨.damage,id,[1]⟩]).2.j.down=false):=⟨(YR _ _).trans HD.1⟩;generalize c.Qm [⟨.damage,id,[1]⟩]=p at *;obtain ⟨okp,nc⟩:=p;simp only at HN HAT HGX HDN;cases okp;simp only [Bool.false_eq_true,if_false] at HAT;have tg:=Tg.mk 1;exact QDs;have tg:=Tg.mk 2;exact Qq0
    ·rw [ha] at HAT y14;simp only [if_true] at HAT;clear ha;go_enter Tryz.func283,Tryz.ntmps283;go_wp2_with (first|(go_at_call 284;refine (HK.1 _).m0 ?_)|(go_at_call 98;refine (cdk HB.1 HX.1).m0 ?_;rw [HDE.1]));go_ret;rw [HAT.1];have h2:=Heap.nAt (n:=w.heap.size+1+1) HBK.1 (Msg.box ⟨18,0,1,id,0,0,0⟩) (by simp);exact ⟨_,rfl,h2.VE.sel (p:= [_,_,_,_,_]) [0,2,4] 5 rfl (by decide)⟩)
  |(have ty:Tg 2:=tg;cases ha:x.f.dam1;rw [ha] at HAT y15;simp only [Bool.false_eq_true,if_false] at HAT;clear ha;have HFT:As (c.Fits ⟨.damage,id,[2]⟩):=⟨.damage id 2 x HX.1 (.inr rfl) HDE.1⟩;have HEO:=zk (JB (n:=2) hi0 hi1 (by decide) .damage);have HN:As (∀W L g,Heap w0 (.cha b bj A c::.jrn bj c.j::.pts g (.cells #[.int .i64 2] 3)::L) W→CH 100 #[b,.slice (some ⟨W.heap.size,0,none⟩) 1 1] (W.alloc (.cells #[.string (Kd.str .damage),id,.slice (some ⟨g,0,none⟩) 1 1] 171)) (.bool (c.Qm [⟨.damage,id,[2]⟩]).1) w0 (.cha b bj A (c.Qm [⟨.damage,id,[2]⟩]).2::.jrn bj (c.Qm [⟨.damage,id,[2]⟩]).2.j::L)):=⟨fun W L g h=>Qff h HFT.1 HEO.1 (by simp) HD.1⟩;have HGX:=zk (fun h=>ZA (c:=c) (e:=⟨.damage,id,[2]⟩) (x:=x) h HX.1 (by simp));have HDN:As ((c.Qm [⟨.damage,id,[2]⟩]).2.j.down=false):=⟨(YR _ _).trans HD.1⟩;generalize c.Qm [⟨.damage,id,[2]⟩]=p at *;obtain ⟨okp,nc⟩:=p;simp only at HN HAT HGX HDN;cases okp;simp only [Bool.false_eq_true,if_false] at HAT;have tg:=Tg.mk 1;exact QDm;have tg:=Tg.mk 4;exact Qq0
    ·rw [ha] at HAT y15;simp only [if_true] at HAT;clear ha;go_enter Tryz.func283,Tryz.ntmps283;go_wp2_with (first|(go_at_call 284;refine (HK.1 _).m0 ?_)|(go_at_call 98;refine (cdk HB.1 HX.1).m0 ?_;rw [HDE.1]));go_ret;rw [HAT.1];have h2:=Heap.nAt (n:=w.heap.size+1+1) HBK.1 (Msg.box ⟨18,0,2,id,0,0,0⟩) (by simp);exact ⟨_,rfl,h2.VE.sel (p:= [_,_,_,_,_]) [0,2,4] 5 rfl (by decide)⟩)):P:=h
theorem JK (c:Qa) (x:Led):(c.sends x).1.length≤3:=by
 unfold Qa.sends;split;split;exact DF _ _;simp;exact DF _ _
theorem Vn (c:Qa) (id:Int):(c.goes id).1.length≤3:=by
 unfold Qa.goes;split;simp;unfold Qa.Qcs;split;simp;exact JK _ _
theorem Qml {w0 w:World} {b bj:Nat} {A:Int→Nat} {c:Qa} {R:List SA} {x:Led} (h:Heap w0 (.cha b bj A c::.jrn bj c.j::R) w) (m:Msg) (hx:Qc c.l m.id=some x) (hk:m.kind=11∨m.kind=17) (hf:m.frm=1∨m.frm=2) (hd:c.j.down=false):
 Calls Tryz.prog 283 #[b,(A m.id),m.val] w (Sends w0 b bj A R (c.Vt x m)):=by
 have hok:=(h.Yl).get hx;have hi0:=hok.2.1;have hi1:=hok.2.2;have HAT:As (c.Vt x m=if x.decided=false then ([],c) else
  if m.kind=11 then (if x.Tf m.frm=true then ([],c) else c.QM ⟨.ack,m.id,[m.frm]⟩) else
  if x.De m.frm=true then ([⟨18,0,m.frm,m.id,0,0,0⟩],c) else
  if (c.Qm [⟨.damage,m.id,[m.frm]⟩]).1=true then (⟨18,0,m.frm,m.id,0,0,0⟩::((c.Qm [⟨.damage,m.id,[m.frm]⟩]).2.goes m.id).1,((c.Qm [⟨.damage,m.id,[m.frm]⟩]).2.goes m.id).2) else ([],(c.Qm [⟨.damage,m.id,[m.frm]⟩]).2)):=⟨rfl⟩
 have HX:=zk hx;have HD:=zk hd;have HB:=zk ((h.new m.box).frt 1 rfl);obtain ⟨i0,hj0,hj1,hj2,hj3⟩:=info_parts DZ;have HI:=zk (And.intro hj0 (And.intro hj1 (And.intro hj2 hj3)));clear hj0 hj1 hj2 hj3;clear h hd hok;obtain ⟨kind,frm,tt,id,step,a,mb⟩:=m;unfold Msg.box at HB;simp only at HAT HX HB hi0 hi1 hk hf hx;unfold Msg.val;simp only;generalize c.Vt x ⟨kind,frm,tt,id,step,a,mb⟩=res at *;have x0:=HB.1.cB7 1 rfl;have hlx:=HB.1.lt 1 rfl;obtain ⟨vs,vd,vu,tb,⟨y0,y1,y2,y3,y4,y5,y6,y7,y8,y9,y10,y11,y12,y13,y14,y15,y16,y17,yf⟩,hla⟩:=ZK HB.1 hx;have hw0:(IntKind.i64.wrap 0).toNat=0:=by decide
 have hw1:(IntKind.i64.wrap 1).toNat=1:=by decide
 clear hx;rcases hf with rfl|rfl
 ·have HK:As (∀W,CE 284 #[.int .i64 1] W (.tuple #[.int .i64 0,.bool true])):=⟨fun W=>UM 1 (.inl rfl) W⟩;cases hde:x.decided;rw [hde] at HAT;have HDE:=zk hde;simp only [if_true] at HAT;exact Qrb
  ·rw [hde] at HAT;have HDE:=zk hde;clear hde;simp only [Bool.true_eq_false,if_false] at HAT;rcases hk with rfl|rfl
   ·simp only [if_true] at HAT;have HAO:As (x.Tf 1=x.f.ack0):=⟨rfl⟩;rw [HAO.1] at HAT;cases ha:x.f.ack0
    ·rw [ha] at HAT y11;simp only [Bool.false_eq_true,if_false] at HAT;clear ha;have HFT:As (c.Fits ⟨.ack,id,[1]⟩):=⟨.ack id 1 x HX.1 (.inl rfl) HDE.1⟩;have HEO:=zk (JB (n:=1) hi0 hi1 (by decide) .ack);have HGE:As (c.QM ⟨.ack,id,[1]⟩=_):=⟨Ui c ⟨.ack,id,[1]⟩⟩;have HN:As (∀W L g,Heap w0 (.cha b bj A c::.jrn bj c.j::.pts g (.cells #[.int .i64 1] 3)::L) W→CH 132 #[b,.slice (some ⟨W.heap.size,0,none⟩) 1 1] (W.alloc (.cells #[.string (Kd.str .ack),id,.slice (some ⟨g,0,none⟩) 1 1] 171)) (.bool (c.notes [⟨.ack,id,[1]⟩]).1) w0 (.cha b bj A (c.notes [⟨.ack,id,[1]⟩]).2::.jrn bj (c.notes [⟨.ack,id,[1]⟩]).2.j::L)):=⟨fun W L g h=>JC h HFT.1 HEO.1 (by simp) HD.1⟩;have HGX:=zk (fun h=>YN (c:=c) (e:=⟨.ack,id,[1]⟩) (x:=x) h HX.1 (by simp));have HDN:As ((c.notes [⟨.ack,id,[1]⟩]).2.j.down=false):=⟨(Vr _ _).trans HD.1⟩;rw [HGE.1] at HAT;clear HGE;generalize c.notes [⟨.ack,id,[1]⟩]=p at *;obtain ⟨okp,nc⟩:=p;simp only at HN HAT HGX HDN;cases okp
     ·simp only [Bool.false_eq_true,if_false] at HAT;go_enter Tryz.func283,Tryz.ntmps283;go_wp2_with (first|(go_at_call 284;refine (HK.1 _).m0 ?_)|(go_at_call 98;refine (cdk HB.1 HX.1).m0 ?_;rw [HDE.1])|(go_at_call 101;refine (cey (Heap.nAt (n:=w.heap.size+1) HB.1 (.cells #[.int .i64 1] 3) (by simp)) _ _ _ _ _).m1 fun w4 H4=>?_)|(go_at_call 132;refine (HN.1 _ _ _ (H4.1.sel (p:= [_,_,_,_]) [1,3,0,2] 4 rfl (by decide))).m2 fun w5 h5=>?_;have H5:=zk (h5.sel (p:= [_,_,_]) [0,1] 3 rfl (by decide));clear h5));go_ret;rw [HAT.1];exact ⟨_,rfl,H5.1.nRw 113 7⟩
     have tg:=Tg.mk 1;exact Qq0
    rw [ha] at HAT y11;simp only [if_true] at HAT;clear ha;exact Qrb
   simp only [Int.reduceEq,if_false] at HAT;have HAO:As (x.De 1=x.f.dam0):=⟨rfl⟩;rw [HAO.1] at HAT;have HBK:=zk (Heap.nAt (n:=w.heap.size+1) HB.1 (Msg.box ⟨18,0,1,id,0,0,0⟩) (by simp));have tg:=Tg.mk 1;exact QB2
 ·have HK:As (∀W,CE 284 #[.int .i64 2] W (.tuple #[.int .i64 1,.bool true])):=⟨fun W=>UM 2 (.inr rfl) W⟩;cases hde:x.decided;rw [hde] at HAT;have HDE:=zk hde;simp only [if_true] at HAT;exact Qrb
  ·rw [hde] at HAT;have HDE:=zk hde;clear hde;simp only [Bool.true_eq_false,if_false] at HAT;rcases hk with rfl|rfl
   ·simp only [if_true] at HAT;have HAO:As (x.Tf 2=x.f.ack1):=⟨rfl⟩;rw [HAO.1] at HAT;cases ha:x.f.ack1
    ·rw [ha] at HAT y12;simp only [Bool.false_eq_true,if_false] at HAT;clear ha;have HFT:As (c.Fits ⟨.ack,id,[2]⟩):=⟨.ack id 2 x HX.1 (.inr rfl) HDE.1⟩;have HEO:=zk (JB (n:=2) hi0 hi1 (by decide) .ack);have HGE:As (c.QM ⟨.ack,id,[2]⟩=_):=⟨Ui c ⟨.ack,id,[2]⟩⟩;have HN:As (∀W L g,Heap w0 (.cha b bj A c::.jrn bj c.j::.pts g (.cells #[.int .i64 2] 3)::L) W→CH 132 #[b,.slice (some ⟨W.heap.size,0,none⟩) 1 1] (W.alloc (.cells #[.string (Kd.str .ack),id,.slice (some ⟨g,0,none⟩) 1 1] 171)) (.bool (c.notes [⟨.ack,id,[2]⟩]).1) w0 (.cha b bj A (c.notes [⟨.ack,id,[2]⟩]).2::.jrn bj (c.notes [⟨.ack,id,[2]⟩]).2.j::L)):=⟨fun W L g h=>JC h HFT.1 HEO.1 (by simp) HD.1⟩;have HGX:=zk (fun h=>YN (c:=c) (e:=⟨.ack,id,[2]⟩) (x:=x) h HX.1 (by simp));have HDN:As ((c.notes [⟨.ack,id,[2]⟩]).2.j.down=false):=⟨(Vr _ _).trans HD.1⟩;rw [HGE.1] at HAT;clear HGE;generalize c.notes [⟨.ack,id,[2]⟩]=p at *;obtain ⟨okp,nc⟩:=p;simp only at HN HAT HGX HDN;cases okp
     ·simp only [Bool.false_eq_true,if_false] at HAT;go_enter Tryz.func283,Tryz.ntmps283;go_wp2_with (first|(go_at_call 284;refine (HK.1 _).m0 ?_)|(go_at_call 98;refine (cdk HB.1 HX.1).m0 ?_;rw [HDE.1])|(go_at_call 101;refine (cey (Heap.nAt (n:=w.heap.size+1) HB.1 (.cells #[.int .i64 2] 3) (by simp)) _ _ _ _ _).m1 fun w4 H4=>?_)|(go_at_call 132;refine (HN.1 _ _ _ (H4.1.sel (p:= [_,_,_,_]) [1,3,0,2] 4 rfl (by decide))).m2 fun w5 h5=>?_;have H5:=zk (h5.sel (p:= [_,_,_]) [0,1] 3 rfl (by decide));clear h5));go_ret;rw [HAT.1];exact ⟨_,rfl,H5.1.nRw 113 7⟩
     have tg:=Tg.mk 3;exact Qq0
    rw [ha] at HAT y12;simp only [if_true] at HAT;clear ha;exact Qrb
   simp only [Int.reduceEq,if_false] at HAT;have HAO:As (x.De 2=x.f.dam1):=⟨rfl⟩;rw [HAO.1] at HAT;have HBK:=zk (Heap.nAt (n:=w.heap.size+1) HB.1 (Msg.box ⟨18,0,2,id,0,0,0⟩) (by simp));have tg:=Tg.mk 2;exact QB2
theorem Qps {P:Prop} (h:P:=by
 have tg:=Tg.mk 4;exact Qey):P:=h
theorem Qy6 {P:Prop} (h:P:=by
 clear hx;have tg:=Tg.mk 5;exact Qey):P:=h
theorem QCc {P:Prop} (h:P:=by
 clear hx;have tg:=Tg.mk 6;exact Qey):P:=h
theorem QDt {P:Prop} (h:P:=by
 clear hx;have tg:=Tg.mk 7;exact Qey):P:=h
theorem Qyn {P:Prop} (h:P:=by
 go_ret;rw [HH.1];exact ⟨_,rfl,(Heap.Xy (bj:=bj) (A:=A) (H2.1.sel (p:= [_,_,_]) [1,2,0] 3 rfl (by decide))).frt 1 rfl⟩):P:=h
theorem Qey {P:Prop} (h:P:=by
 go_enter Tryz.func278,Tryz.ntmps278;go_wp2_with fail;rw [HW1.1,HPE.1];go_wp2_with (go_at_call 97;refine HDN.1.m0 ?_);refine Xh [(0,.f),(1,.f),(2,.f),(3,.s),(4,.f),(5,.s),(6,.s),(7,.f)] ?_;repeat (first
  |refine vR ?_)
 refine vn ?_;go_simp;first
  |(have ty:Tg 1:=tg;go_wp2_with (go_at_call 280;refine (HTE.1 _ _ (by trivial) HB.1.drew).mono ?_;rintro en w2 ⟨v2,rfl,h2⟩;have H2:=zk h2;clear h2);go_ret;rw [HH.1];exact ⟨_,rfl,(Heap.Xy (bj:=bj) (A:=A) (H2.1.sel (p:= [_,_,_,_]) [1,3,0] 4 rfl (by decide))).frt 1 rfl⟩)
  |(have ty:Tg 2:=tg;go_wp2_with (first|(go_at_call 101;refine (cey HB.1.drew _ _ _ _ _).m1 fun w4 H4=>?_)|(go_at_call 132;refine (HN.1 _ _ (H4.1.sel (p:= [_,_,_]) [0,2] 3 rfl (by decide))).m1 fun w5 H5=>?_));go_ret;rw [HH.1];exact ⟨_,rfl,(Heap.Xy (bj:=bj) (A:=A) H5.1).nRw 113 7⟩)
  |(have ty:Tg 3:=tg;go_wp2_with (first|(go_at_call 101;refine (cey HB.1.drew _ _ _ _ _).m1 fun w4 H4=>?_)|(go_at_call 132;refine (HN.1 _ _ (H4.1.sel (p:= [_,_,_]) [0,2] 3 rfl (by decide))).m1 fun w5 H5=>?_)|(go_at_call 131;refine (HGO.1 _ _ H5.1).mono ?_;rintro en w6 ⟨v6,rfl,h6⟩;have H6:=zk h6;clear h6));go_ret;rw [HH.1];exact ⟨_,rfl,(Heap.Xy (bj:=bj) (A:=A) (H6.1.sel (p:= [_,_,_]) [1,2,0] 3 rfl (by decide))).frt 1 rfl⟩)
  |(have ty:Tg 4:=tg;go_wp2_with fail;go_ret;rw [HH.1];exact ⟨_,rfl,(Heap.Xy (bj:=bj) (A:=A) (HB.1.drew.sel (p:= [_,_,_]) [0,2] 3 rfl (by decide))).nRw 113 7⟩)
  |(have ty:Tg 5:=tg;go_wp2_with (go_at_call 281;refine (HC.1 _ _ (HB.1.drew.sel (p:= [_,_,_]) [0,2] 3 rfl (by decide))).mono ?_;rintro en w2 ⟨v2,rfl,h2⟩;have H2:=zk h2;clear h2);exact Qyn)
  |(have ty:Tg 6:=tg;go_wp2_with (go_at_call 282;refine (HC.1 _ _ (HB.1.drew.sel (p:= [_,_,_]) [0,2] 3 rfl (by decide))).mono ?_;rintro en w2 ⟨v2,rfl,h2⟩;have H2:=zk h2;clear h2);exact Qyn)
  |(have ty:Tg 7:=tg;go_wp2_with (go_at_call 283;refine (HC.1 _ _ (HB.1.drew.sel (p:= [_,_,_]) [0,2] 3 rfl (by decide))).mono ?_;rintro en w2 ⟨v2,rfl,h2⟩;have H2:=zk h2;clear h2);exact Qyn)):P:=h
structure ChM (c:Qa) (m:Msg):Prop where
 dst:m.to=0
 id0:1≤m.id
 id1:m.id≤999
 frm:m.kind=12∨m.kind=7∨m.kind=8∨m.kind=11∨m.kind=17→m.frm=1∨m.frm=2
 two:∀x,Qc c.l m.id=some x→x.t≠some (true,true)
theorem TD {w0 w:World} {b bj:Nat} {A:Int→Nat} {c:Qa} {R:List SA} {id:Int} (h:Heap w0 (.cha b bj A c::R) w) (h0:1≤id) (h1:id≤999):
 ∃bm bt,(w.cell? ⟨b,5,none⟩=some (.map (some bm))∧w.cell? ⟨b,6,none⟩=some (.pointer (some ⟨bt,0,none⟩)))∧(w.cell? ⟨b,3,none⟩=some (.pointer (some ⟨bj,0,none⟩))∧(∀j,w.frozen? ⟨b,j,none⟩=false)∧b<w.heap.size)∧
  (Instr.lookup 118 (.map (some bm)) (.int .i64 id) false).run Tryz.prog w=.ok (VQ A id (Qc c.l id)) w∧(Instr.lookup 118 (.map (some bm)) (.int .i64 id) false).run Tryz.prog w.drew=.ok (VQ A id (Qc c.l id)) w.drew:=by
 obtain ⟨hp,bm,bt,h⟩:=h.QL;obtain ⟨c0,c1,c2,c3,c4,c5,c6,cf⟩:=h.cB7 0 rfl;have hlb:=h.lt 0 rfl;obtain ⟨hk,h⟩:=(h.frt 1 rfl).YT;have key:∀W L,Heap w0 (.map bm (QE (fun k=>.pointer (some ⟨A k,0,none⟩)) c.l)::L) W→(Instr.lookup 118 (.map (some bm)) (.int .i64 id) false).run Tryz.prog W=.ok (VQ A id (Qc c.l id)) W:=fun W L hW=>by
  have:=ZJ hW 0 rfl h0 h1;cases hm:Qc c.l id<;>rw [hm] at this<;>exact this
 have h2:=key _ _ h;have h3:=key _ _ h.drew;exact ⟨bm,bt,⟨c5,c6⟩,⟨c3,cf,hlb⟩,h2,h3⟩
theorem Qop {w0 w:World} {b:Nat} {c:Qa} {R:List SA} (h:Heap w0 (.Xu b c::R) w) (m:Msg) (hm:ChM c m):
 Calls Tryz.prog 278 #[b,m.val] w fun e w'=>∃v',e=.returned v'∧Heap w0 (.slc v' 113 7 (c.handle m).1.length (Qk (c.handle m).1)::.Xu b (c.handle m).2::R) w':=by
 have HH:As (c.handle m=if c.j.down=true then ([],c) else
  if m.kind=12 then (c.tells m,c) else
  match Qc c.l m.id with
  |none=>([],c)
  |some x=>
   if m.kind=2∨m.kind=3∨m.kind=5 then c.steps x m else
   if m.kind=7∨m.kind=8 then c.Yo x m else
   if m.kind=11∨m.kind=17 then c.Vt x m else
   if m.kind=16 then (if (decide (m.frm=3)&&x.f.yes&& !x.f.shipped)=true then c.QM ⟨.shipped,m.id,[]⟩ else ([],c)) else ([],c)):=⟨rfl⟩
 have HM:=zk hm;have hto:=hm.dst;have hi0:=hm.id0;have hi1:=hm.id1;have HBX:=zk ((h.new m.box).frt 1 rfl);have HDN:=zk (Zi HBX.1);obtain ⟨bj,A,h⟩:=h.VD;have HB:=zk ((h.new m.box).frt 1 rfl);clear hm h;obtain ⟨kind,frm,tt,id,step,a,mb⟩:=m;unfold Msg.box at *;simp only at HH HM hto hi0 hi1 HBX HDN HB;subst hto;unfold Msg.val;simp only;have HTE:As (∀W L,kind=12→Heap w0 (.cha b bj A c::L) W→Calls Tryz.prog 280 #[b,VQ A id (Qc c.l id),Msg.val ⟨kind,frm,0,id,step,a,mb⟩] W fun e w'=>∃v',e=.returned v'∧Heap w0 (.slc v' 113 7 (c.tells ⟨kind,frm,0,id,step,a,mb⟩).length (Qk (c.tells ⟨kind,frm,0,id,step,a,mb⟩))::.cha b bj A c::L) w'):=⟨fun W L hk h=>Qrx h ⟨kind,frm,0,id,step,a,mb⟩ (HM.1.frm (.inl hk))⟩;unfold Msg.val at HTE;simp only at HTE;generalize c.handle ⟨kind,frm,0,id,step,a,mb⟩=res at *;obtain ⟨W1,hW1⟩:∃W1,w.alloc (.cells #[kind,frm,.int .i64 0,id,step,.int .i64 a,.int .i64 mb] 113)=W1:=⟨_,rfl⟩;obtain ⟨pe,hpe⟩:∃pe,w.heap.size=pe:=⟨_,rfl⟩;rw [hW1,hpe] at HB HBX;rw [hW1] at HDN;have HW1:=zk hW1;have HPE:=zk hpe;clear hW1 hpe;have x0:=HB.1.cB7 1 rfl;have hlx:=HB.1.lt 1 rfl;cases hd:c.j.down
 ·rw [hd] at HDN HH;simp only [Bool.false_eq_true,if_false] at HH;have HD:As (c.j.down=false):=⟨hd⟩;clear hd;obtain ⟨bm,bt,⟨c5,c6⟩,⟨c3,cf,hlb⟩,hlk,hlk2⟩:=TD HB.1 hi0 hi1;by_cases hk12:kind=12;subst hk12;simp only [if_true] at HH;generalize c.tells ⟨12,frm,0,id,step,a,mb⟩=rt at *;generalize VQ A id (Qc c.l id)=xp at *;have tg:=Tg.mk 1;exact Qey
  ·have hb12:(kind==12)=false:=by simpa using hk12
   simp only [if_neg hk12] at HH;clear hk12 HTE;cases hx:Qc c.l id with
   |none=>
    simp only [hx] at HH;rw [hx] at hlk hlk2;simp only [VQ] at hlk hlk2;clear hx;go_enter Tryz.func278,Tryz.ntmps278;go_wp2_with fail;rw [HW1.1,HPE.1];go_wp2_with (go_at_call 97;refine HDN.1.m0 ?_);refine Xh [(0,.f),(1,.f),(2,.f),(3,.s),(4,.f),(5,.s),(6,.s),(7,.f)] ?_;repeat (first
     |refine vR ?_)
    refine vn ?_;go_simp;go_wp2_with fail;go_ret;rw [HH.1];exact ⟨_,rfl,(Heap.Xy (bj:=bj) (A:=A) (HB.1.drew.sel (p:= [_,_,_]) [0,2] 3 rfl (by decide))).nRw 113 7⟩
   |some x=>
    simp only [hx] at HH;rw [hx] at hlk hlk2;simp only [VQ] at hlk hlk2;have HX:=zk hx;by_cases hs:kind=2∨kind=3∨kind=5;rcases hs with rfl|rfl|rfl;simp only [Int.reduceEq,or_false,false_or,or_true,true_or,or_self,if_true,if_false] at HH;have HC:As (∀W L,Heap w0 (.cha b bj A c::.jrn bj c.j::L) W→Calls Tryz.prog 281 #[b,(A id),Msg.val ⟨2,frm,0,id,step,a,mb⟩] W (Sends w0 b bj A L (c.steps x ⟨2,frm,0,id,step,a,mb⟩))):=⟨fun W L h=>FT h ⟨2,frm,0,id,step,a,mb⟩ HX.1 (by simp) HD.1⟩;unfold Msg.val at HC;simp only at HC;generalize c.steps x ⟨2,frm,0,id,step,a,mb⟩=rt at *;exact Qy6;simp only [Int.reduceEq,or_false,false_or,or_true,true_or,or_self,if_true,if_false] at HH;have HC:As (∀W L,Heap w0 (.cha b bj A c::.jrn bj c.j::L) W→Calls Tryz.prog 281 #[b,(A id),Msg.val ⟨3,frm,0,id,step,a,mb⟩] W (Sends w0 b bj A L (c.steps x ⟨3,frm,0,id,step,a,mb⟩))):=⟨fun W L h=>FT h ⟨3,frm,0,id,step,a,mb⟩ HX.1 (by simp) HD.1⟩;unfold Msg.val at HC;simp only at HC;generalize c.steps x ⟨3,frm,0,id,step,a,mb⟩=rt at *;exact Qy6;simp only [Int.reduceEq,or_false,false_or,or_true,true_or,or_self,if_true,if_false] at HH;have HC:As (∀W L,Heap w0 (.cha b bj A c::.jrn bj c.j::L) W→Calls Tryz.prog 281 #[b,(A id),Msg.val ⟨5,frm,0,id,step,a,mb⟩] W (Sends w0 b bj A L (c.steps x ⟨5,frm,0,id,step,a,mb⟩))):=⟨fun W L h=>FT h ⟨5,frm,0,id,step,a,mb⟩ HX.1 (by simp) HD.1⟩;unfold Msg.val at HC;simp only at HC;generalize c.steps x ⟨5,frm,0,id,step,a,mb⟩=rt at *;exact Qy6;rw [if_neg hs] at HH;have hn2:(kind==2)=false:=by simp;exact fun e=>hs (.inl e)
    have hn3:(kind==3)=false:=by simp;exact fun e=>hs (.inr (.inl e))
    have hn5:(kind==5)=false:=by simp;exact fun e=>hs (.inr (.inr e))
    clear hs;by_cases hs:kind=7∨kind=8;rcases hs with rfl|rfl;simp only [Int.reduceEq,or_false,false_or,or_true,true_or,or_self,if_true,if_false] at HH;have HC:As (∀W L,Heap w0 (.cha b bj A c::.jrn bj c.j::L) W→Calls Tryz.prog 282 #[b,(A id),Msg.val ⟨7,frm,0,id,step,a,mb⟩] W (Sends w0 b bj A L (c.Yo x ⟨7,frm,0,id,step,a,mb⟩))):=⟨fun W L h=>Qfk h ⟨7,frm,0,id,step,a,mb⟩ HX.1 (by simp) (HM.1.frm (by simp)) (HM.1.two x HX.1) HD.1⟩;unfold Msg.val at HC;simp only at HC;generalize c.Yo x ⟨7,frm,0,id,step,a,mb⟩=rt at *;exact QCc;simp only [Int.reduceEq,or_false,false_or,or_true,true_or,or_self,if_true,if_false] at HH;have HC:As (∀W L,Heap w0 (.cha b bj A c::.jrn bj c.j::L) W→Calls Tryz.prog 282 #[b,(A id),Msg.val ⟨8,frm,0,id,step,a,mb⟩] W (Sends w0 b bj A L (c.Yo x ⟨8,frm,0,id,step,a,mb⟩))):=⟨fun W L h=>Qfk h ⟨8,frm,0,id,step,a,mb⟩ HX.1 (by simp) (HM.1.frm (by simp)) (HM.1.two x HX.1) HD.1⟩;unfold Msg.val at HC;simp only at HC;generalize c.Yo x ⟨8,frm,0,id,step,a,mb⟩=rt at *;exact QCc;rw [if_neg hs] at HH;have hn7:(kind==7)=false:=by simp;exact fun e=>hs (.inl e)
    have hn8:(kind==8)=false:=by simp;exact fun e=>hs (.inr e)
    clear hs;by_cases hs:kind=11∨kind=17;rcases hs with rfl|rfl;simp only [Int.reduceEq,or_false,false_or,or_true,true_or,or_self,if_true,if_false] at HH;have HC:As (∀W L,Heap w0 (.cha b bj A c::.jrn bj c.j::L) W→Calls Tryz.prog 283 #[b,(A id),Msg.val ⟨11,frm,0,id,step,a,mb⟩] W (Sends w0 b bj A L (c.Vt x ⟨11,frm,0,id,step,a,mb⟩))):=⟨fun W L h=>Qml h ⟨11,frm,0,id,step,a,mb⟩ HX.1 (by simp) (HM.1.frm (by simp)) HD.1⟩;unfold Msg.val at HC;simp only at HC;generalize c.Vt x ⟨11,frm,0,id,step,a,mb⟩=rt at *;exact QDt;simp only [Int.reduceEq,or_false,false_or,or_true,true_or,or_self,if_true,if_false] at HH;have HC:As (∀W L,Heap w0 (.cha b bj A c::.jrn bj c.j::L) W→Calls Tryz.prog 283 #[b,(A id),Msg.val ⟨17,frm,0,id,step,a,mb⟩] W (Sends w0 b bj A L (c.Vt x ⟨17,frm,0,id,step,a,mb⟩))):=⟨fun W L h=>Qml h ⟨17,frm,0,id,step,a,mb⟩ HX.1 (by simp) (HM.1.frm (by simp)) HD.1⟩;unfold Msg.val at HC;simp only at HC;generalize c.Vt x ⟨17,frm,0,id,step,a,mb⟩=rt at *;exact QDt;rw [if_neg hs] at HH;have hn11:(kind==11)=false:=by simp;exact fun e=>hs (.inl e)
    have hn17:(kind==17)=false:=by simp;exact fun e=>hs (.inr e)
    clear hs;by_cases hs:kind=16;subst hs;simp only [if_true] at HH;by_cases hf:frm=3;subst hf;simp only [decide_true,Bool.true_and] at HH;obtain ⟨vs,vd,vu,tb,⟨y0,y1,y2,y3,y4,y5,y6,y7,y8,y9,y10,y11,y12,y13,y14,y15,y16,y17,yf⟩,hla⟩:=ZK HB.1.drew HX.1;cases hy:x.f.yes;rw [hy] at HH y9;simp only [Bool.false_and,Bool.false_eq_true,if_false] at HH;clear hy hx;exact Qps;rw [hy] at HH y9;have HY:=zk hy;cases hsh:x.f.shipped;rw [hsh] at HH y13;simp only [Bool.not_false,Bool.and_true,if_true] at HH;have HFT:As (c.Fits ⟨.shipped,id,[]⟩):=⟨.shipped id x HX.1 HY.1⟩;have HEO:=zk (QB hi0 hi1 .shipped);have HGE:As (c.QM ⟨.shipped,id,[]⟩=_):=⟨Ui c ⟨.shipped,id,[]⟩⟩;have HN:As (∀W L,Heap w0 (.cha b bj A c::.jrn bj c.j::L) W→CH 132 #[b,.slice (some ⟨W.heap.size,0,none⟩) 1 1] (W.alloc (.cells #[.string (Kd.str .shipped),id,.slice none 0 0] 171)) (.bool (c.notes [⟨.shipped,id,[]⟩]).1) w0 (.cha b bj A (c.notes [⟨.shipped,id,[]⟩]).2::.jrn bj (c.notes [⟨.shipped,id,[]⟩]).2.j::L)):=⟨fun W L h=>Qgp h HFT.1 HEO.1 (by simp) HD.1⟩;have HGX:=zk (fun h=>YN (c:=c) (e:=⟨.shipped,id,[]⟩) (x:=x) h HX.1 (by simp));have HDW:As ((c.notes [⟨.shipped,id,[]⟩]).2.j.down=false):=⟨(Vr _ _).trans HD.1⟩;rw [HGE.1] at HH;clear HGE hy hx hsh;generalize c.notes [⟨.shipped,id,[]⟩]=p at *;obtain ⟨okp,nc⟩:=p;simp only at HN HH HGX HDW;cases okp;simp only [Bool.false_eq_true,if_false] at HH;have tg:=Tg.mk 2;exact Qey;simp only [if_true] at HH;have HGO:As (∀W L,Heap w0 (.cha b bj A nc::.jrn bj nc.j::L) W→Calls Tryz.prog 131 #[b,(A id)] W (Sends w0 b bj A L (nc.goes id))):=⟨fun W L h=>Vl h (HGX.1 rfl) HDW.1⟩;generalize nc.goes id=rg at *;have tg:=Tg.mk 3;exact Qey;rw [hsh] at HH y13;simp only [Bool.not_true,Bool.and_false,Bool.false_eq_true,if_false] at HH;clear hy hx hsh;exact Qps;have hfb:(frm==3)=false:=by simpa using hf
    simp only [hf,decide_false,Bool.false_and,Bool.false_eq_true,if_false] at HH;clear hf hx;exact Qps;have hn16:(kind==16)=false:=by simpa using hs
    rw [if_neg hs] at HH;clear hs hx;exact Qps
 ·rw [hd] at HDN HH;simp only [if_true] at HH;go_enter Tryz.func278,Tryz.ntmps278;go_wp2_with fail;rw [HW1.1,HPE.1];go_wp2_with (go_at_call 97;refine HDN.1.m0 ?_);go_ret;rw [HH.1];exact ⟨_,rfl,(HBX.1.sel (p:= [_,_]) [0] 2 rfl (by decide)).nRw 113 7⟩
theorem Qau {w0 w:World} {b bj:Nat} {R:List SA} {most room tries:Int} {v4 v5 v6:Value} (h:Heap w0 (.pts b (.cells #[.int .i64 most,room,tries,bj,v4,v5,v6] 121)::R) w) (ht0:1≤tries) (ht1:tries≤20):
 Calls Tryz.prog 114 #[b] w fun e w'=>e=.returned (.tuple #[])∧∃bm bt,Heap w0 (.pts b (.cells #[.int .i64 most,room,tries,bj,.int .i64 0,.map (some bm),.pointer (some ⟨bt,0,none⟩)] 121)::.map bm []::.tower bt ⟨tries,[]⟩::R) w':=by
 have c0:=h.cB7 0 rfl;have hlb:=h.lt 0 rfl;have hmm:= @run_makeMap Tryz.prog;have h2:=h.YC (n:=w.heap.size) rfl;have HT:=zk (Qir h2 tries ht0 ht1);clear h h2;go_enter Tryz.func114,Tryz.ntmps114;go_wp2_with (go_at_call 141;refine HT.1.mono ?_;rintro e w1 ⟨bt,rfl,h1⟩;clear c0 hlb;have c0:=h1.cB7 2 rfl;have hlb:=h1.lt 2 rfl;have H1:=zk h1;clear h1);go_end0;refine ⟨rfl,w.heap.size,bt,?_⟩;have h9:=((H1.1.sAt 2 4 (.int .i64 0) rfl).sAt 2 5 (.map (some w.heap.size)) rfl).sAt 2 6 (.pointer (some ⟨bt,0,none⟩)) rfl;exact h9.sel (p:= [_,_,_]) [2,1,0] 3 rfl (by decide)
theorem book_nil {w0 w:World} {R:List SA} {bm:Nat} {A:Int→Nat} (h:Heap w0 (.map bm []::R) w):Heap w0 (leds A bm []::R) w:=
 Heap.Zq (val:=fun k=>.pointer (some ⟨A k,0,none⟩)) (give:=fun k x=>.led (A k) x) Ql.nil (h.ZM.frt 1 rfl)
theorem Qoc {c:Qa} (h:c.ok):c.forget.ok:=⟨Ql.nil,(fun p hp=>by cases hp),Ql.nil,h.t0,h.t1,h.r1,(by show (0:Int)≤0;omega),(by show (0:Int)≤4096;omega)⟩
theorem Qdz {w0 w:World} {b bj:Nat} {A:Int→Nat} {c:Qa} {R:List SA} (h:Heap w0 (.cha b bj A c::R) w):
 CH 114 #[b] w (.tuple #[]) w0 (.cha b bj A c.forget::R):=by
 obtain ⟨hp,bm,bt,h⟩:=h.QL;refine (Qau h hp.t0 hp.t1).mono ?_;rintro e w' ⟨rfl,bm2,bt2,h2⟩;refine ⟨rfl,Heap.Xf (bm:=bm2) (bt:=bt2) (Qoc hp) ?_⟩;have h3:=h2.sel (p:= [_,_,_,_,_]) [1,0,2] 5 rfl (by decide);exact (book_nil h3).frt 1 rfl
theorem Qsi {w0 w:World} {b:Nat} {c:Qa} {R:List SA} (h:Heap w0 (.Xu b c::R) w) (stay QQ:Int):
 CH 277 #[b,stay,QQ] w (.tuple #[]) w0 (.Xu b (c.Qj stay)::R):=by
 have HH:=zk h;have HDN:=zk (Zi h);obtain ⟨bj,A,h⟩:=h.VD;have hx:=h;obtain ⟨hp,bm,bt,hx⟩:=hx.QL;have c0:=hx.cB7 0 rfl;have HS:As (c.Qj stay=if c.j.down=true then c else ({c with j:=c.j.Qj stay}:Qa).forget):=⟨rfl⟩;cases hd:c.j.down
 ·have HC:=zk (JN (h.frt 1 rfl) hd stay QQ);rw [hd] at HDN HS;clear h hx hp hd;go_enter Tryz.func277,Tryz.ntmps277;go_wp2_with (first|(go_at_call 97;refine HDN.1.m0 ?_)|(go_at_call 217;refine HC.1.mono ?_;rintro e w1 ⟨⟨cv,rfl⟩,h1⟩;have H1:=zk ((h1.frt 1 rfl).Qq3 (c.j.Qj stay));clear h1)|(go_at_call 114;refine (Qdz H1.1).m1 fun w2 H2=>?_));go_end0;rw [HS.1];exact ⟨rfl,Heap.Xy (bj:=bj) (A:=A) H2.1⟩
 ·rw [hd] at HDN HS;clear h hx hp hd;go_enter Tryz.func277,Tryz.ntmps277;go_wp2_with (go_at_call 97;refine HDN.1.m0 ?_);refine bodyPost_ret (results_none rfl _ _ _) rfl ⟨rfl,?_⟩;rw [HS.1];exact HH.1
theorem Qz3 {w0 w:World} {R:List SA} (h:Heap w0 R w) (orders room tries:Int) (ho0:1≤orders) (ho1:orders≤64) (hr0:1≤room) (hr1:room≤4096) (ht0:1≤tries) (ht1:tries≤20):
 Calls Tryz.prog 72 #[.int .i64 orders,room,tries] w fun e w'=>∃b,e=.returned (.pointer (some ⟨b,0,none⟩))∧Heap w0 (.Xu b ⟨orders,room,tries,⟨room,[],0,false⟩,0,[],⟨tries,[]⟩⟩::R) w':=by
 have HJ:=zk (Qbq h room hr0 hr1);have hm1:min orders 64=orders:=by omega
 have hm2:max 1 orders=orders:=by omega
 have hm3:min room 4096=room:=by omega
 have hm4:max 1 room=room:=by omega
 clear h;go_enter Tryz.func72,Tryz.ntmps72;go_wp2_with (first
  |(go_at_call 73;refine HJ.1.mono ?_;rintro e w1 ⟨bj,rfl,h1⟩;have HF:=zk (Qau (h1.new (.cells #[.int .i64 orders,room,tries,bj,.int .i64 0,.map none,.pointer none] 121)) ht0 ht1);clear h1)
  |(go_at_call 114;refine HF.1.mono ?_;rintro e w2 ⟨rfl,bm,bt,h2⟩;have H2:=zk h2;clear h2))
 go_ret;refine ⟨_,rfl,?_⟩;have h3:=H2.1.sel (p:= [_,_,_,_]) [1,0,2,3] 4 rfl (by decide);have h4:=(book_nil (A:=fun _=>0) h3).frt 1 rfl;exact Heap.Xy (bj:=bj) (A:=fun _=>0) (Heap.Xf (c:=⟨orders,room,tries,⟨room,[],0,false⟩,0,[],⟨tries,[]⟩⟩) (bm:=bm) (bt:=bt) ⟨Ql.nil,(fun p hp=>by cases hp),Ql.nil,ht0,ht1,hr1,by simp,by simp⟩ h4)
theorem Qm7 {w0 w:World} {b:Nat} {c:Qa} {R:List SA} (h:Heap w0 (.Xu b c::R) w) (id:Int) (h0:1≤id) (h1:id≤999):
 Calls Tryz.prog 62 #[b,id] w fun e w'=>∃v',e=.returned (.tuple #[v',.int .i64 (c.cancel id).2.1])∧Heap w0 (.slc v' 113 7 (c.cancel id).1.length (Qk (c.cancel id).1)::.Xu b (c.cancel id).2.2::R) w':=by
 have HH:As (c.cancel id=if c.j.down=true then ([],10,c) else match Qc c.l id with
  |none=>([],6,c)
  |some x=>if x.decided=true then ([],7,c) else c.turns id):=⟨rfl⟩
 have HDN:=zk (Zi h);have HB:=zk h;obtain ⟨bj,A,h⟩:=h.VD;obtain ⟨bm,bt,⟨c5,c6⟩,⟨c3,cf,hlb⟩,hlk,hlk2⟩:=TD h h0 h1;have H:=zk h;clear h;generalize c.cancel id=res at *;cases hd:c.j.down
 ·rw [hd] at HDN HH;simp only [Bool.false_eq_true,if_false] at HH;cases hx:Qc c.l id with
  |none=>
   simp only [hx] at HH;rw [hx] at hlk hlk2;simp only [VQ] at hlk hlk2;clear hx hd;go_enter Tryz.func62,Tryz.ntmps62;go_wp2_with (go_at_call 97;refine HDN.1.m0 ?_);rw [HH.1];exact bodyPost_ret (v:=.tuple #[.slice none 0 0,.int .i64 6]) (by simp [results,Tryz.results62,go_sem]) rfl ⟨_,rfl,HB.1.nRw 113 7⟩
  |some x=>
   simp only [hx] at HH;rw [hx] at hlk hlk2;simp only [VQ] at hlk hlk2;have HX:=zk hx;cases hde:x.decided
   ·rw [hde] at HH;simp only [Bool.false_eq_true,if_false] at HH;have HDE:=zk hde;have HTU:As (∀W L,Heap w0 (.cha b bj A c::.jrn bj c.j::L) W→Calls Tryz.prog 99 #[b,(A id)] W (Qip w0 b bj A L (c.turns id))):=⟨fun W L h=>FX h HX.1 hd HDE.1⟩;generalize c.turns id=rt at *;clear hx hd hde;go_enter Tryz.func62,Tryz.ntmps62;go_wp2_with (first
     |(go_at_call 97;refine HDN.1.m0 ?_)
     |(go_at_call 98;refine (cdk H.1 HX.1).m0 ?_;rw [HDE.1])
     |(go_at_call 99;refine (HTU.1 _ _ H.1).mono ?_;rintro e w2 ⟨v2,rfl,h2⟩;have H2:=zk h2;clear h2))
    rw [HH.1];exact bodyPost_ret (v:=.tuple #[v2,.int .i64 rt.2.1]) (by simp [results,Tryz.results62,go_sem]) rfl ⟨_,rfl,(Heap.Xy (bj:=bj) (A:=A) (H2.1.sel (p:= [_,_,_]) [1,2,0] 3 rfl (by decide))).frt 1 rfl⟩
   ·rw [hde] at HH;simp only [if_true] at HH;have HDE:=zk hde;clear hx hd hde;go_enter Tryz.func62,Tryz.ntmps62;go_wp2_with (first
     |(go_at_call 97;refine HDN.1.m0 ?_)
     |(go_at_call 98;refine (cdk H.1 HX.1).m0 ?_;rw [HDE.1]))
    rw [HH.1];exact bodyPost_ret (v:=.tuple #[.slice none 0 0,.int .i64 7]) (by simp [results,Tryz.results62,go_sem]) rfl ⟨_,rfl,HB.1.nRw 113 7⟩
 ·rw [hd] at HDN HH;simp only [if_true] at HH;clear hd;go_enter Tryz.func62,Tryz.ntmps62;go_wp2_with (go_at_call 97;refine HDN.1.m0 ?_);rw [HH.1];exact bodyPost_ret (v:=.tuple #[.slice none 0 0,.int .i64 10]) (by simp [results,Tryz.results62,go_sem]) rfl ⟨_,rfl,HB.1.nRw 113 7⟩
theorem Qt7 {w0 w:World} {b bj:Nat} {A:Int→Nat} {c:Qa} {R:List SA} (h:Heap w0 (.cha b bj A c::R) w) (id:Int) (h0:1≤id) (h1:id≤999):
 CH 28 #[b,id] w (.int .i64 (c.state id)) w0 (.cha b bj A c::R):=by
 have HS:As (c.state id=match Qc c.l id with
  |none=>0
  |some x=>x.f.state x.o.steps.length):=⟨rfl⟩
 have H:=zk h;obtain ⟨bm,bt,⟨c5,c6⟩,⟨c3,cf,hlb⟩,hlk,hlk2⟩:=TD h h0 h1;generalize c.state id=res at *;cases hx:Qc c.l id with
 |none=>
  simp only [hx] at HS;rw [hx] at hlk hlk2;simp only [VQ] at hlk hlk2;clear hx h;go_enter Tryz.func28,Tryz.ntmps28;go_wp2;go_ret;rw [HS.1];exact ⟨rfl,H.1⟩
 |some x=>
  simp only [hx] at HS;rw [hx] at hlk hlk2;simp only [VQ] at hlk hlk2;obtain ⟨hp,bm',bt',h⟩:=h.Zu hx;obtain ⟨vs,vd,vu,tb,hpa,h⟩:=h.Xm;have y0:=h.cA8 0 rfl;have hla:=h.lt 0 rfl;have HST:As (∀W L,Below w.heap.size w W→Heap w0 L W→Calls Tryz.prog 53 #[x.o.val vs,x.f.val vd vu] W fun e w'=>e=.returned (.int .i64 (x.f.state x.o.steps.length))∧Below W.heap.size W w'):=⟨fun W L hb hW=>Qxs x.o x.f vs vd vu W hW.tab (((hp.get hx).1.ofs hpa (h.row 1 rfl) (h.row 2 rfl) (h.row 3 rfl)).below hb)⟩;obtain ⟨asl,cs,rfl⟩:=vS2 (h.row 1 rfl);obtain ⟨ad,cd,rfl⟩:=vS2 (h.row 2 rfl);obtain ⟨au,cu,rfl⟩:=vS2 (h.row 3 rfl);unfold Od.val Facts.val at HST;clear hx h hp hpa;go_enter Tryz.func28,Tryz.ntmps28;go_wp2_with fail;refine Xh [(0,.f),(1,.f),(2,.f),(3,.s),(4,.f),(5,.s),(6,.f),(7,.f),(8,.s),(9,.f),(10,.f),(11,.f),(12,.s),(13,.f),(14,.s),(15,.f),(16,.f),(17,.s),(18,.e),(19,.f)] ?_;refine vg rfl rfl ?_;apply ex2;intro w' hw';go_simp;rfl;go_simp;refine vg rfl rfl ?_;apply ex2;intro w' hw';go_simp;rfl;go_simp;refine vg rfl rfl ?_;apply ex2;intro w' hw';go_simp;rfl;go_simp;refine vs_ rfl (fun K hK=>?_);go_simp;refine hK _ ?_;clear hK K;refine vg rfl rfl ?_;apply ex2;intro w' hw';go_simp;rfl;go_simp;refine vs_ rfl (fun K hK=>?_);go_simp;refine hK _ ?_;clear hK K;refine vg rfl rfl ?_;apply ex2;intro w' hw';go_simp;rfl;go_simp;refine vg rfl rfl ?_;apply ex2;intro w' hw';go_simp;rfl;go_simp;refine vs_ rfl (fun K hK=>?_);go_simp;refine hK _ ?_;clear hK K;refine vg rfl rfl ?_;apply ex2;intro w' hw';go_simp;rfl;go_simp;refine vg rfl rfl ?_;apply ex2;intro w' hw';go_simp;rfl;go_simp;refine vg rfl rfl ?_;apply ex2;intro w' hw';go_simp;rfl;go_simp;refine vs_ rfl (fun K hK=>?_);go_simp;refine hK _ ?_;clear hK K;refine vg rfl rfl ?_;apply ex2;intro w' hw';go_simp;rfl;go_simp;refine vs_ rfl (fun K hK=>?_);go_simp;refine hK _ ?_;clear hK K;refine vg rfl rfl ?_;apply ex2;intro w' hw';go_simp;rfl;go_simp;refine vg rfl rfl ?_;apply ex2;intro w' hw';go_simp;rfl;go_simp;refine vs_ rfl (fun K hK=>?_);go_simp;refine hK _ ?_;clear hK K;refine ve rfl rfl ?_;go_wp2_with (go_at_call 53;refine (HST.1 _ _ (Below.refl _ w).drew H.1.drew).m2 fun w1 hb=>?_;have H1:=zk (H.1.drew.below hb);clear hb);refine ⟨trivial,?_⟩;go_simp;refine vg rfl rfl ?_;apply ex2;intro w' hw';go_simp;rfl;go_simp;refine vn ?_;go_simp;go_wp2_with fail;go_ret;rw [HS.1];exact ⟨rfl,H1.1⟩
theorem QC4 {P:Prop} (h:P:=by
 clear hn7 hn8 H2 H3 H1 H1d hlk hlkd c5 hlb hlx y0 y1 y2 y3 y4 y5 y6 y7 y8 y9 y10 y11 y12 y13 y14 y15 y16 y17 yf;have HLN:As (x.f.done.length≤1000∧x.f.undone.length≤1000):=⟨by have hl:=HXO.1.o.len;have hm:=mpt HXO.1.may;omega⟩;refine wrx (fun W=>W.cell? ⟨n7,5,none⟩=some (.slice sa x.o.steps.length sc)∧W.cell? ⟨n8,0,none⟩=some (.slice da x.f.done.length dc)∧W.cell? ⟨n8,1,none⟩=some (.slice ua x.f.undone.length uc)) [10] (.op 0 .f (.op 1 .f (.op 3 .f (.op 4 .f (.op 6 .f (.op 7 .f (.op 2 .e (.op 9 .f (.op 5 .e (.op 8 .e (.op 10 .e (.op 11 .f (.op 12 .e (.op 13 .f (.op 14 .e .nil))))))))))))))) (by kernel_rfl) (by kernel_rfl) ⟨H4.1.cell 1 5 rfl rfl,H4.1.cell 0 0 rfl rfl,H4.1.cell 0 1 rfl rfl⟩ ?_;iterate 6
  first
   |(refine vxp rfl rfl ?_;apply ex2;intro w';go_simp;rfl;go_simp)
   |(refine vxg (by kernel_rfl) rfl rfl ?_;apply ex2;intro w' hw';obtain ⟨q1,q2,q3⟩:=hw';go_simp;rfl;go_simp)
 refine vxe rfl rfl rfl ?_;go_wp2_with (go_at_call 57;refine (Quu H4.1.drew x.o.steps _ (H4.1.drew.row 5 rfl) HPA.1.s (by have:=HXO.1.o.len;omega)).mono ?_;rintro e w5 ⟨v5,rfl,hz5,h5⟩;obtain ⟨sa2,sc2,rfl⟩:=vS2 (h5.row 0 rfl);have HZ5:=zk hz5;have H5:=zk h5;clear h5 hz5);refine ⟨⟨H5.1.cell 2 5 rfl rfl,H5.1.cell 1 0 rfl rfl,H5.1.cell 1 1 rfl rfl⟩,?_⟩;go_simp;first
  |(refine vxp rfl rfl ?_;apply ex2;intro w';go_simp;rfl;go_simp)
  |(refine vxg (by kernel_rfl) rfl rfl ?_;apply ex2;intro w' hw';obtain ⟨q1,q2,q3⟩:=hw';go_simp;rfl;go_simp)
 refine vxe rfl rfl rfl ?_;go_wp2_with (go_at_call 58;refine (Fq H5.1 x.f.done _ (H5.1.row 7 rfl) HPA.1.d HLN.1.1).mono ?_;rintro e w6 ⟨v6,rfl,hz6,h6⟩;obtain ⟨da2,dc2,rfl⟩:=vS2 (h6.row 0 rfl);have HZ6:=zk hz6;have H6:=zk h6;clear h6 hz6);refine ⟨⟨H6.1.cell 3 5 rfl rfl,H6.1.cell 2 0 rfl rfl,H6.1.cell 2 1 rfl rfl⟩,?_⟩;go_simp;refine vxe rfl rfl rfl ?_;go_wp2_with (go_at_call 58;refine (Fq H6.1 x.f.undone _ (H6.1.row 9 rfl) HPA.1.u HLN.1.2).mono ?_;rintro e w7 ⟨v7,rfl,hz7,h7⟩;obtain ⟨ua2,uc2,rfl⟩:=vS2 (h7.row 0 rfl);have HZ7:=zk hz7;have H7:=zk h7;clear h7 hz7);refine ⟨⟨H7.1.cell 4 5 rfl rfl,H7.1.cell 3 0 rfl rfl,H7.1.cell 3 1 rfl rfl⟩,?_⟩;go_simp;refine vxx rfl rfl rfl ?_;have e0:=H7.1.cB6 4 rfl;have hl7:=H7.1.lt 4 rfl;have g0:=H7.1.cA1 3 rfl;have hl8:=H7.1.lt 3 rfl;have hne:=H7.1.ne 3 4 (by decide) rfl rfl;have hne2:=Ne.symm hne;go_wp2_with fail;refine ⟨trivial,?_⟩;go_simp;refine vtg rfl rfl ?_;apply ex2;intro w' hw';go_simp;rfl;go_simp;refine vte rfl rfl ?_;go_wp2_with fail;refine ⟨trivial,?_⟩;go_simp;refine vtg rfl rfl ?_;apply ex2;intro w' hw';go_simp;rfl;go_simp;refine vte rfl rfl ?_;go_wp2_with fail;refine ⟨trivial,?_⟩;go_simp;refine vtn ?_;go_simp;go_wp2_with fail;have H8:=zk (((H7.1.sAt 4 5 (.slice sa2 x.o.steps.length sc2) rfl).sAt 3 0 (.slice da2 x.f.done.length dc2) rfl).sAt 3 1 (.slice ua2 x.f.undone.length uc2) rfl);obtain ⟨W8,hW8⟩:∃W,W=((w7.setCell ⟨n7,5,none⟩ (.slice sa2 x.o.steps.length sc2)).setCell ⟨n8,0,none⟩ (.slice da2 x.f.done.length dc2)).setCell ⟨n8,1,none⟩ (.slice ua2 x.f.undone.length uc2):=⟨_,rfl⟩;rw [←hW8] at H8⊢;clear hW8 e0 hl7 g0 hl8 H7 H6 H5 H4 hne hne2;refine wrx (fun W=>W.cell? ⟨n7,0,none⟩=some (.int .i64 x.o.id)∧W.cell? ⟨n7,1,none⟩=some (.int .i64 x.o.item)∧W.cell? ⟨n7,2,none⟩=some (.int .i64 x.o.qty)∧W.cell? ⟨n7,3,none⟩=some (.int .i64 x.o.client)∧W.cell? ⟨n7,4,none⟩=some (.int .i64 x.o.price)∧W.cell? ⟨n7,5,none⟩=some (.slice sa2 x.o.steps.length sc2)∧W.cell? ⟨n8,0,none⟩=some (.slice da2 x.f.done.length dc2)∧W.cell? ⟨n8,1,none⟩=some (.slice ua2 x.f.undone.length uc2)∧W.cell? ⟨n8,2,none⟩=some (.bool x.f.asked)∧W.cell? ⟨n8,3,none⟩=some (.bool x.f.yes)∧W.cell? ⟨n8,4,none⟩=some (.bool x.f.turned)∧W.cell? ⟨n8,5,none⟩=some (.bool x.f.ack0)∧W.cell? ⟨n8,6,none⟩=some (.bool x.f.ack1)∧W.cell? ⟨n8,7,none⟩=some (.bool x.f.shipped)∧W.cell? ⟨n8,8,none⟩=some (.bool x.f.dam0)∧W.cell? ⟨n8,9,none⟩=some (.bool x.f.dam1)∧W.cell? ⟨n8,10,none⟩=some (.bool x.f.accepted)) [3] (.op 0 .f (.op 1 .f (.op 2 .e (.op 3 .e (.op 4 .f .nil))))) (by kernel_rfl) (by kernel_rfl) ⟨H8.1.cell 4 0 rfl rfl,H8.1.cell 4 1 rfl rfl,H8.1.cell 4 2 rfl rfl,H8.1.cell 4 3 rfl rfl,H8.1.cell 4 4 rfl rfl,H8.1.cell 4 5 rfl rfl,H8.1.cell 3 0 rfl rfl,H8.1.cell 3 1 rfl rfl,H8.1.cell 3 2 rfl rfl,H8.1.cell 3 3 rfl rfl,H8.1.cell 3 4 rfl rfl,H8.1.cell 3 5 rfl rfl,H8.1.cell 3 6 rfl rfl,H8.1.cell 3 7 rfl rfl,H8.1.cell 3 8 rfl rfl,H8.1.cell 3 9 rfl rfl,H8.1.cell 3 10 rfl rfl⟩ ?_;iterate 2
  first
   |(refine vxp rfl rfl ?_;apply ex2;intro w';go_simp;rfl;go_simp)
   |(refine vxg (by kernel_rfl) rfl rfl ?_;apply ex2;intro w' hw';obtain ⟨q0,q1,q2,q3,q4,q5,q6,q7,q8,q9,q10,q11,q12,q13,q14,q15,q16⟩:=hw';go_simp;rfl;go_simp)
 refine vxe rfl rfl rfl ?_;have e0:=H8.1.cB6 6 rfl;have hl7:=H8.1.lt 6 rfl;have g0:=H8.1.cA1 5 rfl;have hl8:=H8.1.lt 5 rfl;have hne:=H8.1.ne 5 6 (by decide) rfl rfl;have hne2:=Ne.symm hne;go_wp2_with fail;have H8a:=zk (Heap.set6 (H8.1.sel (p:= [_,_,_,_,_,_,_,_,_,_,_,_]) [6,5,3,4,0,1,2,7,8,9,10,11] 12 rfl (by decide)) (.int .i64 x.o.id) (.int .i64 x.o.item) (.int .i64 x.o.qty) (.int .i64 x.o.client) (.int .i64 x.o.price) (.slice sa2 x.o.steps.length sc2));have H8b:=zk H8a.1.drew;generalize hW9:World.drew _=W9 at H8b⊢;clear hW9 e0 hl7 g0 hl8 hne hne2 H8a H8;refine ⟨⟨H8b.1.cell 3 0 rfl rfl,H8b.1.cell 3 1 rfl rfl,H8b.1.cell 3 2 rfl rfl,H8b.1.cell 3 3 rfl rfl,H8b.1.cell 3 4 rfl rfl,H8b.1.cell 3 5 rfl rfl,H8b.1.cell 2 0 rfl rfl,H8b.1.cell 2 1 rfl rfl,H8b.1.cell 2 2 rfl rfl,H8b.1.cell 2 3 rfl rfl,H8b.1.cell 2 4 rfl rfl,H8b.1.cell 2 5 rfl rfl,H8b.1.cell 2 6 rfl rfl,H8b.1.cell 2 7 rfl rfl,H8b.1.cell 2 8 rfl rfl,H8b.1.cell 2 9 rfl rfl,H8b.1.cell 2 10 rfl rfl⟩,?_⟩;go_simp;refine vxx rfl rfl rfl ?_;have g0:=H8b.1.cA1 1 rfl;have hl8:=H8b.1.lt 1 rfl;go_wp2_with fail;refine ⟨trivial,?_⟩;go_simp;refine vtg rfl rfl ?_;apply ex2;intro w' hw';go_simp;rfl;go_simp;refine vtn ?_;go_simp;go_wp2_with fail;have H9:=zk (Heap.ZI (H8b.1.sel (p:= [_,_,_,_]) [1,0,2,3] 4 rfl (by decide)) (.slice da2 x.f.done.length dc2) (.slice ua2 x.f.undone.length uc2) (.bool x.f.asked) (.bool x.f.yes) (.bool x.f.turned) (.bool x.f.ack0) (.bool x.f.ack1) (.bool x.f.shipped) (.bool x.f.dam0) (.bool x.f.dam1) (.bool x.f.accepted));clear g0 hl8 H8b;obtain ⟨p0,p1,p2,p3,p4,p5,pf⟩:=H9.1.cB6 1 rfl;obtain ⟨r0,r1,r2,r3,r4,r5,r6,r7,r8,r9,r10,rf⟩:=H9.1.cA1 0 rfl;generalize hW10:World.setCell _ _ _=W10 at *;clear hW10;refine bodyPost_ret (v:=.tuple #[x.o.val (.slice sa2 x.o.steps.length sc2),x.f.val (.slice da2 x.f.done.length dc2) (.slice ua2 x.f.undone.length uc2),.bool true]) ?_ rfl ⟨_,_,_,rfl,⟨HZ5.1,HZ6.1,HZ7.1⟩,?_⟩
 ·simp [results,Tryz.results31,go_sem,p0,p1,p2,p3,p4,p5,r0,r1,r2,r3,r4,r5,r6,r7,r8,r9,r10,Od.val,Facts.val]
 have h10:=HSHUT.1 _ _ (H9.1.sel (p:= [_,_,_,_,_,_,_,_,_,_,_,_,_,_,_,_]) [7,8,9,10,11,4,5,6,12,13,14,15] 16 rfl (by decide));have h11:=HSAME.1 _ _ (h10.sel (p:= [_,_,_,_,_,_,_,_]) [0,4,5,6,7,1,2,3] 8 rfl (by decide));exact h11.sel (p:= [_,_,_,_]) [1,2,3,0] 4 rfl (by decide)):P:=h
theorem QCw {P:Prop} (h:P:=by
 refine ⟨⟨H3b.1.cell 9 5 rfl rfl,HLK2.1 _ _ _ _ _ _ _ _ _ _ _ _ H3b.1,H3b.1.cell 4 0 rfl rfl,H3b.1.cell 4 1 rfl rfl,H3b.1.cell 4 2 rfl rfl,H3b.1.cell 4 3 rfl rfl,H3b.1.cell 4 4 rfl rfl,H3b.1.cell 4 5 rfl rfl,H3b.1.cell 4 6 rfl rfl,H3b.1.cell 4 7 rfl rfl,H3b.1.cell 4 8 rfl rfl,H3b.1.cell 4 9 rfl rfl,H3b.1.cell 4 10 rfl rfl,H3b.1.cell 4 11 rfl rfl,H3b.1.cell 4 12 rfl rfl,H3b.1.cell 4 13 rfl rfl,H3b.1.cell 4 14 rfl rfl,H3b.1.cell 4 15 rfl rfl,H3b.1.cell 4 16 rfl rfl⟩,?_⟩;go_simp;refine vxx rfl rfl rfl ?_;go_wp2_with fail;refine ⟨trivial,?_⟩;go_simp;refine vtn ?_;go_simp;go_wp2_with fail;first
  |(have ty:Tg 1:=tg;have H4:=zk (Heap.nAt (n:=W1.heap.size+1) (H1.1.new (.cells #[x.o.id,x.o.item,x.o.qty,x.o.client,x.o.price,.slice sa x.o.steps.length sc] 32)) (.cells #[.slice da x.f.done.length dc,.slice ua x.f.undone.length uc,.bool x.f.asked,.bool x.f.yes,.bool x.f.turned,.bool x.f.ack0,.bool x.f.ack1,.bool x.f.shipped,.bool x.f.dam0,.bool x.f.dam1,.bool x.f.accepted] 80) (by simp)).drew;generalize hW4:((W1.alloc (.cells #[x.o.id,x.o.item,x.o.qty,x.o.client,x.o.price,.slice sa x.o.steps.length sc] 32)).alloc (.cells #[.slice da x.f.done.length dc,.slice ua x.f.undone.length uc,.bool x.f.asked,.bool x.f.yes,.bool x.f.turned,.bool x.f.ack0,.bool x.f.ack1,.bool x.f.shipped,.bool x.f.dam0,.bool x.f.dam1,.bool x.f.accepted] 80)).drew=W4 at *;clear hW4;generalize hn8:W1.heap.size+1=n8 at *;generalize hn7:W1.heap.size=n7 at *;exact QC4)
  |(have ty:Tg 2:=tg;have H4:=zk ((Heap.nAt (n:=W1.heap.size+1) (H1.1.new (.cells #[.slice da x.f.done.length dc,.slice ua x.f.undone.length uc,.bool x.f.asked,.bool x.f.yes,.bool x.f.turned,.bool x.f.ack0,.bool x.f.ack1,.bool x.f.shipped,.bool x.f.dam0,.bool x.f.dam1,.bool x.f.accepted] 80)) (.cells #[x.o.id,x.o.item,x.o.qty,x.o.client,x.o.price,.slice sa x.o.steps.length sc] 32) (by simp)).drew.frt 1 rfl);generalize hW4:((W1.alloc (.cells #[.slice da x.f.done.length dc,.slice ua x.f.undone.length uc,.bool x.f.asked,.bool x.f.yes,.bool x.f.turned,.bool x.f.ack0,.bool x.f.ack1,.bool x.f.shipped,.bool x.f.dam0,.bool x.f.dam1,.bool x.f.accepted] 80)).alloc (.cells #[x.o.id,x.o.item,x.o.qty,x.o.client,x.o.price,.slice sa x.o.steps.length sc] 32)).drew=W4 at *;clear hW4;generalize hn7:W1.heap.size+1=n7 at *;generalize hn8:W1.heap.size=n8 at *;exact QC4)):P:=h
theorem QCy {P:Prop} (h:P:=by
 refine ⟨⟨H3.1.cell 9 5 rfl rfl,HLK2.1 _ _ _ _ _ _ _ _ _ _ _ _ H3.1,H3.1.cell 4 0 rfl rfl,H3.1.cell 4 1 rfl rfl,H3.1.cell 4 2 rfl rfl,H3.1.cell 4 3 rfl rfl,H3.1.cell 4 4 rfl rfl,H3.1.cell 4 5 rfl rfl,H3.1.cell 4 6 rfl rfl,H3.1.cell 4 7 rfl rfl,H3.1.cell 4 8 rfl rfl,H3.1.cell 4 9 rfl rfl,H3.1.cell 4 10 rfl rfl,H3.1.cell 4 11 rfl rfl,H3.1.cell 4 12 rfl rfl,H3.1.cell 4 13 rfl rfl,H3.1.cell 4 14 rfl rfl,H3.1.cell 4 15 rfl rfl,H3.1.cell 4 16 rfl rfl⟩,?_⟩;go_simp;refine vxe rfl rfl rfl ?_;go_wp2_with fail;first
  |(have ty:Tg 1:=tg;have H3b:=zk (Heap.nAt (n:=W1.heap.size+1) (H1.1.new (.cells #[x.o.id,x.o.item,x.o.qty,x.o.client,x.o.price,.slice sa x.o.steps.length sc] 32)) (.cells #[.slice none 0 0,.slice none 0 0,.bool false,.bool false,.bool false,.bool false,.bool false,.bool false,.bool false,.bool false,.bool false] 80) (by simp)).drew;have tg:=Tg.mk 1;exact QCw)
  |(have ty:Tg 2:=tg;have H3b:=zk (Heap.nAt (n:=W1.heap.size+1) (H1.1.new (.cells #[.slice none 0 0,.slice none 0 0,.bool false,.bool false,.bool false,.bool false,.bool false,.bool false,.bool false,.bool false,.bool false] 80)) (.cells #[x.o.id,x.o.item,x.o.qty,x.o.client,x.o.price,.slice sa x.o.steps.length sc] 32) (by simp)).drew;have tg:=Tg.mk 2;exact QCw)):P:=h
theorem QBl {P:Prop} (h:P:=by
 refine ⟨⟨H2.1.cell 8 5 rfl rfl,HLK1.1 _ _ _ _ _ _ _ _ _ _ _ H2.1,H2.1.cell 3 0 rfl rfl,H2.1.cell 3 1 rfl rfl,H2.1.cell 3 2 rfl rfl,H2.1.cell 3 3 rfl rfl,H2.1.cell 3 4 rfl rfl,H2.1.cell 3 5 rfl rfl,H2.1.cell 3 6 rfl rfl,H2.1.cell 3 7 rfl rfl,H2.1.cell 3 8 rfl rfl,H2.1.cell 3 9 rfl rfl,H2.1.cell 3 10 rfl rfl,H2.1.cell 3 11 rfl rfl,H2.1.cell 3 12 rfl rfl,H2.1.cell 3 13 rfl rfl,H2.1.cell 3 14 rfl rfl,H2.1.cell 3 15 rfl rfl,H2.1.cell 3 16 rfl rfl⟩,?_⟩;go_simp;refine vxe rfl rfl rfl ?_;go_wp2_with fail;first
  |(have ty:Tg 1:=tg;have H3:=zk (Heap.nAt (n:=W1.heap.size+1) H2.1 (.cells #[.slice none 0 0,.slice none 0 0,.bool false,.bool false,.bool false,.bool false,.bool false,.bool false,.bool false,.bool false,.bool false] 80) (by simp));have tg:=Tg.mk 1;exact QCy)
  |(have ty:Tg 2:=tg;have H3:=zk (Heap.nAt (n:=W1.heap.size+1) H2.1 (.cells #[.int .i64 0,.int .i64 0,.int .i64 0,.int .i64 0,.int .i64 0,.slice none 0 0] 32) (by simp));have tg:=Tg.mk 2;exact QCy)):P:=h
def Led.none:Led:=⟨⟨0,0,0,0,0,[]⟩,.zero,.none⟩
theorem Qj1 {w0 w:World} {b bj:Nat} {A:Int→Nat} {c:Qa} {R:List SA} {id:Int} (h:Heap w0 (.cha b bj A c::R) w) (h0:1≤id) (h1:id≤999) (hx:Qc c.l id=none):
 CH 31 #[b,id] w (.tuple #[Led.none.o.val (.slice none 0 0),Led.none.f.val (.slice none 0 0) (.slice none 0 0),.bool false]) w0 (.cha b bj A c::R):=by
 have H1:=zk (Heap.nAt (n:=w.heap.size+1) (h.new (.cells #[.int .i64 0,.int .i64 0,.int .i64 0,.int .i64 0,.int .i64 0,.slice none 0 0] 32)) (.cells #[.slice none 0 0,.slice none 0 0,.bool false,.bool false,.bool false,.bool false,.bool false,.bool false,.bool false,.bool false,.bool false] 80) (by simp));obtain ⟨bm,bt,⟨c5,c6⟩,⟨c3,cf,hlb⟩,hlk, -⟩:=TD (H1.1.frt 2 rfl) h0 h1;rw [hx] at hlk;simp only [VQ] at hlk;clear h;go_enter Tryz.func31,Tryz.ntmps31;go_wp2_with fail;exact bodyPost_ret (v:=.tuple #[Led.none.o.val (.slice none 0 0),Led.none.f.val (.slice none 0 0) (.slice none 0 0),.bool false]) (by simp [results,Tryz.results31,go_sem];exact ⟨rfl,rfl⟩) rfl ⟨rfl,H1.1.drop.drop⟩
theorem Heap.set6 {w0 w:World} {b:Nat} {T:TypeId} {a0 a1 a2 a3 a4 a5:Value} {R:List SA} (h:Heap w0 (.pts b (.cells #[a0,a1,a2,a3,a4,a5] T)::R) w) (c0 c1 c2 c3 c4 c5:Value):
 Heap w0 (.pts b (.cells #[c0,c1,c2,c3,c4,c5] T)::R) ((((((w.setCell ⟨b,0,none⟩ c0).setCell ⟨b,1,none⟩ c1).setCell ⟨b,2,none⟩ c2).setCell ⟨b,3,none⟩ c3).setCell ⟨b,4,none⟩ c4).setCell ⟨b,5,none⟩ c5):=by
 have h1:Heap w0 (.pts b (.cells #[c0,a1,a2,a3,a4,a5] T)::R) (w.setCell ⟨b,0,none⟩ c0):=h.sAt 0 0 c0 rfl;have h2:Heap w0 (.pts b (.cells #[c0,c1,a2,a3,a4,a5] T)::R) ((w.setCell ⟨b,0,none⟩ c0).setCell ⟨b,1,none⟩ c1):=h1.sAt 0 1 c1 rfl;have h3:Heap w0 (.pts b (.cells #[c0,c1,c2,a3,a4,a5] T)::R) (((w.setCell ⟨b,0,none⟩ c0).setCell ⟨b,1,none⟩ c1).setCell ⟨b,2,none⟩ c2):=h2.sAt 0 2 c2 rfl;have h4:Heap w0 (.pts b (.cells #[c0,c1,c2,c3,a4,a5] T)::R) ((((w.setCell ⟨b,0,none⟩ c0).setCell ⟨b,1,none⟩ c1).setCell ⟨b,2,none⟩ c2).setCell ⟨b,3,none⟩ c3):=h3.sAt 0 3 c3 rfl;have h5:Heap w0 (.pts b (.cells #[c0,c1,c2,c3,c4,a5] T)::R) (((((w.setCell ⟨b,0,none⟩ c0).setCell ⟨b,1,none⟩ c1).setCell ⟨b,2,none⟩ c2).setCell ⟨b,3,none⟩ c3).setCell ⟨b,4,none⟩ c4):=h4.sAt 0 4 c4 rfl;have h6:Heap w0 (.pts b (.cells #[c0,c1,c2,c3,c4,c5] T)::R) ((((((w.setCell ⟨b,0,none⟩ c0).setCell ⟨b,1,none⟩ c1).setCell ⟨b,2,none⟩ c2).setCell ⟨b,3,none⟩ c3).setCell ⟨b,4,none⟩ c4).setCell ⟨b,5,none⟩ c5):=h5.sAt 0 5 c5 rfl;exact h6
theorem Heap.ZI {w0 w:World} {b:Nat} {T:TypeId} {a0 a1 a2 a3 a4 a5 a6 a7 a8 a9 a10:Value} {R:List SA} (h:Heap w0 (.pts b (.cells #[a0,a1,a2,a3,a4,a5,a6,a7,a8,a9,a10] T)::R) w) (c0 c1 c2 c3 c4 c5 c6 c7 c8 c9 c10:Value):
 Heap w0 (.pts b (.cells #[c0,c1,c2,c3,c4,c5,c6,c7,c8,c9,c10] T)::R) (((((((((((w.setCell ⟨b,0,none⟩ c0).setCell ⟨b,1,none⟩ c1).setCell ⟨b,2,none⟩ c2).setCell ⟨b,3,none⟩ c3).setCell ⟨b,4,none⟩ c4).setCell ⟨b,5,none⟩ c5).setCell ⟨b,6,none⟩ c6).setCell ⟨b,7,none⟩ c7).setCell ⟨b,8,none⟩ c8).setCell ⟨b,9,none⟩ c9).setCell ⟨b,10,none⟩ c10):=by
 have h1:Heap w0 (.pts b (.cells #[c0,a1,a2,a3,a4,a5,a6,a7,a8,a9,a10] T)::R) (w.setCell ⟨b,0,none⟩ c0):=h.sAt 0 0 c0 rfl;have h2:Heap w0 (.pts b (.cells #[c0,c1,a2,a3,a4,a5,a6,a7,a8,a9,a10] T)::R) ((w.setCell ⟨b,0,none⟩ c0).setCell ⟨b,1,none⟩ c1):=h1.sAt 0 1 c1 rfl;have h3:Heap w0 (.pts b (.cells #[c0,c1,c2,a3,a4,a5,a6,a7,a8,a9,a10] T)::R) (((w.setCell ⟨b,0,none⟩ c0).setCell ⟨b,1,none⟩ c1).setCell ⟨b,2,none⟩ c2):=h2.sAt 0 2 c2 rfl;have h4:Heap w0 (.pts b (.cells #[c0,c1,c2,c3,a4,a5,a6,a7,a8,a9,a10] T)::R) ((((w.setCell ⟨b,0,none⟩ c0).setCell ⟨b,1,none⟩ c1).setCell ⟨b,2,none⟩ c2).setCell ⟨b,3,none⟩ c3):=h3.sAt 0 3 c3 rfl;have h5:Heap w0 (.pts b (.cells #[c0,c1,c2,c3,c4,a5,a6,a7,a8,a9,a10] T)::R) (((((w.setCell ⟨b,0,none⟩ c0).setCell ⟨b,1,none⟩ c1).setCell ⟨b,2,none⟩ c2).setCell ⟨b,3,none⟩ c3).setCell ⟨b,4,none⟩ c4):=h4.sAt 0 4 c4 rfl;have h6:Heap w0 (.pts b (.cells #[c0,c1,c2,c3,c4,c5,a6,a7,a8,a9,a10] T)::R) ((((((w.setCell ⟨b,0,none⟩ c0).setCell ⟨b,1,none⟩ c1).setCell ⟨b,2,none⟩ c2).setCell ⟨b,3,none⟩ c3).setCell ⟨b,4,none⟩ c4).setCell ⟨b,5,none⟩ c5):=h5.sAt 0 5 c5 rfl;have h7:Heap w0 (.pts b (.cells #[c0,c1,c2,c3,c4,c5,c6,a7,a8,a9,a10] T)::R) (((((((w.setCell ⟨b,0,none⟩ c0).setCell ⟨b,1,none⟩ c1).setCell ⟨b,2,none⟩ c2).setCell ⟨b,3,none⟩ c3).setCell ⟨b,4,none⟩ c4).setCell ⟨b,5,none⟩ c5).setCell ⟨b,6,none⟩ c6):=h6.sAt 0 6 c6 rfl;have h8:Heap w0 (.pts b (.cells #[c0,c1,c2,c3,c4,c5,c6,c7,a8,a9,a10] T)::R) ((((((((w.setCell ⟨b,0,none⟩ c0).setCell ⟨b,1,none⟩ c1).setCell ⟨b,2,none⟩ c2).setCell ⟨b,3,none⟩ c3).setCell ⟨b,4,none⟩ c4).setCell ⟨b,5,none⟩ c5).setCell ⟨b,6,none⟩ c6).setCell ⟨b,7,none⟩ c7):=h7.sAt 0 7 c7 rfl;have h9:Heap w0 (.pts b (.cells #[c0,c1,c2,c3,c4,c5,c6,c7,c8,a9,a10] T)::R) (((((((((w.setCell ⟨b,0,none⟩ c0).setCell ⟨b,1,none⟩ c1).setCell ⟨b,2,none⟩ c2).setCell ⟨b,3,none⟩ c3).setCell ⟨b,4,none⟩ c4).setCell ⟨b,5,none⟩ c5).setCell ⟨b,6,none⟩ c6).setCell ⟨b,7,none⟩ c7).setCell ⟨b,8,none⟩ c8):=h8.sAt 0 8 c8 rfl;have h10:Heap w0 (.pts b (.cells #[c0,c1,c2,c3,c4,c5,c6,c7,c8,c9,a10] T)::R) ((((((((((w.setCell ⟨b,0,none⟩ c0).setCell ⟨b,1,none⟩ c1).setCell ⟨b,2,none⟩ c2).setCell ⟨b,3,none⟩ c3).setCell ⟨b,4,none⟩ c4).setCell ⟨b,5,none⟩ c5).setCell ⟨b,6,none⟩ c6).setCell ⟨b,7,none⟩ c7).setCell ⟨b,8,none⟩ c8).setCell ⟨b,9,none⟩ c9):=h9.sAt 0 9 c9 rfl;have h11:Heap w0 (.pts b (.cells #[c0,c1,c2,c3,c4,c5,c6,c7,c8,c9,c10] T)::R) (((((((((((w.setCell ⟨b,0,none⟩ c0).setCell ⟨b,1,none⟩ c1).setCell ⟨b,2,none⟩ c2).setCell ⟨b,3,none⟩ c3).setCell ⟨b,4,none⟩ c4).setCell ⟨b,5,none⟩ c5).setCell ⟨b,6,none⟩ c6).setCell ⟨b,7,none⟩ c7).setCell ⟨b,8,none⟩ c8).setCell ⟨b,9,none⟩ c9).setCell ⟨b,10,none⟩ c10):=h10.sAt 0 10 c10 rfl;exact h11
theorem Qbc {w0 w:World} {b bj:Nat} {A:Int→Nat} {c:Qa} {R:List SA} {id:Int} {x:Led} (h:Heap w0 (.cha b bj A c::R) w) (hx:Qc c.l id=some x):
 Calls Tryz.prog 31 #[b,id] w fun e w'=>∃vs vd vu,e=.returned (.tuple #[x.o.val vs,x.f.val vd vu,.bool true])∧LdA.ok ⟨vs,vd,vu,0⟩ x∧Heap w0 (.slc vu 4 1 x.f.undone.length (bools x.f.undone)::.slc vd 4 1 x.f.done.length (bools x.f.done)::.slc vs 131 2 x.o.steps.length (Qs x.o.steps)::.cha b bj A c::R) w':=by
 have hg:=(h.Yl).get hx;have h0:=hg.2.1;have h1:=hg.2.2;have HXO:=zk hg.1;obtain ⟨hp,bm,bt,h⟩:=h.Zu hx;have HSAME:As (∀W L,Heap w0 (.led (A id) x::.pts b (.cells (chc c bj bm bt) 121)::.map bm (QE (fun k=>.pointer (some ⟨A k,0,none⟩)) c.l)::bks (fun k x=>.led (A k) x) (QI c.l id)::.tower bt c.Qf::L) W→Heap w0 (.cha b bj A c::L) W):=⟨fun W L h=>Heap.Qer hp hx h⟩;obtain ⟨vs,vd,vu,tb,hpa,h⟩:=h.Xm;have HSHUT:As (∀W L,Heap w0 (.pts (A id) (.cells (x.cells vs vd vu (x.tp tb)) 125)::.slc vs 131 2 x.o.steps.length (Qs x.o.steps)::.slc vd 4 1 x.f.done.length (bools x.f.done)::.slc vu 4 1 x.f.undone.length (bools x.f.undone)::x.tsa tb::L) W→Heap w0 (.led (A id) x::L) W):=⟨fun W L h=>Heap.YF hpa h⟩;obtain ⟨sa,sc,rfl⟩:=vS2 (h.row 1 rfl);obtain ⟨da,dc,rfl⟩:=vS2 (h.row 2 rfl);obtain ⟨ua,uc,rfl⟩:=vS2 (h.row 3 rfl);have HPA:=zk hpa;have H1:=zk (Heap.nAt (n:=w.heap.size+1) (h.new (.cells #[.int .i64 0,.int .i64 0,.int .i64 0,.int .i64 0,.int .i64 0,.slice none 0 0] 32)) (.cells #[.slice none 0 0,.slice none 0 0,.bool false,.bool false,.bool false,.bool false,.bool false,.bool false,.bool false,.bool false,.bool false] 80) (by simp));have HLK:As (∀W L x1 x2 x3 x4 x5 x6 x7 x8,Heap w0 (x1::x2::x3::x4::x5::x6::x7::x8::.map bm (QE (fun k=>.pointer (some ⟨A k,0,none⟩)) c.l)::L) W→(Instr.lookup 118 (.map (some bm)) (.int .i64 id) false).run Tryz.prog W=.ok (.pointer (some ⟨A id,0,none⟩)) W):=⟨fun W L x1 x2 x3 x4 x5 x6 x7 x8 h=>by
  have:=ZJ h 8 rfl h0 h1;rw [hx] at this;exact this⟩
 have HLK1:As (∀W L x0 x1 x2 x3 x4 x5 x6 x7 x8,Heap w0 (x0::x1::x2::x3::x4::x5::x6::x7::x8::.map bm (QE (fun k=>.pointer (some ⟨A k,0,none⟩)) c.l)::L) W→(Instr.lookup 118 (.map (some bm)) (.int .i64 id) false).run Tryz.prog W=.ok (.pointer (some ⟨A id,0,none⟩)) W):=⟨fun W L x0 x1 x2 x3 x4 x5 x6 x7 x8 h=>by
  have:=ZJ h 9 rfl h0 h1;rw [hx] at this;exact this⟩
 have HLK2:As (∀W L xx x0 x1 x2 x3 x4 x5 x6 x7 x8,Heap w0 (xx::x0::x1::x2::x3::x4::x5::x6::x7::x8::.map bm (QE (fun k=>.pointer (some ⟨A k,0,none⟩)) c.l)::L) W→(Instr.lookup 118 (.map (some bm)) (.int .i64 id) false).run Tryz.prog W=.ok (.pointer (some ⟨A id,0,none⟩)) W):=⟨fun W L xx x0 x1 x2 x3 x4 x5 x6 x7 x8 h=>by
  have:=ZJ h 10 rfl h0 h1;rw [hx] at this;exact this⟩
 clear h hp hpa hx hg;have hlk:=HLK.1 _ _ _ _ _ _ _ _ _ _ H1.1;have c5:=H1.1.cell 7 5 rfl rfl;have hlb:=H1.1.lt 7 rfl;obtain ⟨y0,y1,y2,y3,y4,y5,y6,y7,y8,y9,y10,y11,y12,y13,y14,y15,y16,y17,yf⟩:=H1.1.cA8 2 rfl;have hlx:=H1.1.lt 2 rfl;go_enter Tryz.func31,Tryz.ntmps31;go_wp2_with fail;generalize hW:(w.alloc (.cells #[.int .i64 0,.int .i64 0,.int .i64 0,.int .i64 0,.int .i64 0,.slice none 0 0] 32)).alloc (.cells #[.slice none 0 0,.slice none 0 0,.bool false,.bool false,.bool false,.bool false,.bool false,.bool false,.bool false,.bool false,.bool false] 80)=W1 at *;clear hW;generalize hn1:w.heap.size+1=n1 at *;generalize w.heap.size=n0 at *;clear hn1;have H1d:=zk H1.1.drew;have hlkd:=HLK.1 _ _ _ _ _ _ _ _ _ _ H1d.1;refine wrx (fun W=>W.cell? ⟨b,5,none⟩=some (.map (some bm))∧(Instr.lookup 118 (.map (some bm)) (.int .i64 id) false).run Tryz.prog W=.ok (.pointer (some ⟨A id,0,none⟩)) W∧W.cell? ⟨A id,0,none⟩=some (.int .i64 x.o.id)∧W.cell? ⟨A id,1,none⟩=some (.int .i64 x.o.item)∧W.cell? ⟨A id,2,none⟩=some (.int .i64 x.o.qty)∧W.cell? ⟨A id,3,none⟩=some (.int .i64 x.o.client)∧W.cell? ⟨A id,4,none⟩=some (.int .i64 x.o.price)∧W.cell? ⟨A id,5,none⟩=some (.slice sa x.o.steps.length sc)∧W.cell? ⟨A id,6,none⟩=some (.slice da x.f.done.length dc)∧W.cell? ⟨A id,7,none⟩=some (.slice ua x.f.undone.length uc)∧W.cell? ⟨A id,8,none⟩=some (.bool x.f.asked)∧W.cell? ⟨A id,9,none⟩=some (.bool x.f.yes)∧W.cell? ⟨A id,10,none⟩=some (.bool x.f.turned)∧W.cell? ⟨A id,11,none⟩=some (.bool x.f.ack0)∧W.cell? ⟨A id,12,none⟩=some (.bool x.f.ack1)∧W.cell? ⟨A id,13,none⟩=some (.bool x.f.shipped)∧W.cell? ⟨A id,14,none⟩=some (.bool x.f.dam0)∧W.cell? ⟨A id,15,none⟩=some (.bool x.f.dam1)∧W.cell? ⟨A id,16,none⟩=some (.bool x.f.accepted)) [21] (.op 0 .f (.op 1 .f (.op 2 .f (.op 3 .f (.op 4 .f (.op 5 .f (.op 6 .f (.op 7 .f (.op 8 .f (.op 9 .f (.op 10 .f (.op 11 .f (.op 12 .f (.op 13 .f (.op 14 .f (.op 15 .f (.op 16 .f (.op 17 .f (.fork 18 (.op 19 .e (.op 20 .e (.op 21 .e .nil))) (.op 19 .e (.op 18 .e (.op 20 .e (.op 21 .e .nil))))))))))))))))))))))) (by kernel_rfl) (by kernel_rfl) ⟨c5,hlkd,y0,y1,y2,y3,y4,y5,y6,y7,y8,y9,y10,y11,y12,y13,y14,y15,y16⟩ ?_;iterate 18
  first
   |(refine vxp rfl rfl ?_;apply ex2;intro w';go_simp;rfl;go_simp)
   |(refine vxg (by kernel_rfl) rfl rfl ?_;apply ex2;intro w' hw';obtain ⟨q1,q2,r0,r1,r2,r3,r4,r5,r6,r7,r8,r9,r10,r11,r12,r13,r14,r15,r16⟩:=hw';go_simp;rfl;go_simp)
 refine vxf rfl rfl ?_ ?_
 ·go_wp2_with fail;have H2:=zk (H1.1.new (.cells #[.int .i64 0,.int .i64 0,.int .i64 0,.int .i64 0,.int .i64 0,.slice none 0 0] 32)).drew;have tg:=Tg.mk 1;exact QBl
 ·refine vxe rfl rfl rfl ?_;go_wp2_with fail;have H2:=zk (H1.1.new (.cells #[.slice none 0 0,.slice none 0 0,.bool false,.bool false,.bool false,.bool false,.bool false,.bool false,.bool false,.bool false,.bool false] 80)).drew;have tg:=Tg.mk 2;exact QBl
theorem QBt {P:Prop} (h:P:=by
 go_ret;rw [HH.1];exact ⟨_,rfl,(Heap.Xy (bj:=bj) (A:=A) (H3.1.sel (p:= [_,_,_]) [1,2,0] 3 rfl (by decide))).frt 1 rfl⟩):P:=h
theorem Qu4 {t:Qy} {id:Int} (h:(t.ring id).1=true):t.has id=true:=by
 unfold Qy.ring at h;cases e:t.has id with
 |true=>rfl
 |false=>rw [if_pos e] at h;cases h
theorem Qw4 {w0 w:World} {b:Nat} {c:Qa} {R:List SA} (h:Heap w0 (.Xu b c::R) w) (id:Int) (h0:1≤id) (h1:id≤999) (hbell:∀x,Qc c.l id=some x→c.Qf.has id=true→x.over=false):
 Calls Tryz.prog 68 #[b,id] w fun e w'=>∃v',e=.returned v'∧Heap w0 (.slc v' 113 7 (c.ring id).1.length (Qk (c.ring id).1)::.Xu b (c.ring id).2::R) w':=by
 have HH:As (c.ring id=if c.j.down=true then ([],c) else match Qc c.l id with
  |none=>([],{c with Qf:=(c.Qf.ring id).2.2})
  |some x=>
   if (c.Qf.ring id).1=false then ([],{c with Qf:=(c.Qf.ring id).2.2}) else
   if (c.Qf.ring id).2.1=true then
    (if x.decided=false then ((({c with Qf:=(c.Qf.ring id).2.2}:Qa).turns id).1,(({c with Qf:=(c.Qf.ring id).2.2}:Qa).turns id).2.2)
     else (({c with Qf:=(c.Qf.ring id).2.2}:Qa).again id).sends x)
   else ({c with Qf:=(c.Qf.ring id).2.2}:Qa).sends x):=⟨rfl⟩
 have HDN:=zk (Zi h);have HB:=zk h;obtain ⟨bj,A,h⟩:=h.VD;have HC:=zk h;have hok:=h.Yl;obtain ⟨bm',bt',⟨c5',c6'⟩, -,hlk,hlk2⟩:=TD h h0 h1;obtain ⟨hp,bm,bt,h⟩:=h.QL;have c0:=h.cB7 0 rfl;have hlb:=h.lt 0 rfl;obtain rfl:bm'=bm:=by rw [c0.2.2.2.2.2.1] at c5';cases c5';rfl
 clear c5' c6';have HBL:As (c.Qf.left.length<1000000):=⟨by have:=hp.Qf.len;omega⟩;have HRK:=zk (Qf0 hp.Qf id);have HOK1:=zk (hok.Xo HRK.1);have HRG:=zk (QAa (h.frt 2 rfl) id (by omega) (by omega) HBL);have HHAS:As ((c.Qf.ring id).1=true→c.Qf.has id=true):=⟨Qu4⟩;clear h hp;generalize c.ring id=res at *;generalize c.Qf.ring id=p at *;obtain ⟨rg,off,t⟩:=p;simp only at HH HRG HRK HOK1 HHAS;cases hd:c.j.down
 ·rw [hd] at HDN HH;simp only [Bool.false_eq_true,if_false] at HH;have HD:As (c.j.down=false):=⟨hd⟩;clear hd;cases hx:Qc c.l id with
  |none=>
   simp only [hx] at HH;rw [hx] at hlk hlk2;simp only [VQ] at hlk hlk2;clear hx;cases rg;all_goals
    go_enter Tryz.func68,Tryz.ntmps68;go_wp2_with (first
     |(go_at_call 97;refine HDN.1.m0 ?_)
     |(go_at_call 107;refine HRG.1.m2 fun w2 h2=>?_;have H2:=zk (Heap.Xf (c:= {c with Qf:=t}) HOK1.1 (h2.sel (p:= [_,_,_,_]) [1,2,0,3] 4 rfl (by decide)));clear h2))
    go_ret;rw [HH.1];exact ⟨_,rfl,(Heap.Xy (bj:=bj) (A:=A) (c:= {c with Qf:=t}) H2.1).nRw 113 7⟩
  |some x=>
   simp only [hx] at HH;rw [hx] at hlk hlk2;simp only [VQ] at hlk hlk2;have HX:=zk hx;have HHV:=zk (fun h=>hbell x hx (HHAS.1 h));clear hbell;cases rg
   ·simp only [if_true] at HH;clear hx;go_enter Tryz.func68,Tryz.ntmps68;go_wp2_with (first
     |(go_at_call 97;refine HDN.1.m0 ?_)
     |(go_at_call 107;refine HRG.1.m2 fun w2 h2=>?_;have H2:=zk (Heap.Xf (c:= {c with Qf:=t}) HOK1.1 (h2.sel (p:= [_,_,_,_]) [1,2,0,3] 4 rfl (by decide)));clear h2))
    go_ret;rw [HH.1];exact ⟨_,rfl,(Heap.Xy (bj:=bj) (A:=A) (c:= {c with Qf:=t}) H2.1).nRw 113 7⟩
   ·simp only [Bool.true_eq_false,if_false] at HH;have HOV:=zk (HHV.1 rfl);cases off
    ·simp only [Bool.false_eq_true,if_false] at HH;have HSD:As (∀W L,Heap w0 (.cha b bj A {c with Qf:=t}::.jrn bj c.j::L) W→Calls Tryz.prog 109 #[b,(A id)] W fun e w'=>∃v',e=.returned v'∧Heap w0 (.slc v' 113 7 (({c with Qf:=t}:Qa).sends x).1.length (Qk (({c with Qf:=t}:Qa).sends x).1)::.cha b bj A (({c with Qf:=t}:Qa).sends x).2::.jrn bj (({c with Qf:=t}:Qa).sends x).2.j::L) w'):=⟨fun W L h=>FO (c:= {c with Qf:=t}) h HX.1 HOV.1 HD.1⟩;generalize ({c with Qf:=t}:Qa).sends x=rs at *;clear hx;go_enter Tryz.func68,Tryz.ntmps68;go_wp2_with (first
      |(go_at_call 97;refine HDN.1.m0 ?_)
      |(go_at_call 107;refine HRG.1.m2 fun w2 h2=>?_;have H2:=zk (Heap.Xf (c:= {c with Qf:=t}) HOK1.1 (h2.sel (p:= [_,_,_,_]) [1,2,0,3] 4 rfl (by decide)));clear h2)
      |(go_at_call 109;refine (HSD.1 _ _ H2.1).mono ?_;rintro e w3 ⟨v3,rfl,h3⟩;have H3:=zk h3;clear h3))
     exact QBt
    ·simp only [if_true] at HH;cases hde:x.decided
     ·rw [hde] at HH;simp only [if_true] at HH;have HDE:=zk hde;have HTU:As (∀W L,Heap w0 (.cha b bj A {c with Qf:=t}::.jrn bj c.j::L) W→Calls Tryz.prog 99 #[b,(A id)] W (Qip w0 b bj A L (({c with Qf:=t}:Qa).turns id))):=⟨fun W L h=>FX (c:= {c with Qf:=t}) h HX.1 HD.1 HDE.1⟩;generalize ({c with Qf:=t}:Qa).turns id=rt at *;clear hx hde;go_enter Tryz.func68,Tryz.ntmps68;go_wp2_with (first
       |(go_at_call 97;refine HDN.1.m0 ?_)
       |(go_at_call 107;refine HRG.1.m2 fun w2 h2=>?_;have H2:=zk (Heap.Xf (c:= {c with Qf:=t}) HOK1.1 (h2.sel (p:= [_,_,_,_]) [1,2,0,3] 4 rfl (by decide)));clear h2)
       |(go_at_call 98;refine (cdk (c:= {c with Qf:=t}) H2.1 HX.1).m0 ?_;rw [HDE.1])
       |(go_at_call 99;refine (HTU.1 _ _ H2.1).mono ?_;rintro e w3 ⟨v3,rfl,h3⟩;have H3:=zk h3;clear h3))
      exact QBt
     ·rw [hde] at HH;simp only [Bool.true_eq_false,if_false] at HH;have HDE:=zk hde;have HAK:=zk (Vv HRK.1 id);have HOK2:As ((({c with Qf:=t}:Qa).again id).ok):=⟨HOK1.1.Xo HAK.1⟩;have HBL2:As (t.left.length<1000000):=⟨by have:=HRK.1.len;omega⟩;have HSD:As (∀W L,Heap w0 (.cha b bj A (({c with Qf:=t}:Qa).again id)::.jrn bj c.j::L) W→Calls Tryz.prog 109 #[b,(A id)] W fun e w'=>∃v',e=.returned v'∧Heap w0 (.slc v' 113 7 ((({c with Qf:=t}:Qa).again id).sends x).1.length (Qk ((({c with Qf:=t}:Qa).again id).sends x).1)::.cha b bj A ((({c with Qf:=t}:Qa).again id).sends x).2::.jrn bj ((({c with Qf:=t}:Qa).again id).sends x).2.j::L) w'):=⟨fun W L h=>FO (c:=(({c with Qf:=t}:Qa).again id)) h HX.1 HOV.1 HD.1⟩;generalize (({c with Qf:=t}:Qa).again id).sends x=rs at *;clear hx hde;go_enter Tryz.func68,Tryz.ntmps68;go_wp2_with (first
       |(go_at_call 97;refine HDN.1.m0 ?_)
       |(go_at_call 107;refine HRG.1.m2 fun w2 h2=>?_;clear c0 hlb;have c0:=h2.cB7 1 rfl;have hlb:=h2.lt 1 rfl;have H2o:=zk h2;have H2:=zk (Heap.Xf (c:= {c with Qf:=t}) HOK1.1 (h2.sel (p:= [_,_,_,_]) [1,2,0,3] 4 rfl (by decide)));clear h2)
       |(go_at_call 98;refine (cdk (c:= {c with Qf:=t}) H2.1 HX.1).m0 ?_;rw [HDE.1])
       |(go_at_call 108;refine (Qk9 H2o.1 id (by omega) (by omega) HBL2).m2 fun w3 h3=>?_;have H3:=zk (Heap.Xf (c:=(({c with Qf:=t}:Qa).again id)) HOK2.1 (h3.sel (p:= [_,_,_,_]) [1,2,0,3] 4 rfl (by decide)));clear h3)
       |(go_at_call 109;refine (HSD.1 _ _ H3.1).mono ?_;rintro e w4 ⟨v4,rfl,h4⟩;have H4:=zk h4;clear h4))
      go_ret;rw [HH.1];exact ⟨_,rfl,(Heap.Xy (bj:=bj) (A:=A) (H4.1.sel (p:= [_,_,_]) [1,2,0] 3 rfl (by decide))).frt 1 rfl⟩
 ·rw [hd] at HDN HH;simp only [if_true] at HH;clear hd;go_enter Tryz.func68,Tryz.ntmps68;go_wp2_with (go_at_call 97;refine HDN.1.m0 ?_);go_ret;rw [HH.1];exact ⟨_,rfl,HB.1.nRw 113 7⟩
def FI (left:Lit→Bool) (m:IM Led):Nat:=(m.filter fun p=>left (.int .i64 p.1)&& !p.2.over).length
theorem Js (left:Lit→Bool) (y:Int×Led) (m:IM Led):FI left (y::m)=(if (left (.int .i64 y.1)&& !y.2.over)=true then 1 else 0)+FI left m:=by
 unfold FI;rw [List.filter_cons];split;simp;omega;simp
theorem Qr7 {m:IM Led} {k:Int} (h:∀p∈m,p.1≠k) (left:Lit→Bool):FI (fun z=>left z&& !z.sameKey (.int .i64 k)) m=FI left m:=by
 induction m with
 |nil=>rfl
 |cons y r ih=>
  rw [Js,Js,ih (fun p hp=>h p (by simp [hp]))];have:=h y (by simp);simp [Xr,this]
theorem Qr1 {m:IM Led} (hk:m.Pairwise (fun a b=>a.1<b.1)) {k:Int} {c:Led} (e:Qc m k=some c) {left:Lit→Bool} (hl:left (.int .i64 k)=true):
 FI left m=FI (fun z=>left z&& !z.sameKey (.int .i64 k)) m+(if c.over=true then 0 else 1):=by
 induction m with
 |nil=>simp [Qc] at e
 |cons y r ih=>
  obtain ⟨h1,h2⟩:=List.pairwise_cons.1 hk;rw [Js,Js];by_cases hy:y.1=k
  ·have hv:y=(k,c):=by
    simp [Qc,hy] at e;exact Prod.ext hy e
   rw [Qr7 (fun p hp=>by have:=h1 p hp;omega),hv];cases hc:c.over<;>simp [hl,Xr]<;>omega
  have hg:Qc r k=some c:=by simpa [Qc,hy] using e
  rw [ih h2 hg];simp [Xr,hy];omega
theorem Qrr {m:IM Led} {left:Lit→Bool} (h:∀k:Int,left (.int .i64 k)=false):FI left m=0:=by
 unfold FI;rw [List.length_eq_zero_iff,List.filter_eq_nil_iff];intro p _;simp [h]
theorem Qwf (m r:IM Led) (val:Int→Value) (h:∀p∈r,(Qc m p.1).isSome):FI (Maps.has (DD (QE val m))) r=(r.filter fun p=>!p.2.over).length:=by
 unfold FI;congr 1;apply List.filter_congr;intro p hp;rw [TB,Zz];obtain ⟨u,hu⟩:=Option.isSome_iff_exists.1 (h p hp);rw [hu];simp
theorem Qwu {w0 w:World} {b bj:Nat} {A:Int→Nat} {c:Qa} {R:List SA} (h:Heap w0 (.cha b bj A c::R) w):
 CH 129 #[b] w (.int .i64 (c.opens:Int)) w0 (.cha b bj A c::R):=by
 obtain ⟨hp,bm,bt,h⟩:=h.QL;have c0:=h.cB7 0 rfl;obtain ⟨hk,h⟩:=(h.frt 1 rfl).YT;have hlb:=h.lt 2 rfl;have HP:=zk hp;have HK:=zk hk;have H:=zk h;have HL:=zk hk.len;have HO:As (FI (Maps.has (DD (QE (fun k=>Value.pointer (some ⟨A k,0,none⟩)) c.l))) c.l=c.opens):=⟨Qwf _ _ _ (fun p hp=>Tz hp)⟩;have HOL:As (c.opens≤c.l.length):=⟨List.length_filter_le _ _⟩;clear h hp hk;go_enter Tryz.func129,Tryz.ntmps129;go_wp2_with (refine KM H.1 0 bm _ rfl rfl _ 118 117 rfl Tryz.underlying118 rfl ?_;intro r w1 h1;have H1:=zk h1;clear h1;go_simp);clear c0 hlb
 go_loopg [3] (Maps.size (DD (QE (fun k=>Value.pointer (some ⟨A k,0,none⟩)) c.l))) (fun gk v wr=>∃(left:Lit→Bool) (x:Nat),v=.int .i64 (x:Int)∧As (x+FI left c.l=c.opens)∧As (Heap w0 (.rng bm r (QE (fun k=>Value.pointer (some ⟨A k,0,none⟩)) c.l) left gk::bks (fun k x=>.led (A k) x) c.l::.pts b (.cells (chc c bj bm bt) 121)::.tower bt c.Qf::R) wr))
 case atStart=>exact ⟨_,0,rfl,⟨by rw [HO.1];omega⟩,H1⟩
 case round=>
  obtain ⟨left,x,rfl,HX,HR⟩:=hrel;clear H H1;go_wp2_with (refine YO HR.1 0 bm r _ left gk rfl rfl _ rfl rfl ?done ?more)
  case done=>
   intro hd;have HD:=zk hd;clear hd;go_wp2;go_ret;have hx:x=c.opens:=by have:=HX.1;rw [Qrr HD.1] at this;omega
   refine ⟨by rw [hx];rfl,?_⟩;have h2:=Heap.Zq (val:=fun k=>.pointer (some ⟨A k,0,none⟩)) (give:=fun k x=>.led (A k) x) HK.1 (Heap.Qqh HR.1);exact Heap.Xf (bm:=bm) (bt:=bt) HP.1 (h2.frt 1 rfl)
  case more=>
   intro k v w2 cnt2 hlk hm hlt h2 hen;rw [Zz] at hm;obtain ⟨y,hy,rfl⟩:=Option.map_eq_some_iff.1 hm;have HT:=zk (Qr1 HK.1.1 hy hlk);have HOV:As (∀W L,Heap w0 (.led (A k) y::L) W→Calls Tryz.prog 102 #[(A k)] W fun e w'=>e=.returned (.bool y.over)∧Below W.heap.size W w'):=⟨fun W L h=>Qee h (HP.1.led _ (Xe hy))⟩;have HLT:=zk hlt;have h3:=Heap.focus (give:=fun k x=>SA.led (A k) x) HK.1 hy (h2.frt 1 rfl);have H3:=zk h3;have HBK:As (∀W cnt',Heap w0 (.led (A k) y::bks (fun k x=>.led (A k) x) (QI c.l k)::.rng bm r (QE (fun k=>Value.pointer (some ⟨A k,0,none⟩)) c.l) (fun z=>left z&& !z.sameKey (.int .i64 k)) cnt'::.pts b (.cells (chc c bj bm bt) 121)::.tower bt c.Qf::R) W→Heap w0 (.rng bm r (QE (fun k=>Value.pointer (some ⟨A k,0,none⟩)) c.l) (fun z=>left z&& !z.sameKey (.int .i64 k)) cnt'::bks (fun k x=>.led (A k) x) c.l::.pts b (.cells (chc c bj bm bt) 121)::.tower bt c.Qf::R) W):=⟨fun W cnt' h=>by
    have:=Heap.Qjc (give:=fun k x=>SA.led (A k) x) h;rw [Jm HK.1.1 hy] at this;exact this.frt 1 rfl⟩
   have hxb:(x:Int)≤1000:=by
    have h1:=HX.1;have h2:=HOL.1;have h3:=HL.1;omega
   clear hm hlk hlt h2 hy h3;cases ho:y.over
   ·rw [ho] at HOV HT;clear ho;go_wp2_with (go_at_call 102;refine (HOV.1 _ _ H3.1).m2 fun w3 hb=>?_;have H4:=zk (H3.1.below hb);clear hb);go_roundg cnt2
    case measure=>exact HLT.1
    case rel=>
     refine ⟨_,x+1,by go_num,⟨?_⟩,⟨HBK.1 _ _ H4.1⟩⟩;have h1:=HT.1;have h2:=HX.1;simp only [Bool.false_eq_true,if_false] at h1;omega
   ·rw [ho] at HOV HT;clear ho;go_wp2_with (go_at_call 102;refine (HOV.1 _ _ H3.1).m2 fun w3 hb=>?_;have H4:=zk (H3.1.below hb);clear hb);go_roundg cnt2
    case measure=>exact HLT.1
    case rel=>
     refine ⟨_,x,rfl,⟨?_⟩,⟨HBK.1 _ _ H4.1⟩⟩;have h1:=HT.1;have h2:=HX.1;simp only [if_true] at h1;omega
theorem Od.ok.pre {o:Od} (h:o.ok) {l r:List Sp} (e:l++r=o.steps):({o with steps:=l}:Od).ok:=
 ⟨h.id0,h.id1,h.item0,h.item1,h.client0,h.client1,h.qty0,h.qty1,h.price0,h.price1,(by have:=h.len;rw [←e] at this;simp at this;show l.length≤3;omega),fun p hp=>h.svc p (by rw [←e];exact List.mem_append_left _ hp),(by
  have:=h.dist;rw [←e,List.map_append] at this;exact (List.nodup_append.1 this).1)⟩
def Led.fresh (o:Od) (l:List Sp):Led:=⟨{o with steps:=l},{Facts.zero with done:=List.replicate l.length false,undone:=List.replicate l.length false},Option.none⟩
theorem UD (o:Od) (l:List Sp) (s n:Int):(Led.fresh o l).more s n=Led.fresh o (l++ [⟨s,n⟩]):=by
 simp [Led.fresh,Led.more,List.replicate_succ']
theorem Qg7 {o:Od} (ho:o.ok):∀(r l:List Sp) (c:Qa),l++r=o.steps→Qc c.l o.id=some (Led.fresh o l)→c.Run (YM o.id l.length r)∧Qc ((YM o.id l.length r).foldl Qa.Qq c).l o.id=some (Led.fresh o o.steps)
 | [],l,c,e,hx=>by
  rw [List.append_nil] at e;exact ⟨trivial,by rw [←e];exact hx⟩
 |s::r,l,c,e,hx=>by
  have hs:=ho.svc s (by rw [←e];simp);have hl:l.length≤3:=by have:=ho.len;rw [←e] at this;simp at this;omega
  have e2:(l++ [s])++r=o.steps:=by rw [←e];simp
  have hx2:Qc ((c.Qq ⟨.step,o.id,[(l.length:Int),s.svc,s.n]⟩).l) o.id=some (Led.fresh o (l++ [s])):=by
   have:(c.Qq ⟨.step,o.id,[(l.length:Int),s.svc,s.n]⟩)=({c with j:=(c.j.add ⟨.step,o.id,[(l.length:Int),s.svc,s.n]⟩).2}:Qa).Xd o.id ((Led.fresh o l).more s.svc s.n):=by
    unfold Qa.Qq;simp only [Qa.Qg,hx]
   rw [this,UD];exact QJ _ _ _
  have ih:=Qg7 ho r (l++ [s]) (c.Qq ⟨.step,o.id,[(l.length:Int),s.svc,s.n]⟩) e2 hx2;rw [List.length_append,List.length_singleton] at ih;refine ⟨⟨.step o.id l.length s.svc s.n (Led.fresh o l) hx hl rfl rfl ?_,⟨by show 0≤o.id;have:=ho.id0;omega,ho.id1,by simp,?_⟩,ih.1⟩,ih.2⟩;rw [UD];exact ho.pre e2;intro x hx;simp only [List.mem_cons,List.not_mem_nil,or_false] at hx;rcases hx with rfl|rfl|rfl;unfold QU;omega;unfold QU;omega;unfold QU;omega
theorem Uk {o:Od} (ho:o.ok) {c:Qa} (hn:Qc c.l o.id=none):c.Run (QD o)∧Qc ((QD o).foldl Qa.Qq c).l o.id=some (Led.fresh o o.steps):=by
 have h1:Qc ((c.Qq ⟨.begin,o.id,[o.item,o.qty,o.client,o.price]⟩).l) o.id=some (Led.fresh o []):=QJ _ _ _;have h2:=Qg7 ho o.steps [] (c.Qq ⟨.begin,o.id,[o.item,o.qty,o.client,o.price]⟩) rfl h1;refine ⟨⟨.begin o.id o.item o.qty o.client o.price (ho.pre (l:= []) rfl) hn,⟨by show 0≤o.id;have:=ho.id0;omega,ho.id1,by simp,?_⟩,h2.1⟩,h2.2⟩;intro x hx;have:=ho.item0;have:=ho.item1;have:=ho.client0;have:=ho.client1;have:=ho.qty0;have:=ho.qty1;have:=ho.price0;have:=ho.price1;simp only [List.mem_cons,List.not_mem_nil,or_false] at hx;rcases hx with rfl|rfl|rfl|rfl<;>unfold QU<;>omega
theorem UR (id:Int):∀(r:List Sp) (i:Nat),(YM id i r).length=r.length
 | [],_=>rfl
 |s::r,i=>by simp [YM,UR id r (i+1)]
theorem Qa6 (id:Int):∀(r:List Sp) (i k:Nat) (h:k<r.length),YM id i (r.take (k+1))=YM id i (r.take k)++ [⟨.step,id,[((i+k:Nat):Int),r[k].svc,r[k].n]⟩]
 |s::r,i,0,_=>by simp [YM]
 |s::r,i,k+1,h=>by
  have ih:=Qa6 id r (i+1) k (by simpa using h);simp only [List.take_succ_cons,YM,List.getElem_cons_succ] at ih⊢;rw [ih,show i+1+k=i+(k+1) by omega];rfl
theorem QE5 (o:Od):(Led.fresh o o.steps).over=false:=by
 unfold Led.over Facts.over Led.fresh Facts.ends;simp [Facts.zero]
theorem QBc (l r:List EV):ecs (l++r)=ecs l++ecs r:=by simp [ecs]
theorem Heap.Qwe {w0 w:World} {L R:List SA} {X:SA} (h:Heap w0 (X::.all L::R) w):Heap w0 (.all (L++ [X])::R) w:=by
 have h2:Heap w0 (L++(X::R)) w:=Heap.spread (h.frt 1 rfl);exact Heap.gather (l:=L++ [X]) (by rw [List.append_assoc];exact h2)
theorem QCh {P:Prop} (h:P:=by
 clear hop;refine wro (fun W=>W.cell? ⟨b,0,none⟩=some (.int .i64 c.most)) [(0,.f),(2,.f),(3,.f),(4,.f),(5,.f),(1,.e),(6,.f),(7,.f)] c0 ?_;refine vg rfl rfl ?_;apply ex2;intro w' hw';go_simp;rfl;go_simp;refine vg rfl rfl ?_;apply ex2;intro w' hw';go_simp;rfl;go_simp;refine vg rfl rfl ?_;apply ex2;intro w' hw';go_simp;rfl;go_simp;refine vg rfl rfl ?_;apply ex2;intro w' hw';go_simp;rfl;go_simp;refine vg rfl rfl ?_;apply ex2;intro w' hw';go_simp;rfl;go_simp;refine ve rfl rfl ?_;go_wp2_with (go_at_call 129;refine (Qwu (H2.1.drew.frt 1 rfl)).m1 fun w4 H4=>?_);refine ⟨HMO.1 _ _ H4.1,?_⟩;go_simp;refine vg rfl rfl ?_;apply ex2;intro w' hw';go_simp;rfl;go_simp;refine vg rfl rfl ?_;apply ex2;intro w' hw';go_simp;rfl;go_simp;refine vn ?_;go_simp;first
  |(have ty:Tg 1:=tg;go_wp2_with fail;rw [HH.1];exact bodyPost_ret (v:=.tuple #[.slice none 0 0,.int .i64 5]) (by simp [results,Tryz.results96,go_sem]) rfl ⟨_,rfl,(Heap.Xy (bj:=bj) (A:=A) (H4.1.sel (p:= [_,_,_,_]) [0,2,3] 4 rfl (by decide))).nRw 113 7⟩)
  |(have ty:Tg 2:=tg;clear x0 hlx c0 c1 c2 c3 c4 c5 c6 cf hlb H2;have x0:=H4.1.cB6 1 rfl;have hlx:=H4.1.lt 1 rfl;go_wp2_with (go_at_call 101;refine (cey (H4.1.new (.cells #[o.item,o.qty,o.client,o.price] 3)) _ _ _ _ _).m2 fun w5 h5=>?_;clear x0 hlx;have x0:=h5.cB6 2 rfl;have hlx:=h5.lt 2 rfl;have H5:=zk h5;clear h5);have h6:=H5.1.new (.cells #[.string (Kd.str .begin),o.id,.slice (some ⟨w4.heap.size,0,none⟩) 4 4] 171);have h7:=((Heap.XJ (k:=4) (size:=1) (h6.frt 1 rfl) (by decide) rfl).frt 1 rfl).Qai (e:=⟨.begin,o.id,[o.item,o.qty,o.client,o.price]⟩);have H7:=zk (h7.sel (p:= [_,_,_,_,_,_]) [0,1,3,2,4,5] 6 rfl (by decide));clear h6 h7 x0 hlx;have HBE:As (Qc c.l o.id=none→c.Run (QD o)∧Qc ((QD o).foldl Qa.Qq c).l o.id=some (Led.fresh o o.steps)):=⟨Uk HO.1⟩
    go_loopg [6,52] o.steps.length (fun gk lv iv wr=>∃(k:Nat) (L:List EV) (g cap:Nat),lv=.slice (some ⟨g,0,none⟩) L.length cap∧iv=.int .i64 k∧k≤o.steps.length∧As (gk+k=o.steps.length)∧As (L.map (·.1)=⟨.begin,o.id,[o.item,o.qty,o.client,o.price]⟩::YM o.id 0 (o.steps.take k))∧As (Heap w0 (.slc (.slice (some ⟨g,0,none⟩) L.length cap) 171 3 L.length (ecs L)::Qe6 L::.pts bx (.cells #[o.id,o.item,o.qty,o.client,o.price,.slice av o.steps.length cv] 32)::.cha b bj A c::.jrn bj c.j::.slc (.slice av o.steps.length cv) 131 2 o.steps.length (Qs o.steps)::R) wr))
    case atStart=>exact ⟨0,[(⟨.begin,o.id,[o.item,o.qty,o.client,o.price]⟩,.slice (some ⟨w4.heap.size,0,none⟩) 4 4)],w5.heap.size,1,rfl,rfl,Nat.zero_le _,⟨rfl⟩,⟨rfl⟩,⟨H7.1⟩⟩
    case round=>
     obtain ⟨k,L,g,cap,rfl,rfl,hk,HG,HLM,HR⟩:=hrel;clear H7 H5 H4 H1 HB HBX HDN HMAY;have x0:=HR.1.cB6 2 rfl;have hlx:=HR.1.lt 2 rfl;by_cases hlt:k<o.steps.length
     ·rcases HR.1.shp 5 rfl with ⟨-,hz, -⟩|⟨gs,cap',hv, -, -,hcel⟩;omega;obtain ⟨rfl,rfl⟩:av=some ⟨gs,0,none⟩∧cv=cap':=by cases hv;exact ⟨rfl,rfl⟩
      have s0:wr.cell? ⟨gs,k*2,none⟩=some (.int .i64 o.steps[k].svc):=hcel (k*2+0) _ (Xb o.steps k 0 hlt (by omega));have s1:wr.cell? ⟨gs,k*2+1,none⟩=some (.int .i64 o.steps[k].n):=hcel (k*2+1) _ (Xb o.steps k 1 hlt (by omega));have hgs:=World.block_lt_of_cell? wr _ s0;have HTK:=zk (Qa6 o.id o.steps 0 k hlt);simp only [Nat.zero_add] at HTK;generalize o.steps[k]=sp at *;have hk1:(k:Int)<(o.steps.length:Int):=by omega
      have HLL:As (L.length≤10):=⟨by
       have:=congrArg List.length HLM.1;simp only [List.length_map,List.length_cons,UR,List.length_take] at this;omega⟩
      have HN:=zk (Heap.nAt (n:=wr.heap.size+1) (HR.1.new (.cells #[sp.svc,sp.n] 131)) (.cells #[.int .i64 (k:Int),sp.svc,sp.n] 3) (by simp));have HLT:=zk hlt;clear hcel hv hlt;go_wp2_with (first
       |(go_at_call 101;refine (cey HN.1 _ _ _ _ _).m2 fun w6 h6=>?_;have H6:=zk (h6.new (.cells #[.string (Kd.str .step),o.id,.slice (some ⟨wr.heap.size+1,0,none⟩) 3 3] 171));clear h6)
       |(at_builtin;refine wla H6.1 3 _ 171 3 L.length _ rfl rfl _ _ 204 rfl i0 _ 48 Tryz.underlying204 HI.1.1 HI.1.2.1 HI.1.2.2.1 HI.1.2.2.2 rfl (by decide) rfl ⟨w6.heap.size,0,none⟩ 1 1 [.string (Kd.str .step),.int .i64 o.id,.slice (some ⟨wr.heap.size+1,0,none⟩) 3 3] rfl rfl (fun j u hu=>by rw [addr_add];exact H6.1.cell 0 j rfl (by simpa using hu)) (by simp [Value.oneCell']) (by have:=HLL.1;omega) (by decide) (by omega) ?_;intro g2 cap2 w7 h7 _;have H7:=zk h7;clear h7))
      go_roundg (o.steps.length-(k+1))
      case measure=>have:=HG.1;have:=HLT.1;omega
      case rel=>
       have hL:(L++ [((⟨.step,o.id,[(k:Int),sp.svc,sp.n]⟩,.slice (some ⟨wr.heap.size+1,0,none⟩) 3 3):EV)]).length=L.length+1:=by simp
       refine ⟨k+1,L++ [(⟨.step,o.id,[(k:Int),sp.svc,sp.n]⟩,.slice (some ⟨wr.heap.size+1,0,none⟩) 3 3)],g2,cap2,by rw [hL],by go_num,by have:=HLT.1;omega,⟨by have:=HG.1;have:=HLT.1;omega⟩,⟨by rw [List.map_append,HLM.1,HTK.1];rfl⟩,⟨?_⟩⟩;rw [hL];have h8:=Heap.XJ (k:=3) (size:=1) (H7.1.frt 1 rfl) (by decide) rfl;have h9:=h8.sel (p:= [_,_,_,_,_,_,_,_,_]) [0,4,3,5,6,7,8] 9 rfl (by decide);have h10:=Heap.Qwe (L:=L.map EV.sa) (X:=EV.sa (⟨.step,o.id,[(k:Int),sp.svc,sp.n]⟩,.slice (some ⟨wr.heap.size+1,0,none⟩) 3 3)) h9;have e1:Qe6 (L++ [((⟨.step,o.id,[(k:Int),sp.svc,sp.n]⟩,.slice (some ⟨wr.heap.size+1,0,none⟩) 3 3):EV)])=.all (L.map EV.sa++ [EV.sa (⟨.step,o.id,[(k:Int),sp.svc,sp.n]⟩,.slice (some ⟨wr.heap.size+1,0,none⟩) 3 3)]):=by simp [Qe6]
       rw [e1,QBc];exact h10.frt 1 rfl
     ·obtain rfl:k=o.steps.length:=by omega
      have HLM2:As (L.map (·.1)=QD o):=⟨by rw [HLM.1,List.take_length];rfl⟩;have HLL:As (0<L.length∧L.length≤1000):=⟨by
       have:=congrArg List.length HLM2.1;simp only [QD,List.length_map,List.length_cons,UR] at this;omega⟩
      have HSU:=zk (Qge (l:=L) (HR.1.sel (p:= [_,_,_,_,_,_]) [3,4,0,1,2,5] 6 rfl (by decide)) (by rw [HLM2.1];exact (HBE.1 HX.1).1) HD.1 HLL.1.1 HLL.1.2);rw [HLM2.1] at HSU;have HSG:=zk (fun h=>Qja (c:=c) (es:=QD o) h);have HSD:=zk (YR c (QD o));clear hk HG HLM;generalize c.Qm (QD o)=p at *;obtain ⟨okp,nc⟩:=p;simp only at HH HSU HSG HSD;cases okp
      ·simp only [Bool.false_eq_true,if_false] at HH;go_wp2_with (go_at_call 100;refine HSU.1.mono ?_;rintro en w6 ⟨rfl,A2, -,h6⟩;have H6:=zk h6;clear h6);rw [HH.1];exact bodyPost_ret (v:=.tuple #[.slice none 0 0,.int .i64 5]) (by simp [results,Tryz.results96,go_sem]) rfl ⟨_,rfl,(Heap.Xy (bj:=bj) (A:=A2) (H6.1.sel (p:= [_,_,_,_,_,_]) [0,1,5] 6 rfl (by decide))).nRw 113 7⟩
      ·simp only [if_true] at HH;have hg:=HSG.1 rfl;have hnx:Qc nc.l o.id=some (Led.fresh o o.steps):=by rw [hg.1];exact (HBE.1 HX.1).2
       have HNX:=zk hnx;clear hg hnx;go_wp2_with (go_at_call 100;refine HSU.1.mono ?_;rintro en w6 ⟨rfl,A2, -,h6⟩;clear x0 hlx;have x0:=h6.cB6 4 rfl;have hlx:=h6.lt 4 rfl;have H6:=zk h6;clear h6);have HNOK:=H6.1.Yl;have HOKH:=zk (HNOK.Xo (YZ HNOK.Qf o.id));have HBL:As (nc.Qf.left.length<1000000):=⟨by have:=HNOK.Qf.len;omega⟩;clear HNOK;obtain ⟨-,bm2,bt2,h7⟩:=H6.1.QL;obtain ⟨c0,c1,c2,c3,c4,c5,c6,cf⟩:=h7.cB7 0 rfl;have hlb:=h7.lt 0 rfl;have H7:=zk h7;clear h7;have HGO:As (∀W L,Heap w0 (.cha b bj A2 (nc.hang o.id)::.jrn bj nc.j::L) W→Calls Tryz.prog 131 #[b,(A2 o.id)] W (Sends w0 b bj A2 L ((nc.hang o.id).goes o.id))):=⟨fun W L h=>Vl (c:=nc.hang o.id) h HNX.1 (HSD.1.trans HD.1)⟩;generalize hrg:(nc.hang o.id).goes o.id=rg at *;clear hrg;refine Xh [(0,.f),(1,.f),(2,.f),(3,.s),(4,.f),(5,.s),(6,.e)] ?_;refine vg rfl rfl ?_;apply ex2;intro w' hw';go_simp;rfl;go_simp;refine vg rfl rfl ?_;apply ex2;intro w' hw';go_simp;rfl;go_simp;refine vg rfl rfl ?_;apply ex2;intro w' hw';go_simp;rfl;go_simp;refine vs_ rfl (fun K hK=>?_);go_simp;refine hK _ ?_;clear hK K;refine vg rfl rfl ?_;apply ex2;intro w' hw';go_simp;rfl;go_simp;refine vs_ rfl (fun K hK=>?_);go_simp;refine hK _ ?_;clear hK K;refine ve rfl rfl ?_;go_wp2_with (go_at_call 130;refine (Qqm (H7.1.drew.frt 2 rfl) o.id hi0 hi1 HBL).m2 fun w8 h8=>?_;have H8:=zk (Heap.Xf (c:=nc.hang o.id) HOKH.1 (h8.sel (p:= [_,_,_,_]) [1,2,0,3] 4 rfl (by decide)));clear h8);refine ⟨trivial,?_⟩;go_simp;refine vn ?_;go_simp;clear x0 hlx c0 c1 c2 c3 c4 c5 c6 cf hlb;have x0:=H8.1.cB6 4 rfl;have hlx:=H8.1.lt 4 rfl;obtain ⟨bm3,bt3,⟨c5,c6⟩,⟨c3,cf,hlb⟩,hlk,hlk2⟩:=TD H8.1 hi0 hi1;have hnx2:Qc (nc.hang o.id).l o.id=some (Led.fresh o o.steps):=HNX.1;rw [hnx2] at hlk hlk2;simp only [VQ] at hlk hlk2;clear hnx2;go_wp2_with fail;refine Xh [(0,.f),(1,.f),(2,.f),(3,.f),(4,.s),(5,.f),(6,.s),(7,.s),(8,.e),(9,.f),(10,.f)] ?_;refine vg rfl rfl ?_;apply ex2;intro w' hw';go_simp;rfl;go_simp;refine vg rfl rfl ?_;apply ex2;intro w' hw';go_simp;rfl;go_simp;refine vg rfl rfl ?_;apply ex2;intro w' hw';go_simp;rfl;go_simp;refine vg rfl rfl ?_;apply ex2;intro w' hw';go_simp;rfl;go_simp;refine vs_ rfl (fun K hK=>?_);go_simp;refine hK _ ?_;clear hK K;refine vg rfl rfl ?_;apply ex2;intro w' hw';go_simp;rfl;go_simp;refine vs_ rfl (fun K hK=>?_);go_simp;refine hK _ ?_;clear hK K;refine vs_ rfl (fun K hK=>?_);go_simp;refine hK _ ?_;clear hK K;refine ve rfl rfl ?_;go_wp2_with (go_at_call 131;refine (HGO.1 _ _ H8.1.drew).mono ?_;rintro en w9 ⟨v9,rfl,h9⟩;have H9:=zk h9;clear h9);refine ⟨trivial,?_⟩;go_simp;refine vg rfl rfl ?_;apply ex2;intro w' hw';go_simp;rfl;go_simp;refine vg rfl rfl ?_;apply ex2;intro w' hw';go_simp;rfl;go_simp;refine vn ?_;go_simp;go_wp2_with fail;rw [HH.1];exact bodyPost_ret (v:=.tuple #[v9,.int .i64 0]) (by simp [results,Tryz.results96,go_sem]) rfl ⟨_,rfl,(Heap.Xy (bj:=bj) (A:=A2) (H9.1.sel (p:= [_,_,_,_,_,_,_]) [1,2,0,6] 7 rfl (by decide))).frt 1 rfl⟩)):P:=h
theorem QA8:(Tryz.prog.info? 171).map (fun i=>(i.zero,i.size,i.bytes))=some (some (.agg #[.string ⟨#[]⟩,.int .i64 0,.slice none 0 0]),3,48):=by kernel_rfl
theorem Qja {c:Qa} {es:List Entry} (h:(c.Qm es).1=true):(c.Qm es).2.l=(es.foldl Qa.Qq c).l∧(c.Qm es).2.Qf=c.Qf:=by
 unfold Qa.Qm at h⊢;split at h
 ·rename_i h1;rw [if_pos h1];rw [YH] at h1⊢;split;rename_i h2;rw [if_pos h2] at h1;cases h1
  ·refine ⟨rfl,?_⟩
   show (es.foldl Qa.Qq c).Qf=c.Qf
   have key:∀(es:List Entry) (c:Qa),(es.foldl Qa.Qq c).Qf=c.Qf:=by
    intro es
    induction es with
    |nil=>intro c;rfl
    |cons e r ih=>intro c;exact (ih _).trans (Ym _ _).2.2.2.2
   exact key es c
 cases h
theorem Qth {w0 w:World} {b:Nat} {c:Qa} {R:List SA} {o:Od} {v:Value} (h:Heap w0 (.Xu b c::.slc v 131 2 o.steps.length (Qs o.steps)::R) w) (ho:o.ok):
 Calls Tryz.prog 96 #[b,o.val v] w fun e w'=>∃v',e=.returned (.tuple #[v',.int .i64 (c.begin o).2.1])∧Heap w0 (.slc v' 113 7 (c.begin o).1.length (Qk (c.begin o).1)::.Xu b (c.begin o).2.2::.slc v 131 2 o.steps.length (Qs o.steps)::R) w':=by
 have HH:As (c.begin o=if c.j.down=true then ([],10,c) else
  if (Qc c.l o.id).isSome=true then ([],8,c) else
  if c.most≤(c.opens:Int) then ([],5,c) else
  if (c.Qm (QD o)).1=true then ((((c.Qm (QD o)).2.hang o.id).goes o.id).1,0,(((c.Qm (QD o)).2.hang o.id).goes o.id).2) else ([],5,(c.Qm (QD o)).2)):=⟨rfl⟩
 have HO:=zk ho;have hi0:=ho.id0;have hi1:=ho.id1;have hl3:=ho.len;obtain ⟨av,cv,rfl⟩:=vS2 (h.row 1 rfl);have HBX:=zk ((h.new (.cells (o.cells (.slice av o.steps.length cv)) 32)).frt 1 rfl);have HDN:=zk (Zi HBX.1);obtain ⟨bj,A,h⟩:=h.VD;have HB:=zk (h.new (.cells (o.cells (.slice av o.steps.length cv)) 32));have HMAY:As (∀W L,Heap w0 (.slc (.slice av o.steps.length cv) 131 2 o.steps.length (Qs o.steps)::L) W→Calls Tryz.prog 93 #[o.val (.slice av o.steps.length cv)] W fun e w'=>e=.returned (.bool true)∧Below W.heap.size W w'):=⟨fun W L h=>Qrc o _ W HO.1 (h.row 0 rfl)⟩;clear h ho;obtain ⟨i0,hj0,hj1,hj2,hj3⟩:=info_parts QA8;have HI:=zk (And.intro hj0 (And.intro hj1 (And.intro hj2 hj3)));clear hj0 hj1 hj2 hj3;generalize c.begin o=res at *;unfold Od.val Od.cells at *;have x0:=HB.1.cB6 0 rfl;have hlx:=HB.1.lt 0 rfl;cases hd:c.j.down
 ·rw [hd] at HDN HH;simp only [Bool.false_eq_true,if_false] at HH;have HD:As (c.j.down=false):=⟨hd⟩;clear hd;go_enter Tryz.func96,Tryz.ntmps96;go_wp2_with (first
   |(go_at_call 97;refine HDN.1.m0 ?_)
   |(go_at_call 93;refine (HMAY.1 _ _ (HB.1.frt 3 rfl)).m2 fun w1 hb=>?_;have H1:=zk (HB.1.below hb);clear hb))
  generalize w.heap.size=bx at *;clear x0 hlx;have x0:=H1.1.cB6 0 rfl;have hlx:=H1.1.lt 0 rfl;obtain ⟨bm,bt,⟨c5,c6⟩,⟨c3,cf,hlb⟩,hlk,hlk2⟩:=TD (H1.1.frt 1 rfl) hi0 hi1;cases hx:Qc c.l o.id with
  |some x=>
   simp only [hx,Option.isSome_some,if_true] at HH;rw [hx] at hlk hlk2;simp only [VQ] at hlk hlk2;clear hx;refine Xh [(0,.f),(1,.f),(2,.f),(3,.s),(4,.f),(5,.s),(6,.s),(7,.f),(8,.f)] ?_;refine vg rfl rfl ?_;apply ex2;intro w' hw';go_simp;rfl;go_simp;refine vg rfl rfl ?_;apply ex2;intro w' hw';go_simp;rfl;go_simp;refine vg rfl rfl ?_;apply ex2;intro w' hw';go_simp;rfl;go_simp;refine vs_ rfl (fun K hK=>?_);go_simp;refine hK _ ?_;clear hK K;refine vg rfl rfl ?_;apply ex2;intro w' hw';go_simp;rfl;go_simp;refine vs_ rfl (fun K hK=>?_);go_simp;refine hK _ ?_;clear hK K;refine vs_ rfl (fun K hK=>?_);go_simp;refine hK _ ?_;clear hK K;refine vg rfl rfl ?_;apply ex2;intro w' hw';go_simp;rfl;go_simp;refine vg rfl rfl ?_;apply ex2;intro w' hw';go_simp;rfl;go_simp;refine vn ?_;go_simp;go_wp2_with fail;rw [HH.1];exact bodyPost_ret (v:=.tuple #[.slice none 0 0,.int .i64 8]) (by simp [results,Tryz.results96,go_sem]) rfl ⟨_,rfl,(Heap.Xy (bj:=bj) (A:=A) (H1.1.drew.sel (p:= [_,_,_,_]) [1,2,3] 4 rfl (by decide))).nRw 113 7⟩
  |none=>
   simp only [hx,Option.isSome_none,Bool.false_eq_true,if_false] at HH;rw [hx] at hlk hlk2;simp only [VQ] at hlk hlk2;have HX:=zk hx;clear hx;refine Xh [(0,.f),(1,.f),(2,.f),(3,.s),(4,.f),(5,.s),(6,.s),(7,.f),(8,.f)] ?_;refine vg rfl rfl ?_;apply ex2;intro w' hw';go_simp;rfl;go_simp;refine vg rfl rfl ?_;apply ex2;intro w' hw';go_simp;rfl;go_simp;refine vg rfl rfl ?_;apply ex2;intro w' hw';go_simp;rfl;go_simp;refine vs_ rfl (fun K hK=>?_);go_simp;refine hK _ ?_;clear hK K;refine vg rfl rfl ?_;apply ex2;intro w' hw';go_simp;rfl;go_simp;refine vs_ rfl (fun K hK=>?_);go_simp;refine hK _ ?_;clear hK K;refine vs_ rfl (fun K hK=>?_);go_simp;refine hK _ ?_;clear hK K;refine vg rfl rfl ?_;apply ex2;intro w' hw';go_simp;rfl;go_simp;refine vg rfl rfl ?_;apply ex2;intro w' hw';go_simp;rfl;go_simp;refine vn ?_;go_simp;go_wp2_with fail;have H2:=zk H1.1.drew;generalize w1.drew=w2 at *;clear x0 hlx hlk hlk2 c5 c6 c3 cf hlb;have x0:=H2.1.cB6 0 rfl;have hlx:=H2.1.lt 0 rfl;obtain ⟨-,bm,bt,h3⟩:=(H2.1.frt 1 rfl).QL;obtain ⟨c0,c1,c2,c3,c4,c5,c6,cf⟩:=h3.cB7 0 rfl;have hlb:=h3.lt 0 rfl;clear h3;have HMO:As (∀W L,Heap w0 (.cha b bj A c::L) W→W.cell? ⟨b,0,none⟩=some (.int .i64 c.most)):=⟨fun W L h=>by
    obtain ⟨-,bm,bt,h⟩:=h.QL;exact h.cell 0 0 rfl rfl⟩
   by_cases hop:c.most≤(c.opens:Int);have hob:decide (c.most≤(c.opens:Int))=true:=by simpa using hop
   simp only [if_pos hop] at HH;have tg:=Tg.mk 1;exact QCh;have hob:decide (c.most≤(c.opens:Int))=false:=by simpa using hop
   simp only [if_neg hop] at HH;have tg:=Tg.mk 2;exact QCh
 ·rw [hd] at HDN HH;simp only [if_true] at HH;clear hd;go_enter Tryz.func96,Tryz.ntmps96;go_wp2_with (go_at_call 97;refine HDN.1.m0 ?_);rw [HH.1];exact bodyPost_ret (v:=.tuple #[.slice none 0 0,.int .i64 10]) (by simp [results,Tryz.results96,go_sem]) rfl ⟨_,rfl,(HBX.1.sel (p:= [_,_,_]) [0,2] 3 rfl (by decide)).nRw 113 7⟩
end Go.Proofs.YtlnghlamnehfjaaGreatDoor.S
