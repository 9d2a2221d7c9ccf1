/- Part Q24. -/
import Derived.Test.YtlnghlamnehfjaaGreatDoorQ21
import Derived.Test.YtlnghlamnehfjaaGreatDoorQ23
set_option linter.unusedVariables false
set_option linter.unusedSimpArgs false
set_option maxRecDepth 100000
set_option maxHeartbeats 64000000
namespace Go.Proofs.YtlnghlamnehfjaaGreatDoor.S
open Go.RowKit Go.Maps
section
variable {w0 w:World}
theorem Heap.QCj:∀{l R:List SA},Heap w0 (l++R) w→Heap w0 R w
 | [],_,h=>h
 |_::l,R,h=>Heap.QCj (l:=l) (Heap.drop h)
theorem Heap.sel {p R:List SA} (h:Heap w0 (p++R) w) (is:List Nat) (n:Nat) (hn:p.length=n) (hd:(is++(List.range n).filter (fun i=>!is.contains i)).isPerm (List.range n)=true):Heap w0 (is.map (fun i=>p.getD i .emp)++R) w:=by
 have hp:=(List.isPerm_iff.1 hd).map (fun i=>p.getD i .emp);have e:(List.range n).map (fun i=>p.getD i .emp)=p:=by
  subst hn;apply List.ext_getElem;simp;intro i h1 h2;simp at h1;simp [h1]
 rw [e,List.map_append] at hp;have h2:=h.perm (hp.symm.append_right R);have h3:Heap w0 ((((List.range n).filter (fun i=>!is.contains i)).map (fun i=>p.getD i .emp))++((is.map (fun i=>p.getD i .emp))++R)) w:=by
  refine h2.perm ?_;rw [←List.append_assoc];exact (List.perm_append_comm).append_right R
 exact h3.QCj
end
structure LdA where
 vs:Value
 vd:Value
 vu:Value
 tb:Nat
def Led.tp (x:Led) (tb:Nat):Value:=match x.t with
 |none=>.pointer none
 |some _=>.pointer (some ⟨tb,0,none⟩)
def Led.tsa (x:Led) (tb:Nat):SA:=match x.t with
 |none=>.emp
 |some (a,b)=>.tally tb a b
def Led.cells (x:Led) (vs vd vu tp:Value):Array Value:= #[x.o.id,x.o.item,x.o.qty,x.o.client,x.o.price,vs,vd,vu,.bool x.f.asked,.bool x.f.yes,.bool x.f.turned,.bool x.f.ack0,.bool x.f.ack1,.bool x.f.shipped,.bool x.f.dam0,.bool x.f.dam1,.bool x.f.accepted,tp]
structure LdA.ok (p:LdA) (x:Led):Prop where
 s:x.o.steps.length=0→p.vs=.slice none 0 0
 d:x.f.done.length=0→p.vd=.slice none 0 0
 u:x.f.undone.length=0→p.vu=.slice none 0 0
def Led.parts (x:Led) (b:Nat) (p:LdA):List SA:= [.pts b (.cells (x.cells p.vs p.vd p.vu (x.tp p.tb)) 125),.slc p.vs 131 2 x.o.steps.length (Qs x.o.steps),.slc p.vd 4 1 x.f.done.length (bools x.f.done),.slc p.vu 4 1 x.f.undone.length (bools x.f.undone),x.tsa p.tb]
def SA.led (b:Nat) (x:Led):SA:=.ex fun p:LdA=>.when (p.ok x) (.all (x.parts b p))
section
variable {w0 w:World} {b:Nat} {x:Led} {R:List SA}
theorem Heap.Xm (h:Heap w0 (.led b x::R) w):∃vs vd vu tb,LdA.ok ⟨vs,vd,vu,tb⟩ x∧Heap w0 (.pts b (.cells (x.cells vs vd vu (x.tp tb)) 125)::.slc vs 131 2 x.o.steps.length (Qs x.o.steps)::.slc vd 4 1 x.f.done.length (bools x.f.done)::.slc vu 4 1 x.f.undone.length (bools x.f.undone)::x.tsa tb::R) w:=by
 obtain ⟨p,h⟩:=h.YL;obtain ⟨hp,h⟩:=h.QT;exact ⟨p.vs,p.vd,p.vu,p.tb,hp,Heap.spread (l:=x.parts b p) h⟩
theorem Heap.YF {vs vd vu:Value} {tb:Nat} (hp:LdA.ok ⟨vs,vd,vu,tb⟩ x) (h:Heap w0 (.pts b (.cells (x.cells vs vd vu (x.tp tb)) 125)::.slc vs 131 2 x.o.steps.length (Qs x.o.steps)::.slc vd 4 1 x.f.done.length (bools x.f.done)::.slc vu 4 1 x.f.undone.length (bools x.f.undone)::x.tsa tb::R) w):Heap w0 (.led b x::R) w:=
 Heap.Yr (f:=fun p:LdA=>.when (p.ok x) (.all (x.parts b p))) ⟨vs,vd,vu,tb⟩ (Heap.QZ hp (Heap.gather (l:=x.parts b ⟨vs,vd,vu,tb⟩) h))
theorem Heap.cA8 {a0 a1 a2 a3 a4 a5 a6 a7 a8 a9 a10 a11 a12 a13 a14 a15 a16 a17:Value} {T:TypeId} {l:List SA} (h:Heap w0 l w) (i:Nat) (e:l[i]? =some (.pts b (.cells #[a0,a1,a2,a3,a4,a5,a6,a7,a8,a9,a10,a11,a12,a13,a14,a15,a16,a17] T (0,0)))):
 w.cell? ⟨b,0,none⟩=some a0∧w.cell? ⟨b,1,none⟩=some a1∧w.cell? ⟨b,2,none⟩=some a2∧w.cell? ⟨b,3,none⟩=some a3∧w.cell? ⟨b,4,none⟩=some a4∧w.cell? ⟨b,5,none⟩=some a5∧w.cell? ⟨b,6,none⟩=some a6∧w.cell? ⟨b,7,none⟩=some a7∧w.cell? ⟨b,8,none⟩=some a8∧w.cell? ⟨b,9,none⟩=some a9∧w.cell? ⟨b,10,none⟩=some a10∧w.cell? ⟨b,11,none⟩=some a11∧w.cell? ⟨b,12,none⟩=some a12∧w.cell? ⟨b,13,none⟩=some a13∧w.cell? ⟨b,14,none⟩=some a14∧w.cell? ⟨b,15,none⟩=some a15∧w.cell? ⟨b,16,none⟩=some a16∧w.cell? ⟨b,17,none⟩=some a17∧(∀j,w.frozen? ⟨b,j,none⟩=false):=
 ⟨h.cell i 0 e rfl,h.cell i 1 e rfl,h.cell i 2 e rfl,h.cell i 3 e rfl,h.cell i 4 e rfl,h.cell i 5 e rfl,h.cell i 6 e rfl,h.cell i 7 e rfl,h.cell i 8 e rfl,h.cell i 9 e rfl,h.cell i 10 e rfl,h.cell i 11 e rfl,h.cell i 12 e rfl,h.cell i 13 e rfl,h.cell i 14 e rfl,h.cell i 15 e rfl,h.cell i 16 e rfl,h.cell i 17 e rfl,fun j=>h.frz i j e⟩
end
def SA.cha (b bj:Nat) (A:Int→Nat) (c:Qa):SA:=.when c.ok (.ex fun p:Nat×Nat=>.all [.pts b (.cells #[c.most,c.room,c.tries,bj,c.used,.map (some p.1),p.2] 121),.book p.1 (fun k=>.pointer (some ⟨A k,0,none⟩)) (fun k x=>.led (A k) x) c.l,.tower p.2 c.Qf])
def SA.Xu (b:Nat) (c:Qa):SA:=.ex fun q:Nat×(Int→Nat)=>.all [.cha b q.1 q.2 c,.jrn q.1 c.j]
section
variable {w0 w:World} {b bj bm bt:Nat} {A:Int→Nat} {c:Qa} {R:List SA}
abbrev chc (c:Qa) (bj bm bt:Nat):Array Value:= #[c.most,c.room,c.tries,bj,c.used,.map (some bm),bt]
abbrev leds (A:Int→Nat) (bm:Nat) (l:IM Led):SA:=.book bm (fun k=>.pointer (some ⟨A k,0,none⟩)) (fun k x=>.led (A k) x) l
theorem Heap.QL (h:Heap w0 (.cha b bj A c::R) w):c.ok∧∃bm bt,Heap w0 (.pts b (.cells (chc c bj bm bt) 121)::leds A bm c.l::.tower bt c.Qf::R) w:=by
 obtain ⟨hp,h⟩:=h.QT;obtain ⟨p,h⟩:=h.YL;exact ⟨hp,p.1,p.2,Heap.spread (l:= [_,_,_]) h⟩
theorem Heap.Xf (hp:c.ok) (h:Heap w0 (.pts b (.cells (chc c bj bm bt) 121)::leds A bm c.l::.tower bt c.Qf::R) w):Heap w0 (.cha b bj A c::R) w:=
 Heap.QZ hp (Heap.Yr (f:=fun p:Nat×Nat=>.all [.pts b (.cells #[c.most,c.room,c.tries,bj,c.used,.map (some p.1),p.2] 121),.book p.1 (fun k=>.pointer (some ⟨A k,0,none⟩)) (fun k x=>.led (A k) x) c.l,.tower p.2 c.Qf]) (bm,bt) (Heap.gather (l:= [_,_,_]) h))
theorem Heap.VD (h:Heap w0 (.Xu b c::R) w):∃bj A,Heap w0 (.cha b bj A c::.jrn bj c.j::R) w:=by
 obtain ⟨q,h⟩:=h.YL;exact ⟨q.1,q.2,Heap.spread (l:= [_,_]) h⟩
theorem Heap.Xy (h:Heap w0 (.cha b bj A c::.jrn bj c.j::R) w):Heap w0 (.Xu b c::R) w:=
 Heap.Yr (f:=fun q:Nat×(Int→Nat)=>.all [.cha b q.1 q.2 c,.jrn q.1 c.j]) (bj,A) (Heap.gather (l:= [_,_]) h)
theorem Heap.Yl (h:Heap w0 (.cha b bj A c::R) w):c.ok:=h.QT.1
theorem Heap.Qq3 (j':Jrn) (h:Heap w0 (.cha b bj A c::R) w):Heap w0 (.cha b bj A {c with j:=j'}::R) w:=by
 obtain ⟨hp,bm,bt,h⟩:=h.QL;exact Heap.Xf (c:= {c with j:=j'}) ⟨hp.keys,hp.led,hp.Qf,hp.t0,hp.t1,hp.r1,hp.used0,hp.used1⟩ h
theorem Heap.Zu (h:Heap w0 (.cha b bj A c::R) w) {id:Int} {x:Led} (hx:Qc c.l id=some x):
 c.ok∧∃bm bt,Heap w0 (.led (A id) x::.pts b (.cells (chc c bj bm bt) 121)::.map bm (QE (fun k=>.pointer (some ⟨A k,0,none⟩)) c.l)::bks (fun k x=>.led (A k) x) (QI c.l id)::.tower bt c.Qf::R) w:=by
 obtain ⟨hp,bm,bt,h⟩:=h.QL;obtain ⟨hk,h⟩:=(h.frt 1 rfl).Qqv hx;exact ⟨hp,bm,bt,((h.frt 3 rfl).frt 2 rfl)⟩
theorem Heap.Fe {id:Int} {x x':Led} {c':Qa} (hp:c.ok) (hp':c'.ok) (hx:Qc c.l id=some x) (e:c'= {c with used:=c'.used,l:=Qt c.l id x',Qf:=c'.Qf})
 (h:Heap w0 (.led (A id) x'::.pts b (.cells (chc c' bj bm bt) 121)::.map bm (QE (fun k=>.pointer (some ⟨A k,0,none⟩)) c.l)::bks (fun k x=>.led (A k) x) (QI c.l id)::.tower bt c'.Qf::R) w):Heap w0 (.cha b bj A c'::R) w:=by
 have h2:Heap w0 (leds A bm (Qt c.l id x')::.pts b (.cells (chc c' bj bm bt) 121)::.tower bt c'.Qf::R) w:=by
  refine Heap.Qhg (val:=fun k=>.pointer (some ⟨A k,0,none⟩)) hp.keys hx ?_;exact (h.frt 3 rfl |>.frt 1 rfl |>.frt 3 rfl)
 refine Heap.Xf hp' (bm:=bm) (bt:=bt) ?_;have e2:c'.l=Qt c.l id x':=by rw [e]
 rw [←e2] at h2;exact h2.frt 1 rfl
theorem Heap.Qer {id:Int} {x:Led} (hp:c.ok) (hx:Qc c.l id=some x)
 (h:Heap w0 (.led (A id) x::.pts b (.cells (chc c bj bm bt) 121)::.map bm (QE (fun k=>.pointer (some ⟨A k,0,none⟩)) c.l)::bks (fun k x=>.led (A k) x) (QI c.l id)::.tower bt c.Qf::R) w):Heap w0 (.cha b bj A c::R) w:=by
 refine Heap.Fe hp hp hx ?_ h;rw [Jm hp.keys.1 hx]
end
section
variable {w0 w:World} {b:Nat} {x:Led} {R:List SA}
theorem Led.ok.ofs {k:Int} (hx:x.ok k) {vs vd vu:Value} {tb:Nat} (hp:LdA.ok ⟨vs,vd,vu,tb⟩ x) {W:World} (h1:W.ownsRow 0 131 2 vs x.o.steps.length (Qs x.o.steps)) (h2:W.ownsRow 0 4 1 vd x.f.done.length (bools x.f.done)) (h3:W.ownsRow 0 4 1 vu x.f.undone.length (bools x.f.undone)):OFs W x.o x.f vs vd vu:=
 ⟨hx.o,hx.may,h1,h2,h3,hp.u⟩
theorem Qj3 (h:Heap w0 (.led b x::R) w):CE 98 #[b] w (.bool x.decided):=by
 obtain ⟨vs,vd,vu,tb,hp,h⟩:=h.Xm;obtain ⟨c0,c1,c2,c3,c4,c5,c6,c7,c8,c9,c10,c11,c12,c13,c14,c15,c16,c17,cf⟩:=h.cA8 0 rfl;have HD:As (x.decided=(x.f.yes||x.f.turned)):=⟨rfl⟩;clear h hp;cases hy:x.f.yes;all_goals
  rw [hy] at c9 HD;clear hy;go_enter Tryz.func98,Tryz.ntmps98;go_wp2;go_ret;exact ⟨by rw [HD.1];rfl,rfl⟩
theorem Qee (h:Heap w0 (.led b x::R) w) {k:Int} (hx:x.ok k):Calls Tryz.prog 102 #[b] w fun e w'=>e=.returned (.bool x.over)∧Below w.heap.size w w':=by
 obtain ⟨vs,vd,vu,tb,hp,h⟩:=h.Xm;have c0:=h.cA8 0 rfl;have HO:As (∀W,Heap w [] W→Calls Tryz.prog 32 #[x.o.val vs,x.f.val vd vu] W fun e w'=>e=.returned (.bool x.over)∧Below W.heap.size W w'):=⟨fun W hW=>Qqn x.o x.f vs vd vu W hW.tab ((hx.ofs hp (h.row 1 rfl) (h.row 2 rfl) (h.row 3 rfl)).below hW.bel)⟩;have HG:=zk (Heap.start h.tab);obtain ⟨asl,cs,rfl⟩:=vS2 (h.row 1 rfl);obtain ⟨ad,cd,rfl⟩:=vS2 (h.row 2 rfl);obtain ⟨au,cu,rfl⟩:=vS2 (h.row 3 rfl);have hlb:=h.lt 0 rfl;clear h hp hx;unfold Od.val Facts.val at HO;go_enter Tryz.func102,Tryz.ntmps102;go_wp2_with fail;refine Xh [(0,.f),(1,.f),(2,.f),(3,.s),(4,.f),(5,.f),(6,.f),(7,.s),(8,.e),(9,.f)] ?_;repeat (first
  |refine vR ?_
  |(refine ve rfl rfl ?_;go_wp2_with (go_at_call 32;refine (HO.1 _ HG.1.drew).m2 fun w1 hb=>?_;have HB1:=zk ((Below.refl _ w).drew.trans hb);clear hb);refine ⟨trivial,?_⟩;go_simp))
 refine vn ?_;go_simp;go_wp2_with fail;go_ret;exact ⟨rfl,HB1.1⟩
end
theorem Qku {P:Prop} (h:P:=by
 obtain ⟨vs,vd,vu,tb,hp,h⟩:=h.Xm;have c0:=h.cA8 0 rfl;have hlb:=h.lt 0 rfl;have HP:=zk hp;have H:=zk h;clear h hp;unfold Kd.str;go_enter Tryz.func175,Tryz.ntmps175;go_wp2;go_end0;refine ⟨rfl,Heap.YF (vs:=vs) (vd:=vd) (vu:=vu) (tb:=tb) ⟨HP.1.s,HP.1.d,HP.1.u⟩ ?_⟩;first
  |(have ty:Tg 1:=tg;exact (H.1.sAt 0 13 (.bool true) rfl))
  |(have ty:Tg 2:=tg;have h9:=((H.1.sAt 0 9 (.bool true) rfl).sAt 0 17 (.pointer none) rfl);exact Heap.sel (p:= [_,_,_,_,_]) ((h9.frt 4 rfl).drop).ZM [1,2,3,4,0] 5 rfl (by decide))
  |(have ty:Tg 3:=tg;have h9:=((H.1.sAt 0 10 (.bool true) rfl).sAt 0 17 (.pointer none) rfl);exact Heap.sel (p:= [_,_,_,_,_]) ((h9.frt 4 rfl).drop).ZM [1,2,3,4,0] 5 rfl (by decide))
  |(have ty:Tg 4:=tg;exact (H.1.sAt 0 11 (.bool true) rfl))
  |(have ty:Tg 5:=tg;exact (H.1.sAt 0 12 (.bool true) rfl))):P:=h
theorem QCb {P:Prop} (h:P:=by
 obtain ⟨vs,vd,vu,tb,hp,h⟩:=h.Xm;have c0:=h.cA8 0 rfl;have hlb:=h.lt 0 rfl;have HP:=zk hp;have H:=zk h;clear h hp;unfold Kd.str;have hw0:(IntKind.i64.wrap 0).toNat=0:=by decide
 have hw1:(IntKind.i64.wrap 1).toNat=1:=by decide
 go_enter Tryz.func175,Tryz.ntmps175;go_wp2_with fail;refine Xh [(0,.f),(1,.f),(2,.f),(3,.f),(4,.f),(5,.f),(6,.f),(7,.f),(8,.f),(9,.f),(11,.f),(12,.f),(13,.f),(10,.e),(14,.f),(15,.e)] ?_;repeat (first
  |(refine vg rfl rfl ?_;apply ex2;intro w' hw';go_simp;(try simp only [hw0,hw1,Nat.reduceAdd]);rfl;go_simp)
  |(refine vs_ rfl (fun K hK=>?_);go_simp;refine hK _ ?_;clear hK K)
  |(refine ve rfl rfl ?_;try simp only [Nat.reduceAdd]
    go_wp2_with fail;refine ⟨trivial,?_⟩;go_simp))
 refine vn ?_;go_simp;go_wp2_with fail;go_end0;refine ⟨rfl,Heap.YF (vs:=vs) (vd:=vd) (vu:=vu) (tb:=tb) ⟨HP.1.s,HP.1.d,HP.1.u⟩ ?_⟩;first
  |(have ty:Tg 1:=tg;exact ((H.1.sAt 0 14 (.bool true) rfl).sAt 0 11 (.bool true) rfl).drew)
  |(have ty:Tg 2:=tg;exact ((H.1.sAt 0 15 (.bool true) rfl).sAt 0 12 (.bool true) rfl).drew)):P:=h
section
variable {w0 w:World} {b:Nat} {x:Led} {R:List SA}
def Zd (w0:World) (b:Nat) (x:Led) (R:List SA) (e:Ending) (w':World):Prop:=e=.returned (.tuple #[])∧Heap w0 (.led b x::R) w'
theorem Qed (h:Heap w0 (.led b x::R) w) (n:Int):Calls Tryz.prog 175 #[b,.string (Kd.str .shipped),.int .i64 n] w (Zd w0 b (x.facts .shipped n) R):=by
 have tg:=Tg.mk 1;exact Qku
theorem Qmy (h:Heap w0 (.led b x::R) w) (n:Int):Calls Tryz.prog 175 #[b,.string (Kd.str .yes),.int .i64 n] w (Zd w0 b (x.facts .yes n) R):=by
 have tg:=Tg.mk 2;exact Qku
theorem Qlr (h:Heap w0 (.led b x::R) w) (n:Int):Calls Tryz.prog 175 #[b,.string (Kd.str .turn),.int .i64 n] w (Zd w0 b (x.facts .turn n) R):=by
 have tg:=Tg.mk 3;exact Qku
theorem Qma (h:Heap w0 (.led b x::R) w):Calls Tryz.prog 175 #[b,.string (Kd.str .ack),.int .i64 1] w (Zd w0 b (x.facts .ack 1) R):=by
 have tg:=Tg.mk 4;exact Qku
theorem Ql7 (h:Heap w0 (.led b x::R) w):Calls Tryz.prog 175 #[b,.string (Kd.str .ack),.int .i64 2] w (Zd w0 b (x.facts .ack 2) R):=by
 have tg:=Tg.mk 5;exact Qku
theorem Qij (h:Heap w0 (.led b x::R) w) (n:Int):Calls Tryz.prog 175 #[b,.string (Kd.str .asked),.int .i64 n] w (Zd w0 b (x.facts .asked n) R):=by
 obtain ⟨vs,vd,vu,tb,hp,h⟩:=h.Xm;have c0:=h.cA8 0 rfl;have hlb:=h.lt 0 rfl;have HP:=zk hp;have HN:=zk (QAr h);have HG:As (∀W L,Heap w0 (.pts b (.cells (x.cells vs vd vu (x.tp tb)) 125)::L) W→b<W.heap.size):=⟨fun W L h=>h.lt 0 rfl⟩;clear h hp;unfold Kd.str;go_enter Tryz.func175,Tryz.ntmps175;go_wp2_with (go_at_call 181;refine HN.1.mono ?_;rintro e w1 ⟨t,rfl,h1⟩;clear c0 hlb;have c0:=h1.cA8 1 rfl;have hlb:=h1.lt 1 rfl;have H1:=zk h1;clear h1);go_end0;refine ⟨rfl,Heap.YF (vs:=vs) (vd:=vd) (vu:=vu) (tb:=t) ⟨HP.1.s,HP.1.d,HP.1.u⟩ ?_⟩;have h9:=((H1.1.sAt 1 8 (.bool true) rfl).sAt 1 17 (.pointer (some ⟨t,0,none⟩)) rfl);have h8:=(h9.frt 5 rfl).drop;have h7:=((((h8.frt 4 rfl).frt 4 rfl).frt 4 rfl).frt 4 rfl);exact h7
theorem Qmj (h:Heap w0 (.led b x::R) w) (k:Nat) (hk:k<x.f.done.length):Calls Tryz.prog 175 #[b,.string (Kd.str .done),.int .i64 (k:Int)] w (Zd w0 b (x.facts .done (k:Int)) R):=by
 obtain ⟨vs,vd,vu,tb,hp,h⟩:=h.Xm;have c0:=h.cA8 0 rfl;have hlb:=h.lt 0 rfl;have HP:=zk hp;obtain ⟨a,cap,rfl⟩:=vS2 (h.row 2 rfl);rcases h.shp 2 rfl with ⟨-,h0, -⟩|⟨g,cap',hv, -, -, -⟩;omega
 ·obtain ⟨rfl,rfl⟩:a=some ⟨g,0,none⟩∧cap=cap':=by cases hv;exact ⟨rfl,rfl⟩
  have hc:=(h.Zx 2 rfl rfl).1 k hk;have hfz:=(h.Zx 2 rfl rfl).2;have hlg:=World.block_lt_of_cell? w _ hc;have hk1:(k:Int)<(x.f.done.length:Int):=by omega
  have hk0:(0:Int)≤(k:Int):=by omega
  have H:=zk (h.Qal 2 rfl k (.bool true));clear h hp hv;have HE:As ((bools x.f.done).set k (.bool true)=bools (x.f.done.set k true)):=⟨by simp [bools,List.map_set]⟩;have HL:As ((x.f.done.set k true).length=x.f.done.length):=⟨by simp⟩;generalize x.f.done[k]=bk at *;unfold Kd.str;go_enter Tryz.func175,Tryz.ntmps175;go_wp2;go_end0;refine ⟨rfl,Heap.YF (vs:=vs) (vd:=.slice (some ⟨g,0,none⟩) x.f.done.length cap) (vu:=vu) (tb:=tb) ⟨HP.1.s,fun e=>HP.1.d (HL.1.symm.trans e),HP.1.u⟩ ?_⟩;have h9:=H.1;rw [HE.1] at h9;have e:(x.facts .done (k:Int)).f.done=x.f.done.set k true:=by simp [Led.facts]
  rw [e,HL.1];exact h9
theorem Qe4 (h:Heap w0 (.led b x::R) w) (k:Nat) (hk:k<x.f.undone.length):Calls Tryz.prog 175 #[b,.string (Kd.str .undone),.int .i64 (k:Int)] w (Zd w0 b (x.facts .undone (k:Int)) R):=by
 obtain ⟨vs,vd,vu,tb,hp,h⟩:=h.Xm;have c0:=h.cA8 0 rfl;have hlb:=h.lt 0 rfl;have HP:=zk hp;obtain ⟨a,cap,rfl⟩:=vS2 (h.row 3 rfl);rcases h.shp 3 rfl with ⟨-,h0, -⟩|⟨g,cap',hv, -, -, -⟩;omega
 ·obtain ⟨rfl,rfl⟩:a=some ⟨g,0,none⟩∧cap=cap':=by cases hv;exact ⟨rfl,rfl⟩
  have hc:=(h.Zx 3 rfl rfl).1 k hk;have hfz:=(h.Zx 3 rfl rfl).2;have hlg:=World.block_lt_of_cell? w _ hc;have hk1:(k:Int)<(x.f.undone.length:Int):=by omega
  have hk0:(0:Int)≤(k:Int):=by omega
  have H:=zk (h.Qal 3 rfl k (.bool true));clear h hp hv;have HE:As ((bools x.f.undone).set k (.bool true)=bools (x.f.undone.set k true)):=⟨by simp [bools,List.map_set]⟩;have HL:As ((x.f.undone.set k true).length=x.f.undone.length):=⟨by simp⟩;generalize x.f.undone[k]=bk at *;unfold Kd.str;go_enter Tryz.func175,Tryz.ntmps175;go_wp2;go_end0;refine ⟨rfl,Heap.YF (vs:=vs) (vd:=vd) (vu:=.slice (some ⟨g,0,none⟩) x.f.undone.length cap) (tb:=tb) ⟨HP.1.s,HP.1.d,fun e=>HP.1.u (HL.1.symm.trans e)⟩ ?_⟩;have h9:=H.1;rw [HE.1] at h9;have e:(x.facts .undone (k:Int)).f.undone=x.f.undone.set k true:=by simp [Led.facts]
  rw [e,HL.1];exact h9
theorem Qd2 (h:Heap w0 (.led b x::R) w):Calls Tryz.prog 175 #[b,.string (Kd.str .damage),.int .i64 1] w (Zd w0 b (x.facts .damage 1) R):=by
 have tg:=Tg.mk 1;exact QCb
theorem Qca (h:Heap w0 (.led b x::R) w):Calls Tryz.prog 175 #[b,.string (Kd.str .damage),.int .i64 2] w (Zd w0 b (x.facts .damage 2) R):=by
 have tg:=Tg.mk 2;exact QCb
end
theorem QAo:∀w,(zeroValue 117).run Tryz.prog w=.ok (.pointer none) w:=fun _=>by kernel_rfl
def Qxl (id a q d p:Int):Led:=⟨⟨id,a,q,d,p,[]⟩,.zero,none⟩
theorem Heap.QA6 {w0 w:World} {R:List SA} {nb:Nat} {id a q d p:Int} (h:Heap w0 (.pts nb (.cells #[id,.int .i64 a,.int .i64 q,.int .i64 d,.int .i64 p,.slice none 0 0,.slice none 0 0,.slice none 0 0,.bool false,.bool false,.bool false,.bool false,.bool false,.bool false,.bool false,.bool false,.bool false,.pointer none] 125)::R) w):Heap w0 (.led nb (Qxl id a q d p)::R) w:=by
 refine Heap.YF (vs:=.slice none 0 0) (vd:=.slice none 0 0) (vu:=.slice none 0 0) (tb:=0) ⟨fun _=>rfl,fun _=>rfl,fun _=>rfl⟩ ?_;have h2:=(((h.nRw 131 2).nRw 4 1).nRw 4 1).ZM;exact h2.sel (p:= [_,_,_,_,_]) [4,3,2,1,0] 5 rfl (by decide)
theorem Qpl {w0 w:World} {b bj:Nat} {A:Int→Nat} {c:Qa} {R:List SA} {id a q d p:Int} {v:Value} (h:Heap w0 (.cha b bj A c::.slc v 3 1 4 ([a,q,d,p].map (Value.int .i64))::R) w) (ho:(⟨id,a,q,d,p,[]⟩:Od).ok) (hn:Qc c.l id=none):
 Calls Tryz.prog 174 #[b,.agg #[.string (Kd.str .begin),id,v]] w fun en w'=>en=.returned (.tuple #[])∧∃A',(∀k,k≠id→A' k=A k)∧Heap w0 (.cha b bj A' {c with l:=Qt c.l id (Qxl id a q d p)}::.slc v 3 1 4 ([a,q,d,p].map (Value.int .i64))::R) w':=by
 obtain ⟨hp,bm,bt,h⟩:=h.QL;obtain ⟨hk,h⟩:=(h.frt 1 rfl).YT;have h0:=ho.id0;have h1:=ho.id1;have hlen:=hk.len;rcases h.shp 4 rfl with ⟨-,hz, -⟩|⟨g,cap,rfl, -, -,hcel⟩;omega;have HO:=zk ho;have HN:=zk hn;have HP:=zk hp;have HK:=zk hk;have hb1:=h.new (.cells #[.string (Kd.str .begin),id,.slice (some ⟨g,0,none⟩) 4 cap] 171);have H:=zk h;clear h hp hk hn ho hcel;go_enter Tryz.func174,Tryz.ntmps174;go_wp2_with fail;generalize hW1:w.alloc (.cells #[.string (Kd.str .begin),id,.slice (some ⟨g,0,none⟩) 4 cap] 171)=W1 at hb1⊢;generalize w.heap.size=pe at hb1⊢;have z0:=hb1.cB3 0 rfl;have c0:=hb1.cB7 3 rfl;rcases hb1.shp 5 rfl with ⟨-,hz, -⟩|⟨g',cap',hv, -, -,hcel⟩;omega;obtain ⟨rfl,rfl⟩:g=g'∧cap=cap':=by cases hv;exact ⟨rfl,rfl⟩
 have n0:=hcel 0 _ rfl;have n1:=hcel 1 _ rfl;have n2:=hcel 2 _ rfl;have n3:=hcel 3 _ rfl;have H1:=zk hb1;clear hb1 hcel hv hW1;have hmn:As ((QE (fun k=>Value.pointer (some ⟨A k,0,none⟩)) c.l).length<1000000):=⟨by simp [QE];omega⟩;refine wro (fun W=>W.cell? ⟨b,5,none⟩=some (.map (some bm))∧W.cell? ⟨pe,1,none⟩=some (.int .i64 id)) [(0,.f),(1,.f),(2,.f),(3,.f),(4,.f),(5,.f),(6,.f),(7,.s),(8,.f),(9,.s),(10,.f),(11,.s),(12,.f),(13,.s),(14,.f),(15,.s),(16,.f),(17,.s),(18,.f),(19,.s),(20,.f),(21,.s),(22,.f),(23,.s),(24,.f),(25,.f),(26,.e),(27,.e)] ⟨c0.2.2.2.2.2.1,z0.2.1⟩ ?_;repeat (first
  |(refine vg rfl rfl ?_;apply ex2;intro w' hw';obtain ⟨hm5,hm1⟩:=hw';go_simp;rfl;go_simp)
  |(refine vs_ rfl (fun K hK=>?_);go_simp;refine hK _ ?_;clear hK K)
  |(refine ve rfl rfl ?_;go_wp2_with fail;have H2:=zk (H1.1.new (.cells #[id,.int .i64 a,.int .i64 q,.int .i64 d,.int .i64 p,.slice none 0 0,.slice none 0 0,.slice none 0 0,.bool false,.bool false,.bool false,.bool false,.bool false,.bool false,.bool false,.bool false,.bool false,.pointer none] 125)).drew;refine ⟨⟨H2.1.cell 4 5 rfl rfl,H2.1.cell 1 1 rfl rfl⟩,?_⟩;go_simp)
  |(refine ve rfl rfl ?_;refine wlp H2.1 2 bm _ rfl rfl _ _ _ 118 117 rfl Tryz.underlying118 rfl id rfl (.pointer (some ⟨W1.heap.size,0,none⟩)) rfl (by omega) (by omega) hmn.1 ?_;intro w3 h3 _;have H3:=zk h3;clear h3;go_wp2_with fail;refine ⟨⟨H3.1.cell 4 5 rfl rfl,H3.1.cell 1 1 rfl rfl⟩,?_⟩;go_simp))
 refine vn ?_;go_simp;go_wp2_with fail;go_end0;refine ⟨rfl,fun k=>if k=id then W1.heap.size else A k,fun k hk=>if_neg hk,?_⟩;have h4:=H3.1.sel (p:= [_,_,_,_,_,_,_]) [0,2,3,4,5,6] 7 rfl (by decide);have h5:=(Heap.QA6 h4).sel (p:= [_,_,_,_,_,_]) [1,0,2,3,4,5] 6 rfl (by decide);have h6:=Heap.Qkh (val:=fun k=>.pointer (some ⟨A k,0,none⟩)) (val':=fun k=>.pointer (some ⟨if k=id then W1.heap.size else A k,0,none⟩)) (give:=fun k x=>.led (A k) x) (give':=fun k x=>.led (if k=id then W1.heap.size else A k) x) (x:=Qxl id a q d p) HK.1 h0 h1 (fun k hk=>by simp only [if_neg hk]) (fun k y hk=>by simp only [if_neg hk]) (by
  rw [JD HN.1];simp only [if_true];exact h5)
 refine Heap.Xf (bm:=bm) (bt:=bt) ⟨HP.1.keys.put _ h0 h1,fun x hx=>?_,HP.1.Qf,HP.1.t0,HP.1.t1,HP.1.r1,HP.1.used0,HP.1.used1⟩ (h6.frt 1 rfl);rcases YB hx with rfl|hx;exact Qc3 _ HO.1;exact HP.1.led _ hx
theorem QBg {P:Prop} (h:P:=by
 clear hb2 hW1;refine Xh [(0,.f),(1,.f),(2,.f),(3,.s),(4,.f),(5,.s),(6,.s),(7,.f),(8,.f)] ?_;refine vg rfl rfl ?_;apply ex2;intro w' hw';go_simp;rfl;go_simp;refine vg rfl rfl ?_;apply ex2;intro w' hw';go_simp;rfl;go_simp;refine vg rfl rfl ?_;apply ex2;intro w' hw';go_simp;rfl;go_simp;refine vs_ rfl (fun K hK=>?_);go_simp;refine hK _ ?_;clear hK K;refine vg rfl rfl ?_;apply ex2;intro w' hw';go_simp;rfl;go_simp;refine vs_ rfl (fun K hK=>?_);go_simp;refine hK _ ?_;clear hK K;refine vs_ rfl (fun K hK=>?_);go_simp;refine hK _ ?_;clear hK K;refine vg rfl rfl ?_;apply ex2;intro w' hw';go_simp;rfl;go_simp;refine vg rfl rfl ?_;apply ex2;intro w' hw';go_simp;rfl;go_simp;refine vn ?_;go_simp;go_wp2_with (go_at_call 175;refine (HF.1 _ _ _ (H2.1.frt 1 rfl).drew).m1 fun w3 H3=>?_);go_end0;refine ⟨rfl,?_⟩;have h4:=H3.1.sel (p:= [_,_,_,_,_,_,_]) [0,2,3,4,5,6] 7 rfl (by decide);refine Heap.Fe (c:=c) (x:=x) HP.1 HOK.1 HX.1 rfl h4):P:=h
theorem QEo {w0 w:World} {b bj:Nat} {A:Int→Nat} {c:Qa} {R:List SA} {id:Int} {x:Led} (h:Heap w0 (.cha b bj A c::R) w) (hx:Qc c.l id=some x):
 c.ok∧∃bm bt,Heap w0 (.led (A id) x::.pts b (.cells (chc c bj bm bt) 121)::.map bm (QE (fun k=>.pointer (some ⟨A k,0,none⟩)) c.l)::bks (fun k x=>.led (A k) x) (QI c.l id)::.tower bt c.Qf::R) w:=h.Zu hx
theorem ZJ {w0 w:World} {l:List SA} {bm:Nat} {A:Int→Nat} {m:IM Led} (h:Heap w0 l w) (i:Nat) (e:l[i]? =some (.map bm (QE (fun k=>.pointer (some ⟨A k,0,none⟩)) m))) {id:Int} (h0:1≤id) (h1:id≤999):
 (Instr.lookup 118 (.map (some bm)) (.int .i64 id) false).run Tryz.prog w=.ok (match Qc m id with|none=>.pointer none|some _=>.pointer (some ⟨A id,0,none⟩)) w:=by
 rw [Vg (h.owns i e) false Tryz.underlying118 (QAo w) (by omega) (by omega),Zz];cases Qc m id<;>rfl
theorem wrap_id {n:Int} (h0:0≤n) (h1:n≤1000000):wrap64 n=n:=by unfold wrap64;omega
theorem XH {w0 w:World} {b bj:Nat} {A:Int→Nat} {c:Qa} {R:List SA} {id:Int} {x:Led} {v:Value} (kd:Kd) (ns:List Int) (h:Heap w0 (.cha b bj A c::.slc v 3 1 ns.length (ns.map (Value.int .i64))::R) w) (hx:Qc c.l id=some x)
 (hkb:(kd.str.toList== [98,101,103,105,110])=false) (hks:(kd.str.toList== [115,116,101,112])=false) (hl:ns= []∨∃n,ns= [n]) (hok:(c.Xd id (x.facts kd (ns.headD 0))).ok)
 (hf:∀W L b',Heap w0 (.led b' x::L) W→Calls Tryz.prog 175 #[b',.string kd.str,.int .i64 (ns.headD 0)] W (Zd w0 b' (x.facts kd (ns.headD 0)) L)):
 CH 159 #[b,.agg #[.string kd.str,id,v]] w (.tuple #[]) w0 (.cha b bj A (c.Xd id (x.facts kd (ns.headD 0)))::.slc v 3 1 ns.length (ns.map (Value.int .i64))::R):=by
 obtain ⟨hp,bm,bt,h⟩:=h.Zu hx;have h0:=(hp.get hx).2.1;have h1:=(hp.get hx).2.2;have hu0:=hp.used0;have hu1:c.used+1≤4096:=hok.used1;have HOK:=zk hok;have HP:=zk hp;have HX:=zk hx;have HF:=zk hf;have HG:As (∀W L,Heap w0 (.pts b (.cells (chc c bj bm bt) 121)::L) W→b<W.heap.size):=⟨fun W L h=>h.lt 0 rfl⟩;obtain ⟨av,capv,rfl⟩:=vS2 (h.row 5 rfl);have c0:=h.cB7 1 rfl;have hlb:=h.lt 1 rfl;have hb2:=(h.sAt 1 4 (.int .i64 (c.used+1)) rfl).nAt (n:=w.heap.size) (.cells #[.string kd.str,id,.slice av ns.length capv] 171) (by simp [World.setCell]);clear h hp hok hx hf;generalize hs:kd.str=s at *;clear hs;rcases hl with rfl|⟨n,rfl⟩
 ·simp only [List.length_nil,List.map_nil,List.headD_nil] at *;go_enter Tryz.func159,Tryz.ntmps159;go_wp2_with fail;generalize hW1:(w.setCell ⟨b,4,none⟩ (.int .i64 (c.used+1))).alloc (.cells #[.string s,id,.slice av 0 capv] 171)=W1 at hb2⊢;generalize w.heap.size=pe at hb2⊢;clear c0 hlb;have c0:=hb2.cB7 2 rfl;have z0:=hb2.cB3 0 rfl;have hlk:=ZJ hb2.drew 3 rfl h0 h1;rw [HX.1] at hlk;simp only at hlk;have H2:=zk hb2;skip;exact QBg
 ·simp only [List.length_cons,List.length_nil,List.map_cons,List.map_nil,List.headD_cons,Nat.zero_add] at *;go_enter Tryz.func159,Tryz.ntmps159;go_wp2_with fail;generalize hW1:(w.setCell ⟨b,4,none⟩ (.int .i64 (c.used+1))).alloc (.cells #[.string s,id,.slice av 1 capv] 171)=W1 at hb2⊢;generalize w.heap.size=pe at hb2⊢;clear c0 hlb;have c0:=hb2.cB7 2 rfl;have z0:=hb2.cB3 0 rfl;have hlk:=ZJ hb2.drew 3 rfl h0 h1;rw [HX.1] at hlk;simp only at hlk;have H2:=zk hb2;rcases hb2.shp 6 rfl with ⟨-,hz, -⟩|⟨g',cap',hv, -, -,hcel⟩;omega;obtain ⟨rfl,rfl⟩:av=some ⟨g',0,none⟩∧capv=cap':=by cases hv;exact ⟨rfl,rfl⟩
  have n0:=hcel 0 _ rfl;clear hcel hv;exact QBg
theorem Qwk {P:Prop} (h:P:=by
 intro g15 cap15 w15 h15 _;have K4:=zk h15;clear y0 hlb;go_wp2_with fail;have y0:=h15.cA8 2 rfl;have hlb:=h15.lt 2 rfl;clear h15;refine ⟨⟨K4.1.cell 2 6 rfl rfl,K4.1.cell 2 7 rfl rfl⟩,?_⟩;go_simp;iterate 3
  first
   |(refine vxp rfl rfl ?_;apply ex2;intro w';go_simp;rfl;go_simp)
   |(refine vxg (by kernel_rfl) rfl rfl ?_;apply ex2;intro w' hw';obtain ⟨q1,q2⟩:=hw';go_simp;rfl;go_simp)
 refine vxx rfl rfl rfl ?_;go_wp2_with fail;refine ⟨trivial,?_⟩;go_simp;iterate 3
  refine vtg rfl rfl ?_;apply ex2;intro w' hw';go_simp;rfl;go_simp
 refine vte rfl rfl ?_;go_wp2_with fail;refine ⟨trivial,?_⟩;go_simp;refine vtn ?_;go_simp;go_wp2_with fail;go_end0;refine ⟨rfl,?_⟩;have h6:=((K4.1.sAt 2 6 (.slice (some ⟨g8,0,none⟩) (x.f.done.length+1) cap8) rfl).sAt 2 7 (.slice (some ⟨g15,0,none⟩) (x.f.undone.length+1) cap15) rfl);have h7:=h6.sel (p:= [_,_,_,_,_,_,_,_,_,_,_,_,_]) [2,3,4,5,6,8,9,10,11,12] 13 rfl (by decide);exact HFIN.1 _ _ _ _ _ _ _ h7):P:=h
theorem Heap.YI {w0 w:World} {l:List SA} {g n cap:Nat} {T:TypeId} {size:Nat} {xs:List Value} (h:Heap w0 l w) (i:Nat) (e:l[i]? =some (.slc (.slice (some ⟨g,0,none⟩) n cap) T size n xs)) (j:Nat) (u:Value) (hu:xs[j]? =some u):w.cell? ⟨g,j,none⟩=some u:=by
 have:=(h.row i e).cells (g:=g) rfl j u hu
 rwa [addr_add] at this
theorem Qmw {w0 w:World} {b bj:Nat} {A:Int→Nat} {c:Qa} {R:List SA} {id i s n:Int} {x:Led} {v:Value} (h:Heap w0 (.cha b bj A c::.slc v 3 1 3 ([i,s,n].map (Value.int .i64))::R) w) (hx:Qc c.l id=some x) (ht:x.t=none) (hok:(c.Xd id (x.more s n)).ok):
 CH 159 #[b,.agg #[.string (Kd.str .step),id,v]] w (.tuple #[]) w0 (.cha b bj A (c.Xd id (x.more s n))::.slc v 3 1 3 ([i,s,n].map (Value.int .i64))::R):=by
 obtain ⟨hp,bm,bt,h⟩:=h.Zu hx;have h0:=(hp.get hx).2.1;have h1:=(hp.get hx).2.2;have hu0:=hp.used0;have hu1:c.used+1≤4096:=hok.used1;have hl3:=(hp.get hx).1.o.len;have hl1:x.f.done.length≤3:=by have:=(mpt (hp.get hx).1.may).1;omega
 have hl2:x.f.undone.length≤3:=by have:=(mpt (hp.get hx).1.may).2.1;omega
 have HOK:=zk hok;have HP:=zk hp;have HX:=zk hx;obtain ⟨i0,hi0,hz0,hz1,hz2⟩:=info_parts Qis;have HI:=zk (And.intro hi0 (And.intro hz0 (And.intro hz1 hz2)));obtain ⟨i1,hj0,hj1,hj2,hj3⟩:=info_parts QB1;have HB:=zk (And.intro hj0 (And.intro hj1 (And.intro hj2 hj3)));clear hi0 hz0 hz1 hz2 hj0 hj1 hj2 hj3;rcases h.shp 5 rfl with ⟨-,hz, -⟩|⟨g,capv,rfl, -, -, -⟩;omega;have c0:=h.cB7 1 rfl;have hlb:=h.lt 1 rfl;have hb2:=(h.sAt 1 4 (.int .i64 (c.used+1)) rfl).nAt (n:=w.heap.size) (.cells #[.string (Kd.str .step),id,.slice (some ⟨g,0,none⟩) 3 capv] 171) (by simp [World.setCell]);have HFIN:As (∀vs' g8 c8 g15 c15 W L,Heap w0 (.pts (A id) (.cells (x.cells vs' (.slice (some ⟨g8,0,none⟩) (x.f.done.length+1) c8) (.slice (some ⟨g15,0,none⟩) (x.f.undone.length+1) c15) (.pointer none)) 125)::.slc vs' 131 2 (x.o.steps.length+1) (Qs x.o.steps++ [.int .i64 s,.int .i64 n])::.slc (.slice (some ⟨g8,0,none⟩) (x.f.done.length+1) c8) 4 1 (x.f.done.length+1) (bools x.f.done++ [.bool false])::.slc (.slice (some ⟨g15,0,none⟩) (x.f.undone.length+1) c15) 4 1 (x.f.undone.length+1) (bools x.f.undone++ [.bool false])::.emp::.pts b (.cells (chc (c.Xd id (x.more s n)) bj bm bt) 121)::.map bm (QE (fun k=>.pointer (some ⟨A k,0,none⟩)) c.l)::bks (fun k x=>.led (A k) x) (QI c.l id)::.tower bt c.Qf::L) W→
  Heap w0 (.cha b bj A (c.Xd id (x.more s n))::L) W):=⟨fun vs' g8 c8 g15 c15 W L hh=>by
  refine Heap.Fe (bm:=bm) (bt:=bt) (c:=c) (x:=x) (x':=x.more s n) HP.1 HOK.1 HX.1 rfl ?_;refine Heap.YF (vs:=vs') (vd:=.slice (some ⟨g8,0,none⟩) (x.f.done.length+1) c8) (vu:=.slice (some ⟨g15,0,none⟩) (x.f.undone.length+1) c15) (tb:=0) ⟨fun e=>by simp [Led.more] at e,fun e=>by simp [Led.more] at e,fun e=>by simp [Led.more] at e⟩ ?_;have e1:(x.more s n).tp 0=.pointer none:=by simp [Led.tp,Led.more,ht]
  have e2:(x.more s n).tsa 0=.emp:=by simp [Led.tsa,Led.more,ht]
  have e3:Qs (x.more s n).o.steps=Qs x.o.steps++ [.int .i64 s,.int .i64 n]:=by simp [Led.more,Qs,Sp.cells]
  have e4:bools (x.more s n).f.done=bools x.f.done++ [.bool false]:=by simp [Led.more,bools]
  have e5:bools (x.more s n).f.undone=bools x.f.undone++ [.bool false]:=by simp [Led.more,bools]
  have e6:(x.more s n).o.steps.length=x.o.steps.length+1:=by simp [Led.more]
  have e7:(x.more s n).f.done.length=x.f.done.length+1:=by simp [Led.more]
  have e8:(x.more s n).f.undone.length=x.f.undone.length+1:=by simp [Led.more]
  rw [e1,e2,e3,e4,e5,e6,e7,e8];exact hh⟩
 clear h hp hok hx;unfold Kd.str at *;go_enter Tryz.func159,Tryz.ntmps159;go_wp2_with fail;generalize hW1:(w.setCell ⟨b,4,none⟩ (.int .i64 (c.used+1))).alloc (.cells #[.string ⟨#[115,116,101,112]⟩,id,.slice (some ⟨g,0,none⟩) 3 capv] 171)=W1 at hb2⊢;generalize w.heap.size=pe at hb2⊢;clear c0 hlb;have c0:=hb2.cB7 2 rfl;have z0:=hb2.cB3 0 rfl;have n0:=hb2.YI 6 rfl 0 _ rfl;have hlk:=ZJ hb2.drew 3 rfl h0 h1;rw [HX.1] at hlk;simp only at hlk;have H1:=zk hb2;clear hb2 hW1;refine Xh [(0,.f),(1,.f),(2,.f),(3,.s),(4,.f),(5,.s),(6,.s),(7,.f),(8,.f)] ?_;repeat (first
  |refine vR ?_)
 refine vn ?_;go_simp;go_wp2_with fail;have h2:=(H1.1.drew.frt 1 rfl).Xm;obtain ⟨vs,vd,vu,tb,hpa,h2⟩:=h2;have e1:x.tp tb=.pointer none:=by simp [Led.tp,ht]
 have e2:x.tsa tb=.emp:=by simp [Led.tsa,ht]
 rw [e1,e2] at h2;generalize W1.drew=W2 at h2⊢;obtain ⟨asl,cs,rfl⟩:=vS2 (h2.row 1 rfl);obtain ⟨ad,cd,rfl⟩:=vS2 (h2.row 2 rfl);obtain ⟨au,cu,rfl⟩:=vS2 (h2.row 3 rfl);clear c0 z0 n0 hlk e1 e2;have y0:=h2.cA8 0 rfl;have hlb:=h2.lt 0 rfl;have z0:=h2.cB3 5 rfl;have n1:=h2.YI 10 rfl 1 _ rfl;have n2:=h2.YI 10 rfl 2 _ rfl;have H2:=zk h2;clear h2;refine wrx (fun W=>W.cell? ⟨A id,5,none⟩=some (.slice asl x.o.steps.length cs)∧W.cell? ⟨pe,2,none⟩=some (.slice (some ⟨g,0,none⟩) 3 capv)∧W.cell? ⟨g,1,none⟩=some (.int .i64 s)∧W.cell? ⟨g,2,none⟩=some (.int .i64 n)) [20] (.op 0 .f (.op 1 .f (.op 2 .f (.op 3 .f (.op 4 .f (.op 5 .f (.op 6 .f (.op 7 .f (.op 8 .f (.op 9 .f (.op 10 .f (.op 11 .f (.op 12 .f (.op 13 .f (.op 14 .f (.op 15 .e (.op 16 .e (.op 17 .f (.op 18 .f (.op 19 .f (.op 20 .e .nil))))))))))))))))))))) (by kernel_rfl) (by kernel_rfl) ⟨y0.2.2.2.2.2.1,z0.2.2.1,n1,n2⟩ ?_;iterate 15
  first
   |(refine vxp rfl rfl ?_;apply ex2;intro w';go_simp;rfl;go_simp)
   |(refine vxg (by kernel_rfl) rfl rfl ?_;apply ex2;intro w' hw';obtain ⟨q1,q2,q3,q4⟩:=hw';go_simp;rfl;go_simp)
 refine vxe rfl rfl rfl ?_;go_wp2_with fail;have H3:=zk (H2.1.new (.cells #[.int .i64 s,.int .i64 n] 131)).drew;refine ⟨⟨H3.1.cell 1 5 rfl rfl,H3.1.cell 6 2 rfl rfl,H3.1.YI 11 rfl 1 _ rfl,H3.1.YI 11 rfl 2 _ rfl⟩,?_⟩;go_simp;refine vxe rfl rfl rfl ?_;refine wla H3.1 2 _ 131 2 x.o.steps.length _ rfl rfl _ _ 30 rfl _ _ 16 Tryz.underlying30 HI.1.1 HI.1.2.1 HI.1.2.2.1 HI.1.2.2.2 rfl (by decide) rfl ⟨W2.heap.size,0,none⟩ 1 1 [.int .i64 s,.int .i64 n] rfl rfl (fun j u hu=>by rw [addr_add];exact H3.1.cell 0 j rfl (by simpa using hu)) (by simp [Value.oneCell']) (by omega) (by decide) (by omega) ?_;intro g2 cap2 w5 h5 _;have H4:=zk h5;clear y0 hlb n1 n2 z0;go_wp2_with fail;have y0:=h5.cA8 1 rfl;have hlb:=h5.lt 1 rfl;clear h5;refine ⟨⟨H4.1.cell 1 5 rfl rfl,H4.1.cell 6 2 rfl rfl,H4.1.YI 11 rfl 1 _ rfl,H4.1.YI 11 rfl 2 _ rfl⟩,?_⟩;go_simp;iterate 3
  first
   |(refine vxp rfl rfl ?_;apply ex2;intro w';go_simp;rfl;go_simp)
   |(refine vxg (by kernel_rfl) rfl rfl ?_;apply ex2;intro w' hw';obtain ⟨q1,q2,q3,q4⟩:=hw';go_simp;rfl;go_simp)
 refine vxx rfl rfl rfl ?_;go_wp2_with fail;refine ⟨trivial,?_⟩;go_simp;refine vtn ?_;go_simp;skip;go_wp2_with fail;have h5:=H4.1.sAt 1 5 (.slice (some ⟨g2,0,none⟩) (x.o.steps.length+1) cap2) rfl;generalize w5.setCell ⟨A id,5,none⟩ (.slice (some ⟨g2,0,none⟩) (x.o.steps.length+1) cap2)=W3 at h5⊢;clear y0 hlb;have K0:=zk h5.drop;have y0:=h5.cA8 1 rfl;have hlb:=h5.lt 1 rfl;clear h5;refine wrx (fun W=>W.cell? ⟨A id,6,none⟩=some (.slice ad x.f.done.length cd)∧W.cell? ⟨A id,7,none⟩=some (.slice au x.f.undone.length cu)) [19] (.op 0 .f (.op 1 .f (.op 2 .f (.op 3 .f (.op 4 .f (.op 5 .f (.op 6 .f (.op 9 .f (.op 10 .f (.op 11 .f (.op 12 .f (.op 13 .f (.fork 7 (.fork 8 (.op 14 .e (.op 15 .e (.op 16 .f (.op 17 .f (.op 18 .f (.op 19 .e (.op 20 .f (.op 21 .f (.op 22 .f (.op 23 .e .nil)))))))))) (.op 14 .e (.op 8 .e (.op 15 .e (.op 16 .f (.op 17 .f (.op 18 .f (.op 19 .e (.op 20 .f (.op 21 .f (.op 22 .f (.op 23 .e .nil)))))))))))) (.op 14 .e (.op 7 .e (.op 8 .e (.op 15 .e (.op 16 .f (.op 17 .f (.op 18 .f (.op 19 .e (.op 20 .f (.op 21 .f (.op 22 .f (.op 23 .e .nil))))))))))))))))))))))))) (by kernel_rfl) (by kernel_rfl) ⟨y0.2.2.2.2.2.2.1,y0.2.2.2.2.2.2.2.1⟩ ?_;iterate 12
  first
   |(refine vxp rfl rfl ?_;apply ex2;intro w';go_simp;rfl;go_simp)
   |(refine vxg (by kernel_rfl) rfl rfl ?_;apply ex2;intro w' hw';obtain ⟨q1,q2⟩:=hw';go_simp;rfl;go_simp)
 refine vxf rfl rfl ?_ ?_
 ·go_wp2_with fail;have K1:=zk (K0.1.new (.cells #[.bool false] 4)).drew;refine ⟨⟨K1.1.cell 1 6 rfl rfl,K1.1.cell 1 7 rfl rfl⟩,?_⟩;go_simp;refine vxf rfl rfl ?_ ?_
  ·refine wla K1.1 3 _ 4 1 x.f.done.length _ rfl rfl _ _ 77 rfl _ _ 1 Tryz.underlying77 HB.1.1 HB.1.2.1 HB.1.2.2.1 HB.1.2.2.2 rfl (by decide) rfl ⟨W3.heap.size,0,none⟩ 1 1 [.bool false] rfl rfl (fun j u hu=>by rw [addr_add];exact K1.1.cell 0 j rfl (by simpa using hu)) (by simp [Value.oneCell']) (by omega) (by decide) (by omega) ?_;intro g8 cap8 w8 h8 _;have K2:=zk h8;clear y0 hlb;go_wp2_with fail;have y0:=h8.cA8 1 rfl;have hlb:=h8.lt 1 rfl;clear h8;refine ⟨⟨K2.1.cell 1 6 rfl rfl,K2.1.cell 1 7 rfl rfl⟩,?_⟩;go_simp;refine vxe rfl rfl rfl ?_;go_wp2_with fail;have K3:=zk (K2.1.new (.cells #[.bool false] 4));refine ⟨⟨K3.1.cell 2 6 rfl rfl,K3.1.cell 2 7 rfl rfl⟩,?_⟩;go_simp;refine vxe rfl rfl rfl ?_;refine wla K3.1 5 _ 4 1 x.f.undone.length _ rfl rfl _ _ 77 rfl _ _ 1 Tryz.underlying77 HB.1.1 HB.1.2.1 HB.1.2.2.1 HB.1.2.2.2 rfl (by decide) rfl ⟨w8.heap.size,0,none⟩ 1 1 [.bool false] rfl rfl (fun j u hu=>by rw [addr_add];exact K3.1.cell 0 j rfl (by simpa using hu)) (by simp [Value.oneCell']) (by omega) (by decide) (by omega) ?_;exact Qwk
  ·refine vxe rfl rfl rfl ?_;go_wp2_with fail;have K2:=zk (Heap.nAt (n:=W3.heap.size+1) K1.1 (.cells #[.bool false] 4) (by simp));refine ⟨⟨K2.1.cell 2 6 rfl rfl,K2.1.cell 2 7 rfl rfl⟩,?_⟩;go_simp;refine vxe rfl rfl rfl ?_;refine wla K2.1 4 _ 4 1 x.f.done.length _ rfl rfl _ _ 77 rfl _ _ 1 Tryz.underlying77 HB.1.1 HB.1.2.1 HB.1.2.2.1 HB.1.2.2.2 rfl (by decide) rfl ⟨W3.heap.size,0,none⟩ 1 1 [.bool false] rfl rfl (fun j u hu=>by rw [addr_add];exact K2.1.cell 1 j rfl (by simpa using hu)) (by simp [Value.oneCell']) (by omega) (by decide) (by omega) ?_;intro g8 cap8 w8 h8 _;have K3:=zk h8;clear y0 hlb;go_wp2_with fail;have y0:=h8.cA8 2 rfl;have hlb:=h8.lt 2 rfl;clear h8;refine ⟨⟨K3.1.cell 2 6 rfl rfl,K3.1.cell 2 7 rfl rfl⟩,?_⟩;go_simp;refine vxe rfl rfl rfl ?_;refine wla K3.1 5 _ 4 1 x.f.undone.length _ rfl rfl _ _ 77 rfl _ _ 1 Tryz.underlying77 HB.1.1 HB.1.2.1 HB.1.2.2.1 HB.1.2.2.2 rfl (by decide) rfl ⟨W3.heap.size+1,0,none⟩ 1 1 [.bool false] rfl rfl (fun j u hu=>by rw [addr_add];exact K3.1.cell 0 j rfl (by simpa using hu)) (by simp [Value.oneCell']) (by omega) (by decide) (by omega) ?_;exact Qwk
 ·refine vxe rfl rfl rfl ?_;go_wp2_with fail;have K1:=zk (K0.1.new (.cells #[.bool false] 4)).drew;refine ⟨⟨K1.1.cell 1 6 rfl rfl,K1.1.cell 1 7 rfl rfl⟩,?_⟩;go_simp;refine vxe rfl rfl rfl ?_;go_wp2_with fail;have K2:=zk (Heap.nAt (n:=W3.heap.size+1) K1.1 (.cells #[.bool false] 4) (by simp));refine ⟨⟨K2.1.cell 2 6 rfl rfl,K2.1.cell 2 7 rfl rfl⟩,?_⟩;go_simp;refine vxe rfl rfl rfl ?_;refine wla K2.1 4 _ 4 1 x.f.done.length _ rfl rfl _ _ 77 rfl _ _ 1 Tryz.underlying77 HB.1.1 HB.1.2.1 HB.1.2.2.1 HB.1.2.2.2 rfl (by decide) rfl ⟨W3.heap.size+1,0,none⟩ 1 1 [.bool false] rfl rfl (fun j u hu=>by rw [addr_add];exact K2.1.cell 0 j rfl (by simpa using hu)) (by simp [Value.oneCell']) (by omega) (by decide) (by omega) ?_;intro g8 cap8 w8 h8 _;have K3:=zk h8;clear y0 hlb;go_wp2_with fail;have y0:=h8.cA8 2 rfl;have hlb:=h8.lt 2 rfl;clear h8;refine ⟨⟨K3.1.cell 2 6 rfl rfl,K3.1.cell 2 7 rfl rfl⟩,?_⟩;go_simp;refine vxe rfl rfl rfl ?_;refine wla K3.1 5 _ 4 1 x.f.undone.length _ rfl rfl _ _ 77 rfl _ _ 1 Tryz.underlying77 HB.1.1 HB.1.2.1 HB.1.2.2.1 HB.1.2.2.2 rfl (by decide) rfl ⟨W3.heap.size,0,none⟩ 1 1 [.bool false] rfl rfl (fun j u hu=>by rw [addr_add];exact K3.1.cell 1 j rfl (by simpa using hu)) (by simp [Value.oneCell']) (by omega) (by decide) (by omega) ?_;exact Qwk
theorem Qm8 {w0 w:World} {b bj:Nat} {A:Int→Nat} {c:Qa} {R:List SA} {id a q d p:Int} {v:Value} (h:Heap w0 (.cha b bj A c::.slc v 3 1 4 ([a,q,d,p].map (Value.int .i64))::R) w) (ho:(⟨id,a,q,d,p,[]⟩:Od).ok) (hn:Qc c.l id=none) (hu:c.used<4096):
 Calls Tryz.prog 159 #[b,.agg #[.string (Kd.str .begin),id,v]] w fun en w'=>en=.returned (.tuple #[])∧∃A',(∀k,k≠id→A' k=A k)∧Heap w0 (.cha b bj A' (c.Xd id (Qxl id a q d p))::.slc v 3 1 4 ([a,q,d,p].map (Value.int .i64))::R) w':=by
 obtain ⟨hp,bm,bt,h⟩:=h.QL;have h0:=ho.id0;have h1:=ho.id1;have hu0:=hp.used0;have HP:=zk hp;have HN:=zk hn;have HO:=zk ho;rcases h.shp 3 rfl with ⟨-,hz, -⟩|⟨g,capv,rfl, -, -, -⟩;omega;have HB:As (∀W L,Heap w0 (.cha b bj A {c with used:=c.used+1}::.slc (.slice (some ⟨g,0,none⟩) 4 capv) 3 1 4 ([a,q,d,p].map (Value.int .i64))::L) W→Calls Tryz.prog 174 #[b,.agg #[.string (Kd.str .begin),id,.slice (some ⟨g,0,none⟩) 4 capv]] W fun en w'=>en=.returned (.tuple #[])∧∃A',(∀k,k≠id→A' k=A k)∧Heap w0 (.cha b bj A' (c.Xd id (Qxl id a q d p))::.slc (.slice (some ⟨g,0,none⟩) 4 capv) 3 1 4 ([a,q,d,p].map (Value.int .i64))::L) w'):=⟨fun W L h=>Qpl h ho hn⟩;have c0:=h.cB7 0 rfl;have hlb:=h.lt 0 rfl;have h2:=h.sAt 0 4 (.int .i64 (c.used+1)) rfl;have h3:Heap w0 (.cha b bj A {c with used:=c.used+1}::.slc (.slice (some ⟨g,0,none⟩) 4 capv) 3 1 4 ([a,q,d,p].map (Value.int .i64))::R) (w.setCell ⟨b,4,none⟩ (.int .i64 (c.used+1))):=
  Heap.Xf (c:= {c with used:=c.used+1}) (bm:=bm) (bt:=bt) ⟨hp.keys,hp.led,hp.Qf,hp.t0,hp.t1,hp.r1,by simp only;omega,by simp only;omega⟩ h2
 have hb2:=h2.nAt (n:=w.heap.size) (.cells #[.string (Kd.str .begin),id,.slice (some ⟨g,0,none⟩) 4 capv] 171) (by simp [World.setCell]);have h3b:=h3.nAt (n:=w.heap.size) (.cells #[.string (Kd.str .begin),id,.slice (some ⟨g,0,none⟩) 4 capv] 171) (by simp [World.setCell]);obtain ⟨hk,hb3⟩:=(hb2.frt 2 rfl).YT;clear h h2 h3 hp ho hn hb2;unfold Kd.str at *;go_enter Tryz.func159,Tryz.ntmps159;go_wp2_with fail;generalize hW1:(w.setCell ⟨b,4,none⟩ (.int .i64 (c.used+1))).alloc (.cells #[.string ⟨#[98,101,103,105,110]⟩,id,.slice (some ⟨g,0,none⟩) 4 capv] 171)=W1 at hb3 h3b⊢;generalize w.heap.size=pe at hb3 h3b⊢;clear c0 hlb;have c0:=hb3.cB7 3 rfl;have z0:=hb3.cB3 2 rfl;have n0:=hb3.YI 5 rfl 0 _ rfl;have hlk:=ZJ hb3.drew 0 rfl h0 h1;rw [HN.1] at hlk;simp only at hlk;have H1:=zk h3b;clear hb3 h3b hW1 hk;refine Xh [(0,.f),(1,.f),(2,.f),(3,.s),(4,.f),(5,.s),(6,.s),(7,.f),(8,.f)] ?_;refine vg rfl rfl ?_;apply ex2;intro w' hw';go_simp;rfl;go_simp;refine vg rfl rfl ?_;apply ex2;intro w' hw';go_simp;rfl;go_simp;refine vg rfl rfl ?_;apply ex2;intro w' hw';go_simp;rfl;go_simp;refine vs_ rfl (fun K hK=>?_);go_simp;refine hK _ ?_;clear hK K;refine vg rfl rfl ?_;apply ex2;intro w' hw';go_simp;rfl;go_simp;refine vs_ rfl (fun K hK=>?_);go_simp;refine hK _ ?_;clear hK K;refine vs_ rfl (fun K hK=>?_);go_simp;refine hK _ ?_;clear hK K;refine vg rfl rfl ?_;apply ex2;intro w' hw';go_simp;rfl;go_simp;refine vg rfl rfl ?_;apply ex2;intro w' hw';go_simp;rfl;go_simp;refine vn ?_;go_simp;go_wp2_with (go_at_call 174;refine (HB.1 _ _ ((H1.1.drew.frt 2 rfl).frt 2 rfl)).mono ?_;rintro en w3 ⟨rfl,A',hA,h3⟩;have H3:=zk h3;have HA:=zk hA;clear h3 hA);go_end0;exact ⟨rfl,A',HA.1,H3.1.sel (p:= [_,_,_]) [0,1] 3 rfl (by decide)⟩
theorem Qf6 {w0 w:World} {b bj:Nat} {A:Int→Nat} {c:Qa} {R:List SA} {e:Entry} {v:Value} (h:Heap w0 (.cha b bj A c::.slc v 3 1 e.n.length (e.n.map (Value.int .i64))::R) w) (he:c.Fits e) (hu:c.used<4096):
 Calls Tryz.prog 159 #[b,.agg #[.string e.kd.str,e.id,v]] w fun en w'=>en=.returned (.tuple #[])∧∃A',(e.kd≠ .begin→A'=A)∧(∀k,k≠e.id→A' k=A k)∧Heap w0 (.cha b bj A' (c.Qg e)::.slc v 3 1 e.n.length (e.n.map (Value.int .i64))::R) w':=by
 have hok:=(h.Yl).Qg he hu;have HC:=h.Yl;cases he with
 |begin id a b d p ho hn=>
  refine (Qm8 h ho hn hu).mono ?_;rintro en w' ⟨rfl,A',hA,h'⟩;exact ⟨rfl,A',fun e=>absurd rfl e,hA,h'⟩
 |step id i s n x hx hi hf ht ho=>
  have e:c.Qg ⟨.step,id,[(i:Int),s,n]⟩=c.Xd id (x.more s n):=by simp only [Qa.Qg,hx]
  rw [e] at hok⊢;refine (Qmw h hx ht hok).m2 fun w' h'=>?_;exact ⟨rfl,A,fun _=>rfl,fun _ _=>rfl,h'⟩
 |asked id x hx hd hf=>
  have e:c.Qg ⟨.asked,id,[]⟩=c.Xd id (x.facts .asked 0):=by simp only [Qa.Qg,hx,List.headD_nil,List.headD_cons]
  rw [e] at hok⊢;refine (XH .asked [] h hx (by kernel_rfl) (by kernel_rfl) (.inl rfl) hok (fun W L b' h=>Qij h 0)).m2 fun w' h'=>?_;exact ⟨rfl,A,fun _=>rfl,fun _ _=>rfl,h'⟩
 |done id k x hx ha hd hk=>
  have e:c.Qg ⟨.done,id,[(k:Int)]⟩=c.Xd id (x.facts .done (k:Int)):=by simp only [Qa.Qg,hx,List.headD_nil,List.headD_cons]
  rw [e] at hok⊢;refine (XH .done [(k:Int)] h hx (by kernel_rfl) (by kernel_rfl) (.inr ⟨_,rfl⟩) hok (fun W L b' h=>Qmj h k (VZ hk).1)).m2 fun w' h'=>?_;exact ⟨rfl,A,fun _=>rfl,fun _ _=>rfl,h'⟩
 |undone id k x hx ht hk=>
  have e:c.Qg ⟨.undone,id,[(k:Int)]⟩=c.Xd id (x.facts .undone (k:Int)):=by simp only [Qa.Qg,hx,List.headD_nil,List.headD_cons]
  rw [e] at hok⊢;refine (XH .undone [(k:Int)] h hx (by kernel_rfl) (by kernel_rfl) (.inr ⟨_,rfl⟩) hok (fun W L b' h=>Qe4 h k (FE hk).1)).m2 fun w' h'=>?_;exact ⟨rfl,A,fun _=>rfl,fun _ _=>rfl,h'⟩
 |yes id x hx ha hd=>
  have e:c.Qg ⟨.yes,id,[]⟩=c.Xd id (x.facts .yes 0):=by simp only [Qa.Qg,hx,List.headD_nil,List.headD_cons]
  rw [e] at hok⊢;refine (XH .yes [] h hx (by kernel_rfl) (by kernel_rfl) (.inl rfl) hok (fun W L b' h=>Qmy h 0)).m2 fun w' h'=>?_;exact ⟨rfl,A,fun _=>rfl,fun _ _=>rfl,h'⟩
 |turn id x hx hd=>
  have e:c.Qg ⟨.turn,id,[]⟩=c.Xd id (x.facts .turn 0):=by simp only [Qa.Qg,hx,List.headD_nil,List.headD_cons]
  rw [e] at hok⊢;refine (XH .turn [] h hx (by kernel_rfl) (by kernel_rfl) (.inl rfl) hok (fun W L b' h=>Qlr h 0)).m2 fun w' h'=>?_;exact ⟨rfl,A,fun _=>rfl,fun _ _=>rfl,h'⟩
 |shipped id x hx hy=>
  have e:c.Qg ⟨.shipped,id,[]⟩=c.Xd id (x.facts .shipped 0):=by simp only [Qa.Qg,hx,List.headD_nil,List.headD_cons]
  rw [e] at hok⊢;refine (XH .shipped [] h hx (by kernel_rfl) (by kernel_rfl) (.inl rfl) hok (fun W L b' h=>Qed h 0)).m2 fun w' h'=>?_;exact ⟨rfl,A,fun _=>rfl,fun _ _=>rfl,h'⟩
 |ack id n x hx hn hd=>
  rcases hn with rfl|rfl;have e:c.Qg ⟨.ack,id,[1]⟩=c.Xd id (x.facts .ack 1):=by simp only [Qa.Qg,hx,List.headD_nil,List.headD_cons]
  rw [e] at hok⊢;refine (XH .ack [1] h hx (by kernel_rfl) (by kernel_rfl) (.inr ⟨_,rfl⟩) hok (fun W L b' h=>Qma h)).m2 fun w' h'=>?_;exact ⟨rfl,A,fun _=>rfl,fun _ _=>rfl,h'⟩;have e:c.Qg ⟨.ack,id,[2]⟩=c.Xd id (x.facts .ack 2):=by simp only [Qa.Qg,hx,List.headD_nil,List.headD_cons]
  rw [e] at hok⊢;refine (XH .ack [2] h hx (by kernel_rfl) (by kernel_rfl) (.inr ⟨_,rfl⟩) hok (fun W L b' h=>Ql7 h)).m2 fun w' h'=>?_;exact ⟨rfl,A,fun _=>rfl,fun _ _=>rfl,h'⟩
 |damage id n x hx hn hd=>
  rcases hn with rfl|rfl;have e:c.Qg ⟨.damage,id,[1]⟩=c.Xd id (x.facts .damage 1):=by simp only [Qa.Qg,hx,List.headD_nil,List.headD_cons]
  rw [e] at hok⊢;refine (XH .damage [1] h hx (by kernel_rfl) (by kernel_rfl) (.inr ⟨_,rfl⟩) hok (fun W L b' h=>Qd2 h)).m2 fun w' h'=>?_;exact ⟨rfl,A,fun _=>rfl,fun _ _=>rfl,h'⟩;have e:c.Qg ⟨.damage,id,[2]⟩=c.Xd id (x.facts .damage 2):=by simp only [Qa.Qg,hx,List.headD_nil,List.headD_cons]
  rw [e] at hok⊢;refine (XH .damage [2] h hx (by kernel_rfl) (by kernel_rfl) (.inr ⟨_,rfl⟩) hok (fun W L b' h=>Qca h)).m2 fun w' h'=>?_;exact ⟨rfl,A,fun _=>rfl,fun _ _=>rfl,h'⟩
abbrev EV:=Entry×Value
def ecs (l:List EV):List Value:=l.flatMap fun p=> [.string p.1.kd.str,.int .i64 p.1.id,p.2]
abbrev EV.sa (p:EV):SA:=.slc p.2 3 1 p.1.n.length (p.1.n.map (Value.int .i64))
abbrev Qe6 (l:List EV):SA:=.all (l.map EV.sa)
theorem Qbx:∀(l:List EV) (k j:Nat) (hk:k<l.length) (hj:j<3),(ecs l)[k*3+j]? = [Value.string l[k].1.kd.str,.int .i64 l[k].1.id,l[k].2][j]?
 |p::l,0,j,_,hj=>by
  show ([Value.string p.1.kd.str,.int .i64 p.1.id,p.2]++ecs l)[0*3+j]? =_
  rw [List.getElem?_append_left (by simp;omega)];simp
 |p::l,k+1,j,hk,hj=>by
  show ([Value.string p.1.kd.str,.int .i64 p.1.id,p.2]++ecs l)[(k+1)*3+j]? =_
  rw [List.getElem?_append_right (by simp;omega),show (k+1)*3+j- [Value.string p.1.kd.str,.int .i64 p.1.id,p.2].length=k*3+j by simp;omega];exact Qbx l k j (by simpa using hk) hj
theorem Heap.pick {w0 w:World} {L R:List SA} {k:Nat} {X:SA} (e:L[k]? =some X) (h:Heap w0 (.all L::R) w):Heap w0 (X::.all (L.eraseIdx k)::R) w:=by
 obtain ⟨hk,rfl⟩:=List.getElem?_eq_some_iff.1 e;have h2:=(Heap.spread h).perm ((YK hk).symm.append_right R);exact (Heap.gather (l:=L.eraseIdx k) (R:=L[k]::R) (h2.perm List.perm_middle.symm)).frt 1 rfl
theorem Heap.QEq {w0 w:World} {L R:List SA} {k:Nat} {X:SA} (e:L[k]? =some X) (h:Heap w0 (X::.all (L.eraseIdx k)::R) w):Heap w0 (.all L::R) w:=by
 obtain ⟨hk,rfl⟩:=List.getElem?_eq_some_iff.1 e;have h2:Heap w0 (L.eraseIdx k++(L[k]::R)) w:=Heap.spread (h.frt 1 rfl);exact Heap.gather (h2.perm (List.perm_middle.trans ((YK hk).append_right R)))
def Qa.Run:Qa→List Entry→Prop
 |_,[]=>True
 |c,e::r=>c.Fits e∧e.ok∧(c.Qq e).Run r
theorem Qeu (c:Qa) (e:Entry):(c.Qg e).used=c.used+1:=by
 unfold Qa.Qg;split;rfl;split<;>rfl
 split<;>rfl
theorem Ym (c:Qa) (e:Entry):(c.Qg e).room=c.room∧(c.Qg e).most=c.most∧(c.Qg e).tries=c.tries∧(c.Qg e).j=c.j∧(c.Qg e).Qf=c.Qf:=by
 unfold Qa.Qg;split;exact ⟨rfl,rfl,rfl,rfl,rfl⟩;split<;>exact ⟨rfl,rfl,rfl,rfl,rfl⟩
 split<;>exact ⟨rfl,rfl,rfl,rfl,rfl⟩
theorem QE3 {c:Qa} {e:Entry} (j:Jrn) (h:c.Fits e):({c with j:=j}:Qa).Fits e:=by
 cases h with
 |begin id a b d p ho hn=>exact .begin id a b d p ho hn
 |step id i s n x hx hi hf ht ho=>exact .step id i s n x hx hi hf ht ho
 |asked id x hx hd hf=>exact .asked id x hx hd hf
 |done id k x hx ha hd hk=>exact .done id k x hx ha hd hk
 |undone id k x hx ht hk=>exact .undone id k x hx ht hk
 |yes id x hx ha hd=>exact .yes id x hx ha hd
 |turn id x hx hd=>exact .turn id x hx hd
 |ack id n x hx hn hd=>exact .ack id n x hx hn hd
 |damage id n x hx hn hd=>exact .damage id n x hx hn hd
 |shipped id x hx hy=>exact .shipped id x hx hy
theorem Qnk (c:Qa) (e:Entry):(c.Qq e).used=c.used+1:=Qeu _ _
theorem UB (c:Qa) (e:Entry):(c.Qq e).room=c.room:=(Ym _ _).1
theorem VO (c:Qa) (e:Entry):(c.Qq e).j=(c.j.add e).2:=(Ym _ _).2.2.2.1
theorem Ug (j:Jrn) (e:Entry):(j.add e).2.down=j.down:=by unfold Jrn.add;split<;>rfl
theorem Qn2 {c:Qa} {es:List Entry} {k:Nat} {e:Entry} (h:es[k]? =some e):(es.take (k+1)).foldl Qa.Qq c=((es.take k).foldl Qa.Qq c).Qq e:=by
 obtain ⟨hk,rfl⟩:=List.getElem?_eq_some_iff.1 h;rw [List.take_succ_eq_append_getElem hk,List.foldl_append];rfl
theorem Qj5:∀{c:Qa} {es:List Entry} {k:Nat} {e:Entry},c.Run es→es[k]? =some e→((es.take k).foldl Qa.Qq c).Fits e∧e.ok
 |c,a::es,0,e,h,he=>by
  simp only [List.getElem?_cons_zero,Option.some.injEq] at he;subst he;exact ⟨h.1,h.2.1⟩
 |c,a::es,k+1,e,h,he=>by
  simp only [List.getElem?_cons_succ] at he;exact Qj5 (c:=c.Qq a) h.2.2 he
theorem ZZ (es:List Entry):∀c:Qa,(es.foldl Qa.Qq c).used=c.used+es.length∧(es.foldl Qa.Qq c).room=c.room∧(es.foldl Qa.Qq c).j.down=c.j.down:=by
 induction es with
 |nil=>intro c;simp
 |cons e r ih=>
  intro c;obtain ⟨h1,h2,h3⟩:=ih (c.Qq e);simp only [List.foldl_cons,List.length_cons];rw [h1,h2,h3,Qnk,UB,VO,Ug];exact ⟨by omega,rfl,rfl⟩
theorem i64w (n:Int) (h: -9223372036854775808≤n∧n≤9223372036854775807):IntKind.i64.wrap n=n:=by rw [IntKind.wrap_i64];omega
def Qie (es:List Entry):Prop:=∀e∈es,e.kd≠ .begin
theorem YH (c:Qa) (es:List Entry):c.notes es=if c.room<c.used+es.length then (false,c) else (true,es.foldl Qa.Qq c):=rfl
theorem Qhq {w0 w:World} {b bj:Nat} {A:Int→Nat} {c:Qa} {R:List SA} {l:List EV} {v:Value} (h:Heap w0 (.cha b bj A c::.jrn bj c.j::.slc v 171 3 l.length (ecs l)::Qe6 l::R) w) (hrun:c.Run (l.map (·.1))) (hd:c.j.down=false) (hl0:0<l.length) (hl:l.length≤1000):
 Calls Tryz.prog 132 #[b,v] w fun en w'=>en=.returned (.bool (c.notes (l.map (·.1))).1)∧∃A',(Qie (l.map (·.1))→A'=A)∧Heap w0 (.cha b bj A' (c.notes (l.map (·.1))).2::.jrn bj (c.notes (l.map (·.1))).2.j::.slc v 171 3 l.length (ecs l)::Qe6 l::R) w':=by
 have hu0:=h.Yl.used0;have hu1:=h.Yl.used1;have hr1:=h.Yl.r1;have HN:=zk (YH c (l.map (·.1)));have HL:As ((l.map (fun p:EV=>p.1)).length=l.length):=⟨by simp⟩;have HRUN:=zk hrun;have HD:=zk hd;have H:=zk h;rcases h.shp 2 rfl with ⟨-,hz, -⟩|⟨g,capv,rfl, -, -,hcel⟩;omega;obtain ⟨-,bm,bt,h⟩:=h.QL;have c0:=h.cB7 0 rfl;have hlb:=h.lt 0 rfl;have hwr:IntKind.i64.wrap (c.used+(l.length:Int))=c.used+(l.length:Int):=i64w _ (by omega);clear h hcel hrun hd;generalize c.notes (l.map (·.1))=res at *;by_cases hroom:c.room<c.used+(l.length:Int)
 ·have hrb:decide (c.room<c.used+(l.length:Int))=true:=by simpa using hroom
  have HR:As (res=(false,c)):=⟨by rw [HN.1,HL.1,if_pos hroom]⟩;clear hroom;go_enter Tryz.func132,Tryz.ntmps132;go_wp2_with fail;refine Xh [(0,.f),(1,.f),(2,.f),(3,.s),(4,.f),(5,.f),(6,.f),(7,.f),(8,.f),(9,.f),(10,.s),(11,.f)] ?_;repeat (first
   |refine vR ?_)
  refine vn ?_;go_simp;go_wp2_with fail;go_ret;rw [HR.1];exact ⟨rfl,A,fun _=>rfl,H.1.drew⟩
 ·have hrb:decide (c.room<c.used+(l.length:Int))=false:=by simpa using hroom
  have HR:As (res=(true,(l.map (·.1)).foldl Qa.Qq c)):=⟨by rw [HN.1,HL.1,if_neg hroom]⟩;have HUR:As (c.used+(l.length:Int)≤4096):=⟨by omega⟩;clear hroom;go_enter Tryz.func132,Tryz.ntmps132;go_wp2_with fail;refine Xh [(0,.f),(1,.f),(2,.f),(3,.s),(4,.f),(5,.f),(6,.f),(7,.f),(8,.f),(9,.f),(10,.s),(11,.f)] ?_;repeat (first
   |refine vR ?_)
  refine vn ?_;go_simp;go_wp2_with fail;clear c0 hlb hrb
  go_loopg [21] l.length (fun gk i wr=>∃k:Nat,i=.int .i64 k∧k≤l.length∧As (gk+k=l.length)∧∃A',As ((∀e∈(l.map (·.1)).take k,e.kd≠ .begin)→A'=A)∧As (Heap w0 (.cha b bj A' (((l.map (·.1)).take k).foldl Qa.Qq c)::.jrn bj (((l.map (·.1)).take k).foldl Qa.Qq c).j::.slc (.slice (some ⟨g,0,none⟩) l.length capv) 171 3 l.length (ecs l)::Qe6 l::R) wr))
  case atStart=>exact ⟨0,rfl,Nat.zero_le _,⟨rfl⟩,A,⟨fun _=>rfl⟩,⟨H.1.drew⟩⟩
  case round=>
   obtain ⟨k,rfl,hk,HG,A',HA,HH⟩:=hrel;by_cases hlt:k<l.length
   ·obtain ⟨ck,hck⟩:∃ck,ck=(((l.map (·.1)).take k).foldl Qa.Qq c):=⟨_,rfl⟩;have hge:(l.map (·.1))[k]? =some l[k].1:=by simp [hlt]
    have hrt:=Qj5 HRUN.1 hge;have HT:=zk (Qn2 (c:=c) hge);have hfu:=ZZ ((l.map (·.1)).take k) c;rw [←hck] at hrt HT hfu HH;have hlen:((l.map (·.1)).take k).length=k:=by simp;omega
    rw [hlen] at hfu;have hku:ck.used<4096:=by have:=HUR.1;omega
    have hkd:ck.j.down=false:=hfu.2.2.trans HD.1;have hbg:As ((∀e∈(l.map (·.1)).take (k+1),e.kd≠ .begin)→(∀e∈(l.map (·.1)).take k,e.kd≠ .begin)∧l[k].1.kd≠ .begin):=⟨fun hh=>⟨fun e he=>hh e (List.take_subset_take_left _ (Nat.le_succ k) he),hh _ (List.mem_take_iff_getElem.2 ⟨k,by simp;omega,by simp⟩)⟩⟩;have x0:wr.cell? ⟨g,k*3,none⟩=_:=HH.1.YI 2 rfl (k*3+0) _ (Qbx l k 0 hlt (by omega));have x1:=HH.1.YI 2 rfl (k*3+1) _ (Qbx l k 1 hlt (by omega));have x2:=HH.1.YI 2 rfl (k*3+2) _ (Qbx l k 2 hlt (by omega));have hpk:(l.map EV.sa)[k]? =some (EV.sa l[k]):=by simp [hlt]
    have h2:=Heap.pick hpk (HH.1.frt 3 rfl);have HPK:=zk hpk;clear hpk hge hck hfu hlen HH;obtain ⟨u,hu⟩:∃u,u=l[k].2:=⟨_,rfl⟩;obtain ⟨e,he⟩:∃e,e=l[k].1:=⟨_,rfl⟩;have hsa:EV.sa l[k]=.slc u 3 1 e.n.length (e.n.map (Value.int .i64)):=by rw [hu,he]
    rw [←he] at hrt HT hbg x0 x1;rw [←hu] at x2;rw [hsa] at h2 HPK;clear hsa;obtain ⟨au,cu,rfl⟩:=vS2 (h2.row 0 rfl);have HF:=zk hrt;have HKD:=zk hkd;obtain ⟨-,bm',bt',h3⟩:=(h2.frt 2 rfl).QL;have c0:=h3.cB7 0 rfl;have hlb:=h3.lt 0 rfl;have hgb:=World.block_lt_of_cell? wr _ x0;have hk1:(k:Int)<(l.length:Int):=by omega
    have HLT:=zk hlt;have HK:=zk hk;have hnew:=h2.new (.cells #[.string e.kd.str,e.id,.slice au e.n.length cu] 171);have H2:=zk hnew;clear h2 h3 hrt hkd hlt hnew hu he hk;go_wp2_with fail;generalize hW1:wr.alloc (.cells #[.string e.kd.str,e.id,.slice au e.n.length cu] 171)=W1 at H2⊢;generalize wr.heap.size=pe at H2⊢;clear hW1 c0 hlb x0 x1 x2 hgb;have z0:=H2.1.cB3 0 rfl;have hlz:=H2.1.lt 0 rfl;obtain ⟨-,bm2,bt2,h3⟩:=(H2.1.frt 3 rfl).QL;have c0:=h3.cB7 0 rfl;have hlb:=h3.lt 0 rfl;clear h3;refine Xh [(0,.f),(1,.f),(2,.f),(3,.s),(4,.s),(5,.e)] ?_;repeat (first
     |refine vR ?_
     |(refine ve rfl rfl ?_;go_wp2_with (go_at_call 137;refine (Qbr (H2.1.drew.frt 4 rfl) HKD.1 e HF.1.2 _ (H2.1.drew.row 1 rfl)).m1 fun w4 H4=>?_);refine ⟨trivial,?_⟩;go_simp))
    refine vn ?_;go_simp;clear c0 hlb z0 hlz;have z0:=H4.1.cB3 1 rfl;have hlz:=H4.1.lt 1 rfl;have H5:=zk (((H4.1.frt 4 rfl).Qq3 (ck.j.add e).2).sel (p:= [_,_,_,_,_,_]) [0,3,1,2,4,5] 6 rfl (by decide));clear H4;go_wp2_with (go_at_call 159;refine (Qf6 H5.1 (QE3 _ HF.1.1) hku).mono ?_;rintro en w5 ⟨rfl,A2,hA2, -,h5⟩;have H6:=zk h5;have HA2:=zk hA2;clear h5 hA2);go_roundg (l.length-(k+1))
    case measure=>have:=HG.1;omega
    case rel=>
     refine ⟨k+1,by go_num,by have:=HLT.1;omega,⟨by have:=HLT.1;omega⟩,A2,⟨fun hh=>?_⟩,⟨?_⟩⟩;exact (HA2.1 (hbg.1 hh).2).trans (HA.1 (hbg.1 hh).1);rw [HT.1,VO];have h7:=H6.1.sel (p:= [_,_,_,_,_,_]) [1,4,0,2,5] 6 rfl (by decide);exact (Heap.QEq HPK.1 h7).sel (p:= [_,_,_,_]) [1,2,3,0] 4 rfl (by decide)
   ·obtain rfl:k=l.length:=by omega
    go_wp2_with fail;go_ret;rw [HR.1];have ht:(l.map (fun p:EV=>p.1)).take l.length=l.map (·.1):=by rw [←HL.1,List.take_length]
    have hA:=HA.1;have h9:=HH.1;rw [ht] at hA h9;exact ⟨rfl,A',hA,h9⟩
theorem Qge {w0 w:World} {b bj:Nat} {A:Int→Nat} {c:Qa} {R:List SA} {l:List EV} {v:Value} (h:Heap w0 (.cha b bj A c::.jrn bj c.j::.slc v 171 3 l.length (ecs l)::Qe6 l::R) w) (hrun:c.Run (l.map (·.1))) (hd:c.j.down=false) (hl0:0<l.length) (hl:l.length≤1000):
 Calls Tryz.prog 100 #[b,v] w fun en w'=>en=.returned (.bool (c.Qm (l.map (·.1))).1)∧∃A',(Qie (l.map (·.1))→A'=A)∧Heap w0 (.cha b bj A' (c.Qm (l.map (·.1))).2::.jrn bj (c.Qm (l.map (·.1))).2.j::.slc v 171 3 l.length (ecs l)::Qe6 l::R) w':=by
 have HC:=zk (Qhq h hrun hd hl0 hl);have HD:As ((c.notes (l.map (·.1))).2.j.down=false):=⟨by
  rw [YH];split;exact hd;exact ((ZZ _ c).2.2).trans hd⟩
 have HS:As (c.Qm (l.map (·.1))=if (c.notes (l.map (·.1))).1=true then (true,(c.notes (l.map (·.1))).2.sync) else (false,(c.notes (l.map (·.1))).2)):=⟨rfl⟩;obtain ⟨av,cv,rfl⟩:=vS2 (h.row 2 rfl);clear h hrun hd;generalize c.Qm (l.map (·.1))=rs at *;generalize c.notes (l.map (·.1))=rn at *;obtain ⟨ok,nc⟩:=rn;simp only at HC HD HS;cases ok
 ·simp only [Bool.false_eq_true,if_false] at HS;go_enter Tryz.func100,Tryz.ntmps100;go_wp2_with (go_at_call 132;refine HC.1.mono ?_;rintro en w1 ⟨rfl,A2,hA,h1⟩;have H1:=zk h1;have HA:=zk hA;clear h1 hA);go_ret;rw [HS.1];exact ⟨rfl,A2,HA.1,H1.1⟩
 ·simp only [if_true] at HS;go_enter Tryz.func100,Tryz.ntmps100;go_wp2_with (first|(go_at_call 132;refine HC.1.mono ?_;rintro en w1 ⟨rfl,A2,hA,h1⟩;obtain ⟨-,bm,bt,h3⟩:=h1.QL;have c0:=h3.cB7 0 rfl;have hlb:=h3.lt 0 rfl;have H1:=zk h1;have HA:=zk hA;clear h1 hA h3)|(go_at_call 133;refine (Fb (H1.1.frt 1 rfl) HD.1).m2 fun w2 h2=>?_;have H2:=zk ((h2.frt 1 rfl).Qq3 nc.j.sync);clear h2));go_ret;rw [HS.1];exact ⟨rfl,A2,HA.1,H2.1⟩
theorem Zi {w0 w:World} {b:Nat} {c:Qa} {R:List SA} (h:Heap w0 (.Xu b c::R) w):
 CE 97 #[b] w (.bool c.j.down):=by
 obtain ⟨bj,A,h⟩:=h.VD;have HD:=zk (Fa (h.frt 1 rfl));obtain ⟨hp,bm,bt,h⟩:=h.QL;have c0:=h.cB7 0 rfl;clear h hp;go_enter Tryz.func97,Tryz.ntmps97;go_wp2_with (go_at_call 37;refine HD.1.m0 ?_);go_ret;exact ⟨rfl,rfl⟩
theorem Heap.Qai {w0 w:World} {R:List SA} {g:Nat} {e:Entry} {u:Value} (h:Heap w0 (.pts g (.cells #[.string e.kd.str,e.id,u] 171)::.slc u 3 1 e.n.length (e.n.map (Value.int .i64))::R) w):
 Heap w0 (.slc (.slice (some ⟨g,0,none⟩) 1 1) 171 3 [((e,u):EV)].length (ecs [((e,u):EV)])::Qe6 [((e,u):EV)]::R) w:=by
 have h2:=(Heap.XJ (k:=1) (size:=3) h (by decide) rfl).frt 1 rfl;have h3:Heap w0 (Qe6 [((e,u):EV)]::.slc (.slice (some ⟨g,0,none⟩) 1 1) 171 3 1 [.string e.kd.str,.int .i64 e.id,u]::R) w:=Heap.gather (l:= [_]) h2;exact h3.frt 1 rfl
theorem Qgm {e:Entry} (h:e.kd≠ .begin):Qie [e]:=fun x hx=>by
 rw [List.mem_singleton] at hx;subst hx;exact h
theorem Qfo {w0 w:World} {b bj:Nat} {A:Int→Nat} {c:Qa} {R:List SA} {e:Entry} {u:Value} (h:Heap w0 (.cha b bj A c::.jrn bj c.j::.slc u 3 1 e.n.length (e.n.map (Value.int .i64))::R) w) (hf:c.Fits e) (he:e.ok) (hk:e.kd≠ .begin) (hd:c.j.down=false):
 CH 132 #[b,.slice (some ⟨w.heap.size,0,none⟩) 1 1] (w.alloc (.cells #[.string e.kd.str,e.id,u] 171)) (.bool (c.notes [e]).1) w0 (.cha b bj A (c.notes [e]).2::.jrn bj (c.notes [e]).2.j::R):=by
 have h2:=((h.new (.cells #[.string e.kd.str,e.id,u] 171)).sel (p:= [_,_,_,_]) [0,3,1,2] 4 rfl (by decide)).Qai;have h3:=h2.sel (p:= [_,_,_,_]) [2,3,0,1] 4 rfl (by decide);refine (Qhq (l:= [((e,u):EV)]) h3 ⟨hf,he,trivial⟩ hd (by simp) (by simp)).mono ?_;rintro en w' ⟨rfl,A',hA,h'⟩;obtain rfl:=hA (Qgm hk);exact ⟨rfl,h'.sel (p:= [_,_,_,_]) [0,1] 4 rfl (by decide)⟩
theorem Qha {w0 w:World} {b bj:Nat} {A:Int→Nat} {c:Qa} {R:List SA} {e:Entry} {u:Value} (h:Heap w0 (.cha b bj A c::.jrn bj c.j::.slc u 3 1 e.n.length (e.n.map (Value.int .i64))::R) w) (hf:c.Fits e) (he:e.ok) (hk:e.kd≠ .begin) (hd:c.j.down=false):
 CH 100 #[b,.slice (some ⟨w.heap.size,0,none⟩) 1 1] (w.alloc (.cells #[.string e.kd.str,e.id,u] 171)) (.bool (c.Qm [e]).1) w0 (.cha b bj A (c.Qm [e]).2::.jrn bj (c.Qm [e]).2.j::R):=by
 have h2:=((h.new (.cells #[.string e.kd.str,e.id,u] 171)).sel (p:= [_,_,_,_]) [0,3,1,2] 4 rfl (by decide)).Qai;have h3:=h2.sel (p:= [_,_,_,_]) [2,3,0,1] 4 rfl (by decide);refine (Qge (l:= [((e,u):EV)]) h3 ⟨hf,he,trivial⟩ hd (by simp) (by simp)).mono ?_;rintro en w' ⟨rfl,A',hA,h'⟩;obtain rfl:=hA (Qgm hk);exact ⟨rfl,h'.sel (p:= [_,_,_,_]) [0,1] 4 rfl (by decide)⟩
theorem Qgp {w0 w:World} {b bj:Nat} {A:Int→Nat} {c:Qa} {R:List SA} {k:Kd} {id:Int} (h:Heap w0 (.cha b bj A c::.jrn bj c.j::R) w) (hf:c.Fits ⟨k,id,[]⟩) (he:Entry.ok ⟨k,id,[]⟩) (hk:k≠ .begin) (hd:c.j.down=false):
 CH 132 #[b,.slice (some ⟨w.heap.size,0,none⟩) 1 1] (w.alloc (.cells #[.string k.str,id,.slice none 0 0] 171)) (.bool (c.notes [⟨k,id,[]⟩]).1) w0 (.cha b bj A (c.notes [⟨k,id,[]⟩]).2::.jrn bj (c.notes [⟨k,id,[]⟩]).2.j::R):=
 Qfo (e:=⟨k,id,[]⟩) (u:=.slice none 0 0) ((h.nRw 3 1).sel (p:= [_,_,_]) [1,2,0] 3 rfl (by decide)) hf he hk hd
theorem VX {w0 w:World} {b bj:Nat} {A:Int→Nat} {c:Qa} {R:List SA} {k:Kd} {id:Int} (h:Heap w0 (.cha b bj A c::.jrn bj c.j::R) w) (hf:c.Fits ⟨k,id,[]⟩) (he:Entry.ok ⟨k,id,[]⟩) (hk:k≠ .begin) (hd:c.j.down=false):
 CH 100 #[b,.slice (some ⟨w.heap.size,0,none⟩) 1 1] (w.alloc (.cells #[.string k.str,id,.slice none 0 0] 171)) (.bool (c.Qm [⟨k,id,[]⟩]).1) w0 (.cha b bj A (c.Qm [⟨k,id,[]⟩]).2::.jrn bj (c.Qm [⟨k,id,[]⟩]).2.j::R):=
 Qha (e:=⟨k,id,[]⟩) (u:=.slice none 0 0) ((h.nRw 3 1).sel (p:= [_,_,_]) [1,2,0] 3 rfl (by decide)) hf he hk hd
end Go.Proofs.YtlnghlamnehfjaaGreatDoor.S
