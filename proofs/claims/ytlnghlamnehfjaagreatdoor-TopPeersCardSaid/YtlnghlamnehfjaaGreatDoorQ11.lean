/- Part Q11. -/
import Derived.Test.YtlnghlamnehfjaaGreatDoorQ09
import Derived.Test.YtlnghlamnehfjaaGreatDoorQ10
set_option linter.unusedVariables false
set_option linter.unusedSimpArgs false
set_option maxRecDepth 100000
set_option maxHeartbeats 64000000
namespace Go.Proofs.YtlnghlamnehfjaaGreatDoor.S
open Go.RowKit Go.Maps
theorem QC3 {P:Prop} (h:P:=by
 clear h;go_enter Tryz.func128,Tryz.ntmps128;go_wp2
 go_loopg [2,3] 0 (fun gk i j wr=>i=.int .i64 0∧j=.int .i64 (-1)∧wr=w)
 case atStart=>exact ⟨rfl,rfl,rfl⟩
 case round=>
  obtain ⟨rfl,rfl,rfl⟩:=hrel;go_wp2;go_end0;exact ⟨rfl,H.1⟩):P:=h
theorem QDp {P:Prop} (h:P:=by
 go_ret;refine ⟨_,rfl,fun e=>by have h1:=HG.1.1;rw [e] at h1;exact absurd h1 (by decide),?_⟩;have:=H2.1;simp only [List.set_cons_zero,Nat.zero_add,List.nil_append] at this;exact this):P:=h
theorem QB6 {P:Prop} (h:P:=by
 have hgb:=World.block_lt_of_cell? wr _ c0;clear hc;go_wp2;refine Xh [(0,.f),(1,.f),(2,.f),(3,.f),(4,.f),(5,.f),(6,.f),(7,.s),(8,.f),(9,.f),(10,.f),(11,.s),(12,.f),(13,.e),(14,.f),(15,.e)] ?_;repeat (first
  |refine vR ?_
  |(refine ve rfl rfl ?_;go_wp2_with fail;refine ⟨trivial,?_⟩;go_simp))
 refine vn ?_;go_simp;go_wp2_with fail;first
  |(have ty:Tg 1:=tg;go_roundg 0
    case measure=>decide
    case rel=>exact .inr ⟨rfl,rfl,rfl,⟨(HR.1.drew.Qal 0 rfl 0 (.bool b)).Qal 0 rfl 1 (.bool a)⟩⟩)
  |(have ty:Tg 2:=tg;go_roundg 0
    case measure=>decide
    case rel=>exact .inr ⟨rfl,rfl,rfl,⟨(HR.1.drew.Qal 0 rfl 0 (.bool c)).Qal 0 rfl 2 (.bool a)⟩⟩)):P:=h
theorem QB1:(Tryz.prog.info? 4).map (fun i=>(i.zero,i.size,i.bytes))=some (some (.bool false),1,1):=by kernel_rfl
theorem Qis:(Tryz.prog.info? 131).map (fun i=>(i.zero,i.size,i.bytes))=some (some (.agg #[.int .i64 0,.int .i64 0]),2,16):=by kernel_rfl
theorem Qqr {w:World} {k size:Nat} {T:TypeId} {v:Value} {n:Nat} {xs:List Value} (hr:w.ownsRow k T size v n xs) (hn:n=0→v=.slice none 0 0):
 (v=.slice none 0 0∧n=0)∨(0<n∧∃g cap,v=.slice (some ⟨g,0,none⟩) n cap∧∀(j:Nat) u,xs[j]? =some u→w.cell? ⟨g,j,none⟩=some u):=by
 rcases Nat.eq_zero_or_pos n with h0|h0;exact .inl ⟨hn h0,h0⟩;rcases hr.2 with ⟨h,h'⟩|⟨g,cap,cur,h,_⟩;omega;refine .inr ⟨h0,g,cap,h,fun j u hu=>?_⟩;have:=hr.cells (g:=g) (by rw [h];rfl) j u hu
 rwa [show (⟨g,0,none⟩:Addr).add j=⟨g,j,none⟩ by unfold Addr.add;split<;>simp_all] at this
theorem addr_add (g j:Nat):(⟨g,0,none⟩:Addr).add j=⟨g,j,none⟩:=by unfold Addr.add;split<;>simp_all
theorem Qoq (l:List Sp):(Qs l).length=l.length*2:=by
 induction l with
 |nil=>rfl
 |cons y r ih=>rw [show Qs (y::r)=y.cells++Qs r from rfl,List.length_append,ih,List.length_cons];simp [Sp.cells];omega
theorem Qzf (W:World):(binOp .eql 77 (.slice none 0 0) (.slice none 0 0)).run Tryz.prog W=.ok (.bool true) W:=by kernel_rfl
theorem Quh (g n cap:Nat) (W:World):(binOp .eql 77 (.slice (some ⟨g,0,none⟩) n cap) (.slice none 0 0)).run Tryz.prog W=.ok (.bool false) W:=by kernel_rfl
theorem Qv8 (W:World):(binOp .eql 30 (.slice none 0 0) (.slice none 0 0)).run Tryz.prog W=.ok (.bool true) W:=by kernel_rfl
theorem Qsm (g n cap:Nat) (W:World):(binOp .eql 30 (.slice (some ⟨g,0,none⟩) n cap) (.slice none 0 0)).run Tryz.prog W=.ok (.bool false) W:=by kernel_rfl
theorem Fq {w0 w:World} {R:List SA} (h:Heap w0 R w) (l:List Bool) (v:Value) (hr:w.ownsRow 0 4 1 v l.length (bools l)) (hn:l.length=0→v=.slice none 0 0) (hl:l.length≤1000):
 Calls Tryz.prog 58 #[v] w fun e w'=>∃v',e=.returned v'∧(l.length=0→v'=.slice none 0 0)∧Heap w0 (.slc v' 4 1 l.length (bools l)::R) w':=by
 have H:=zk h;obtain ⟨i0,hi0,hi1,hi2,hi3⟩:=info_parts QB1;have HI:=zk (And.intro hi0 (And.intro hi1 (And.intro hi2 hi3)));clear hi0 hi1 hi2 hi3 h;rcases Qqr hr hn with ⟨rfl,h0⟩|⟨h0,g,cap,rfl,hX⟩
 ·obtain rfl:l= []:=List.eq_nil_of_length_eq_zero h0;clear hr hn;have hbe:=Qzf;go_enter Tryz.func58,Tryz.ntmps58;go_wp2;go_ret;exact ⟨_,rfl,fun _=>rfl,H.1.nRw 4 1⟩
 ·have HX:=zk hX;have HG:As (0<l.length∧l.length≤1000):=⟨h0,hl⟩;have HN:=zk (Heap.XJ (k:=0) (size:=1) (H.1.new (.cells #[] 4)) (by decide) rfl);clear hr hn hX h0 hl;have hbe:=Quh g l.length cap;go_enter Tryz.func58,Tryz.ntmps58;go_wp2_with (at_builtin;refine wla HN.1 0 _ 4 1 0 [] rfl rfl _ _ 77 rfl i0 _ 1 Tryz.underlying77 HI.1.1 HI.1.2.1 HI.1.2.2.1 HI.1.2.2.2 rfl (by decide) rfl ⟨g,0,none⟩ l.length cap (bools l) rfl (by simp) (fun j u hu=>by rw [addr_add];have:=HX.1 j u hu;rw [←this];exact (Below.refl _ w).alloc (Nat.le_refl _) _ |>.cell (p:=⟨g,j,none⟩) (World.block_lt_of_cell? w _ this)) (fun u hu=>by obtain ⟨x,_,rfl⟩:=List.mem_map.1 hu;rfl) (by have:=HG.1;omega) (by decide) (by have:=HG.1;omega) ?_;intro g2 cap2 w2 h2 _;have H2:=zk h2;clear h2);exact QDp
theorem Quu {w0 w:World} {R:List SA} (h:Heap w0 R w) (l:List Sp) (v:Value) (hr:w.ownsRow 0 131 2 v l.length (Qs l)) (hn:l.length=0→v=.slice none 0 0) (hl:l.length≤1000):
 Calls Tryz.prog 57 #[v] w fun e w'=>∃v',e=.returned v'∧(l.length=0→v'=.slice none 0 0)∧Heap w0 (.slc v' 131 2 l.length (Qs l)::R) w':=by
 have H:=zk h;obtain ⟨i0,hi0,hi1,hi2,hi3⟩:=info_parts Qis;have HI:=zk (And.intro hi0 (And.intro hi1 (And.intro hi2 hi3)));clear hi0 hi1 hi2 hi3 h;have hlen:As ((Qs l).length=l.length*2):=⟨Qoq l⟩;rcases Qqr hr hn with ⟨rfl,h0⟩|⟨h0,g,cap,rfl,hX⟩
 ·obtain rfl:l= []:=List.eq_nil_of_length_eq_zero h0;clear hr hn;have hbe:=Qv8;go_enter Tryz.func57,Tryz.ntmps57;go_wp2;go_ret;exact ⟨_,rfl,fun _=>rfl,H.1.nRw 131 2⟩
 ·have HX:=zk hX;have HG:As (0<l.length∧l.length≤1000):=⟨h0,hl⟩;have HN:=zk (Heap.XJ (k:=0) (size:=2) (H.1.new (.cells #[] 131)) (by decide) rfl);clear hr hn hX h0 hl;have hbe:=Qsm g l.length cap;go_enter Tryz.func57,Tryz.ntmps57;go_wp2_with (at_builtin;refine wla HN.1 0 _ 131 2 0 [] rfl rfl _ _ 30 rfl i0 _ 16 Tryz.underlying30 HI.1.1 HI.1.2.1 HI.1.2.2.1 HI.1.2.2.2 rfl (by decide) rfl ⟨g,0,none⟩ l.length cap (Qs l) rfl hlen.1 (fun j u hu=>by rw [addr_add];have:=HX.1 j u hu;rw [←this];exact (Below.refl _ w).alloc (Nat.le_refl _) _ |>.cell (p:=⟨g,j,none⟩) (World.block_lt_of_cell? w _ this)) (fun u hu=>by obtain ⟨p,_,hp⟩:=List.mem_flatMap.1 hu;simp [Sp.cells] at hp;rcases hp with rfl|rfl<;>rfl) (by have:=HG.1;omega) (by decide) (by have:=HG.1;omega) ?_;intro g2 cap2 w2 h2 _;have H2:=zk h2;clear h2);exact QDp
theorem Heap.Qal {w0 w:World} {l:List SA} {g n cap T size:Nat} {xs:List Value} (h:Heap w0 l w) (i:Nat) (e:l[i]? =some (.slc (.slice (some ⟨g,0,none⟩) n cap) T size n xs)) (j:Nat) (u:Value):
 Heap w0 (l.set i (.slc (.slice (some ⟨g,0,none⟩) n cap) T size n (xs.set j u))) (w.setCell ⟨g,j,none⟩ u):=by
 have:=(h.row i e).stored j u;exact h.Uc i e this.1 this.2 (.inl rfl)
theorem Heap.Zx {w0 w:World} {L:List SA} {g n cap:Nat} {l:List Bool} (h:Heap w0 L w) (i:Nat) (e:L[i]? =some (.slc (.slice (some ⟨g,0,none⟩) n cap) 4 1 n (bools l))) (hn:l.length=n):
 (∀j,(hj:j<l.length)→w.cell? ⟨g,j,none⟩=some (.bool l[j]))∧∀j,w.frozen? ⟨g,j,none⟩=false:=by
 have hr:=h.row i e;exact ⟨fun j hj=>(hr.cellAt j (by omega)).trans (by simp [hj]),fun j=>hr.frozenAt j⟩
theorem Qlh {w0 w:World} {R:List SA} (l:List Bool) (v:Value) (h:Heap w0 (.slc v 4 1 l.length (bools l)::R) w) (hl:l.length≤3):
 CH 128 #[v] w (.tuple #[]) w0 (.slc v 4 1 l.length (bools l.reverse)::R):=by
 have H:=zk h;rcases h.shp 0 rfl with ⟨rfl,h0, -⟩|⟨g,cap,rfl, -⟩;obtain rfl:l= []:=List.eq_nil_of_length_eq_zero h0;exact QC3
 ·rcases l with _|⟨a,_|⟨b,_|⟨c,_|⟨d,t⟩⟩⟩⟩;exact QC3
  ·clear h;go_enter Tryz.func128,Tryz.ntmps128;go_wp2
   go_loopg [2,3] 0 (fun gk i j wr=>i=.int .i64 0∧j=.int .i64 0∧wr=w)
   case atStart=>exact ⟨rfl,rfl,rfl⟩
   case round=>
    obtain ⟨rfl,rfl,rfl⟩:=hrel;go_wp2;go_end0;exact ⟨rfl,H.1⟩
  ·clear h;go_enter Tryz.func128,Tryz.ntmps128;go_wp2
   go_loopg [2,3] 1 (fun gk i j wr=>(gk=1∧i=.int .i64 0∧j=.int .i64 1∧As (Heap w0 (.slc (.slice (some ⟨g,0,none⟩) 2 cap) 4 1 2 (bools [a,b])::R) wr))∨(gk=0∧i=.int .i64 1∧j=.int .i64 0∧As (Heap w0 (.slc (.slice (some ⟨g,0,none⟩) 2 cap) 4 1 2 (bools [b,a])::R) wr)))
   case atStart=>exact .inl ⟨rfl,rfl,rfl,H⟩
   case round=>
    rcases hrel with ⟨rfl,rfl,rfl,HR⟩|⟨rfl,rfl,rfl,HR⟩;obtain ⟨hc,hf⟩:=HR.1.Zx (l:= [a,b]) 0 rfl rfl;have c0:=hc 0 (by simp);have c1:=hc 1 (by simp);simp only [List.getElem_cons_zero,List.getElem_cons_succ] at c0 c1;have tg:=Tg.mk 1;exact QB6
    ·go_wp2;go_end0;exact ⟨rfl,HR.1⟩
  ·clear h;go_enter Tryz.func128,Tryz.ntmps128;go_wp2
   go_loopg [2,3] 1 (fun gk i j wr=>(gk=1∧i=.int .i64 0∧j=.int .i64 2∧As (Heap w0 (.slc (.slice (some ⟨g,0,none⟩) 3 cap) 4 1 3 (bools [a,b,c])::R) wr))∨(gk=0∧i=.int .i64 1∧j=.int .i64 1∧As (Heap w0 (.slc (.slice (some ⟨g,0,none⟩) 3 cap) 4 1 3 (bools [c,b,a])::R) wr)))
   case atStart=>exact .inl ⟨rfl,rfl,rfl,H⟩
   case round=>
    rcases hrel with ⟨rfl,rfl,rfl,HR⟩|⟨rfl,rfl,rfl,HR⟩;obtain ⟨hc,hf⟩:=HR.1.Zx (l:= [a,b,c]) 0 rfl rfl;have c0:=hc 0 (by simp);have c1:=hc 1 (by simp);have c2:=hc 2 (by simp);simp only [List.getElem_cons_zero,List.getElem_cons_succ] at c0 c1 c2;have tg:=Tg.mk 2;exact QB6
    ·go_wp2;go_end0;exact ⟨rfl,HR.1⟩
  simp at hl
theorem Qz1 (l:List Bool) (v:Value) (w:World) (hg:Good w) (hr:w.ownsRow 0 4 1 v l.length (bools l)) (hn:l.length=0→v=.slice none 0 0) (hl:l.length≤3):
 Calls Tryz.prog 95 #[v] w fun e w'=>e=.returned (.bool (Yz l))∧Below w.heap.size w w':=by
 have HC:=zk (Fq (Heap.start hg) l v hr hn (by omega));have HL:=zk hl;obtain ⟨a,cap,rfl⟩:=Qh3 hr;clear hr hn hl;go_enter Tryz.func95,Tryz.ntmps95;go_wp2_with (first|(go_at_call 58;refine HC.1.mono ?_;rintro e w1 ⟨v',rfl,hn',h1⟩;have H1:=zk h1;clear h1)|(go_at_call 128;refine (Qlh l v' H1.1 HL.1).m1 fun w2 H2=>?_)|(go_at_call 94;refine (Qkx l.reverse v' _ (by simpa using H2.1.row 0 rfl) (by have:=HL.1;simp;omega)).mono ?_;rintro e w3 ⟨rfl,rfl⟩));go_ret;exact ⟨rfl,H2.1.bel⟩
def KG (yes turned asked dc uc sh ea ed sf sl:Bool):Bool:=
 !(yes&&turned)&& !(yes&&(dc||uc|| !asked))&& !((uc&& !turned)||(sh&& !yes))&& !((ea||ed)&& !yes&& !turned)&&(sf||turned)&&sl
theorem mpt {f:Facts} {n:Nat} (h:f.may n=true):f.done.length=n∧f.undone.length=n∧
 KG f.yes f.turned f.asked (f.done.contains false) (f.undone.contains true) f.shipped (f.ack0||f.ack1) (f.dam0||f.dam1) (Xg f.done) (Yz f.undone)=true:=by
 unfold Facts.may at h;by_cases h1:f.done.length=n;by_cases h2:f.undone.length=n;refine ⟨h1,h2,?_⟩;rw [if_neg (by simp [h1]),if_neg (by simp [h2])] at h;have key:∀c1 c2 c3 c4 r:Bool,(if c1=true then false else if c2=true then false else if c3=true then false else if c4=true then false else r)=true→(c1=false∧c2=false∧c3=false∧c4=false∧r=true):=by decide
 obtain ⟨e1,e2,e3,e4,e5⟩:=key _ _ _ _ _ h;unfold KG;rw [e1,e2,e3,e4];simpa using e5;simp [h1,h2] at h;simp [h1] at h
theorem Qqy (o:Od) (f:Facts) (v vd vu:Value) (w:World) (hg:Good w) (hok:o.ok) (hf:f.may o.steps.length=true) (hs:w.ownsRow 0 131 2 v o.steps.length (Qs o.steps))
 (hd:w.ownsRow 0 4 1 vd f.done.length (bools f.done)) (hu:w.ownsRow 0 4 1 vu f.undone.length (bools f.undone)) (hn:f.undone.length=0→vu=.slice none 0 0):
 Calls Tryz.prog 60 #[o.val v,f.val vd vu] w fun e w'=>e=.returned (.bool true)∧Below w.heap.size w w':=by
 obtain ⟨l1,l2,hb⟩:=mpt hf;have hl3:=hok.len;have HM:As (∀W,Below w.heap.size w W→Calls Tryz.prog 93 #[o.val v] W fun e w'=>e=.returned (.bool true)∧Below W.heap.size W w'):=⟨fun W hb=>Qrc o v W hok (QR hs hb)⟩;have HC1:As (∀W,Below w.heap.size w W→CE 92 #[vu,.bool true] W (.bool (f.undone.contains true))):=⟨fun W hb=>UA f.undone vu true W (QR hu hb) (by omega)⟩;have HC2:As (∀W,Below w.heap.size w W→CE 92 #[vd,.bool false] W (.bool (f.done.contains false))):=⟨fun W hb=>UA f.done vd false W (QR hd hb) (by omega)⟩;have HF:As (∀W,Below w.heap.size w W→CE 94 #[vd] W (.bool (Xg f.done))):=⟨fun W hb=>Qkx f.done vd W (QR hd hb) (by omega)⟩;have HL:As (∀W,Heap w [] W→Calls Tryz.prog 95 #[vu] W fun e w'=>e=.returned (.bool (Yz f.undone))∧Below W.heap.size W w'):=⟨fun W hW=>Qz1 f.undone vu W hW.tab (QR hu hW.bel) hn (by omega)⟩;have HE:=zk Qg0;have H0:=zk (Heap.nAt (n:=w.heap.size+1) (Heap.new (Heap.start hg) (.cells #[o.id,o.item,o.qty,o.client,o.price,v] 32)) (.cells (f.cells vd vu) 80) (by simp));obtain ⟨ad,cd,rfl⟩:=Qh3 hd;obtain ⟨au,cu,rfl⟩:=Qh3 hu;obtain ⟨av,cs,rfl⟩:∃a cap,v=.slice a o.steps.length cap:=by
  rcases hs.2 with ⟨h,h'⟩|⟨g,cap,cur,h,_⟩;exact ⟨none,0,by rw [h,h']⟩;exact ⟨_,cap,h⟩
 rw [l1] at HC2 HF H0;rw [l2] at HC1 HL H0;rw [l1,l2];obtain ⟨done,undone,asked,yes,turned,a0,a1,sh,d0,d1,acc⟩:=f;clear hs hd hu hn hf hok hl3 l1 l2;simp only [Facts.cells,Facts.val,Od.val] at *;generalize done.contains false=dc at *;generalize undone.contains true=uc at *;generalize Xg done=sf at *;generalize Yz undone=sl at *;generalize hea:(a0||a1)=ea at *;generalize hed:(d0||d1)=ed at *;cases yes with
 |true=>
  have key:∀turned asked dc uc sh ea ed sf sl,KG true turned asked dc uc sh ea ed sf sl=true→(turned=false∧asked=true∧dc=false∧uc=false∧sf=true∧sl=true):=by decide
  obtain ⟨rfl,rfl,rfl,rfl,rfl,rfl⟩:=key _ _ _ _ _ _ _ _ _ hb;clear key hb;cases sh<;>cases ea<;>cases ed
  all_goals
   go_enter Tryz.func60,Tryz.ntmps60;go_wp2_with (first|(go_at_call 93;refine (HM.1 _ H0.1.bel).m2 fun w1 hb=>?_;have hh:=H0.1.below hb;have c0:=hh.cA1 0 rfl;have e0:=hh.cB6 1 rfl;have H1:=zk hh;clear hh hb)|(go_at_call 92;refine (HC1.1 _ H1.1.bel).m0 ?_)|(go_at_call 92;refine (HC2.1 _ H1.1.bel).m0 ?_)|(go_at_call 86;refine (HE.1 _ _ _).m2 fun w2 hb=>?_;(try rw [hea]);(try rw [hed]);have hh:=H1.1.below hb;have c0:=hh.cA1 0 rfl;have e0:=hh.cB6 1 rfl;have H1:=zk hh;clear hh hb)|(go_at_call 94;refine (HF.1 _ H1.1.bel).m0 ?_)|(go_at_call 95;refine (HL.1 _ H1.1.drop.drop).m2 fun w2 hb=>?_;have hh:=H1.1.below hb;have c0:=hh.cA1 0 rfl;have e0:=hh.cB6 1 rfl;have H1:=zk hh;clear hh hb));go_ret;exact ⟨rfl,H1.1.bel⟩
 |false=>
  cases turned with
  |true=>
   have key:∀asked dc uc sh ea ed sf sl,KG false true asked dc uc sh ea ed sf sl=true→(sh=false∧sl=true):=by decide
   obtain ⟨rfl,rfl⟩:=key _ _ _ _ _ _ _ _ hb;clear key hb;cases uc<;>cases sf<;>cases ea<;>cases ed
   all_goals
    go_enter Tryz.func60,Tryz.ntmps60;go_wp2_with (first|(go_at_call 93;refine (HM.1 _ H0.1.bel).m2 fun w1 hb=>?_;have hh:=H0.1.below hb;have c0:=hh.cA1 0 rfl;have e0:=hh.cB6 1 rfl;have H1:=zk hh;clear hh hb)|(go_at_call 92;refine (HC1.1 _ H1.1.bel).m0 ?_)|(go_at_call 92;refine (HC2.1 _ H1.1.bel).m0 ?_)|(go_at_call 86;refine (HE.1 _ _ _).m2 fun w2 hb=>?_;(try rw [hea]);(try rw [hed]);have hh:=H1.1.below hb;have c0:=hh.cA1 0 rfl;have e0:=hh.cB6 1 rfl;have H1:=zk hh;clear hh hb)|(go_at_call 94;refine (HF.1 _ H1.1.bel).m0 ?_)|(go_at_call 95;refine (HL.1 _ H1.1.drop.drop).m2 fun w2 hb=>?_;have hh:=H1.1.below hb;have c0:=hh.cA1 0 rfl;have e0:=hh.cB6 1 rfl;have H1:=zk hh;clear hh hb));go_ret;exact ⟨rfl,H1.1.bel⟩
  |false=>
   have key:∀asked dc uc sh ea ed sf sl,KG false false asked dc uc sh ea ed sf sl=true→(uc=false∧sh=false∧ea=false∧ed=false∧sf=true∧sl=true):=by decide
   obtain ⟨rfl,rfl,rfl,rfl,rfl,rfl⟩:=key _ _ _ _ _ _ _ _ hb;clear key hb;go_enter Tryz.func60,Tryz.ntmps60;go_wp2_with (first|(go_at_call 93;refine (HM.1 _ H0.1.bel).m2 fun w1 hb=>?_;have hh:=H0.1.below hb;have c0:=hh.cA1 0 rfl;have e0:=hh.cB6 1 rfl;have H1:=zk hh;clear hh hb)|(go_at_call 92;refine (HC1.1 _ H1.1.bel).m0 ?_)|(go_at_call 92;refine (HC2.1 _ H1.1.bel).m0 ?_)|(go_at_call 86;refine (HE.1 _ _ _).m2 fun w2 hb=>?_;(try rw [hea]);(try rw [hed]);have hh:=H1.1.below hb;have c0:=hh.cA1 0 rfl;have e0:=hh.cB6 1 rfl;have H1:=zk hh;clear hh hb)|(go_at_call 94;refine (HF.1 _ H1.1.bel).m0 ?_)|(go_at_call 95;refine (HL.1 _ H1.1.drop.drop).m2 fun w2 hb=>?_;have hh:=H1.1.below hb;have c0:=hh.cA1 0 rfl;have e0:=hh.cB6 1 rfl;have H1:=zk hh;clear hh hb));go_ret;exact ⟨rfl,H1.1.bel⟩
theorem QBu {P:Prop} (h:P:=by
 have tg:=Tg.mk 1;exact QDa):P:=h
theorem QBx {P:Prop} (h:P:=by
 have H0:=zk (Heap.nAt (n:=w.heap.size+1) (Heap.new (Heap.start hg) (.cells (o.cells v) 32)) (.cells (f.cells vd vu) 80) (by simp));have HE:As (∀W,Heap w [] W→Calls Tryz.prog 59 #[f.val vd vu] W fun e w'=>e=.returned (.int .i64 f.ends)∧Below W.heap.size W w'):=⟨fun W hW=>Qzp f vd vu W hW.tab (QR h.undone hW.bel) (by have:=(mpt h.may).2.1;have:=h.ok.len;omega)⟩;have HM:As (∀W,Heap w [] W→Calls Tryz.prog 60 #[o.val v,f.val vd vu] W fun e w'=>e=.returned (.bool true)∧Below W.heap.size W w'):=⟨fun W hW=>by
  have h':=h.below hW.bel;exact Qqy o f v vd vu W hW.tab h'.ok h'.may h'.steps h'.done h'.undone h'.nil⟩
 first
  |(have ty:Tg 1:=tg;have HO:=zk (Qpw h.may);obtain ⟨av,cv,rfl⟩:=vS2 h.steps;obtain ⟨ad,cd,rfl⟩:=vS2 h.done;obtain ⟨au,cu,rfl⟩:=vS2 h.undone;have hr0:=(Qj7 f).1;have hr1:=(Qj7 f).2;generalize f.ends=x at *;clear h;simp only [Facts.val,Od.val,Facts.cells,Od.cells] at *;rcases (show x=5∨x=6∨(x≠5∧x≠6) by omega) with rfl|rfl|⟨h5,h6⟩;exact QBu;exact QBu;have b5:(x==5)=false:=by simpa using h5
    have b6:(x==6)=false:=by simpa using h6
    have HX:As ((decide (x=5)||decide (x=6))=false):=⟨by simp [h5,h6]⟩;clear h5 h6;have tg:=Tg.mk 2;exact QDa)
  |(have ty:Tg 2:=tg;have HI:=zk Qg0;have HO:=zk (Qwb h.may);obtain ⟨av,cv,rfl⟩:=vS2 h.steps;obtain ⟨ad,cd,rfl⟩:=vS2 h.done;obtain ⟨au,cu,rfl⟩:=vS2 h.undone;generalize hx:f.ends=x at *;generalize f.state o.steps.length=st at *;clear h;obtain ⟨done,undone,asked,yes,turned,a0,a1,sh,d0,d1,acc⟩:=f;simp only [Facts.val,Od.val,Facts.cells,Od.cells] at *;clear hx;generalize hed:(d0||d1)=ed at *;cases ed<;>cases acc
    all_goals
     go_enter Tryz.func53,Tryz.ntmps53;go_wp2_with (first|(go_at_call 60;refine (HM.1 _ H0.1.drop.drop).m2 fun w1 hb=>?_;have h1:=H0.1.below hb;have c0:=h1.cA1 0 rfl;have e0:=h1.cB6 1 rfl;have H1:=zk h1;clear h1 hb)|(go_at_call 86;refine (HI.1 _ _ _).m2 fun w2 hb=>?_;rw [hed];have h1:=H1.1.below hb;have c0:=h1.cA1 0 rfl;have e0:=h1.cB6 1 rfl;have H2:=zk h1;clear h1 hb)|(go_at_call 59;refine (HE.1 _ H2.1.drop.drop).m2 fun w3 hb=>?_;have H2:=zk (H2.1.below hb);clear hb));go_ret;exact ⟨by rw [HO.1];rfl,H2.1.bel⟩)):P:=h
theorem QDa {P:Prop} (h:P:=by
 go_enter Tryz.func32,Tryz.ntmps32;go_wp2_with (first|(go_at_call 59;refine (HE.1 _ H0.1.drop.drop).m2 fun w1 hb=>?_;have h1:=H0.1.below hb;have c0:=h1.cA1 0 rfl;have e0:=h1.cB6 1 rfl;have H1:=zk h1;clear h1 hb)|(go_at_call 60;refine (HM.1 _ H1.1.drop.drop).m2 fun w2 hb=>?_;have H2:=zk (H1.1.below hb);clear hb));go_ret;first
  |(have ty:Tg 1:=tg;exact ⟨by rw [HO.1];rfl,H2.1.bel⟩)
  |(have ty:Tg 2:=tg;exact ⟨by rw [HO.1,HX.1];rfl,H2.1.bel⟩)):P:=h
structure OFs (w:World) (o:Od) (f:Facts) (v vd vu:Value):Prop where
 ok:o.ok
 may:f.may o.steps.length=true
 steps:w.ownsRow 0 131 2 v o.steps.length (Qs o.steps)
 done:w.ownsRow 0 4 1 vd f.done.length (bools f.done)
 undone:w.ownsRow 0 4 1 vu f.undone.length (bools f.undone)
 nil:f.undone.length=0→vu=.slice none 0 0
theorem OFs.below {w w':World} {o:Od} {f:Facts} {v vd vu:Value} (h:OFs w o f v vd vu) (hb:Below w.heap.size w w'):OFs w' o f v vd vu:=
 ⟨h.ok,h.may,QR h.steps hb,QR h.done hb,QR h.undone hb,h.nil⟩
theorem vS2 {w:World} {k size:Nat} {T:TypeId} {v:Value} {n:Nat} {xs:List Value} (hr:w.ownsRow k T size v n xs):∃a cap,v=.slice a n cap:=by
 rcases hr.2 with ⟨h,h'⟩|⟨g,cap,cur,h,_⟩;exact ⟨none,0,by rw [h,h']⟩;exact ⟨_,cap,h⟩
def Od.cells (o:Od) (v:Value):Array Value:= #[o.id,o.item,o.qty,o.client,o.price,v]
theorem Qj7 (f:Facts):1≤f.ends∧f.ends≤6:=by unfold Facts.ends;repeat' split;all_goals omega
theorem Qpw {f:Facts} {n:Nat} (h:f.may n=true):f.over n=(decide (f.ends=5)||decide (f.ends=6)):=by simp [Facts.over,h]
theorem Qqn (o:Od) (f:Facts) (v vd vu:Value) (w:World) (hg:Good w) (h:OFs w o f v vd vu):
 Calls Tryz.prog 32 #[o.val v,f.val vd vu] w fun e w'=>e=.returned (.bool (f.over o.steps.length))∧Below w.heap.size w w':=by
 have tg:=Tg.mk 1;exact QBx
theorem Qwb {f:Facts} {n:Nat} (h:f.may n=true):f.state n=if ((f.dam0||f.dam1)&& !f.accepted)=true then 7 else f.ends:=by simp [Facts.state,h]
theorem Qxs (o:Od) (f:Facts) (v vd vu:Value) (w:World) (hg:Good w) (h:OFs w o f v vd vu):
 Calls Tryz.prog 53 #[o.val v,f.val vd vu] w fun e w'=>e=.returned (.int .i64 (f.state o.steps.length))∧Below w.heap.size w w':=by
 have tg:=Tg.mk 2;exact QBx
def Msg.val (m:Msg):Value:=.agg #[m.kind,m.frm,m.to,m.id,m.step,m.a,m.b]
theorem Qbn (k to:Int) (o:Od) (v:Value) (w:World) (hg:Good w):
 Calls Tryz.prog 164 #[.int .i64 k,.int .i64 to,o.val v] w fun e w'=>e=.returned (QO k to o).val∧Below w.heap.size w w':=by
 have H0:=Heap.nAt (n:=w.heap.size+1) (Heap.new (Heap.start hg) (.cells (o.cells v) 32)) (.cells #[.int .i64 k,.int .i64 0,.int .i64 to,o.id,.int .i64 0,.int .i64 0,.int .i64 0] 113) (by simp);have HB:=zk H0.bel;obtain ⟨z0,z1,z2,z3,z4,z5,z6,zf⟩:=H0.cB7 0 rfl;have HZ:=zk (And.intro z0 (And.intro z1 (And.intro z2 (And.intro z3 (And.intro z4 (And.intro z5 z6))))));clear H0 z0 z1 z2 z3 z4 z5 z6 zf;unfold Od.val;go_enter Tryz.func164,Tryz.ntmps164;go_wp2;obtain ⟨z0,z1,z2,z3,z4,z5,z6⟩:=HZ.1;simp only [Od.cells] at z0 z1 z2 z3 z4 z5 z6;exact bodyPost_ret (v:=(QO k to o).val) (by simp [results,Tryz.results164,go_sem,Msg.val,QO]) rfl ⟨rfl,HB.1⟩
theorem Kj (W:World) (cs:List Value) (T:TypeId):∀j u,cs[j]? =some u→(W.alloc (.cells cs.toArray T)).cell? ((⟨W.heap.size,0,none⟩:Addr).add j)=some u:=by
 intro j u h;rw [addr_add];simp only [World.cell?,heap_alloc_new];simpa using h
theorem Qeq (l:List Msg):(Qk l).length=l.length*7:=by
 induction l with
 |nil=>rfl
 |cons y r ih=>rw [show Qk (y::r)=y.cells++Qk r from rfl,List.length_append,ih,List.length_cons];simp [Msg.cells];omega
theorem UI (l r:List Msg):Qk (l++r)=Qk l++Qk r:=by simp [Qk]
theorem Jk (m:Msg):∀u∈m.cells,u.oneCell'=true:=by
 intro u hu;simp [Msg.cells] at hu;rcases hu with rfl|rfl|rfl|rfl|rfl|rfl|rfl<;>rfl
def Uj (k:Int) (o:Od) (a0 a1:Bool) (n:Nat):List Msg:=(if 0<n∧a0=false then [QO k 1 o] else [])++(if 1<n∧a1=false then [QO k 2 o] else [])
theorem Qw6 (k:Int) (o:Od) (f:Facts):Uj k o f.ack0 f.ack1 2=Qu k o f:=by
 unfold Uj Qu;cases f.ack0<;>cases f.ack1<;>rfl
theorem Qo7 (W:World):(Instr.index 252 (.agg #[.int .i64 1,.int .i64 2]) (.int .i64 0)).run Tryz.prog W=.ok (.int .i64 1) W:=by kernel_rfl
theorem Qn0 (W:World):(Instr.index 252 (.agg #[.int .i64 1,.int .i64 2]) (.int .i64 1)).run Tryz.prog W=.ok (.int .i64 2) W:=by kernel_rfl
theorem Qlv {w0 w:World} {R:List SA} (h:Heap w0 R w) (k:Int) (o:Od) (f:Facts) (v vd vu:Value):
 Calls Tryz.prog 162 #[.int .i64 k,o.val v,f.val vd vu] w fun e w'=>∃v',e=.returned v'∧Heap w0 (.slc v' 113 7 (Qu k o f).length (Qk (Qu k o f))::R) w':=by
 obtain ⟨i0,hi0,hi1,hi2,hi3⟩:=info_parts DZ;have HI:=zk (And.intro hi0 (And.intro hi1 (And.intro hi2 hi3)));clear hi0 hi1 hi2 hi3;have H:=zk ((Heap.nAt (n:=w.heap.size+1) (Heap.new h (.cells (o.cells v) 32)) (.cells (f.cells vd vu) 80) (by simp)).nRw 113 7);have HT:As (∀to W,Good W→Calls Tryz.prog 164 #[.int .i64 k,.int .i64 to,o.val v] W fun e w'=>e=.returned (QO k to o).val∧Below W.heap.size W w'):=⟨fun to W hg=>Qbn k to o v W hg⟩;have HD:=zk (Qw6 k o f);clear h;obtain ⟨done,undone,asked,yes,turned,a0,a1,sh,d0,d1,acc⟩:=f;simp only [Facts.val,Od.val,Facts.cells,Od.cells] at *;go_enter Tryz.func162,Tryz.ntmps162;go_wp2
 go_loopg [7,8,9,11] 2 (fun gk v7 v8 v9 i wr=>∃(n:Nat) (u:Value),v7=u∧i=.int .i64 n∧n≤2∧As (gk+n=2)∧As (Heap w0 (.slc u 113 7 (Uj k o a0 a1 n).length (Qk (Uj k o a0 a1 n))::.pts (w.heap.size+1) (.cells #[vd,vu,.bool asked,.bool yes,.bool turned,.bool a0,.bool a1,.bool sh,.bool d0,.bool d1,.bool acc] 80)::.pts w.heap.size (.cells #[o.id,o.item,o.qty,o.client,o.price,v] 32)::R) wr))
 case atStart=>exact ⟨0,_,rfl,rfl,by omega,⟨rfl⟩,H⟩
 case round=>
  obtain ⟨n,u,hv,rfl,hk,HG,H2⟩:=hrel;have hS:=H2.1.shp 0 rfl;have hlw:(Uj k o a0 a1 n).length≤2:=by unfold Uj;split<;>split<;>simp
  have c0:=H2.1.cA1 1 rfl;have e0:=H2.1.cB6 2 rfl;have ix0:=Qo7;have ix1:=Qn0;clear H;rcases (show n=0∨n=1∨n=2 by omega) with rfl|rfl|rfl
  ·cases a0
   ·have HE:As ((Uj k o false a1 1).length=(Uj k o false a1 0).length+1∧Qk (Uj k o false a1 1)=Qk (Uj k o false a1 0)++(QO k 1 o).cells):=⟨by simp [Uj,Qk]⟩;rcases hS with ⟨rfl,hz, -⟩|⟨g1,cap1,rfl, -, -, -⟩;all_goals
     subst hv;try clear hz
     generalize hL:(Uj k o false a1 0).length=L at *;clear hL;go_wp2_with (first|(go_at_call 164;refine (HT.1 _ _ H2.1.tab).m2 fun w1 hb=>?_;simp only [Msg.val,QO];have H3:=zk (H2.1.below hb);clear hb)|(at_builtin;refine wla (H3.1.alloc _) 0 _ 113 7 L _ rfl rfl _ _ 84 rfl i0 _ 56 Tryz.underlying84 HI.1.1 HI.1.2.1 HI.1.2.2.1 HI.1.2.2.2 rfl (by decide) rfl ⟨w1.heap.size,0,none⟩ 1 1 (QO k 1 o).cells rfl rfl (Kj _ _ _) (Jk _) (by omega) (by decide) (by omega) ?_;intro g2 cap2 w5 h5 _;have H5:=zk h5;clear h5));go_roundg 1
     case measure=>have:=HG.1;omega
     case rel=>exact ⟨1,.slice (some ⟨g2,0,none⟩) (L+1) cap2,rfl,by go_num,by omega,⟨rfl⟩,⟨by rw [HE.1.1,HE.1.2];exact H5.1⟩⟩
   ·go_wp2;go_roundg 1
    case measure=>have:=HG.1;omega
    case rel=>exact ⟨1,u,hv,by go_num,by omega,⟨rfl⟩,⟨by have:=H2.1;simpa [Uj] using this⟩⟩
  ·cases a1
   ·have HE:As ((Uj k o a0 false 2).length=(Uj k o a0 false 1).length+1∧Qk (Uj k o a0 false 2)=Qk (Uj k o a0 false 1)++(QO k 2 o).cells):=⟨by simp [Uj,Qk]⟩;rcases hS with ⟨rfl,hz, -⟩|⟨g1,cap1,rfl, -, -, -⟩;all_goals
     subst hv;try clear hz
     generalize hL:(Uj k o a0 false 1).length=L at *;clear hL;go_wp2_with (first|(go_at_call 164;refine (HT.1 _ _ H2.1.tab).m2 fun w1 hb=>?_;simp only [Msg.val,QO];have H3:=zk (H2.1.below hb);clear hb)|(at_builtin;refine wla (H3.1.alloc _) 0 _ 113 7 L _ rfl rfl _ _ 84 rfl i0 _ 56 Tryz.underlying84 HI.1.1 HI.1.2.1 HI.1.2.2.1 HI.1.2.2.2 rfl (by decide) rfl ⟨w1.heap.size,0,none⟩ 1 1 (QO k 2 o).cells rfl rfl (Kj _ _ _) (Jk _) (by omega) (by decide) (by omega) ?_;intro g2 cap2 w5 h5 _;have H5:=zk h5;clear h5));go_roundg 0
     case measure=>have:=HG.1;omega
     case rel=>exact ⟨2,.slice (some ⟨g2,0,none⟩) (L+1) cap2,rfl,by go_num,by omega,⟨rfl⟩,⟨by rw [HE.1.1,HE.1.2];exact H5.1⟩⟩
   ·go_wp2;go_roundg 0
    case measure=>have:=HG.1;omega
    case rel=>exact ⟨2,u,hv,by go_num,by omega,⟨rfl⟩,⟨by have:=H2.1;simpa [Uj] using this⟩⟩
  ·go_wp2;go_ret;refine ⟨u,by rw [←hv];rfl,?_⟩;have h9:=H2.1;rw [HD.1] at h9;exact (h9.frt 1 rfl).drop.frt 1 rfl |>.drop
end Go.Proofs.YtlnghlamnehfjaaGreatDoor.S
