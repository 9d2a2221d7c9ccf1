/- Contracts and plain laws of the program, part N11. -/
import Derived.Test.YtlnghlamnehfjaaGreatDoorN09
import Derived.Test.YtlnghlamnehfjaaGreatDoorN10
set_option linter.unusedVariables false
set_option linter.unusedSimpArgs false
set_option maxRecDepth 100000
set_option maxHeartbeats 64000000
namespace Go.Proofs.YtlnghlamnehfjaaGreatDoor.S
open Go.RowKit Go.Maps
theorem zBl21 {P:Prop} (h:P:=by
 clear h;go_enter Tryz.func128,Tryz.ntmps128;go_wp2
 go_loopg [2,3] 0 (fun gk i j wr=>i=.int .i64 0∧j=.int .i64 (-1)∧wr=w)
 case atStart=>exact ⟨rfl,rfl,rfl⟩
 case round=>
  obtain ⟨rfl,rfl,rfl⟩:=hrel;go_wp2;go_end0;exact ⟨rfl,H.out⟩):P:=h
theorem zBl22 {P:Prop} (h:P:=by
 go_ret;refine ⟨_,rfl,fun e=>by have h1:=HG.out.1;rw [e] at h1;exact absurd h1 (by decide),?_⟩;have:=H2.out;simp only [List.set_cons_zero,Nat.zero_add,List.nil_append] at this;exact this):P:=h
theorem info4:(Tryz.prog.info? 4).map (fun i=>(i.zero,i.size,i.bytes))=some (some (.bool false),1,1):=by kernel_rfl
theorem info131:(Tryz.prog.info? 131).map (fun i=>(i.zero,i.size,i.bytes))=some (some (.agg #[.int .i64 0,.int .i64 0]),2,16):=by kernel_rfl
theorem row_lit {w:World} {k size:Nat} {T:TypeId} {v:Value} {n:Nat} {xs:List Value} (hr:w.ownsRow k T size v n xs) (hn:n=0→v=.slice none 0 0):
 (v=.slice none 0 0∧n=0)∨(0<n∧∃g cap,v=.slice (some ⟨g,0,none⟩) n cap∧∀(j:Nat) u,xs[j]? =some u→w.cell? ⟨g,j,none⟩=some u):=by
 rcases Nat.eq_zero_or_pos n with h0|h0
 ·exact .inl ⟨hn h0,h0⟩
 ·rcases hr.2 with ⟨h,h'⟩|⟨g,cap,cur,h,_⟩
  ·omega
  ·refine .inr ⟨h0,g,cap,h,fun j u hu=>?_⟩;have:=hr.cells (g:=g) (by rw [h];rfl) j u hu
   rwa [show (⟨g,0,none⟩:Addr).add j=⟨g,j,none⟩ by unfold Addr.add;split<;>simp_all] at this
theorem addr_add (g j:Nat):(⟨g,0,none⟩:Addr).add j=⟨g,j,none⟩:=by unfold Addr.add;split<;>simp_all
theorem scells_len (l:List Sp):(scells l).length=l.length*2:=by
 induction l with
 |nil=>rfl
 |cons y r ih=>rw [show scells (y::r)=y.cells++scells r from rfl,List.length_append,ih,List.length_cons];simp [Sp.cells];omega
theorem eq77_nil (W:World):(binOp .eql 77 (.slice none 0 0) (.slice none 0 0)).run Tryz.prog W=.ok (.bool true) W:=by kernel_rfl
theorem eq77_some (g n cap:Nat) (W:World):(binOp .eql 77 (.slice (some ⟨g,0,none⟩) n cap) (.slice none 0 0)).run Tryz.prog W=.ok (.bool false) W:=by kernel_rfl
theorem eq30_nil (W:World):(binOp .eql 30 (.slice none 0 0) (.slice none 0 0)).run Tryz.prog W=.ok (.bool true) W:=by kernel_rfl
theorem eq30_some (g n cap:Nat) (W:World):(binOp .eql 30 (.slice (some ⟨g,0,none⟩) n cap) (.slice none 0 0)).run Tryz.prog W=.ok (.bool false) W:=by kernel_rfl
theorem bclone_ok {w0 w:World} {R:List SA} (h:Heap w0 R w) (l:List Bool) (v:Value) (hr:w.ownsRow 0 4 1 v l.length (bools l)) (hn:l.length=0→v=.slice none 0 0) (hl:l.length≤1000):
 Calls Tryz.prog 58 #[v] w fun e w'=>∃v',e=.returned v'∧(l.length=0→v'=.slice none 0 0)∧Heap w0 (.slc v' 4 1 l.length (bools l)::R) w':=by
 have H:=zk h;obtain ⟨i0,hi0,hi1,hi2,hi3⟩:=info_parts info4;have HI:=zk (And.intro hi0 (And.intro hi1 (And.intro hi2 hi3)));clear hi0 hi1 hi2 hi3 h;rcases row_lit hr hn with ⟨rfl,h0⟩|⟨h0,g,cap,rfl,hX⟩
 ·obtain rfl:l= []:=List.eq_nil_of_length_eq_zero h0;clear hr hn;have hbe:=eq77_nil;go_enter Tryz.func58,Tryz.ntmps58;go_wp2;go_ret;exact ⟨_,rfl,fun _=>rfl,H.out.nRw 4 1⟩
 ·have HX:=zk hX;have HG:As (0<l.length∧l.length≤1000):=⟨h0,hl⟩;have HN:=zk (Heap.asSlc (k:=0) (size:=1) (H.out.new (.cells #[] 4)) (by decide) rfl);clear hr hn hX h0 hl;have hbe:=eq77_some g l.length cap;go_enter Tryz.func58,Tryz.ntmps58;go_wp2_with (at_builtin;refine wla HN.out 0 _ 4 1 0 [] rfl rfl _ _ 77 rfl i0 _ 1 Tryz.underlying77 HI.out.1 HI.out.2.1 HI.out.2.2.1 HI.out.2.2.2 rfl (by decide) rfl ⟨g,0,none⟩ l.length cap (bools l) rfl (by simp) (fun j u hu=>by rw [addr_add];have:=HX.out j u hu;rw [←this];exact (Below.refl _ w).alloc (Nat.le_refl _) _ |>.cell (p:=⟨g,j,none⟩) (World.block_lt_of_cell? w _ this)) (fun u hu=>by obtain ⟨x,_,rfl⟩:=List.mem_map.1 hu;rfl) (by have:=HG.out;omega) (by decide) (by have:=HG.out;omega) ?_;intro g2 cap2 w2 h2 _;have H2:=zk h2;clear h2);exact zBl22
theorem sclone_ok {w0 w:World} {R:List SA} (h:Heap w0 R w) (l:List Sp) (v:Value) (hr:w.ownsRow 0 131 2 v l.length (scells l)) (hn:l.length=0→v=.slice none 0 0) (hl:l.length≤1000):
 Calls Tryz.prog 57 #[v] w fun e w'=>∃v',e=.returned v'∧(l.length=0→v'=.slice none 0 0)∧Heap w0 (.slc v' 131 2 l.length (scells l)::R) w':=by
 have H:=zk h;obtain ⟨i0,hi0,hi1,hi2,hi3⟩:=info_parts info131;have HI:=zk (And.intro hi0 (And.intro hi1 (And.intro hi2 hi3)));clear hi0 hi1 hi2 hi3 h;have hlen:As ((scells l).length=l.length*2):=⟨scells_len l⟩;rcases row_lit hr hn with ⟨rfl,h0⟩|⟨h0,g,cap,rfl,hX⟩
 ·obtain rfl:l= []:=List.eq_nil_of_length_eq_zero h0;clear hr hn;have hbe:=eq30_nil;go_enter Tryz.func57,Tryz.ntmps57;go_wp2;go_ret;exact ⟨_,rfl,fun _=>rfl,H.out.nRw 131 2⟩
 ·have HX:=zk hX;have HG:As (0<l.length∧l.length≤1000):=⟨h0,hl⟩;have HN:=zk (Heap.asSlc (k:=0) (size:=2) (H.out.new (.cells #[] 131)) (by decide) rfl);clear hr hn hX h0 hl;have hbe:=eq30_some g l.length cap;go_enter Tryz.func57,Tryz.ntmps57;go_wp2_with (at_builtin;refine wla HN.out 0 _ 131 2 0 [] rfl rfl _ _ 30 rfl i0 _ 16 Tryz.underlying30 HI.out.1 HI.out.2.1 HI.out.2.2.1 HI.out.2.2.2 rfl (by decide) rfl ⟨g,0,none⟩ l.length cap (scells l) rfl hlen.out (fun j u hu=>by rw [addr_add];have:=HX.out j u hu;rw [←this];exact (Below.refl _ w).alloc (Nat.le_refl _) _ |>.cell (p:=⟨g,j,none⟩) (World.block_lt_of_cell? w _ this)) (fun u hu=>by obtain ⟨p,_,hp⟩:=List.mem_flatMap.1 hu;simp [Sp.cells] at hp;rcases hp with rfl|rfl<;>rfl) (by have:=HG.out;omega) (by decide) (by have:=HG.out;omega) ?_;intro g2 cap2 w2 h2 _;have H2:=zk h2;clear h2);exact zBl22
theorem Heap.rowSet {w0 w:World} {l:List SA} {g n cap T size:Nat} {xs:List Value} (h:Heap w0 l w) (i:Nat) (e:l[i]? =some (.slc (.slice (some ⟨g,0,none⟩) n cap) T size n xs)) (j:Nat) (u:Value):
 Heap w0 (l.set i (.slc (.slice (some ⟨g,0,none⟩) n cap) T size n (xs.set j u))) (w.setCell ⟨g,j,none⟩ u):=by
 have:=(h.row i e).stored j u;exact h.rowTurned i e this.1 this.2 (.inl rfl)
theorem Heap.bool_cells {w0 w:World} {L:List SA} {g n cap:Nat} {l:List Bool} (h:Heap w0 L w) (i:Nat) (e:L[i]? =some (.slc (.slice (some ⟨g,0,none⟩) n cap) 4 1 n (bools l))) (hn:l.length=n):
 (∀j,(hj:j<l.length)→w.cell? ⟨g,j,none⟩=some (.bool l[j]))∧∀j,w.frozen? ⟨g,j,none⟩=false:=by
 have hr:=h.row i e;exact ⟨fun j hj=>(hr.cellAt j (by omega)).trans (by simp [hj]),fun j=>hr.frozenAt j⟩
set_option maxHeartbeats 1000000 in
theorem breverse_ok {w0 w:World} {R:List SA} (l:List Bool) (v:Value) (h:Heap w0 (.slc v 4 1 l.length (bools l)::R) w) (hl:l.length≤3):
 Calls Tryz.prog 128 #[v] w fun e w'=>e=.returned (.tuple #[])∧Heap w0 (.slc v 4 1 l.length (bools l.reverse)::R) w':=by
 have H:=zk h;rcases h.shp 0 rfl with ⟨rfl,h0, -⟩|⟨g,cap,rfl, -⟩
 ·obtain rfl:l= []:=List.eq_nil_of_length_eq_zero h0;exact zBl21
 ·rcases l with _|⟨a,_|⟨b,_|⟨c,_|⟨d,t⟩⟩⟩⟩
  ·exact zBl21
  ·clear h;go_enter Tryz.func128,Tryz.ntmps128;go_wp2
   go_loopg [2,3] 0 (fun gk i j wr=>i=.int .i64 0∧j=.int .i64 0∧wr=w)
   case atStart=>exact ⟨rfl,rfl,rfl⟩
   case round=>
    obtain ⟨rfl,rfl,rfl⟩:=hrel;go_wp2;go_end0;exact ⟨rfl,H.out⟩
  ·clear h;go_enter Tryz.func128,Tryz.ntmps128;go_wp2
   go_loopg [2,3] 1 (fun gk i j wr=>(gk=1∧i=.int .i64 0∧j=.int .i64 1∧As (Heap w0 (.slc (.slice (some ⟨g,0,none⟩) 2 cap) 4 1 2 (bools [a,b])::R) wr))∨(gk=0∧i=.int .i64 1∧j=.int .i64 0∧As (Heap w0 (.slc (.slice (some ⟨g,0,none⟩) 2 cap) 4 1 2 (bools [b,a])::R) wr)))
   case atStart=>exact .inl ⟨rfl,rfl,rfl,H⟩
   case round=>
    rcases hrel with ⟨rfl,rfl,rfl,HR⟩|⟨rfl,rfl,rfl,HR⟩
    ·obtain ⟨hc,hf⟩:=HR.out.bool_cells (l:= [a,b]) 0 rfl rfl;have c0:=hc 0 (by simp);have c1:=hc 1 (by simp);simp only [List.getElem_cons_zero,List.getElem_cons_succ] at c0 c1;have hgb:=World.block_lt_of_cell? wr _ c0;clear hc;go_wp2;refine wro0 [(0,.f),(1,.f),(2,.f),(3,.f),(4,.f),(5,.f),(6,.f),(7,.s),(8,.f),(9,.f),(10,.f),(11,.s),(12,.f),(13,.e),(14,.f),(15,.e)] ?_;repeat (first
      |(refine vg rfl rfl ?_;apply ex2;intro w' hw';go_simp;rfl;go_simp)
      |(refine vs_ rfl (fun K hK=>?_);go_simp;refine hK _ ?_;clear hK K)
      |(refine ve rfl rfl ?_;go_wp2_with (fail);refine ⟨trivial,?_⟩;go_simp))
     refine vn ?_;go_simp;go_wp2_with (fail);go_roundg 0
     case measure=>decide
     case rel=>exact .inr ⟨rfl,rfl,rfl,⟨(HR.out.drew.rowSet 0 rfl 0 (.bool b)).rowSet 0 rfl 1 (.bool a)⟩⟩
    ·go_wp2;go_end0;exact ⟨rfl,HR.out⟩
  ·clear h;go_enter Tryz.func128,Tryz.ntmps128;go_wp2
   go_loopg [2,3] 1 (fun gk i j wr=>(gk=1∧i=.int .i64 0∧j=.int .i64 2∧As (Heap w0 (.slc (.slice (some ⟨g,0,none⟩) 3 cap) 4 1 3 (bools [a,b,c])::R) wr))∨(gk=0∧i=.int .i64 1∧j=.int .i64 1∧As (Heap w0 (.slc (.slice (some ⟨g,0,none⟩) 3 cap) 4 1 3 (bools [c,b,a])::R) wr)))
   case atStart=>exact .inl ⟨rfl,rfl,rfl,H⟩
   case round=>
    rcases hrel with ⟨rfl,rfl,rfl,HR⟩|⟨rfl,rfl,rfl,HR⟩
    ·obtain ⟨hc,hf⟩:=HR.out.bool_cells (l:= [a,b,c]) 0 rfl rfl;have c0:=hc 0 (by simp);have c1:=hc 1 (by simp);have c2:=hc 2 (by simp);simp only [List.getElem_cons_zero,List.getElem_cons_succ] at c0 c1 c2;have hgb:=World.block_lt_of_cell? wr _ c0;clear hc;go_wp2;refine wro0 [(0,.f),(1,.f),(2,.f),(3,.f),(4,.f),(5,.f),(6,.f),(7,.s),(8,.f),(9,.f),(10,.f),(11,.s),(12,.f),(13,.e),(14,.f),(15,.e)] ?_;repeat (first
      |(refine vg rfl rfl ?_;apply ex2;intro w' hw';go_simp;rfl;go_simp)
      |(refine vs_ rfl (fun K hK=>?_);go_simp;refine hK _ ?_;clear hK K)
      |(refine ve rfl rfl ?_;go_wp2_with (fail);refine ⟨trivial,?_⟩;go_simp))
     refine vn ?_;go_simp;go_wp2_with (fail);go_roundg 0
     case measure=>decide
     case rel=>exact .inr ⟨rfl,rfl,rfl,⟨(HR.out.drew.rowSet 0 rfl 0 (.bool c)).rowSet 0 rfl 2 (.bool a)⟩⟩
    ·go_wp2;go_end0;exact ⟨rfl,HR.out⟩
  ·simp at hl
theorem last_ok (l:List Bool) (v:Value) (w:World) (hg:Good w) (hr:w.ownsRow 0 4 1 v l.length (bools l)) (hn:l.length=0→v=.slice none 0 0) (hl:l.length≤3):
 Calls Tryz.prog 95 #[v] w fun e w'=>e=.returned (.bool (sLast l))∧Below w.heap.size w w':=by
 have HC:=zk (bclone_ok (Heap.start hg) l v hr hn (by omega));have HL:=zk hl;obtain ⟨a,cap,rfl⟩:=vslice hr;clear hr hn hl;go_enter Tryz.func95,Tryz.ntmps95;go_wp2_with (first|(go_at_call 58;refine HC.out.mono ?_;rintro e w1 ⟨v',rfl,hn',h1⟩;have H1:=zk h1;clear h1)|(go_at_call 128;refine (breverse_ok l v' H1.out HL.out).mono ?_;rintro e w2 ⟨rfl,h2⟩;have H2:=zk h2;clear h2)|(go_at_call 94;refine (first_ok l.reverse v' _ (by simpa using H2.out.row 0 rfl) (by have:=HL.out;simp;omega)).mono ?_;rintro e w3 ⟨rfl,rfl⟩));go_ret;exact ⟨rfl,H2.out.bel⟩
def mayB (yes turned asked dc uc sh ea ed sf sl:Bool):Bool:=
 !(yes&&turned)&& !(yes&&(dc||uc|| !asked))&& !((uc&& !turned)||(sh&& !yes))&& !((ea||ed)&& !yes&& !turned)&&(sf||turned)&&sl
theorem mpt {f:Facts} {n:Nat} (h:f.may n=true):f.done.length=n∧f.undone.length=n∧
 mayB f.yes f.turned f.asked (f.done.contains false) (f.undone.contains true) f.shipped (f.ack0||f.ack1) (f.dam0||f.dam1) (sFirst f.done) (sLast f.undone)=true:=by
 unfold Facts.may at h;by_cases h1:f.done.length=n
 ·by_cases h2:f.undone.length=n
  ·refine ⟨h1,h2,?_⟩;rw [if_neg (by simp [h1]),if_neg (by simp [h2])] at h;have key:∀c1 c2 c3 c4 r:Bool,(if c1=true then false else if c2=true then false else if c3=true then false else if c4=true then false else r)=true→(c1=false∧c2=false∧c3=false∧c4=false∧r=true):=by decide
   obtain ⟨e1,e2,e3,e4,e5⟩:=key _ _ _ _ _ h;unfold mayB;rw [e1,e2,e3,e4];simpa using e5
  ·simp [h1,h2] at h
 ·simp [h1] at h
set_option maxHeartbeats 8000000 in
theorem may_ok2 (o:Od) (f:Facts) (v vd vu:Value) (w:World) (hg:Good w) (hok:o.ok) (hf:f.may o.steps.length=true) (hs:w.ownsRow 0 131 2 v o.steps.length (scells o.steps))
 (hd:w.ownsRow 0 4 1 vd f.done.length (bools f.done)) (hu:w.ownsRow 0 4 1 vu f.undone.length (bools f.undone)) (hn:f.undone.length=0→vu=.slice none 0 0):
 Calls Tryz.prog 60 #[o.val v,f.val vd vu] w fun e w'=>e=.returned (.bool true)∧Below w.heap.size w w':=by
 obtain ⟨l1,l2,hb⟩:=mpt hf;have hl3:=hok.len;have HM:As (∀W,Below w.heap.size w W→Calls Tryz.prog 93 #[o.val v] W fun e w'=>e=.returned (.bool true)∧Below W.heap.size W w'):=⟨fun W hb=>omay_ok o v W hok (row_below hs hb)⟩;have HC1:As (∀W,Below w.heap.size w W→Calls Tryz.prog 92 #[vu,.bool true] W fun e w'=>e=.returned (.bool (f.undone.contains true))∧W=w'):=⟨fun W hb=>bcontains_ok f.undone vu true W (row_below hu hb) (by omega)⟩;have HC2:As (∀W,Below w.heap.size w W→Calls Tryz.prog 92 #[vd,.bool false] W fun e w'=>e=.returned (.bool (f.done.contains false))∧W=w'):=⟨fun W hb=>bcontains_ok f.done vd false W (row_below hd hb) (by omega)⟩;have HF:As (∀W,Below w.heap.size w W→Calls Tryz.prog 94 #[vd] W fun e w'=>e=.returned (.bool (sFirst f.done))∧W=w'):=⟨fun W hb=>first_ok f.done vd W (row_below hd hb) (by omega)⟩;have HL:As (∀W,Heap w [] W→Calls Tryz.prog 95 #[vu] W fun e w'=>e=.returned (.bool (sLast f.undone))∧Below W.heap.size W w'):=⟨fun W hW=>last_ok f.undone vu W hW.tab (row_below hu hW.bel) hn (by omega)⟩;have HE:=zk either_ok;have H0:=zk (Heap.nAt (n:=w.heap.size+1) (Heap.new (Heap.start hg) (.cells #[.int .i64 o.id,.int .i64 o.item,.int .i64 o.qty,.int .i64 o.client,.int .i64 o.price,v] 32)) (.cells (f.cells vd vu) 80) (by simp));obtain ⟨ad,cd,rfl⟩:=vslice hd;obtain ⟨au,cu,rfl⟩:=vslice hu;obtain ⟨av,cs,rfl⟩:∃a cap,v=.slice a o.steps.length cap:=by
  rcases hs.2 with ⟨h,h'⟩|⟨g,cap,cur,h,_⟩
  ·exact ⟨none,0,by rw [h,h']⟩
  ·exact ⟨_,cap,h⟩
 rw [l1] at HC2 HF H0;rw [l2] at HC1 HL H0;rw [l1,l2];obtain ⟨done,undone,asked,yes,turned,a0,a1,sh,d0,d1,acc⟩:=f;clear hs hd hu hn hf hok hl3 l1 l2;simp only [Facts.cells,Facts.val,Od.val] at *;generalize done.contains false=dc at *;generalize undone.contains true=uc at *;generalize sFirst done=sf at *;generalize sLast undone=sl at *;generalize hea:(a0||a1)=ea at *;generalize hed:(d0||d1)=ed at *;cases yes with
 |true=>
  have key:∀turned asked dc uc sh ea ed sf sl,mayB true turned asked dc uc sh ea ed sf sl=true→(turned=false∧asked=true∧dc=false∧uc=false∧sf=true∧sl=true):=by decide
  obtain ⟨rfl,rfl,rfl,rfl,rfl,rfl⟩:=key _ _ _ _ _ _ _ _ _ hb;clear key hb;cases sh<;>cases ea<;>cases ed
  all_goals
   go_enter Tryz.func60,Tryz.ntmps60;go_wp2_with (first|(go_at_call 93;refine (HM.out _ H0.out.bel).mono ?_;rintro e w1 ⟨rfl,hb⟩;have hh:=H0.out.below hb;obtain ⟨c0,c1,c2,c3,c4,c5,c6,c7,c8,c9,c10,cf⟩:=hh.cA1 0 rfl;obtain ⟨e0,e1,e2,e3,e4,e5,ef⟩:=hh.cB6 1 rfl;have H1:=zk hh;clear hh hb)|(go_at_call 92;refine (HC1.out _ H1.out.bel).mono ?_;rintro e w2 ⟨rfl,rfl⟩)|(go_at_call 92;refine (HC2.out _ H1.out.bel).mono ?_;rintro e w2 ⟨rfl,rfl⟩)|(go_at_call 86;refine (HE.out _ _ _).mono ?_;rintro e w2 ⟨rfl,hb⟩;(try rw [hea]);(try rw [hed]);have hh:=H1.out.below hb;obtain ⟨c0,c1,c2,c3,c4,c5,c6,c7,c8,c9,c10,cf⟩:=hh.cA1 0 rfl;obtain ⟨e0,e1,e2,e3,e4,e5,ef⟩:=hh.cB6 1 rfl;have H1:=zk hh;clear hh hb)|(go_at_call 94;refine (HF.out _ H1.out.bel).mono ?_;rintro e w2 ⟨rfl,rfl⟩)|(go_at_call 95;refine (HL.out _ H1.out.drop.drop).mono ?_;rintro e w2 ⟨rfl,hb⟩;have hh:=H1.out.below hb;obtain ⟨c0,c1,c2,c3,c4,c5,c6,c7,c8,c9,c10,cf⟩:=hh.cA1 0 rfl;obtain ⟨e0,e1,e2,e3,e4,e5,ef⟩:=hh.cB6 1 rfl;have H1:=zk hh;clear hh hb));go_ret;exact ⟨rfl,H1.out.bel⟩
 |false=>
  cases turned with
  |true=>
   have key:∀asked dc uc sh ea ed sf sl,mayB false true asked dc uc sh ea ed sf sl=true→(sh=false∧sl=true):=by decide
   obtain ⟨rfl,rfl⟩:=key _ _ _ _ _ _ _ _ hb;clear key hb;cases uc<;>cases sf<;>cases ea<;>cases ed
   all_goals
    go_enter Tryz.func60,Tryz.ntmps60;go_wp2_with (first|(go_at_call 93;refine (HM.out _ H0.out.bel).mono ?_;rintro e w1 ⟨rfl,hb⟩;have hh:=H0.out.below hb;obtain ⟨c0,c1,c2,c3,c4,c5,c6,c7,c8,c9,c10,cf⟩:=hh.cA1 0 rfl;obtain ⟨e0,e1,e2,e3,e4,e5,ef⟩:=hh.cB6 1 rfl;have H1:=zk hh;clear hh hb)|(go_at_call 92;refine (HC1.out _ H1.out.bel).mono ?_;rintro e w2 ⟨rfl,rfl⟩)|(go_at_call 92;refine (HC2.out _ H1.out.bel).mono ?_;rintro e w2 ⟨rfl,rfl⟩)|(go_at_call 86;refine (HE.out _ _ _).mono ?_;rintro e w2 ⟨rfl,hb⟩;(try rw [hea]);(try rw [hed]);have hh:=H1.out.below hb;obtain ⟨c0,c1,c2,c3,c4,c5,c6,c7,c8,c9,c10,cf⟩:=hh.cA1 0 rfl;obtain ⟨e0,e1,e2,e3,e4,e5,ef⟩:=hh.cB6 1 rfl;have H1:=zk hh;clear hh hb)|(go_at_call 94;refine (HF.out _ H1.out.bel).mono ?_;rintro e w2 ⟨rfl,rfl⟩)|(go_at_call 95;refine (HL.out _ H1.out.drop.drop).mono ?_;rintro e w2 ⟨rfl,hb⟩;have hh:=H1.out.below hb;obtain ⟨c0,c1,c2,c3,c4,c5,c6,c7,c8,c9,c10,cf⟩:=hh.cA1 0 rfl;obtain ⟨e0,e1,e2,e3,e4,e5,ef⟩:=hh.cB6 1 rfl;have H1:=zk hh;clear hh hb));go_ret;exact ⟨rfl,H1.out.bel⟩
  |false=>
   have key:∀asked dc uc sh ea ed sf sl,mayB false false asked dc uc sh ea ed sf sl=true→(uc=false∧sh=false∧ea=false∧ed=false∧sf=true∧sl=true):=by decide
   obtain ⟨rfl,rfl,rfl,rfl,rfl,rfl⟩:=key _ _ _ _ _ _ _ _ hb;clear key hb;go_enter Tryz.func60,Tryz.ntmps60;go_wp2_with (first|(go_at_call 93;refine (HM.out _ H0.out.bel).mono ?_;rintro e w1 ⟨rfl,hb⟩;have hh:=H0.out.below hb;obtain ⟨c0,c1,c2,c3,c4,c5,c6,c7,c8,c9,c10,cf⟩:=hh.cA1 0 rfl;obtain ⟨e0,e1,e2,e3,e4,e5,ef⟩:=hh.cB6 1 rfl;have H1:=zk hh;clear hh hb)|(go_at_call 92;refine (HC1.out _ H1.out.bel).mono ?_;rintro e w2 ⟨rfl,rfl⟩)|(go_at_call 92;refine (HC2.out _ H1.out.bel).mono ?_;rintro e w2 ⟨rfl,rfl⟩)|(go_at_call 86;refine (HE.out _ _ _).mono ?_;rintro e w2 ⟨rfl,hb⟩;(try rw [hea]);(try rw [hed]);have hh:=H1.out.below hb;obtain ⟨c0,c1,c2,c3,c4,c5,c6,c7,c8,c9,c10,cf⟩:=hh.cA1 0 rfl;obtain ⟨e0,e1,e2,e3,e4,e5,ef⟩:=hh.cB6 1 rfl;have H1:=zk hh;clear hh hb)|(go_at_call 94;refine (HF.out _ H1.out.bel).mono ?_;rintro e w2 ⟨rfl,rfl⟩)|(go_at_call 95;refine (HL.out _ H1.out.drop.drop).mono ?_;rintro e w2 ⟨rfl,hb⟩;have hh:=H1.out.below hb;obtain ⟨c0,c1,c2,c3,c4,c5,c6,c7,c8,c9,c10,cf⟩:=hh.cA1 0 rfl;obtain ⟨e0,e1,e2,e3,e4,e5,ef⟩:=hh.cB6 1 rfl;have H1:=zk hh;clear hh hb));go_ret;exact ⟨rfl,H1.out.bel⟩
theorem zSg41 {P:Prop} (h:P:=by
 go_enter Tryz.func32,Tryz.ntmps32;go_wp2_with (first|(go_at_call 59;refine (HE.out _ H0.out.drop.drop).mono ?_;rintro e w1 ⟨rfl,hb⟩;have h1:=H0.out.below hb;obtain ⟨c0,c1,c2,c3,c4,c5,c6,c7,c8,c9,c10,cf⟩:=h1.cA1 0 rfl;obtain ⟨e0,e1,e2,e3,e4,e5,ef⟩:=h1.cB6 1 rfl;have H1:=zk h1;clear h1 hb)|(go_at_call 60;refine (HM.out _ H1.out.drop.drop).mono ?_;rintro e w2 ⟨rfl,hb⟩;have H2:=zk (H1.out.below hb);clear hb));go_ret;exact ⟨by rw [HO.out];rfl,H2.out.bel⟩):P:=h
structure OFs (w:World) (o:Od) (f:Facts) (v vd vu:Value):Prop where
 ok:o.ok
 may:f.may o.steps.length=true
 steps:w.ownsRow 0 131 2 v o.steps.length (scells o.steps)
 done:w.ownsRow 0 4 1 vd f.done.length (bools f.done)
 undone:w.ownsRow 0 4 1 vu f.undone.length (bools f.undone)
 nil:f.undone.length=0→vu=.slice none 0 0
theorem OFs.below {w w':World} {o:Od} {f:Facts} {v vd vu:Value} (h:OFs w o f v vd vu) (hb:Below w.heap.size w w'):OFs w' o f v vd vu:=
 ⟨h.ok,h.may,row_below h.steps hb,row_below h.done hb,row_below h.undone hb,h.nil⟩
theorem vS2 {w:World} {k size:Nat} {T:TypeId} {v:Value} {n:Nat} {xs:List Value} (hr:w.ownsRow k T size v n xs):∃a cap,v=.slice a n cap:=by
 rcases hr.2 with ⟨h,h'⟩|⟨g,cap,cur,h,_⟩
 ·exact ⟨none,0,by rw [h,h']⟩
 ·exact ⟨_,cap,h⟩
def Od.cells (o:Od) (v:Value):Array Value:= #[.int .i64 o.id,.int .i64 o.item,.int .i64 o.qty,.int .i64 o.client,.int .i64 o.price,v]
theorem ends_rng (f:Facts):1≤f.ends∧f.ends≤6:=by unfold Facts.ends;repeat' split;all_goals omega
theorem over_eq {f:Facts} {n:Nat} (h:f.may n=true):f.over n=(decide (f.ends=5)||decide (f.ends=6)):=by simp [Facts.over,h]
set_option maxHeartbeats 1000000 in
theorem over_ok (o:Od) (f:Facts) (v vd vu:Value) (w:World) (hg:Good w) (h:OFs w o f v vd vu):
 Calls Tryz.prog 32 #[o.val v,f.val vd vu] w fun e w'=>e=.returned (.bool (f.over o.steps.length))∧Below w.heap.size w w':=by
 have H0:=zk (Heap.nAt (n:=w.heap.size+1) (Heap.new (Heap.start hg) (.cells (o.cells v) 32)) (.cells (f.cells vd vu) 80) (by simp));have HE:As (∀W,Heap w [] W→Calls Tryz.prog 59 #[f.val vd vu] W fun e w'=>e=.returned (.int .i64 f.ends)∧Below W.heap.size W w'):=⟨fun W hW=>ends_ok f vd vu W hW.tab (row_below h.undone hW.bel) (by have:=(mpt h.may).2.1;have:=h.ok.len;omega)⟩;have HM:As (∀W,Heap w [] W→Calls Tryz.prog 60 #[o.val v,f.val vd vu] W fun e w'=>e=.returned (.bool true)∧Below W.heap.size W w'):=⟨fun W hW=>by
  have h':=h.below hW.bel;exact may_ok2 o f v vd vu W hW.tab h'.ok h'.may h'.steps h'.done h'.undone h'.nil⟩
 have HO:=zk (over_eq h.may);obtain ⟨av,cv,rfl⟩:=vS2 h.steps;obtain ⟨ad,cd,rfl⟩:=vS2 h.done;obtain ⟨au,cu,rfl⟩:=vS2 h.undone;have hr0:=(ends_rng f).1;have hr1:=(ends_rng f).2;generalize f.ends=x at *;clear h;simp only [Facts.val,Od.val,Facts.cells,Od.cells] at *;rcases (show x=5∨x=6∨(x≠5∧x≠6) by omega) with rfl|rfl|⟨h5,h6⟩
 ·exact zSg41
 ·exact zSg41
 ·have b5:(x==5)=false:=by simpa using h5
  have b6:(x==6)=false:=by simpa using h6
  have HX:As ((decide (x=5)||decide (x=6))=false):=⟨by simp [h5,h6]⟩;clear h5 h6;go_enter Tryz.func32,Tryz.ntmps32;go_wp2_with (first|(go_at_call 59;refine (HE.out _ H0.out.drop.drop).mono ?_;rintro e w1 ⟨rfl,hb⟩;have h1:=H0.out.below hb;obtain ⟨c0,c1,c2,c3,c4,c5,c6,c7,c8,c9,c10,cf⟩:=h1.cA1 0 rfl;obtain ⟨e0,e1,e2,e3,e4,e5,ef⟩:=h1.cB6 1 rfl;have H1:=zk h1;clear h1 hb)|(go_at_call 60;refine (HM.out _ H1.out.drop.drop).mono ?_;rintro e w2 ⟨rfl,hb⟩;have H2:=zk (H1.out.below hb);clear hb));go_ret;exact ⟨by rw [HO.out,HX.out];rfl,H2.out.bel⟩
theorem state_eq {f:Facts} {n:Nat} (h:f.may n=true):f.state n=if ((f.dam0||f.dam1)&& !f.accepted)=true then 7 else f.ends:=by simp [Facts.state,h]
set_option maxHeartbeats 2000000 in
theorem state_ok (o:Od) (f:Facts) (v vd vu:Value) (w:World) (hg:Good w) (h:OFs w o f v vd vu):
 Calls Tryz.prog 53 #[o.val v,f.val vd vu] w fun e w'=>e=.returned (.int .i64 (f.state o.steps.length))∧Below w.heap.size w w':=by
 have H0:=zk (Heap.nAt (n:=w.heap.size+1) (Heap.new (Heap.start hg) (.cells (o.cells v) 32)) (.cells (f.cells vd vu) 80) (by simp));have HE:As (∀W,Heap w [] W→Calls Tryz.prog 59 #[f.val vd vu] W fun e w'=>e=.returned (.int .i64 f.ends)∧Below W.heap.size W w'):=⟨fun W hW=>ends_ok f vd vu W hW.tab (row_below h.undone hW.bel) (by have:=(mpt h.may).2.1;have:=h.ok.len;omega)⟩;have HM:As (∀W,Heap w [] W→Calls Tryz.prog 60 #[o.val v,f.val vd vu] W fun e w'=>e=.returned (.bool true)∧Below W.heap.size W w'):=⟨fun W hW=>by
  have h':=h.below hW.bel;exact may_ok2 o f v vd vu W hW.tab h'.ok h'.may h'.steps h'.done h'.undone h'.nil⟩
 have HI:=zk either_ok;have HO:=zk (state_eq h.may);obtain ⟨av,cv,rfl⟩:=vS2 h.steps;obtain ⟨ad,cd,rfl⟩:=vS2 h.done;obtain ⟨au,cu,rfl⟩:=vS2 h.undone;generalize hx:f.ends=x at *;generalize f.state o.steps.length=st at *;clear h;obtain ⟨done,undone,asked,yes,turned,a0,a1,sh,d0,d1,acc⟩:=f;simp only [Facts.val,Od.val,Facts.cells,Od.cells] at *;clear hx;generalize hed:(d0||d1)=ed at *;cases ed<;>cases acc
 all_goals
  go_enter Tryz.func53,Tryz.ntmps53;go_wp2_with (first|(go_at_call 60;refine (HM.out _ H0.out.drop.drop).mono ?_;rintro e w1 ⟨rfl,hb⟩;have h1:=H0.out.below hb;obtain ⟨c0,c1,c2,c3,c4,c5,c6,c7,c8,c9,c10,cf⟩:=h1.cA1 0 rfl;obtain ⟨e0,e1,e2,e3,e4,e5,ef⟩:=h1.cB6 1 rfl;have H1:=zk h1;clear h1 hb)|(go_at_call 86;refine (HI.out _ _ _).mono ?_;rintro e w2 ⟨rfl,hb⟩;rw [hed];have h1:=H1.out.below hb;obtain ⟨c0,c1,c2,c3,c4,c5,c6,c7,c8,c9,c10,cf⟩:=h1.cA1 0 rfl;obtain ⟨e0,e1,e2,e3,e4,e5,ef⟩:=h1.cB6 1 rfl;have H2:=zk h1;clear h1 hb)|(go_at_call 59;refine (HE.out _ H2.out.drop.drop).mono ?_;rintro e w3 ⟨rfl,hb⟩;have H2:=zk (H2.out.below hb);clear hb));go_ret;exact ⟨by rw [HO.out];rfl,H2.out.bel⟩
def Msg.val (m:Msg):Value:=.agg #[.int .i64 m.kind,.int .i64 m.frm,.int .i64 m.to,.int .i64 m.id,.int .i64 m.step,.int .i64 m.a,.int .i64 m.b]
theorem tell_ok (k to:Int) (o:Od) (v:Value) (w:World) (hg:Good w):
 Calls Tryz.prog 164 #[.int .i64 k,.int .i64 to,o.val v] w fun e w'=>e=.returned (tellM k to o).val∧Below w.heap.size w w':=by
 have H0:=Heap.nAt (n:=w.heap.size+1) (Heap.new (Heap.start hg) (.cells (o.cells v) 32)) (.cells #[.int .i64 k,.int .i64 0,.int .i64 to,.int .i64 o.id,.int .i64 0,.int .i64 0,.int .i64 0] 113) (by simp);have HB:=zk H0.bel;obtain ⟨z0,z1,z2,z3,z4,z5,z6,zf⟩:=H0.cB7 0 rfl;have HZ:=zk (And.intro z0 (And.intro z1 (And.intro z2 (And.intro z3 (And.intro z4 (And.intro z5 z6))))));clear H0 z0 z1 z2 z3 z4 z5 z6 zf;unfold Od.val;go_enter Tryz.func164,Tryz.ntmps164;go_wp2;obtain ⟨z0,z1,z2,z3,z4,z5,z6⟩:=HZ.out;simp only [Od.cells] at z0 z1 z2 z3 z4 z5 z6;exact bodyPost_ret (v:=(tellM k to o).val) (by simp [results,Tryz.results164,go_sem,Msg.val,tellM]) rfl ⟨rfl,HB.out⟩
theorem cells_newL (W:World) (cs:List Value) (T:TypeId):∀j u,cs[j]? =some u→(W.alloc (.cells cs.toArray T)).cell? ((⟨W.heap.size,0,none⟩:Addr).add j)=some u:=by
 intro j u h;rw [addr_add];simp only [World.cell?,heap_alloc_new];simpa using h
theorem mcells_len (l:List Msg):(mcells l).length=l.length*7:=by
 induction l with
 |nil=>rfl
 |cons y r ih=>rw [show mcells (y::r)=y.cells++mcells r from rfl,List.length_append,ih,List.length_cons];simp [Msg.cells];omega
theorem mcells_app (l r:List Msg):mcells (l++r)=mcells l++mcells r:=by simp [mcells]
theorem msg_one (m:Msg):∀u∈m.cells,u.oneCell'=true:=by
 intro u hu;simp [Msg.cells] at hu;rcases hu with rfl|rfl|rfl|rfl|rfl|rfl|rfl<;>rfl
def decK (k:Int) (o:Od) (a0 a1:Bool) (n:Nat):List Msg:=(if 0<n∧a0=false then [tellM k 1 o] else [])++(if 1<n∧a1=false then [tellM k 2 o] else [])
theorem decK_two (k:Int) (o:Od) (f:Facts):decK k o f.ack0 f.ack1 2=decisionM k o f:=by
 unfold decK decisionM;cases f.ack0<;>cases f.ack1<;>rfl
theorem index252_0 (W:World):(Instr.index 252 (.agg #[.int .i64 1,.int .i64 2]) (.int .i64 0)).run Tryz.prog W=.ok (.int .i64 1) W:=by kernel_rfl
theorem index252_1 (W:World):(Instr.index 252 (.agg #[.int .i64 1,.int .i64 2]) (.int .i64 1)).run Tryz.prog W=.ok (.int .i64 2) W:=by kernel_rfl
set_option maxHeartbeats 4000000 in
theorem decision_ok {w0 w:World} {R:List SA} (h:Heap w0 R w) (k:Int) (o:Od) (f:Facts) (v vd vu:Value):
 Calls Tryz.prog 162 #[.int .i64 k,o.val v,f.val vd vu] w fun e w'=>∃v',e=.returned v'∧Heap w0 (.slc v' 113 7 (decisionM k o f).length (mcells (decisionM k o f))::R) w':=by
 obtain ⟨i0,hi0,hi1,hi2,hi3⟩:=info_parts info113;have HI:=zk (And.intro hi0 (And.intro hi1 (And.intro hi2 hi3)));clear hi0 hi1 hi2 hi3;have H:=zk ((Heap.nAt (n:=w.heap.size+1) (Heap.new h (.cells (o.cells v) 32)) (.cells (f.cells vd vu) 80) (by simp)).nRw 113 7);have HT:As (∀to W,Good W→Calls Tryz.prog 164 #[.int .i64 k,.int .i64 to,o.val v] W fun e w'=>e=.returned (tellM k to o).val∧Below W.heap.size W w'):=⟨fun to W hg=>tell_ok k to o v W hg⟩;have HD:=zk (decK_two k o f);clear h;obtain ⟨done,undone,asked,yes,turned,a0,a1,sh,d0,d1,acc⟩:=f;simp only [Facts.val,Od.val,Facts.cells,Od.cells] at *;go_enter Tryz.func162,Tryz.ntmps162;go_wp2
 go_loopg [7,8,9,11] 2 (fun gk v7 v8 v9 i wr=>∃(n:Nat) (u:Value),v7=u∧i=.int .i64 n∧n≤2∧As (gk+n=2)∧As (Heap w0 (.slc u 113 7 (decK k o a0 a1 n).length (mcells (decK k o a0 a1 n))::.pts (w.heap.size+1) (.cells #[vd,vu,.bool asked,.bool yes,.bool turned,.bool a0,.bool a1,.bool sh,.bool d0,.bool d1,.bool acc] 80)::.pts w.heap.size (.cells #[.int .i64 o.id,.int .i64 o.item,.int .i64 o.qty,.int .i64 o.client,.int .i64 o.price,v] 32)::R) wr))
 case atStart=>exact ⟨0,_,rfl,rfl,by omega,⟨rfl⟩,H⟩
 case round=>
  obtain ⟨n,u,hv,rfl,hk,HG,H2⟩:=hrel;have hS:=H2.out.shp 0 rfl;have hlw:(decK k o a0 a1 n).length≤2:=by unfold decK;split<;>split<;>simp
  obtain ⟨c0,c1,c2,c3,c4,c5,c6,c7,c8,c9,c10,cf⟩:=H2.out.cA1 1 rfl;obtain ⟨e0,e1,e2,e3,e4,e5,ef⟩:=H2.out.cB6 2 rfl;have ix0:=index252_0;have ix1:=index252_1;clear H;rcases (show n=0∨n=1∨n=2 by omega) with rfl|rfl|rfl
  ·cases a0
   ·have HE:As ((decK k o false a1 1).length=(decK k o false a1 0).length+1∧mcells (decK k o false a1 1)=mcells (decK k o false a1 0)++(tellM k 1 o).cells):=⟨by simp [decK,mcells]⟩;rcases hS with ⟨rfl,hz, -⟩|⟨g1,cap1,rfl, -, -, -⟩;all_goals
     subst hv;try clear hz
     generalize hL:(decK k o false a1 0).length=L at *;clear hL;go_wp2_with (first|(go_at_call 164;refine (HT.out _ _ H2.out.tab).mono ?_;rintro e w1 ⟨rfl,hb⟩;simp only [Msg.val,tellM];have H3:=zk (H2.out.below hb);clear hb)|(at_builtin;refine wla (H3.out.alloc _) 0 _ 113 7 L _ rfl rfl _ _ 84 rfl i0 _ 56 Tryz.underlying84 HI.out.1 HI.out.2.1 HI.out.2.2.1 HI.out.2.2.2 rfl (by decide) rfl ⟨w1.heap.size,0,none⟩ 1 1 (tellM k 1 o).cells rfl rfl (cells_newL _ _ _) (msg_one _) (by omega) (by decide) (by omega) ?_;intro g2 cap2 w5 h5 _;have H5:=zk h5;clear h5));go_roundg 1
     case measure=>have:=HG.out;omega
     case rel=>exact ⟨1,.slice (some ⟨g2,0,none⟩) (L+1) cap2,rfl,by go_num,by omega,⟨rfl⟩,⟨by rw [HE.out.1,HE.out.2];exact H5.out⟩⟩
   ·go_wp2;go_roundg 1
    case measure=>have:=HG.out;omega
    case rel=>exact ⟨1,u,hv,by go_num,by omega,⟨rfl⟩,⟨by have:=H2.out;simpa [decK] using this⟩⟩
  ·cases a1
   ·have HE:As ((decK k o a0 false 2).length=(decK k o a0 false 1).length+1∧mcells (decK k o a0 false 2)=mcells (decK k o a0 false 1)++(tellM k 2 o).cells):=⟨by simp [decK,mcells]⟩;rcases hS with ⟨rfl,hz, -⟩|⟨g1,cap1,rfl, -, -, -⟩;all_goals
     subst hv;try clear hz
     generalize hL:(decK k o a0 false 1).length=L at *;clear hL;go_wp2_with (first|(go_at_call 164;refine (HT.out _ _ H2.out.tab).mono ?_;rintro e w1 ⟨rfl,hb⟩;simp only [Msg.val,tellM];have H3:=zk (H2.out.below hb);clear hb)|(at_builtin;refine wla (H3.out.alloc _) 0 _ 113 7 L _ rfl rfl _ _ 84 rfl i0 _ 56 Tryz.underlying84 HI.out.1 HI.out.2.1 HI.out.2.2.1 HI.out.2.2.2 rfl (by decide) rfl ⟨w1.heap.size,0,none⟩ 1 1 (tellM k 2 o).cells rfl rfl (cells_newL _ _ _) (msg_one _) (by omega) (by decide) (by omega) ?_;intro g2 cap2 w5 h5 _;have H5:=zk h5;clear h5));go_roundg 0
     case measure=>have:=HG.out;omega
     case rel=>exact ⟨2,.slice (some ⟨g2,0,none⟩) (L+1) cap2,rfl,by go_num,by omega,⟨rfl⟩,⟨by rw [HE.out.1,HE.out.2];exact H5.out⟩⟩
   ·go_wp2;go_roundg 0
    case measure=>have:=HG.out;omega
    case rel=>exact ⟨2,u,hv,by go_num,by omega,⟨rfl⟩,⟨by have:=H2.out;simpa [decK] using this⟩⟩
  ·go_wp2;go_ret;refine ⟨u,by rw [←hv];rfl,?_⟩;have h9:=H2.out;rw [HD.out] at h9;exact (h9.frt 1 rfl).drop.frt 1 rfl |>.drop
end Go.Proofs.YtlnghlamnehfjaaGreatDoor.S
