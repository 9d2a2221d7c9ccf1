/- Part Q18. -/
import Derived.Test.YtlnghlamnehfjaaGreatDoorQ06
import Derived.Test.YtlnghlamnehfjaaGreatDoorQ16
set_option linter.unusedVariables false
set_option linter.unusedSimpArgs false
set_option maxRecDepth 100000
set_option maxHeartbeats 64000000
namespace Go.Proofs.YtlnghlamnehfjaaGreatDoor.S
open Go.RowKit Go.Maps
def Kn (m:IM Int):Int:=(m.map (·.2)).sum
theorem Qya {l l':List Int} (h:l.Perm l'):l.sum=l'.sum:=by
 induction h with
 |nil=>rfl
 |cons a _ ih=>simp [ih]
 |swap a b l=>simp;omega
 |trans _ _ h1 h2=>exact h1.trans h2
theorem Qho {m m':IM Int} (h:m.Perm m'):Kn m=Kn m':=Qya (h.map _)
theorem Qrt (k v:Int) (m:IM Int):Kn (ZT k v m)=v+Kn m:=(Qho (FB k v m)).trans (by simp [Kn])
theorem Qhs {m:IM Int} (hk:Ql m) {k v:Int} (h:Qc m k=some v):Kn (QI m k)+v=Kn m:=by
 rw [←Qho (Qgq hk.1 h)];simp [Kn];omega
theorem TR:∀{m:IM Int},(∀p∈m,0≤p.2)→0≤Kn m
 | [],_=>by simp [Kn]
 |y::r,h=>by
  have:=TR (m:=r) (fun p hp=>h p (by simp [hp]));have:=h y (by simp);simp [Kn] at *;omega
structure Xj.fine (t:Xj):Prop where
 keys:Ql t.held
 left:0≤t.left
 pos:∀p∈t.held,0≤p.2
 sum:t.left+Kn t.held≤1000000000
theorem Xj.fine.ok {t:Xj} (h:t.fine):t.ok:=⟨h.left,by have:=TR h.pos;have:=h.sum;omega⟩
theorem Xj.fine.len {t:Xj} (h:t.fine):t.held.length<1000000:=by have:=h.keys.len;omega
theorem Xj.fine.zero {r:Int} (h0:0≤r) (h1:r≤1000000000):Xj.fine ⟨r,[]⟩:=⟨Ql.nil,h0,by simp,by simpa [Kn] using h1⟩
theorem Xj.fine.take {t:Xj} (h:t.fine) {id n:Int} (h0:1≤id) (h1:id≤999):(t.take id n).2.fine:=by
 unfold Xj.take;split;exact h
 ·rename_i hb;split;exact h
  ·split
   ·rename_i hs;have hn:0≤n∧n≤1000000000:=by simp [Xj.bad,may] at hb;omega
    have hsub:(sub t.left n).1=t.left-n∧n≤t.left:=by
     have hm:may t.left=true:=by have:=h.ok;simp [may];exact this
     have hm2:may n=true:=by simp [may];exact hn
     unfold sub at hs⊢;rw [hm,hm2] at hs⊢;simp only [Bool.and_self] at hs⊢;by_cases hlt:t.left<n;simp [hlt] at hs;simp [hlt];omega
    have hd:Kn (QI t.held id)≤Kn t.held:=by
     cases hg:Qc t.held id with
     |none=>rw [JD hg];exact Int.le_refl _
     |some v=>
      have:=Qhs h.keys hg;have:=h.pos _ (Xe hg);simp at this;omega
    refine ⟨h.keys.put _ h0 h1,by simp only [hsub.1];omega,?_,?_⟩;intro p hp;rcases YB hp with rfl|hp;exact hn.1;exact h.pos p hp;simp only [hsub.1,Qt,Qrt];have:=h.sum;omega
   exact h
theorem Xj.fine.back {t:Xj} (h:t.fine) {id:Int}:(t.back id).2.fine:=by
 unfold Xj.back;split;exact h
 ·rename_i hz;cases hg:Qc t.held id with
  |none=>simp [mgi,hg] at hz
  |some v=>
   have hs:=Qhs h.keys hg;have hv:=h.pos _ (Xe hg);simp at hv;have hn:=TR (m:=QI t.held id) (fun p hp=>h.pos p (VC hp));have hsum:=h.sum;have hl:=h.left;have e:wrap64 (t.left+mgi t.held id)=t.left+v:=by simp [mgi,hg,wrap64];omega
   refine ⟨h.keys.del id,by simp only [e];omega,fun p hp=>h.pos p (VC hp),?_⟩;simp only [e];omega
structure Qe where
 node:Int
 room:Int
 j:Jrn
 book:Xj
 st:IM Int
structure Qe.ok (s:Qe):Prop where
 r0:0≤s.room
 r1:s.room≤1000000000
 keys:Ql s.st
 book:s.book.fine
def SA.service (b:Nat) (s:Qe):SA:=.when s.ok (.ex fun p:Nat×Nat×Nat=>.all [.pts b (.cells #[s.node,s.room,p.1,p.2.1,.map (some p.2.2)] 156),.jrn p.1 s.j,.hold p.2.1 s.book,.map p.2.2 (Qx (Value.int .i64) s.st)])
section
variable {w0 w:World} {b bj bh bm:Nat} {s:Qe} {R:List SA}
theorem Heap.Xq (h:Heap w0 (.service b s::R) w):s.ok∧∃bj bh bm,Heap w0 (.pts b (.cells #[s.node,s.room,.pointer (some ⟨bj,0,none⟩),.pointer (some ⟨bh,0,none⟩),.map (some bm)] 156)::.jrn bj s.j::.hold bh s.book::.map bm (Qx (Value.int .i64) s.st)::R) w:=by
 obtain ⟨hp,h⟩:=h.QT;obtain ⟨⟨bj,bh,bm⟩,h⟩:=h.YL;exact ⟨hp,bj,bh,bm,Heap.spread h⟩
theorem Heap.Xp (hp:s.ok) (h:Heap w0 (.pts b (.cells #[s.node,s.room,bj,bh,.map (some bm)] 156)::.jrn bj s.j::.hold bh s.book::.map bm (Qx (Value.int .i64) s.st)::R) w):Heap w0 (.service b s::R) w:=
 Heap.QZ hp (Heap.Yr (f:=fun p:Nat×Nat×Nat=>.all [.pts b (.cells #[s.node,s.room,p.1,p.2.1,.map (some p.2.2)] 156),.jrn p.1 s.j,.hold p.2.1 s.book,.map p.2.2 (Qx (Value.int .i64) s.st)]) (bj,bh,bm) (Heap.gather (l:= [_,_,_,_]) h))
end
def SA.svx (b bj:Nat) (s:Qe):SA:=.when s.ok (.ex fun p:Nat×Nat=>.all [.pts b (.cells #[s.node,s.room,bj,p.1,.map (some p.2)] 156),.hold p.1 s.book,.map p.2 (Qx (Value.int .i64) s.st)])
section
variable {w0 w:World} {b bj bh bm:Nat} {s:Qe} {R:List SA}
theorem Heap.Un (h:Heap w0 (.svx b bj s::R) w):s.ok∧∃bh bm,Heap w0 (.pts b (.cells #[s.node,s.room,bj,.pointer (some ⟨bh,0,none⟩),.map (some bm)] 156)::.hold bh s.book::.map bm (Qx (Value.int .i64) s.st)::R) w:=by
 obtain ⟨hp,h⟩:=h.QT;obtain ⟨⟨bh,bm⟩,h⟩:=h.YL;exact ⟨hp,bh,bm,Heap.spread h⟩
theorem Heap.DK (hp:s.ok) (h:Heap w0 (.pts b (.cells #[s.node,s.room,bj,bh,.map (some bm)] 156)::.hold bh s.book::.map bm (Qx (Value.int .i64) s.st)::R) w):Heap w0 (.svx b bj s::R) w:=
 Heap.QZ hp (Heap.Yr (f:=fun p:Nat×Nat=>.all [.pts b (.cells #[s.node,s.room,bj,p.1,.map (some p.2)] 156),.hold p.1 s.book,.map p.2 (Qx (Value.int .i64) s.st)]) (bh,bm) (Heap.gather (l:= [_,_,_]) h))
theorem Heap.Qn8 (h:Heap w0 (.service b s::R) w):∃bj,Heap w0 (.svx b bj s::.jrn bj s.j::R) w:=by
 obtain ⟨hp,bj,bh,bm,h⟩:=h.Xq;exact ⟨bj,Heap.DK (bh:=bh) (bm:=bm) hp ((((h.frt 1 rfl).frt 3 rfl).frt 3 rfl).frt 3 rfl)⟩
theorem Heap.Qxi (h:Heap w0 (.svx b bj s::.jrn bj s.j::R) w):Heap w0 (.service b s::R) w:=by
 obtain ⟨hp,bh,bm,h⟩:=h.Un;exact Heap.Xp (bj:=bj) (bh:=bh) (bm:=bm) hp ((h.frt 3 rfl).frt 1 rfl)
end
theorem Yd {w0 w:World} {b:Nat} {s:Qe} {R:List SA} (h:Heap w0 (.service b s::R) w):
 CE 266 #[b] w (.bool s.j.down):=by
 obtain ⟨hp,bj,bh,bm,h⟩:=h.Xq;have c0:=h.cB5 0 rfl;have HD:=zk (Fa (h.frt 1 rfl));clear h hp;go_enter Tryz.func266,Tryz.ntmps266;go_wp2_with (go_at_call 37;refine HD.1.m0 ?_);go_ret;exact ⟨rfl,rfl⟩
theorem Qac {w0 w:World} {b:Nat} {s:Qe} {R:List SA} (h:Heap w0 (.service b s::R) w) (id:Int) (h0: -9223372036854775808≤id) (h1:id≤9223372036854775807):
 CE 82 #[b,id] w (.int .i64 (mgi s.st id)):=by
 obtain ⟨hp,bj,bh,bm,h⟩:=h.Xq;have c0:=h.cB5 0 rfl;have H:=zk h;clear h hp;go_enter Tryz.func82,Tryz.ntmps82;go_wp2_with (at_lookup;refine wli H.1 3 _ _ rfl rfl _ _ 67 rfl Tryz.underlying67 rfl id rfl h0 h1 ?_);go_ret;exact ⟨rfl,rfl⟩
def Qe.forget (s:Qe):Qe:= {s with book:=⟨s.room,[]⟩,st:= []}
theorem Qew {w0 w:World} {b:Nat} {s:Qe} {R:List SA} (h:Heap w0 (.service b s::R) w):
 CH 77 #[b] w (.tuple #[]) w0 (.service b s.forget::R):=by
 obtain ⟨hp,bj,bh,bm,h⟩:=h.Xq;have c0:=h.cB5 0 rfl;have hlb:=h.lt 0 rfl;have HP:=zk hp;have HN:=zk (Qqt h s.room hp.r0 hp.r1);have hmm:= @run_makeMap Tryz.prog;clear h hp;go_enter Tryz.func77,Tryz.ntmps77;go_wp2_with (go_at_call 117;refine HN.1.mono ?_;rintro e w1 ⟨bn,rfl,h1⟩;clear c0 hlb;have c0:=h1.cB5 1 rfl;have hlb:=h1.lt 1 rfl;have H1:=zk h1;clear h1);go_end0;refine ⟨rfl,?_⟩;have h2:=((H1.1.sAt 1 3 (.pointer (some ⟨bn,0,none⟩)) rfl).sAt 1 4 (.map (some w1.heap.size)) rfl).YC (n:=w1.heap.size) (by simp [World.setCell]);have h3:=((((h2.frt 4 rfl).drop.frt 4 rfl).drop.frt 1 rfl).frt 3 rfl).frt 3 rfl;exact Heap.Xp (s:=s.forget) ⟨HP.1.r0,HP.1.r1,Ql.nil,Xj.fine.zero HP.1.r0 HP.1.r1⟩ h3
def Qe.Qg (s:Qe) (e:Entry):Qe:=
 match e.kd with
 |.did=> {s with book:=e.n.foldl (fun t m=>(t.take e.id m).2) s.book,st:=Qt s.st e.id 1}
 |.cant=> {s with st:=Qt s.st e.id 2}
 |.undid=> {s with book:=(s.book.back e.id).2,st:=Qt s.st e.id 3}
 |_=>s
theorem row_one {w:World} {T:TypeId} {v x:Value} (hr:w.ownsRow 0 T 1 v 1 [x]):∃g cap,v=.slice (some ⟨g,0,none⟩) 1 cap∧w.cell? ⟨g,0,none⟩=some x:=by
 rcases hr.2 with ⟨h,h'⟩|⟨g,cap,cur,h,_⟩;cases h';refine ⟨g,cap,h,?_⟩;have:=hr.cells (g:=g) (by rw [h];rfl) 0 x rfl;exact this
theorem Qhw {w0 w:World} {b bj:Nat} {s:Qe} {R:List SA} (h:Heap w0 (.svx b bj s::R) w) (id:Int) (h0:1≤id) (h1:id≤999) (v:Value) (hv:v.oneCell'=true):
 CH 271 #[b,.agg #[.string Kd.cant.str,id,v]] w (.tuple #[]) w0 (.svx b bj (s.Qg ⟨.cant,id,[]⟩)::R):=by
 have H:=zk h;obtain ⟨hp,bh,bm,h⟩:=h.Un;have c0:=h.cB5 0 rfl;have hlb:=h.lt 0 rfl;have HP:=zk hp;have HO:=zk (Heap.nAt (n:=w.heap.size) h (.cells #[.string Kd.cant.str,id,v] 171) rfl);have hnn:As (List.length (Qx (Value.int .i64) s.st)<1000000):=⟨by have:=hp.keys.len;simp only [Qx,List.length_map];omega⟩;have n1:(Kd.cant.str.toList== [100,105,100])=false:=by kernel_rfl
 have n2:(Kd.cant.str.toList== [99,97,110,116])=true:=by kernel_rfl
 have n3:(Kd.cant.str.toList== [117,110,100,105,100])=false:=by kernel_rfl
 clear h hp;go_enter Tryz.func271,Tryz.ntmps271;go_wp2;obtain ⟨W1,hW1⟩:∃W1,w.alloc (.cells #[.string Kd.cant.str,id,v] 171)=W1:=⟨_,rfl⟩;have HX:=zk (hW1▸HO.1);rw [hW1];clear hW1 c0 hlb;have c0:=HX.1.cB5 1 rfl;have x0:=HX.1.cB3 0 rfl;refine Xh [(0,.f),(1,.f),(2,.f),(3,.s),(4,.f),(5,.s),(6,.e)] ?_;repeat (first
  |refine vR ?_
  |(refine ve rfl rfl ?_;refine wlp HX.1.drew 3 bm _ rfl rfl _ _ _ 67 3 rfl Tryz.underlying67 rfl id rfl (.int .i64 2) rfl (by omega) (by omega) hnn.1 ?_;intro w3 h3 _;have H3:=zk h3;clear h3;go_wp2_with fail;refine ⟨trivial,?_⟩;go_simp))
 refine vn ?_;go_simp;go_wp2_with fail;go_end0;refine ⟨rfl,?_⟩;have hp:=HP.1;refine Heap.DK (bm:=bm) (bh:=bh) ⟨hp.r0,hp.r1,hp.keys.put _ h0 h1,hp.book⟩ ?_;simp only [Qe.Qg];rw [Xt];exact H3.1.drop
theorem Qfa {w0 w:World} {b bj:Nat} {s:Qe} {R:List SA} (h:Heap w0 (.svx b bj s::R) w) (id:Int) (h0:1≤id) (h1:id≤999) (v:Value) (hv:v.oneCell'=true):
 CH 271 #[b,.agg #[.string Kd.undid.str,id,v]] w (.tuple #[]) w0 (.svx b bj (s.Qg ⟨.undid,id,[]⟩)::R):=by
 have H:=zk h;obtain ⟨hp,bh,bm,h⟩:=h.Un;have c0:=h.cB5 0 rfl;have hlb:=h.lt 0 rfl;have HP:=zk hp;have HO:=zk (Heap.nAt (n:=w.heap.size) h (.cells #[.string Kd.undid.str,id,v] 171) rfl);have hnn:As (List.length (Qx (Value.int .i64) s.st)<1000000):=⟨by have:=hp.keys.len;simp only [Qx,List.length_map];omega⟩;have n1:(Kd.undid.str.toList== [100,105,100])=false:=by kernel_rfl
 have n2:(Kd.undid.str.toList== [99,97,110,116])=false:=by kernel_rfl
 have n3:(Kd.undid.str.toList== [117,110,100,105,100])=true:=by kernel_rfl
 clear h hp;go_enter Tryz.func271,Tryz.ntmps271;go_wp2;obtain ⟨W1,hW1⟩:∃W1,w.alloc (.cells #[.string Kd.undid.str,id,v] 171)=W1:=⟨_,rfl⟩;have HX:=zk (hW1▸HO.1);rw [hW1];clear hW1 c0 hlb;have c0:=HX.1.cB5 1 rfl;have x0:=HX.1.cB3 0 rfl;refine Xh [(0,.f),(1,.f),(2,.f),(3,.s),(4,.f),(5,.s),(6,.e)] ?_;repeat (first
  |refine vR ?_
  |(refine ve rfl rfl ?_;go_wp2_with (go_at_call 274;refine (Qjh (HX.1.drew.frt 2 rfl) id h0 h1).m1 fun w2 H2=>?_);refine ⟨trivial,?_⟩;go_simp))
 refine vn ?_;go_simp;clear c0 x0;have c0:=H2.1.cB5 2 rfl;have x0:=H2.1.cB3 1 rfl;go_wp2_with fail;refine Xh [(0,.f),(1,.f),(2,.f),(3,.s),(4,.f),(5,.s),(6,.e)] ?_;repeat (first
  |refine vR ?_
  |(refine ve rfl rfl ?_;refine wlp H2.1.drew 3 bm _ rfl rfl _ _ _ 67 3 rfl Tryz.underlying67 rfl id rfl (.int .i64 3) rfl (by omega) (by omega) hnn.1 ?_;intro w3 h3 _;have H3:=zk h3;clear h3;go_wp2_with fail;refine ⟨trivial,?_⟩;go_simp))
 refine vn ?_;go_simp;go_wp2_with fail;go_end0;refine ⟨rfl,?_⟩;have hp:=HP.1;refine Heap.DK (bm:=bm) (bh:=bh) ⟨hp.r0,hp.r1,hp.keys.put _ h0 h1,hp.book.back⟩ ?_;simp only [Qe.Qg];rw [Xt];have h9:=(H3.1.frt 1 rfl).drop;exact h9.frt 1 rfl
theorem Qmm {w0 w:World} {b bj:Nat} {s:Qe} {R:List SA} (h:Heap w0 (.svx b bj s::R) w) (id:Int) (h0:1≤id) (h1:id≤999) (v:Value) (m:Int) (hr:w.ownsRow 0 3 1 v 1 [.int .i64 m]):
 CH 271 #[b,.agg #[.string Kd.did.str,id,v]] w (.tuple #[]) w0 (.svx b bj (s.Qg ⟨.did,id,[m]⟩)::R):=by
 have H:=zk h;obtain ⟨hp,bh,bm,h⟩:=h.Un;have c0:=h.cB5 0 rfl;have hlb:=h.lt 0 rfl;have HP:=zk hp;have HO:=zk (Heap.nAt (n:=w.heap.size) h (.cells #[.string Kd.did.str,id,v] 171) rfl);have hnn:As (List.length (Qx (Value.int .i64) s.st)<1000000):=⟨by have:=hp.keys.len;simp only [Qx,List.length_map];omega⟩;have n1:(Kd.did.str.toList== [100,105,100])=true:=by kernel_rfl
 have n2:(Kd.did.str.toList== [99,97,110,116])=false:=by kernel_rfl
 have n3:(Kd.did.str.toList== [117,110,100,105,100])=false:=by kernel_rfl
 clear h hp;obtain ⟨g,cap,rfl,hm⟩:=row_one hr;go_enter Tryz.func271,Tryz.ntmps271;go_wp2;obtain ⟨W1,hW1⟩:∃W1,w.alloc (.cells #[.string Kd.did.str,id,.slice (some ⟨g,0,none⟩) 1 cap] 171)=W1:=⟨_,rfl⟩;have hg:g<W1.heap.size:=by rw [←hW1];have:g<w.heap.size:=World.block_lt_of_cell? w _ hm;simp;omega
 have hm:W1.cell? ⟨g,0,none⟩=some (.int .i64 m):=by rw [←hW1];exact (Below.cell ((Below.refl _ w).alloc (Nat.le_refl _) _) (p:=⟨g,0,none⟩) (World.block_lt_of_cell? w _ hm)).trans hm
 have HX:=zk (hW1▸HO.1);rw [hW1];clear hW1 c0 hlb;have c0:=HX.1.cB5 1 rfl;have x0:=HX.1.cB3 0 rfl
 go_loopg [5,13] 1 (fun gk p i wr=>(i=.int .i64 0∧gk=1∧wr=W1)∨(i=.int .i64 1∧gk=0∧As (Heap w0 (.hold bh (s.book.take id m).2::.pts w.heap.size (.cells #[.string Kd.did.str,id,.slice (some ⟨g,0,none⟩) 1 cap] 171)::.pts b (.cells #[s.node,s.room,bj,bh,.map (some bm)] 156)::.map bm (Qx (Value.int .i64) s.st)::R) wr)))
 case atStart=>exact .inl ⟨rfl,rfl,rfl⟩
 case round=>
  rcases hrel with ⟨rfl,rfl,rfl⟩|⟨rfl,rfl,HL⟩
  ·go_wp2;refine Xh [(0,.f),(1,.f),(2,.f),(3,.s),(4,.f),(5,.s),(6,.f),(7,.e)] ?_;repeat (first
    |refine vR ?_
    |(refine ve rfl rfl ?_;go_wp2_with (go_at_call 272;refine (Qly (HX.1.drew.frt 2 rfl) HP.1.book.ok id m h0 h1 ⟨HP.1.book.len⟩).m1 fun w2 H2=>?_);refine ⟨trivial,?_⟩;go_simp))
   refine vn ?_;go_simp;go_wp2_with fail;go_roundg 0
   case measure=>decide
   case rel=>exact .inr ⟨by go_num,rfl,H2⟩
  ·clear c0 x0;have c0:=HL.1.cB5 2 rfl;have x0:=HL.1.cB3 1 rfl;go_wp2;refine Xh [(0,.f),(1,.f),(2,.f),(3,.s),(4,.f),(5,.s),(6,.e)] ?_;repeat (first
    |refine vR ?_
    |(refine ve rfl rfl ?_;refine wlp HL.1.drew 3 bm _ rfl rfl _ _ _ 67 3 rfl Tryz.underlying67 rfl id rfl (.int .i64 1) rfl (by omega) (by omega) hnn.1 ?_;intro w3 h3 _;have H3:=zk h3;clear h3;go_wp2_with fail;refine ⟨trivial,?_⟩;go_simp))
   refine vn ?_;go_simp;go_wp2_with fail;go_end0;refine ⟨rfl,?_⟩;have hp:=HP.1;refine Heap.DK (bm:=bm) (bh:=bh) ⟨hp.r0,hp.r1,hp.keys.put _ h0 h1,hp.book.take h0 h1⟩ ?_;simp only [Qe.Qg,List.foldl];rw [Xt];have h9:=(H3.1.frt 1 rfl).drop;exact h9.frt 1 rfl
end Go.Proofs.YtlnghlamnehfjaaGreatDoor.S
