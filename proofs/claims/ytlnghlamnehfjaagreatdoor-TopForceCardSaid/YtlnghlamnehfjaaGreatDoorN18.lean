/- Contracts and plain laws of the program, part N18. -/
import Derived.Test.YtlnghlamnehfjaaGreatDoorN01
import Derived.Test.YtlnghlamnehfjaaGreatDoorN06
import Derived.Test.YtlnghlamnehfjaaGreatDoorN10
import Derived.Test.YtlnghlamnehfjaaGreatDoorN16
import Derived.Deep.LoopGhost
set_option linter.unusedVariables false
set_option linter.unusedSimpArgs false
set_option maxRecDepth 100000
set_option maxHeartbeats 64000000
namespace Go.Proofs.YtlnghlamnehfjaaGreatDoor.S
open Go.RowKit Go.Maps
def msum (m:IM Int):Int:=(m.map (·.2)).sum
theorem sum_perm {l l':List Int} (h:l.Perm l'):l.sum=l'.sum:=by
 induction h with
 |nil=>rfl
 |cons a _ ih=>simp [ih]
 |swap a b l=>simp;omega
 |trans _ _ h1 h2=>exact h1.trans h2
theorem msum_perm {m m':IM Int} (h:m.Perm m'):msum m=msum m':=sum_perm (h.map _)
theorem msum_mins (k v:Int) (m:IM Int):msum (mins k v m)=v+msum m:=(msum_perm (mins_perm k v m)).trans (by simp [msum])
theorem msum_mdel {m:IM Int} (hk:KeysOk m) {k v:Int} (h:mget m k=some v):msum (mdel m k)+v=msum m:=by
 rw [←msum_perm (mdel_perm hk.1 h)];simp [msum];omega
theorem msum_nonneg:∀{m:IM Int},(∀p∈m,0≤p.2)→0≤msum m
 | [],_=>by simp [msum]
 |y::r,h=>by
  have:=msum_nonneg (m:=r) (fun p hp=>h p (by simp [hp]));have:=h y (by simp);simp [msum] at *;omega
structure Hold.fine (t:Hold):Prop where
 keys:KeysOk t.held
 left:0≤t.left
 pos:∀p∈t.held,0≤p.2
 sum:t.left+msum t.held≤1000000000
theorem Hold.fine.ok {t:Hold} (h:t.fine):t.ok:=⟨h.left,by have:=msum_nonneg h.pos;have:=h.sum;omega⟩
theorem Hold.fine.len {t:Hold} (h:t.fine):t.held.length<1000000:=by have:=h.keys.len;omega
theorem Hold.fine.zero {r:Int} (h0:0≤r) (h1:r≤1000000000):Hold.fine ⟨r,[]⟩:=⟨KeysOk.nil,h0,by simp,by simpa [msum] using h1⟩
theorem Hold.fine.take {t:Hold} (h:t.fine) {id n:Int} (h0:1≤id) (h1:id≤999):(t.take id n).2.fine:=by
 unfold Hold.take;split
 ·exact h
 ·rename_i hb;split
  ·exact h
  ·split
   ·rename_i hs;have hn:0≤n∧n≤1000000000:=by simp [Hold.bad,may] at hb;omega
    have hsub:(sub t.left n).1=t.left-n∧n≤t.left:=by
     have hm:may t.left=true:=by have:=h.ok;simp [may];exact this
     have hm2:may n=true:=by simp [may];exact hn
     unfold sub at hs⊢;rw [hm,hm2] at hs⊢;simp only [Bool.and_self] at hs⊢;by_cases hlt:t.left<n
     ·simp [hlt] at hs
     ·simp [hlt];omega
    have hd:msum (mdel t.held id)≤msum t.held:=by
     cases hg:mget t.held id with
     |none=>rw [mdel_none hg];exact Int.le_refl _
     |some v=>
      have:=msum_mdel h.keys hg;have:=h.pos _ (mget_mem hg);simp at this;omega
    refine ⟨h.keys.put _ h0 h1,by simp only [hsub.1];omega,?_,?_⟩
    ·intro p hp;rcases mem_mput hp with rfl|hp
     ·exact hn.1
     ·exact h.pos p hp
    ·simp only [hsub.1,mput,msum_mins];have:=h.sum;omega
   ·exact h
theorem Hold.fine.back {t:Hold} (h:t.fine) {id:Int}:(t.back id).2.fine:=by
 unfold Hold.back;split
 ·exact h
 ·rename_i hz;cases hg:mget t.held id with
  |none=>simp [mgi,hg] at hz
  |some v=>
   have hs:=msum_mdel h.keys hg;have hv:=h.pos _ (mget_mem hg);simp at hv;have hn:=msum_nonneg (m:=mdel t.held id) (fun p hp=>h.pos p (mem_mdel hp));have hsum:=h.sum;have hl:=h.left;have e:wrap64 (t.left+mgi t.held id)=t.left+v:=by simp [mgi,hg,wrap64];omega
   refine ⟨h.keys.del id,by simp only [e];omega,fun p hp=>h.pos p (mem_mdel hp),?_⟩;simp only [e];omega
structure Service where
 node:Int
 room:Int
 j:Jrn
 book:Hold
 st:IM Int
structure Service.ok (s:Service):Prop where
 r0:0≤s.room
 r1:s.room≤1000000000
 keys:KeysOk s.st
 book:s.book.fine
def SA.service (b:Nat) (s:Service):SA:=.when s.ok (.ex fun p:Nat×Nat×Nat=>.all [.pts b (.cells #[.int .i64 s.node,.int .i64 s.room,.pointer (some ⟨p.1,0,none⟩),.pointer (some ⟨p.2.1,0,none⟩),.map (some p.2.2)] 156),.jrn p.1 s.j,.hold p.2.1 s.book,.map p.2.2 (mval (Value.int .i64) s.st)])
section
variable {w0 w:World} {b bj bh bm:Nat} {s:Service} {R:List SA}
theorem Heap.open_service (h:Heap w0 (.service b s::R) w):s.ok∧∃bj bh bm,Heap w0 (.pts b (.cells #[.int .i64 s.node,.int .i64 s.room,.pointer (some ⟨bj,0,none⟩),.pointer (some ⟨bh,0,none⟩),.map (some bm)] 156)::.jrn bj s.j::.hold bh s.book::.map bm (mval (Value.int .i64) s.st)::R) w:=by
 obtain ⟨hp,h⟩:=h.unwhen;obtain ⟨⟨bj,bh,bm⟩,h⟩:=h.unex;exact ⟨hp,bj,bh,bm,Heap.spread h⟩
theorem Heap.shut_service (hp:s.ok) (h:Heap w0 (.pts b (.cells #[.int .i64 s.node,.int .i64 s.room,.pointer (some ⟨bj,0,none⟩),.pointer (some ⟨bh,0,none⟩),.map (some bm)] 156)::.jrn bj s.j::.hold bh s.book::.map bm (mval (Value.int .i64) s.st)::R) w):Heap w0 (.service b s::R) w:=
 Heap.rewhen hp (Heap.reex (f:=fun p:Nat×Nat×Nat=>.all [.pts b (.cells #[.int .i64 s.node,.int .i64 s.room,.pointer (some ⟨p.1,0,none⟩),.pointer (some ⟨p.2.1,0,none⟩),.map (some p.2.2)] 156),.jrn p.1 s.j,.hold p.2.1 s.book,.map p.2.2 (mval (Value.int .i64) s.st)]) (bj,bh,bm) (Heap.gather (l:= [_,_,_,_]) h))
end
def SA.svx (b bj:Nat) (s:Service):SA:=.when s.ok (.ex fun p:Nat×Nat=>.all [.pts b (.cells #[.int .i64 s.node,.int .i64 s.room,.pointer (some ⟨bj,0,none⟩),.pointer (some ⟨p.1,0,none⟩),.map (some p.2)] 156),.hold p.1 s.book,.map p.2 (mval (Value.int .i64) s.st)])
section
variable {w0 w:World} {b bj bh bm:Nat} {s:Service} {R:List SA}
theorem Heap.open_svx (h:Heap w0 (.svx b bj s::R) w):s.ok∧∃bh bm,Heap w0 (.pts b (.cells #[.int .i64 s.node,.int .i64 s.room,.pointer (some ⟨bj,0,none⟩),.pointer (some ⟨bh,0,none⟩),.map (some bm)] 156)::.hold bh s.book::.map bm (mval (Value.int .i64) s.st)::R) w:=by
 obtain ⟨hp,h⟩:=h.unwhen;obtain ⟨⟨bh,bm⟩,h⟩:=h.unex;exact ⟨hp,bh,bm,Heap.spread h⟩
theorem Heap.shut_svx (hp:s.ok) (h:Heap w0 (.pts b (.cells #[.int .i64 s.node,.int .i64 s.room,.pointer (some ⟨bj,0,none⟩),.pointer (some ⟨bh,0,none⟩),.map (some bm)] 156)::.hold bh s.book::.map bm (mval (Value.int .i64) s.st)::R) w):Heap w0 (.svx b bj s::R) w:=
 Heap.rewhen hp (Heap.reex (f:=fun p:Nat×Nat=>.all [.pts b (.cells #[.int .i64 s.node,.int .i64 s.room,.pointer (some ⟨bj,0,none⟩),.pointer (some ⟨p.1,0,none⟩),.map (some p.2)] 156),.hold p.1 s.book,.map p.2 (mval (Value.int .i64) s.st)]) (bh,bm) (Heap.gather (l:= [_,_,_]) h))
theorem Heap.svx_of (h:Heap w0 (.service b s::R) w):∃bj,Heap w0 (.svx b bj s::.jrn bj s.j::R) w:=by
 obtain ⟨hp,bj,bh,bm,h⟩:=h.open_service;exact ⟨bj,Heap.shut_svx (bh:=bh) (bm:=bm) hp ((((h.frt 1 rfl).frt 3 rfl).frt 3 rfl).frt 3 rfl)⟩
theorem Heap.svx_to (h:Heap w0 (.svx b bj s::.jrn bj s.j::R) w):Heap w0 (.service b s::R) w:=by
 obtain ⟨hp,bh,bm,h⟩:=h.open_svx;exact Heap.shut_service (bj:=bj) (bh:=bh) (bm:=bm) hp ((h.frt 3 rfl).frt 1 rfl)
end
theorem vdown_ok {w0 w:World} {b:Nat} {s:Service} {R:List SA} (h:Heap w0 (.service b s::R) w):
 Calls Tryz.prog 266 #[.pointer (some ⟨b,0,none⟩)] w fun e w'=>e=.returned (.bool s.j.down)∧w=w':=by
 obtain ⟨hp,bj,bh,bm,h⟩:=h.open_service;obtain ⟨c0,c1,c2,c3,c4,cf⟩:=h.cB5 0 rfl;have HD:=zk (jdown_ok (h.frt 1 rfl));clear h hp;go_enter Tryz.func266,Tryz.ntmps266;go_wp2_with (go_at_call 37;refine HD.out.mono ?_;rintro e w' ⟨rfl,rfl⟩);go_ret;exact ⟨rfl,rfl⟩
theorem vstate_ok {w0 w:World} {b:Nat} {s:Service} {R:List SA} (h:Heap w0 (.service b s::R) w) (id:Int) (h0: -9223372036854775808≤id) (h1:id≤9223372036854775807):
 Calls Tryz.prog 82 #[.pointer (some ⟨b,0,none⟩),.int .i64 id] w fun e w'=>e=.returned (.int .i64 (mgi s.st id))∧w=w':=by
 obtain ⟨hp,bj,bh,bm,h⟩:=h.open_service;obtain ⟨c0,c1,c2,c3,c4,cf⟩:=h.cB5 0 rfl;have H:=zk h;clear h hp;go_enter Tryz.func82,Tryz.ntmps82;go_wp2_with (at_lookup;refine wli H.out 3 _ _ rfl rfl _ _ 67 rfl Tryz.underlying67 rfl id rfl h0 h1 ?_);go_ret;exact ⟨rfl,rfl⟩
def Service.forget (s:Service):Service:= {s with book:=⟨s.room,[]⟩,st:= []}
theorem vforget_ok {w0 w:World} {b:Nat} {s:Service} {R:List SA} (h:Heap w0 (.service b s::R) w):
 Calls Tryz.prog 77 #[.pointer (some ⟨b,0,none⟩)] w fun e w'=>e=.returned (.tuple #[])∧Heap w0 (.service b s.forget::R) w':=by
 obtain ⟨hp,bj,bh,bm,h⟩:=h.open_service;obtain ⟨c0,c1,c2,c3,c4,cf⟩:=h.cB5 0 rfl;have hlb:=h.lt 0 rfl;have HP:=zk hp;have HN:=zk (hnew_ok h s.room hp.r0 hp.r1);have hmm:= @run_makeMap Tryz.prog;clear h hp;go_enter Tryz.func77,Tryz.ntmps77;go_wp2_with (go_at_call 117;refine HN.out.mono ?_;rintro e w1 ⟨bn,rfl,h1⟩;clear c0 c1 c2 c3 c4 cf hlb;obtain ⟨c0,c1,c2,c3,c4,cf⟩:=h1.cB5 1 rfl;have hlb:=h1.lt 1 rfl;have H1:=zk h1;clear h1);go_end0;refine ⟨rfl,?_⟩;have h2:=((H1.out.sAt 1 3 (.pointer (some ⟨bn,0,none⟩)) rfl).sAt 1 4 (.map (some w1.heap.size)) rfl).newMapAt (n:=w1.heap.size) (by simp [World.setCell]);have h3:=((((h2.frt 4 rfl).drop.frt 4 rfl).drop.frt 1 rfl).frt 3 rfl).frt 3 rfl;exact Heap.shut_service (s:=s.forget) ⟨HP.out.r0,HP.out.r1,KeysOk.nil,Hold.fine.zero HP.out.r0 HP.out.r1⟩ h3
def Service.plays (s:Service) (e:Entry):Service:=
 match e.kd with
 |.did=> {s with book:=e.n.foldl (fun t m=>(t.take e.id m).2) s.book,st:=mput s.st e.id 1}
 |.cant=> {s with st:=mput s.st e.id 2}
 |.undid=> {s with book:=(s.book.back e.id).2,st:=mput s.st e.id 3}
 |_=>s
theorem row_one {w:World} {T:TypeId} {v x:Value} (hr:w.ownsRow 0 T 1 v 1 [x]):∃g cap,v=.slice (some ⟨g,0,none⟩) 1 cap∧w.cell? ⟨g,0,none⟩=some x:=by
 rcases hr.2 with ⟨h,h'⟩|⟨g,cap,cur,h,_⟩
 ·cases h'
 ·refine ⟨g,cap,h,?_⟩;have:=hr.cells (g:=g) (by rw [h];rfl) 0 x rfl;exact this
set_option maxHeartbeats 4000000 in
theorem vplaysX_cant {w0 w:World} {b bj:Nat} {s:Service} {R:List SA} (h:Heap w0 (.svx b bj s::R) w) (id:Int) (h0:1≤id) (h1:id≤999) (v:Value) (hv:v.oneCell'=true):
 Calls Tryz.prog 271 #[.pointer (some ⟨b,0,none⟩),.agg #[.string Kd.cant.str,.int .i64 id,v]] w fun en w'=>en=.returned (.tuple #[])∧Heap w0 (.svx b bj (s.plays ⟨.cant,id,[]⟩)::R) w':=by
 have H:=zk h;obtain ⟨hp,bh,bm,h⟩:=h.open_svx;obtain ⟨c0,c1,c2,c3,c4,cf⟩:=h.cB5 0 rfl;have hlb:=h.lt 0 rfl;have HP:=zk hp;have HO:=zk (Heap.nAt (n:=w.heap.size) h (.cells #[.string Kd.cant.str,.int .i64 id,v] 171) rfl);have hnn:As (List.length (mval (Value.int .i64) s.st)<1000000):=⟨by have:=hp.keys.len;simp only [mval,List.length_map];omega⟩;have n1:(Kd.cant.str.toList== [100,105,100])=false:=by kernel_rfl
 have n2:(Kd.cant.str.toList== [99,97,110,116])=true:=by kernel_rfl
 have n3:(Kd.cant.str.toList== [117,110,100,105,100])=false:=by kernel_rfl
 clear h hp;go_enter Tryz.func271,Tryz.ntmps271;go_wp2;obtain ⟨W1,hW1⟩:∃W1,w.alloc (.cells #[.string Kd.cant.str,.int .i64 id,v] 171)=W1:=⟨_,rfl⟩;have HX:=zk (hW1▸HO.out);rw [hW1];clear hW1 c0 c1 c2 c3 c4 cf hlb;obtain ⟨c0,c1,c2,c3,c4,cf⟩:=HX.out.cB5 1 rfl;obtain ⟨x0,x1,x2,xf⟩:=HX.out.cB3 0 rfl;refine wro0 [(0,.f),(1,.f),(2,.f),(3,.s),(4,.f),(5,.s),(6,.e)] ?_;repeat (first
  |(refine vg rfl rfl ?_;apply ex2;intro w' hw';go_simp;rfl;go_simp)
  |(refine vs_ rfl (fun K hK=>?_);go_simp;refine hK _ ?_;clear hK K)
  |(refine ve rfl rfl ?_;refine wlp HX.out.drew 3 bm _ rfl rfl _ _ _ 67 3 rfl Tryz.underlying67 rfl id rfl (.int .i64 2) rfl (by omega) (by omega) hnn.out ?_;intro w3 h3 _;have H3:=zk h3;clear h3;go_wp2_with (fail);refine ⟨trivial,?_⟩;go_simp))
 refine vn ?_;go_simp;go_wp2_with (fail);go_end0;refine ⟨rfl,?_⟩;have hp:=HP.out;refine Heap.shut_svx (bm:=bm) (bh:=bh) ⟨hp.r0,hp.r1,hp.keys.put _ h0 h1,hp.book⟩ ?_;simp only [Service.plays];rw [mval_mput];exact H3.out.drop
set_option maxHeartbeats 4000000 in
theorem vplaysX_undid {w0 w:World} {b bj:Nat} {s:Service} {R:List SA} (h:Heap w0 (.svx b bj s::R) w) (id:Int) (h0:1≤id) (h1:id≤999) (v:Value) (hv:v.oneCell'=true):
 Calls Tryz.prog 271 #[.pointer (some ⟨b,0,none⟩),.agg #[.string Kd.undid.str,.int .i64 id,v]] w fun en w'=>en=.returned (.tuple #[])∧Heap w0 (.svx b bj (s.plays ⟨.undid,id,[]⟩)::R) w':=by
 have H:=zk h;obtain ⟨hp,bh,bm,h⟩:=h.open_svx;obtain ⟨c0,c1,c2,c3,c4,cf⟩:=h.cB5 0 rfl;have hlb:=h.lt 0 rfl;have HP:=zk hp;have HO:=zk (Heap.nAt (n:=w.heap.size) h (.cells #[.string Kd.undid.str,.int .i64 id,v] 171) rfl);have hnn:As (List.length (mval (Value.int .i64) s.st)<1000000):=⟨by have:=hp.keys.len;simp only [mval,List.length_map];omega⟩;have n1:(Kd.undid.str.toList== [100,105,100])=false:=by kernel_rfl
 have n2:(Kd.undid.str.toList== [99,97,110,116])=false:=by kernel_rfl
 have n3:(Kd.undid.str.toList== [117,110,100,105,100])=true:=by kernel_rfl
 clear h hp;go_enter Tryz.func271,Tryz.ntmps271;go_wp2;obtain ⟨W1,hW1⟩:∃W1,w.alloc (.cells #[.string Kd.undid.str,.int .i64 id,v] 171)=W1:=⟨_,rfl⟩;have HX:=zk (hW1▸HO.out);rw [hW1];clear hW1 c0 c1 c2 c3 c4 cf hlb;obtain ⟨c0,c1,c2,c3,c4,cf⟩:=HX.out.cB5 1 rfl;obtain ⟨x0,x1,x2,xf⟩:=HX.out.cB3 0 rfl;refine wro0 [(0,.f),(1,.f),(2,.f),(3,.s),(4,.f),(5,.s),(6,.e)] ?_;repeat (first
  |(refine vg rfl rfl ?_;apply ex2;intro w' hw';go_simp;rfl;go_simp)
  |(refine vs_ rfl (fun K hK=>?_);go_simp;refine hK _ ?_;clear hK K)
  |(refine ve rfl rfl ?_;go_wp2_with (go_at_call 274;refine (hback_ok (HX.out.drew.frt 2 rfl) id h0 h1).mono ?_;rintro e w2 ⟨rfl,h2⟩;have H2:=zk h2;clear h2);refine ⟨trivial,?_⟩;go_simp))
 refine vn ?_;go_simp;clear c0 c1 c2 c3 c4 cf x0 x1 x2 xf;obtain ⟨c0,c1,c2,c3,c4,cf⟩:=H2.out.cB5 2 rfl;obtain ⟨x0,x1,x2,xf⟩:=H2.out.cB3 1 rfl;go_wp2_with (fail);refine wro0 [(0,.f),(1,.f),(2,.f),(3,.s),(4,.f),(5,.s),(6,.e)] ?_;repeat (first
  |(refine vg rfl rfl ?_;apply ex2;intro w' hw';go_simp;rfl;go_simp)
  |(refine vs_ rfl (fun K hK=>?_);go_simp;refine hK _ ?_;clear hK K)
  |(refine ve rfl rfl ?_;refine wlp H2.out.drew 3 bm _ rfl rfl _ _ _ 67 3 rfl Tryz.underlying67 rfl id rfl (.int .i64 3) rfl (by omega) (by omega) hnn.out ?_;intro w3 h3 _;have H3:=zk h3;clear h3;go_wp2_with (fail);refine ⟨trivial,?_⟩;go_simp))
 refine vn ?_;go_simp;go_wp2_with (fail);go_end0;refine ⟨rfl,?_⟩;have hp:=HP.out;refine Heap.shut_svx (bm:=bm) (bh:=bh) ⟨hp.r0,hp.r1,hp.keys.put _ h0 h1,hp.book.back⟩ ?_;simp only [Service.plays];rw [mval_mput];have h9:=(H3.out.frt 1 rfl).drop;exact h9.frt 1 rfl
set_option maxHeartbeats 4000000 in
theorem vplaysX_did {w0 w:World} {b bj:Nat} {s:Service} {R:List SA} (h:Heap w0 (.svx b bj s::R) w) (id:Int) (h0:1≤id) (h1:id≤999) (v:Value) (m:Int) (hr:w.ownsRow 0 3 1 v 1 [.int .i64 m]):
 Calls Tryz.prog 271 #[.pointer (some ⟨b,0,none⟩),.agg #[.string Kd.did.str,.int .i64 id,v]] w fun en w'=>en=.returned (.tuple #[])∧Heap w0 (.svx b bj (s.plays ⟨.did,id,[m]⟩)::R) w':=by
 have H:=zk h;obtain ⟨hp,bh,bm,h⟩:=h.open_svx;obtain ⟨c0,c1,c2,c3,c4,cf⟩:=h.cB5 0 rfl;have hlb:=h.lt 0 rfl;have HP:=zk hp;have HO:=zk (Heap.nAt (n:=w.heap.size) h (.cells #[.string Kd.did.str,.int .i64 id,v] 171) rfl);have hnn:As (List.length (mval (Value.int .i64) s.st)<1000000):=⟨by have:=hp.keys.len;simp only [mval,List.length_map];omega⟩;have n1:(Kd.did.str.toList== [100,105,100])=true:=by kernel_rfl
 have n2:(Kd.did.str.toList== [99,97,110,116])=false:=by kernel_rfl
 have n3:(Kd.did.str.toList== [117,110,100,105,100])=false:=by kernel_rfl
 clear h hp;obtain ⟨g,cap,rfl,hm⟩:=row_one hr;go_enter Tryz.func271,Tryz.ntmps271;go_wp2;obtain ⟨W1,hW1⟩:∃W1,w.alloc (.cells #[.string Kd.did.str,.int .i64 id,.slice (some ⟨g,0,none⟩) 1 cap] 171)=W1:=⟨_,rfl⟩;have hg:g<W1.heap.size:=by rw [←hW1];have:g<w.heap.size:=World.block_lt_of_cell? w _ hm;simp;omega
 have hm:W1.cell? ⟨g,0,none⟩=some (.int .i64 m):=by rw [←hW1];exact (Below.cell ((Below.refl _ w).alloc (Nat.le_refl _) _) (p:=⟨g,0,none⟩) (World.block_lt_of_cell? w _ hm)).trans hm
 have HX:=zk (hW1▸HO.out);rw [hW1];clear hW1 c0 c1 c2 c3 c4 cf hlb;obtain ⟨c0,c1,c2,c3,c4,cf⟩:=HX.out.cB5 1 rfl;obtain ⟨x0,x1,x2,xf⟩:=HX.out.cB3 0 rfl
 go_loopg [5,13] 1 (fun gk p i wr=>(i=.int .i64 0∧gk=1∧wr=W1)∨(i=.int .i64 1∧gk=0∧As (Heap w0 (.hold bh (s.book.take id m).2::.pts w.heap.size (.cells #[.string Kd.did.str,.int .i64 id,.slice (some ⟨g,0,none⟩) 1 cap] 171)::.pts b (.cells #[.int .i64 s.node,.int .i64 s.room,.pointer (some ⟨bj,0,none⟩),.pointer (some ⟨bh,0,none⟩),.map (some bm)] 156)::.map bm (mval (Value.int .i64) s.st)::R) wr)))
 case atStart=>exact .inl ⟨rfl,rfl,rfl⟩
 case round=>
  rcases hrel with ⟨rfl,rfl,rfl⟩|⟨rfl,rfl,HL⟩
  ·go_wp2;refine wro0 [(0,.f),(1,.f),(2,.f),(3,.s),(4,.f),(5,.s),(6,.f),(7,.e)] ?_;repeat (first
    |(refine vg rfl rfl ?_;apply ex2;intro w' hw';go_simp;rfl;go_simp)
    |(refine vs_ rfl (fun K hK=>?_);go_simp;refine hK _ ?_;clear hK K)
    |(refine ve rfl rfl ?_;go_wp2_with (go_at_call 272;refine (htake_ok (HX.out.drew.frt 2 rfl) HP.out.book.ok id m h0 h1 ⟨HP.out.book.len⟩).mono ?_;rintro e w2 ⟨rfl,h2⟩;have H2:=zk h2;clear h2);refine ⟨trivial,?_⟩;go_simp))
   refine vn ?_;go_simp;go_wp2_with (fail);go_roundg 0
   case measure=>decide
   case rel=>exact .inr ⟨by go_num,rfl,H2⟩
  ·clear c0 c1 c2 c3 c4 cf x0 x1 x2 xf;obtain ⟨c0,c1,c2,c3,c4,cf⟩:=HL.out.cB5 2 rfl;obtain ⟨x0,x1,x2,xf⟩:=HL.out.cB3 1 rfl;go_wp2;refine wro0 [(0,.f),(1,.f),(2,.f),(3,.s),(4,.f),(5,.s),(6,.e)] ?_;repeat (first
    |(refine vg rfl rfl ?_;apply ex2;intro w' hw';go_simp;rfl;go_simp)
    |(refine vs_ rfl (fun K hK=>?_);go_simp;refine hK _ ?_;clear hK K)
    |(refine ve rfl rfl ?_;refine wlp HL.out.drew 3 bm _ rfl rfl _ _ _ 67 3 rfl Tryz.underlying67 rfl id rfl (.int .i64 1) rfl (by omega) (by omega) hnn.out ?_;intro w3 h3 _;have H3:=zk h3;clear h3;go_wp2_with (fail);refine ⟨trivial,?_⟩;go_simp))
   refine vn ?_;go_simp;go_wp2_with (fail);go_end0;refine ⟨rfl,?_⟩;have hp:=HP.out;refine Heap.shut_svx (bm:=bm) (bh:=bh) ⟨hp.r0,hp.r1,hp.keys.put _ h0 h1,hp.book.take h0 h1⟩ ?_;simp only [Service.plays,List.foldl];rw [mval_mput];have h9:=(H3.out.frt 1 rfl).drop;exact h9.frt 1 rfl
end Go.Proofs.YtlnghlamnehfjaaGreatDoor.S
