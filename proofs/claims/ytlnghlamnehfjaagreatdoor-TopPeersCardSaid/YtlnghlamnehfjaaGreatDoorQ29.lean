/- Part Q29. -/
import Derived.Test.YtlnghlamnehfjaaGreatDoorQ23
import Derived.Test.YtlnghlamnehfjaaGreatDoorQ27
import Derived.Test.YtlnghlamnehfjaaGreatDoorQ28
set_option linter.unusedVariables false
set_option linter.unusedSimpArgs false
set_option maxRecDepth 100000
set_option maxHeartbeats 64000000
namespace Go.Proofs.YtlnghlamnehfjaaGreatDoor.S
open Go.RowKit Go.Maps
inductive QG where
 |goods (t:Qp)
 |money (t:Qn)
def SA.Yf (bb:Nat):QG→SA
 |.goods t=>.Zj bb t
 |.money t=>.purse bb t
def QG.iv (bb:Nat):QG→Value
 |.goods _=>.iface 186 (.agg #[bb])
 |.money _=>.iface 100 (.agg #[bb])
def QG.fine:QG→Prop
 |.goods _=>True
 |.money t=>t.fine
def QG.take:QG→Int→Nat→Int→Bool×QG
 |.goods t,id,i,q=>(decide ((t.reserve id i q).1=0),.goods (t.reserve id i q).2)
 |.money t,id,i,q=>(decide ((t.allow id i q).1=0),.money (t.allow id i q).2)
def QG.gives:QG→Int→QG
 |.goods t,id=>.goods (t.Vk id).2
 |.money t,id=>.money (t.capture id).2
def QG.lets:QG→Int→QG
 |.goods t,id=>.goods (t.release id).2
 |.money t,id=>.money (t.void id).2
theorem Qn.fine.mono {t u:Qn} (h:t.fine) (hs:∀p∈u.resv,p∈t.resv∨(0≤p.2.2∧p.2.2≤1000000000)):u.fine:=fun p hp=>(hs p hp).elim (h p) id
theorem QG.fine.take {k:QG} (h:k.fine) {id:Int} {i:Nat} {q:Int} (hq0:0<q) (hq1:q≤1000000000):(k.take id i q).2.fine:=by
 cases k with
 |goods t=>trivial
 |money t=>
  show (t.allow id i q).2.fine
  refine Qn.fine.mono h ?_;unfold Qn.allow;intro p hp;split at hp;exact .inl hp;split at hp;exact .inl hp;split at hp;exact .inl hp;split at hp;exact .inl hp;rcases YB hp with rfl|hp;exact .inr ⟨by simp only;omega,hq1⟩;exact .inl hp
theorem QG.fine.gives {k:QG} (h:k.fine) {id:Int}:(k.gives id).fine:=by
 cases k with
 |goods t=>trivial
 |money t=>
  show (t.capture id).2.fine
  refine Qn.fine.mono h ?_;unfold Qn.capture;intro p hp;split at hp;exact .inl (VC hp);exact .inl hp
theorem QG.fine.lets {k:QG} (h:k.fine) {id:Int}:(k.lets id).fine:=by
 cases k with
 |goods t=>trivial
 |money t=>
  show (t.take id).2.2.fine
  refine Qn.fine.mono h ?_;unfold Qn.take;intro p hp;split at hp;exact .inl (VC hp);exact .inl hp
theorem Qco {w0 w:World} {b:Nat} {t:Qp} {R:List SA} (h:Heap w0 (.Zj b t::R) w) (id:Int) (i:Nat) (q:Int) (h0:1≤id) (h1:id≤999) (hi:i<8) (hq0:0<q) (hq1:q≤1000000000):
 CH 308 #[.agg #[b],id,.int .i64 (i:Int),.int .i64 q] w (.bool (decide ((t.reserve id i q).1=0))) w0 (.Zj b (t.reserve id i q).2::R):=by
 have HC:=zk (Qkl (h.alloc (.cells #[b] 186)) id i q h0 h1 hi);generalize t.reserve id i q=p at *;obtain ⟨r,u⟩:=p;clear h;go_enter Tryz.func308,Tryz.ntmps308;go_wp2_with (go_at_call 311;refine HC.1.m1 fun w1 H1=>?_);go_ret;exact ⟨by simp only [decide_eq_decide];rfl,H1.1⟩
theorem Qdj {w0 w:World} {b:Nat} {t:Qn} {R:List SA} (h:Heap w0 (.purse b t::R) w) (hf:t.fine) (id:Int) (i:Nat) (q:Int) (h0:1≤id) (h1:id≤999) (hi:i<8) (hq0:0<q) (hq1:q≤1000000000):
 CH 294 #[.agg #[b],id,.int .i64 (i:Int),.int .i64 q] w (.bool (decide ((t.allow id i q).1=0))) w0 (.purse b (t.allow id i q).2::R):=by
 have HC:=zk (Quo (h.alloc (.cells #[b] 100)) hf id i q h0 h1 hi hq0 hq1);generalize t.allow id i q=p at *;obtain ⟨r,u⟩:=p;clear h;go_enter Tryz.func294,Tryz.ntmps294;go_wp2_with (go_at_call 297;refine HC.1.m1 fun w1 H1=>?_);go_ret;exact ⟨by simp only [decide_eq_decide];rfl,H1.1⟩
theorem Qg2 {w0 w:World} {b:Nat} {t:Qp} {R:List SA} (h:Heap w0 (.Zj b t::R) w) (id:Int) (h0:1≤id) (h1:id≤999):
 CH 306 #[.agg #[b],id] w (.tuple #[]) w0 (.Zj b (t.Vk id).2::R):=by
 have HC:=zk (Qnq (h.alloc (.cells #[b] 186)) id h0 h1);generalize t.Vk id=p at *;obtain ⟨r,u⟩:=p;clear h;go_enter Tryz.func306,Tryz.ntmps306;go_wp2_with (go_at_call 309;refine HC.1.m1 fun w1 H1=>?_);go_end0;exact ⟨rfl,H1.1⟩
theorem Qd8 {w0 w:World} {b:Nat} {t:Qp} {R:List SA} (h:Heap w0 (.Zj b t::R) w) (id:Int) (h0:1≤id) (h1:id≤999):
 CH 307 #[.agg #[b],id] w (.tuple #[]) w0 (.Zj b (t.release id).2::R):=by
 have HC:=zk (Qkj (h.alloc (.cells #[b] 186)) id h0 h1);generalize t.release id=p at *;obtain ⟨r,u⟩:=p;clear h;go_enter Tryz.func307,Tryz.ntmps307;go_wp2_with (go_at_call 310;refine HC.1.m1 fun w1 H1=>?_);go_end0;exact ⟨rfl,H1.1⟩
theorem Qgh {w0 w:World} {b:Nat} {t:Qn} {R:List SA} (h:Heap w0 (.purse b t::R) w) (id:Int) (h0:1≤id) (h1:id≤999):
 CH 292 #[.agg #[b],id] w (.tuple #[]) w0 (.purse b (t.capture id).2::R):=by
 have HC:=zk (Qlj (h.alloc (.cells #[b] 100)) id h0 h1);generalize t.capture id=p at *;obtain ⟨r,u⟩:=p;clear h;go_enter Tryz.func292,Tryz.ntmps292;go_wp2_with (go_at_call 295;refine HC.1.m1 fun w1 H1=>?_);go_end0;exact ⟨rfl,H1.1⟩
theorem Qcn {w0 w:World} {b:Nat} {t:Qn} {R:List SA} (h:Heap w0 (.purse b t::R) w) (id:Int) (h0:1≤id) (h1:id≤999):
 CH 293 #[.agg #[b],id] w (.tuple #[]) w0 (.purse b (t.void id).2::R):=by
 have HC:=zk (Qu6 (h.alloc (.cells #[b] 100)) id h0 h1);generalize t.void id=p at *;obtain ⟨r,u⟩:=p;clear h;go_enter Tryz.func293,Tryz.ntmps293;go_wp2_with (go_at_call 296;refine HC.1.m1 fun w1 H1=>?_);go_end0;exact ⟨rfl,H1.1⟩
structure Qd where
 node:Int
 j:Jrn
 book:QG
 st:IM Int
def QG.isGoods:QG→Bool
 |.goods _=>true
 |.money _=>false
structure Qd.ok (k:Qd):Prop where
 node:k.node=1∨k.node=2
 keys:Ql k.st
 st:∀p∈k.st,St p.2
 fine:k.book.fine
def YY (node:Int):List Value:=if node=1 then [.int .i64 60,.int .i64 5] else [.int .i64 900,.int .i64 40]
def Vh (node:Int):QG:=if node=1 then .goods Qah else .money TT
structure KpA where
 g:Nat
 cap:Nat
 bb:Nat
 bm:Nat
def SA.kpx (b bj:Nat) (k:Qd):SA:=.when k.ok (.ex fun p:KpA=>.all [.pts b (.cells #[k.node,.slice (some ⟨p.g,0,none⟩) 2 p.cap,bj,k.book.iv p.bb,.map (some p.bm)] 91),.slc (.slice (some ⟨p.g,0,none⟩) 2 p.cap) 3 1 2 (YY k.node),.Yf p.bb k.book,.map p.bm (Qx (Value.int .i64) k.st)])
def SA.keeper (b:Nat) (k:Qd):SA:=.ex fun bj:Nat=>.all [.kpx b bj k,.jrn bj k.j]
section
variable {w0 w:World} {b bj g cap bb bm:Nat} {k:Qd} {R:List SA}
theorem Heap.QV (h:Heap w0 (.kpx b bj k::R) w):k.ok∧∃g cap bb bm,Heap w0 (.pts b (.cells #[k.node,.slice (some ⟨g,0,none⟩) 2 cap,bj,k.book.iv bb,.map (some bm)] 91)::.slc (.slice (some ⟨g,0,none⟩) 2 cap) 3 1 2 (YY k.node)::.Yf bb k.book::.map bm (Qx (Value.int .i64) k.st)::R) w:=by
 obtain ⟨hp,h⟩:=h.QT;obtain ⟨p,h⟩:=h.YL;exact ⟨hp,p.g,p.cap,p.bb,p.bm,Heap.spread h⟩
theorem Heap.XM (hp:k.ok) (h:Heap w0 (.pts b (.cells #[k.node,.slice (some ⟨g,0,none⟩) 2 cap,bj,k.book.iv bb,.map (some bm)] 91)::.slc (.slice (some ⟨g,0,none⟩) 2 cap) 3 1 2 (YY k.node)::.Yf bb k.book::.map bm (Qx (Value.int .i64) k.st)::R) w):Heap w0 (.kpx b bj k::R) w:=
 Heap.QZ hp (Heap.Yr (f:=fun p:KpA=>.all [.pts b (.cells #[k.node,.slice (some ⟨p.g,0,none⟩) 2 p.cap,bj,k.book.iv p.bb,.map (some p.bm)] 91),.slc (.slice (some ⟨p.g,0,none⟩) 2 p.cap) 3 1 2 (YY k.node),.Yf p.bb k.book,.map p.bm (Qx (Value.int .i64) k.st)]) ⟨g,cap,bb,bm⟩ (Heap.gather (l:= [_,_,_,_]) h))
theorem Heap.YA (h:Heap w0 (.keeper b k::R) w):∃bj,Heap w0 (.kpx b bj k::.jrn bj k.j::R) w:=by
 obtain ⟨bj,h⟩:=h.YL;exact ⟨bj,Heap.spread h⟩
theorem Heap.Ko (h:Heap w0 (.kpx b bj k::.jrn bj k.j::R) w):Heap w0 (.keeper b k::R) w:=
 Heap.Yr (f:=fun bj:Nat=>.all [.kpx b bj k,.jrn bj k.j]) bj (Heap.gather (l:= [_,_]) h)
end
theorem Heap.Qu2 {w0 w:World} {b bj:Nat} {k:Qd} {R:List SA} (j':Jrn) (h:Heap w0 (.kpx b bj k::R) w):Heap w0 (.kpx b bj {k with j:=j'}::R) w:=by
 obtain ⟨hp,g,cap,bb,bm,h⟩:=h.QV;exact Heap.XM (g:=g) (cap:=cap) (bb:=bb) (bm:=bm) (k:= {k with j:=j'}) ⟨hp.node,hp.keys,hp.st,hp.fine⟩ h
theorem Jn {w0 w:World} {b bj:Nat} {k:Qd} {R:List SA} (h:Heap w0 (.kpx b bj k::R) w) (id:Int) (h0: -9223372036854775808≤id) (h1:id≤9223372036854775807):
 CE 17 #[b,id] w (.int .i64 (mgi k.st id)):=by
 obtain ⟨hp,g,cap,bb,bm,h⟩:=h.QV;have c0:=h.cB5 0 rfl;have H:=zk h;clear h hp;go_enter Tryz.func17,Tryz.ntmps17;go_wp2_with (at_lookup;refine wli H.1 3 _ _ rfl rfl _ _ 67 rfl Tryz.underlying67 rfl id rfl h0 h1 ?_);go_ret;exact ⟨rfl,rfl⟩
theorem XL {w0 w:World} {b:Nat} {k:Qd} {R:List SA} (h:Heap w0 (.keeper b k::R) w):
 CE 19 #[b] w (.bool k.j.down):=by
 obtain ⟨bj,h⟩:=h.YA;have HD:=zk (Fa (h.frt 1 rfl));obtain ⟨hp,g,cap,bb,bm,h⟩:=h.QV;have c0:=h.cB5 0 rfl;clear h hp;go_enter Tryz.func19,Tryz.ntmps19;go_wp2_with (go_at_call 37;refine HD.1.m0 ?_);go_ret;exact ⟨rfl,rfl⟩
theorem Qfq {w0 w:World} {b bj:Nat} {k:Qd} {R:List SA} (h:Heap w0 (.kpx b bj k::R) w):
 CE 110 #[b] w (.int .i64 (3-k.node)):=by
 obtain ⟨hp,g,cap,bb,bm,h⟩:=h.QV;have c0:=h.cB5 0 rfl;have hn:=hp.node;clear h hp;generalize k.node=n at *;rcases hn with rfl|rfl;all_goals
  go_enter Tryz.func110,Tryz.ntmps110;go_wp2;go_ret;exact ⟨rfl,rfl⟩
theorem Qxc (n:Int) (h0:1≤n) (h1:n≤999) (w:World):CE 104 #[.int .i64 n] w (.bool true):=by
 have h0':decide (1≤n)=true:=by simpa using h0
 have h1':decide (n≤999)=true:=by simpa using h1
 go_enter Tryz.func104,Tryz.ntmps104;go_wp2;go_ret;exact ⟨by simp [h1],rfl⟩
def Qd.forget (k:Qd):Qd:= {k with book:=Vh k.node,st:= []}
theorem Qa1 {w0 w:World} {b bj g cap:Nat} {R:List SA} {node:Int} {v3 v4:Value} (hn:node=1∨node=2) (h:Heap w0 (.pts b (.cells #[node,.slice (some ⟨g,0,none⟩) 2 cap,bj,v3,v4] 91)::.slc (.slice (some ⟨g,0,none⟩) 2 cap) 3 1 2 (YY node)::R) w):
 Calls Tryz.prog 76 #[b] w fun e w'=>e=.returned (.tuple #[])∧∃bb bm,Heap w0 (.pts b (.cells #[node,.slice (some ⟨g,0,none⟩) 2 cap,bj,(Vh node).iv bb,.map (some bm)] 91)::.slc (.slice (some ⟨g,0,none⟩) 2 cap) 3 1 2 (YY node)::.Yf bb (Vh node)::.map bm []::R) w':=by
 have c0:=h.cB5 0 rfl;have hlb:=h.lt 0 rfl;have hmm:= @run_makeMap Tryz.prog;have H:=zk h;clear h;rcases hn with rfl|rfl
 ·have h2:=((H.1.sAt 0 4 (.map (some w.heap.size)) rfl).YC (n:=w.heap.size) (by simp [World.setCell])).frt 2 rfl;have HN:=zk (QAp h2);clear h2;go_enter Tryz.func76,Tryz.ntmps76;go_wp2_with (go_at_call 115;refine HN.1.mono ?_;rintro e w1 ⟨bb,rfl,h1⟩;clear c0 hlb;have c0:=h1.cB5 3 rfl;have hlb:=h1.lt 3 rfl;have H1:=zk h1;clear h1);go_end0;refine ⟨rfl,bb,w.heap.size,?_⟩;have h9:=H1.1.sAt 3 3 (.iface 186 (.agg #[bb])) rfl;exact ((h9.frt 3 rfl).frt 2 rfl).frt 1 rfl
 ·have h2:=((H.1.sAt 0 4 (.map (some w.heap.size)) rfl).YC (n:=w.heap.size) (by simp [World.setCell])).frt 2 rfl;have HN:=zk (Qzh h2);clear h2;go_enter Tryz.func76,Tryz.ntmps76;go_wp2_with (go_at_call 116;refine HN.1.mono ?_;rintro e w1 ⟨bb,rfl,h1⟩;clear c0 hlb;have c0:=h1.cB5 3 rfl;have hlb:=h1.lt 3 rfl;have H1:=zk h1;clear h1);go_end0;refine ⟨rfl,bb,w.heap.size,?_⟩;have h9:=H1.1.sAt 3 3 (.iface 100 (.agg #[bb])) rfl;exact ((h9.frt 3 rfl).frt 2 rfl).frt 1 rfl
theorem Qb4 (n:Int):(Vh n).fine:=by
 unfold Vh;split;trivial
 show Qn.fine TT
 intro p hp;simp [TT] at hp
theorem Qex {w0 w:World} {b bj:Nat} {k:Qd} {R:List SA} (h:Heap w0 (.kpx b bj k::R) w):
 CH 76 #[b] w (.tuple #[]) w0 (.kpx b bj k.forget::R):=by
 obtain ⟨hp,g,cap,bb,bm,h⟩:=h.QV;refine (Qa1 hp.node h).mono ?_;rintro e w' ⟨rfl,bb2,bm2,h2⟩;refine ⟨rfl,Heap.XM (g:=g) (cap:=cap) (bb:=bb2) (bm:=bm2) ⟨hp.node,Ql.nil,by simp [Qd.forget],Qb4 _⟩ ?_⟩;have h3:=(h2.frt 4 rfl).drop;exact ((h3.frt 4 rfl).drop)
def Qd.Qj (k:Qd) (stay:Int):Qd:=if k.j.down=true then k else ({k with j:=k.j.Qj stay}:Qd).forget
theorem Qfg {w0 w:World} {b:Nat} {k:Qd} {R:List SA} (h:Heap w0 (.keeper b k::R) w) (stay QQ:Int):
 CH 214 #[b,stay,QQ] w (.tuple #[]) w0 (.keeper b (k.Qj stay)::R):=by
 have HH:=zk h;have HD:=zk (XL h);obtain ⟨bj,h⟩:=h.YA;have hx:=h;obtain ⟨hp,g,cap,bb,bm,hx⟩:=hx.QV;have c0:=hx.cB5 0 rfl;have HS:As (k.Qj stay=if k.j.down=true then k else ({k with j:=k.j.Qj stay}:Qd).forget):=⟨rfl⟩;cases hd:k.j.down
 ·have HC:=zk (JN (h.frt 1 rfl) hd stay QQ);rw [hd] at HD HS;clear h hx hp hd;go_enter Tryz.func214,Tryz.ntmps214;go_wp2_with (first|(go_at_call 19;refine HD.1.m0 ?_)|(go_at_call 217;refine HC.1.mono ?_;rintro e w1 ⟨⟨cv,rfl⟩,h1⟩;have H1:=zk ((h1.frt 1 rfl).Qu2 (k.j.Qj stay));clear h1)|(go_at_call 76;refine (Qex H1.1).m1 fun w2 H2=>?_));go_end0;rw [HS.1];exact ⟨rfl,Heap.Ko (bj:=bj) H2.1⟩
 ·rw [hd] at HD HS;clear h hx hp hd;go_enter Tryz.func214,Tryz.ntmps214;go_wp2_with (go_at_call 19;refine HD.1.m0 ?_);refine bodyPost_ret (results_none rfl _ _ _) rfl ⟨rfl,?_⟩;rw [HS.1];exact HH.1
theorem Vo {w0 w:World} {l:List SA} {ops:Array Oper} {rest:List Oper} {o:Oper} {a:Act} {Q:Exit→Act→World→Prop} (h:Heap w0 l w) (i:Nat) (b:Nat) (m:IM Value) (e:l[i]? =some (.map b m)) (hg:o.guard=none) (x y u:Operand) (t te:TypeId) (hop:o.op=Op.insert t x y u)
 (ht:Tryz.prog.underlying t=some (.map 3 te)) (hm:a.eval x=.map (some b)) (k:Int) (hk:a.eval y=.int .i64 k) (v:Value) (hv:a.eval u=v) (h0: -9223372036854775808≤k) (h1:k≤9223372036854775807) (hn:m.length<1000000)
 (hK:∀w',Heap w0 (l.set i (.map b (Qt m k v))) w'→w.grownBy w' (some b)→wpList Tryz.prog ops Q rest (a.put o.dst undef) w'):wpList Tryz.prog ops Q (o::rest) a w:=by
 refine wpList_plain hg fun K hK'=>?_;obtain ⟨w',hr,ho,hgr⟩:=(h.owns i e).update TF ht (by unfold maxLen;omega) (keyOf_int_mk Tryz.underlying3 (Qdt h0 h1)) (val:=v) (d:=.held v) (ps:= []) rfl;rw [Qns] at ho;unfold Oper.wp;simp [execOp,hop,hm,hk,hv,hr,Result.andThen];exact hK' _ _ (hK w' (h.mapTurned i e ho hgr) hgr)
def Zc:IM Value:= [(1,.string Kd.ready.str),(2,.string Kd.yes.str),(3,.string Kd.no.str),(4,.string Kd.fyes.str),(5,.string Kd.fno.str)]
theorem Ua {w0 w:World} {R:List SA} (h:Heap w0 R w):Calls Tryz.prog 136 #[] w fun e w'=>∃b,e=.returned (.map (some b))∧Heap w0 (.map b Zc::R) w':=by
 have H:=zk h;have hmm:= @run_makeMap Tryz.prog;have H0:=zk h.XO;clear h;go_enter Tryz.func136,Tryz.ntmps136;go_wp2_with (first
  |(refine Vo H0.1 0 w.heap.size [] rfl rfl _ _ _ 208 9 rfl Tryz.underlying208 rfl 1 rfl (.string Kd.ready.str) rfl (by decide) (by decide) (by decide) ?_;intro w1 h1 _;have H1:=zk h1;clear h1)
  |(refine Vo H1.1 0 w.heap.size (Qt [] 1 (.string Kd.ready.str)) rfl rfl _ _ _ 208 9 rfl Tryz.underlying208 rfl 2 rfl (.string Kd.yes.str) rfl (by decide) (by decide) (by decide) ?_;intro w2 h2 _;have H2:=zk h2;clear h2)
  |(refine Vo H2.1 0 w.heap.size (Qt (Qt [] 1 (.string Kd.ready.str)) 2 (.string Kd.yes.str)) rfl rfl _ _ _ 208 9 rfl Tryz.underlying208 rfl 3 rfl (.string Kd.no.str) rfl (by decide) (by decide) (by decide) ?_;intro w3 h3 _;have H3:=zk h3;clear h3)
  |(refine Vo H3.1 0 w.heap.size (Qt (Qt (Qt [] 1 (.string Kd.ready.str)) 2 (.string Kd.yes.str)) 3 (.string Kd.no.str)) rfl rfl _ _ _ 208 9 rfl Tryz.underlying208 rfl 4 rfl (.string Kd.fyes.str) rfl (by decide) (by decide) (by decide) ?_;intro w4 h4 _;have H4:=zk h4;clear h4)
  |(refine Vo H4.1 0 w.heap.size (Qt (Qt (Qt (Qt [] 1 (.string Kd.ready.str)) 2 (.string Kd.yes.str)) 3 (.string Kd.no.str)) 4 (.string Kd.fyes.str)) rfl rfl _ _ _ 208 9 rfl Tryz.underlying208 rfl 5 rfl (.string Kd.fno.str) rfl (by decide) (by decide) (by decide) ?_;intro w5 h5 _;have H5:=zk h5;clear h5))
 go_ret;exact ⟨_,rfl,H5.1⟩
theorem Zb {P:Prop} (h:P:=by
 clear hm;go_wp2_with fail;go_roundg cnt2
 case measure=>exact HLT.1
 case rel=>exact ⟨_,⟨by simp [HL.1,Xr]⟩,⟨H3.1⟩⟩):P:=h
theorem Qwx {P:Prop} (h:P:=by
 refine vn ?_;go_simp;clear c0 c1 c2 c3 c4 cf x0 hlb;have x0:=H4.1.cB3 2 rfl;obtain ⟨c0,c1,c2,c3,c4,cf⟩:=H4.1.cB5 3 rfl;have hlb:=H4.1.lt 3 rfl;go_wp2_with (go_at_call 161;refine (XC 1 _ (by unfold St;omega)).mono ?_;rintro e w' ⟨rfl,rfl⟩;simp only [Yq]);refine Xh [(0,.f),(1,.f),(2,.f),(3,.s),(4,.f),(5,.s),(6,.f),(7,.e)] ?_;repeat (first
  |refine vR ?_
  |(refine ve rfl rfl ?_;refine wlp H4.1.drew 5 bm _ rfl rfl _ _ _ 67 3 rfl Tryz.underlying67 rfl id rfl (.int .i64 1) rfl (by omega) (by omega) hnn.1 ?_;intro w5 h5 _;have H5:=zk h5;clear h5;go_wp2_with fail;refine ⟨trivial,?_⟩;go_simp))
 refine vn ?_;go_simp;go_wp2_with fail;rw [Exit.noGoto_normal];go_end0;refine ⟨rfl,?_⟩;have he:k.Qg ⟨.ready,id,[(a:Int),q]⟩= {k with book:=(k.book.take id a q).2,st:=Qt k.st id 1}:=by simp [Qd.Qg]
 rw [he];have hp:=HP.1;refine Heap.XM (g:=g) (cap:=cap) (bb:=bb) (bm:=bm) ⟨hp.node,hp.keys.put _ h0 h1,?_,HP.1.fine.take hq0 hq1⟩ ?_;exact QDo;exact QB5):P:=h
theorem QBo {P:Prop} (h:P:=by
 have tg:=Tg.mk 1;exact Qky):P:=h
theorem QDu {P:Prop} (h:P:=by
 have tg:=Tg.mk 2;exact Qky):P:=h
theorem QC5 {P:Prop} (h:P:=by
 have tg:=Tg.mk 3;exact Qky):P:=h
theorem QC7 {P:Prop} (h:P:=by
 have tg:=Tg.mk 4;exact Qky):P:=h
theorem QB5 {P:Prop} (h:P:=by
 simp only [HBK.1];rw [Xt];have h9:=((H5.1.frt 1 rfl).drop.frt 1 rfl).drop;exact ((h9.frt 2 rfl).frt 2 rfl |>.perm (List.Perm.refl _))):P:=h
theorem QDo {P:Prop} (h:P:=by
 intro p hpp;rcases YB hpp with rfl|hpp;unfold St;omega;exact hp.st p hpp):P:=h
theorem QBf {P:Prop} (h:P:=by
 rw [he];have hp:=HP.1;refine Heap.XM (g:=g) (cap:=cap) (bb:=bb) (bm:=bm) ⟨hp.node,hp.keys.put _ h0 h1,?_,HP.1.fine.gives⟩ ?_;exact QDo;exact QB5):P:=h
theorem zKp410 {P:Prop} (h:P:=by
 rw [he];have hp:=HP.1;refine Heap.XM (g:=g) (cap:=cap) (bb:=bb) (bm:=bm) ⟨hp.node,hp.keys.put _ h0 h1,?_,HP.1.fine.lets⟩ ?_;exact QDo;exact QB5):P:=h
theorem Qkw {P:Prop} (h:P:=by
 clear h HO hp;go_enter Tryz.func138,Tryz.ntmps138;go_wp2_with fail;go_step3;go_wp2_with fail;go_step3;go_wp2_with (first|(go_at_call 136;refine HK.1.mono ?_;rintro e w1 ⟨bk,rfl,h1⟩;have H1:=zk h1;clear h1)|(refine KM H1.1 0 bk _ rfl rfl _ 208 9 rfl Tryz.underlying208 rfl ?_;intro r w2 h2;have H2:=zk h2;clear h2;go_simp));first
  |(have ty:Tg 1:=tg
    go_loopg [4] (Maps.size (DD Zc)) (fun gk p wr=>∃left:Lit→Bool,As (left (.int .i64 1)=true)∧As (Heap w0 (.rng bk r Zc left gk::.pts w.heap.size (.cells #[.string Kd.ready.str,id,(.slice (some ⟨gv,0,none⟩) 2 capv)] 171)::.pts b (.cells #[k.node,.slice (some ⟨g,0,none⟩) 2 cap,bj,k.book.iv bb,.map (some bm)] 91)::.slc (.slice (some ⟨g,0,none⟩) 2 cap) 3 1 2 (YY k.node)::.Yf bb k.book::.map bm (Qx (Value.int .i64) k.st)::.slc (.slice (some ⟨gv,0,none⟩) 2 capv) 3 1 2 [.int .i64 (a:Int),.int .i64 q]::R) wr))
    case atStart=>exact ⟨_,⟨by rw [TB];rfl⟩,H2⟩
    case round=>
     obtain ⟨left,HL,HR⟩:=hrel;clear H1 H2 HK;go_wp2_with (refine YO HR.1 0 bk r _ left gk rfl rfl _ rfl rfl ?done ?more)
     case done=>
      intro hd;have:=HL.1;rw [hd] at this;cases this
     case more=>
      intro kk c w3 cnt2 hlk hm hlt h3 hen;have HLT:=zk hlt;have x0:=h3.cB3 1 rfl;obtain ⟨c0,c1,c2,c3,c4,cf⟩:=h3.cB5 2 rfl;have hlb:=h3.lt 2 rfl;have hrow:=h3.row 6 rfl;have y0:w3.cell? ⟨gv,0,none⟩=some (.int .i64 (a:Int)):=hrow.cellAt 0 (by decide);have y1:w3.cell? ⟨gv,1,none⟩=some (.int .i64 q):=hrow.cellAt 1 (by decide);have hgb:gv<w3.heap.size:=World.block_lt_of_cell? _ _ y0;clear hrow;have H3:=zk h3;clear hlt hlk h3;rcases VB hm with ⟨rfl,rfl⟩|⟨rfl,rfl⟩|⟨rfl,rfl⟩|⟨rfl,rfl⟩|⟨rfl,rfl⟩
      ·clear hm;rcases hbk:k.book with t|t
       ·simp only [hbk,QG.iv] at c3;have hme:=Qel (.agg #[bb]);have HBK:=zk hbk;have H3:=zk H3.1;simp only [hbk,SA.Yf,QG.iv] at H3;go_wp2_with fail;refine Xh [(0,.f),(1,.f),(2,.f),(3,.s),(4,.f),(5,.s),(6,.f),(7,.s),(8,.f),(9,.s),(10,.f),(11,.s),(12,.f),(13,.s),(14,.f),(15,.f),(16,.e)] ?_;repeat (first
         |refine vR ?_
         |(refine ve rfl rfl ?_;go_wp2_with (go_at_call 308;refine (Qco (H3.1.drew.frt 4 rfl) id a q h0 h1 ha hq0 hq1).m1 fun w4 H4=>?_);refine ⟨trivial,?_⟩;go_simp))
        exact Qwx
       ·simp only [hbk,QG.iv] at c3;have HFM:As t.fine:=⟨by have:=HP.1.fine;rw [hbk] at this;exact this⟩;have hme:=Qcv (.agg #[bb]);have HBK:=zk hbk;have H3:=zk H3.1;simp only [hbk,SA.Yf,QG.iv] at H3;go_wp2_with fail;refine Xh [(0,.f),(1,.f),(2,.f),(3,.s),(4,.f),(5,.s),(6,.f),(7,.s),(8,.f),(9,.s),(10,.f),(11,.s),(12,.f),(13,.s),(14,.f),(15,.f),(16,.e)] ?_;repeat (first
         |refine vR ?_
         |(refine ve rfl rfl ?_;go_wp2_with (go_at_call 294;refine (Qdj (H3.1.drew.frt 4 rfl) HFM.1 id a q h0 h1 ha hq0 hq1).m1 fun w4 H4=>?_);refine ⟨trivial,?_⟩;go_simp))
        exact Qwx
      exact Zb;exact Zb;exact Zb;exact Zb)
  |(have ty:Tg 2:=tg
    go_loopg [4] (Maps.size (DD Zc)) (fun gk p wr=>∃left:Lit→Bool,As (left (.int .i64 2)=true)∧As (Heap w0 (.rng bk r Zc left gk::.pts w.heap.size (.cells #[.string Kd.yes.str,id,v] 171)::.pts b (.cells #[k.node,.slice (some ⟨g,0,none⟩) 2 cap,bj,k.book.iv bb,.map (some bm)] 91)::.slc (.slice (some ⟨g,0,none⟩) 2 cap) 3 1 2 (YY k.node)::.Yf bb k.book::.map bm (Qx (Value.int .i64) k.st)::R) wr))
    case atStart=>exact ⟨_,⟨by rw [TB];rfl⟩,H2⟩
    case round=>
     obtain ⟨left,HL,HR⟩:=hrel;clear H1 H2 HK;go_wp2_with (refine YO HR.1 0 bk r _ left gk rfl rfl _ rfl rfl ?done ?more)
     case done=>
      intro hd;have:=HL.1;rw [hd] at this;cases this
     case more=>
      intro kk c w3 cnt2 hlk hm hlt h3 hen;have HLT:=zk hlt;have x0:=h3.cB3 1 rfl;obtain ⟨c0,c1,c2,c3,c4,cf⟩:=h3.cB5 2 rfl;have hlb:=h3.lt 2 rfl;have H3:=zk h3;clear hlt hlk h3;rcases VB hm with ⟨rfl,rfl⟩|⟨rfl,rfl⟩|⟨rfl,rfl⟩|⟨rfl,rfl⟩|⟨rfl,rfl⟩;exact Zb
      ·clear hm;rcases hbk:k.book with t|t
       ·simp only [hbk,QG.iv] at c3;have hme:=Qat (.agg #[bb]);have HBK:=zk hbk;have H3:=zk H3.1;simp only [hbk,SA.Yf,QG.iv] at H3;go_wp2_with (go_at_call 161;refine (XC 2 _ (by unfold St;omega)).mono ?_;rintro e w' ⟨rfl,rfl⟩;simp only [Yq]);refine Xh [(0,.f),(1,.f),(2,.f),(3,.s),(4,.f),(5,.s),(6,.e)] ?_;repeat (first
         |refine vR ?_
         |(refine ve rfl rfl ?_;go_wp2_with (go_at_call 306;refine (Qg2 (H3.1.drew.frt 4 rfl) id h0 h1).m1 fun w4 H4=>?_);refine ⟨trivial,?_⟩;go_simp))
        exact QDu
       ·simp only [hbk,QG.iv] at c3;have HFM:As t.fine:=⟨by have:=HP.1.fine;rw [hbk] at this;exact this⟩;have hme:=Qbb (.agg #[bb]);have HBK:=zk hbk;have H3:=zk H3.1;simp only [hbk,SA.Yf,QG.iv] at H3;go_wp2_with (go_at_call 161;refine (XC 2 _ (by unfold St;omega)).mono ?_;rintro e w' ⟨rfl,rfl⟩;simp only [Yq]);refine Xh [(0,.f),(1,.f),(2,.f),(3,.s),(4,.f),(5,.s),(6,.e)] ?_;repeat (first
         |refine vR ?_
         |(refine ve rfl rfl ?_;go_wp2_with (go_at_call 292;refine (Qgh (H3.1.drew.frt 4 rfl) id h0 h1).m1 fun w4 H4=>?_);refine ⟨trivial,?_⟩;go_simp))
        exact QDu
      exact Zb;exact Zb;exact Zb)
  |(have ty:Tg 3:=tg
    go_loopg [4] (Maps.size (DD Zc)) (fun gk p wr=>∃left:Lit→Bool,As (left (.int .i64 3)=true)∧As (Heap w0 (.rng bk r Zc left gk::.pts w.heap.size (.cells #[.string Kd.no.str,id,v] 171)::.pts b (.cells #[k.node,.slice (some ⟨g,0,none⟩) 2 cap,bj,k.book.iv bb,.map (some bm)] 91)::.slc (.slice (some ⟨g,0,none⟩) 2 cap) 3 1 2 (YY k.node)::.Yf bb k.book::.map bm (Qx (Value.int .i64) k.st)::R) wr))
    case atStart=>exact ⟨_,⟨by rw [TB];rfl⟩,H2⟩
    case round=>
     obtain ⟨left,HL,HR⟩:=hrel;clear H1 H2 HK;go_wp2_with (refine YO HR.1 0 bk r _ left gk rfl rfl _ rfl rfl ?done ?more)
     case done=>
      intro hd;have:=HL.1;rw [hd] at this;cases this
     case more=>
      intro kk c w3 cnt2 hlk hm hlt h3 hen;have HLT:=zk hlt;have x0:=h3.cB3 1 rfl;obtain ⟨c0,c1,c2,c3,c4,cf⟩:=h3.cB5 2 rfl;have hlb:=h3.lt 2 rfl;have H3:=zk h3;clear hlt hlk h3;rcases VB hm with ⟨rfl,rfl⟩|⟨rfl,rfl⟩|⟨rfl,rfl⟩|⟨rfl,rfl⟩|⟨rfl,rfl⟩;exact Zb;exact Zb
      ·clear hm;rcases hbk:k.book with t|t
       ·simp only [hbk,QG.iv] at c3;have hme:=KA (.agg #[bb]);have HBK:=zk hbk;have H3:=zk H3.1;simp only [hbk,SA.Yf,QG.iv] at H3;go_wp2_with (go_at_call 161;refine (XC 3 _ (by unfold St;omega)).mono ?_;rintro e w' ⟨rfl,rfl⟩;simp only [Yq]);refine Xh [(0,.f),(1,.f),(2,.f),(3,.s),(4,.f),(5,.s),(6,.e)] ?_;repeat (first
         |refine vR ?_
         |(refine ve rfl rfl ?_;go_wp2_with (go_at_call 307;refine (Qd8 (H3.1.drew.frt 4 rfl) id h0 h1).m1 fun w4 H4=>?_);refine ⟨trivial,?_⟩;go_simp))
        exact QC7
       ·simp only [hbk,QG.iv] at c3;have HFM:As t.fine:=⟨by have:=HP.1.fine;rw [hbk] at this;exact this⟩;have hme:=KO (.agg #[bb]);have HBK:=zk hbk;have H3:=zk H3.1;simp only [hbk,SA.Yf,QG.iv] at H3;go_wp2_with (go_at_call 161;refine (XC 3 _ (by unfold St;omega)).mono ?_;rintro e w' ⟨rfl,rfl⟩;simp only [Yq]);refine Xh [(0,.f),(1,.f),(2,.f),(3,.s),(4,.f),(5,.s),(6,.e)] ?_;repeat (first
         |refine vR ?_
         |(refine ve rfl rfl ?_;go_wp2_with (go_at_call 293;refine (Qcn (H3.1.drew.frt 4 rfl) id h0 h1).m1 fun w4 H4=>?_);refine ⟨trivial,?_⟩;go_simp))
        exact QC7
      exact Zb;exact Zb)
  |(have ty:Tg 4:=tg
    go_loopg [4] (Maps.size (DD Zc)) (fun gk p wr=>∃left:Lit→Bool,As (left (.int .i64 4)=true)∧As (Heap w0 (.rng bk r Zc left gk::.pts w.heap.size (.cells #[.string Kd.fyes.str,id,v] 171)::.pts b (.cells #[k.node,.slice (some ⟨g,0,none⟩) 2 cap,bj,k.book.iv bb,.map (some bm)] 91)::.slc (.slice (some ⟨g,0,none⟩) 2 cap) 3 1 2 (YY k.node)::.Yf bb k.book::.map bm (Qx (Value.int .i64) k.st)::R) wr))
    case atStart=>exact ⟨_,⟨by rw [TB];rfl⟩,H2⟩
    case round=>
     obtain ⟨left,HL,HR⟩:=hrel;clear H1 H2 HK;go_wp2_with (refine YO HR.1 0 bk r _ left gk rfl rfl _ rfl rfl ?done ?more)
     case done=>
      intro hd;have:=HL.1;rw [hd] at this;cases this
     case more=>
      intro kk c w3 cnt2 hlk hm hlt h3 hen;have HLT:=zk hlt;have x0:=h3.cB3 1 rfl;obtain ⟨c0,c1,c2,c3,c4,cf⟩:=h3.cB5 2 rfl;have hlb:=h3.lt 2 rfl;have H3:=zk h3;clear hlt hlk h3;rcases VB hm with ⟨rfl,rfl⟩|⟨rfl,rfl⟩|⟨rfl,rfl⟩|⟨rfl,rfl⟩|⟨rfl,rfl⟩;exact Zb;exact Zb;exact Zb
      ·clear hm;rcases hbk:k.book with t|t
       ·simp only [hbk,QG.iv] at c3;have hme:=Qat (.agg #[bb]);have HBK:=zk hbk;have H3:=zk H3.1;simp only [hbk,SA.Yf,QG.iv] at H3;go_wp2_with (go_at_call 161;refine (XC 4 _ (by unfold St;omega)).mono ?_;rintro e w' ⟨rfl,rfl⟩;simp only [Yq]);refine Xh [(0,.f),(1,.f),(2,.f),(3,.s),(4,.f),(5,.s),(6,.e)] ?_;repeat (first
         |refine vR ?_
         |(refine ve rfl rfl ?_;go_wp2_with (go_at_call 306;refine (Qg2 (H3.1.drew.frt 4 rfl) id h0 h1).m1 fun w4 H4=>?_);refine ⟨trivial,?_⟩;go_simp))
        exact QBo
       ·simp only [hbk,QG.iv] at c3;have HFM:As t.fine:=⟨by have:=HP.1.fine;rw [hbk] at this;exact this⟩;have hme:=Qbb (.agg #[bb]);have HBK:=zk hbk;have H3:=zk H3.1;simp only [hbk,SA.Yf,QG.iv] at H3;go_wp2_with (go_at_call 161;refine (XC 4 _ (by unfold St;omega)).mono ?_;rintro e w' ⟨rfl,rfl⟩;simp only [Yq]);refine Xh [(0,.f),(1,.f),(2,.f),(3,.s),(4,.f),(5,.s),(6,.e)] ?_;repeat (first
         |refine vR ?_
         |(refine ve rfl rfl ?_;go_wp2_with (go_at_call 292;refine (Qgh (H3.1.drew.frt 4 rfl) id h0 h1).m1 fun w4 H4=>?_);refine ⟨trivial,?_⟩;go_simp))
        exact QBo
      exact Zb)
  |(have ty:Tg 5:=tg
    go_loopg [4] (Maps.size (DD Zc)) (fun gk p wr=>∃left:Lit→Bool,As (left (.int .i64 5)=true)∧As (Heap w0 (.rng bk r Zc left gk::.pts w.heap.size (.cells #[.string Kd.fno.str,id,v] 171)::.pts b (.cells #[k.node,.slice (some ⟨g,0,none⟩) 2 cap,bj,k.book.iv bb,.map (some bm)] 91)::.slc (.slice (some ⟨g,0,none⟩) 2 cap) 3 1 2 (YY k.node)::.Yf bb k.book::.map bm (Qx (Value.int .i64) k.st)::R) wr))
    case atStart=>exact ⟨_,⟨by rw [TB];rfl⟩,H2⟩
    case round=>
     obtain ⟨left,HL,HR⟩:=hrel;clear H1 H2 HK;go_wp2_with (refine YO HR.1 0 bk r _ left gk rfl rfl _ rfl rfl ?done ?more)
     case done=>
      intro hd;have:=HL.1;rw [hd] at this;cases this
     case more=>
      intro kk c w3 cnt2 hlk hm hlt h3 hen;have HLT:=zk hlt;have x0:=h3.cB3 1 rfl;obtain ⟨c0,c1,c2,c3,c4,cf⟩:=h3.cB5 2 rfl;have hlb:=h3.lt 2 rfl;have H3:=zk h3;clear hlt hlk h3;rcases VB hm with ⟨rfl,rfl⟩|⟨rfl,rfl⟩|⟨rfl,rfl⟩|⟨rfl,rfl⟩|⟨rfl,rfl⟩;exact Zb;exact Zb;exact Zb;exact Zb
      ·clear hm;rcases hbk:k.book with t|t
       ·simp only [hbk,QG.iv] at c3;have hme:=KA (.agg #[bb]);have HBK:=zk hbk;have H3:=zk H3.1;simp only [hbk,SA.Yf,QG.iv] at H3;go_wp2_with (go_at_call 161;refine (XC 5 _ (by unfold St;omega)).mono ?_;rintro e w' ⟨rfl,rfl⟩;simp only [Yq]);refine Xh [(0,.f),(1,.f),(2,.f),(3,.s),(4,.f),(5,.s),(6,.e)] ?_;repeat (first
         |refine vR ?_
         |(refine ve rfl rfl ?_;go_wp2_with (go_at_call 307;refine (Qd8 (H3.1.drew.frt 4 rfl) id h0 h1).m1 fun w4 H4=>?_);refine ⟨trivial,?_⟩;go_simp))
        exact QC5
       ·simp only [hbk,QG.iv] at c3;have HFM:As t.fine:=⟨by have:=HP.1.fine;rw [hbk] at this;exact this⟩;have hme:=KO (.agg #[bb]);have HBK:=zk hbk;have H3:=zk H3.1;simp only [hbk,SA.Yf,QG.iv] at H3;go_wp2_with (go_at_call 161;refine (XC 5 _ (by unfold St;omega)).mono ?_;rintro e w' ⟨rfl,rfl⟩;simp only [Yq]);refine Xh [(0,.f),(1,.f),(2,.f),(3,.s),(4,.f),(5,.s),(6,.e)] ?_;repeat (first
         |refine vR ?_
         |(refine ve rfl rfl ?_;go_wp2_with (go_at_call 293;refine (Qcn (H3.1.drew.frt 4 rfl) id h0 h1).m1 fun w4 H4=>?_);refine ⟨trivial,?_⟩;go_simp))
        exact QC5)):P:=h
theorem Qky {P:Prop} (h:P:=by
 refine vn ?_;go_simp;clear c0 c1 c2 c3 c4 cf x0 hlb;have x0:=H4.1.cB3 2 rfl;obtain ⟨c0,c1,c2,c3,c4,cf⟩:=H4.1.cB5 3 rfl;have hlb:=H4.1.lt 3 rfl;go_wp2_with fail;refine Xh [(0,.f),(1,.f),(2,.f),(3,.s),(4,.f),(5,.s),(6,.f),(7,.e)] ?_;first
  |(have ty:Tg 1:=tg;repeat (first
     |refine vR ?_
     |(refine ve rfl rfl ?_;refine wlp H4.1.drew 5 bm _ rfl rfl _ _ _ 67 3 rfl Tryz.underlying67 rfl id rfl (.int .i64 4) rfl (by omega) (by omega) hnn.1 ?_;intro w5 h5 _;have H5:=zk h5;clear h5;go_wp2_with fail;refine ⟨trivial,?_⟩;go_simp))
    refine vn ?_;go_simp;go_wp2_with fail;rw [Exit.noGoto_normal];go_end0;refine ⟨rfl,?_⟩;have he:k.Qg ⟨.fyes,id,[]⟩= {k with book:=k.book.gives id,st:=Qt k.st id 4}:=by simp [Qd.Qg]
    exact QBf)
  |(have ty:Tg 2:=tg;repeat (first
     |refine vR ?_
     |(refine ve rfl rfl ?_;refine wlp H4.1.drew 5 bm _ rfl rfl _ _ _ 67 3 rfl Tryz.underlying67 rfl id rfl (.int .i64 2) rfl (by omega) (by omega) hnn.1 ?_;intro w5 h5 _;have H5:=zk h5;clear h5;go_wp2_with fail;refine ⟨trivial,?_⟩;go_simp))
    refine vn ?_;go_simp;go_wp2_with fail;rw [Exit.noGoto_normal];go_end0;refine ⟨rfl,?_⟩;have he:k.Qg ⟨.yes,id,[]⟩= {k with book:=k.book.gives id,st:=Qt k.st id 2}:=by simp [Qd.Qg]
    exact QBf)
  |(have ty:Tg 3:=tg;repeat (first
     |refine vR ?_
     |(refine ve rfl rfl ?_;refine wlp H4.1.drew 5 bm _ rfl rfl _ _ _ 67 3 rfl Tryz.underlying67 rfl id rfl (.int .i64 5) rfl (by omega) (by omega) hnn.1 ?_;intro w5 h5 _;have H5:=zk h5;clear h5;go_wp2_with fail;refine ⟨trivial,?_⟩;go_simp))
    refine vn ?_;go_simp;go_wp2_with fail;rw [Exit.noGoto_normal];go_end0;refine ⟨rfl,?_⟩;have he:k.Qg ⟨.fno,id,[]⟩= {k with book:=k.book.lets id,st:=Qt k.st id 5}:=by simp [Qd.Qg]
    exact zKp410)
  |(have ty:Tg 4:=tg;repeat (first
     |refine vR ?_
     |(refine ve rfl rfl ?_;refine wlp H4.1.drew 5 bm _ rfl rfl _ _ _ 67 3 rfl Tryz.underlying67 rfl id rfl (.int .i64 3) rfl (by omega) (by omega) hnn.1 ?_;intro w5 h5 _;have H5:=zk h5;clear h5;go_wp2_with fail;refine ⟨trivial,?_⟩;go_simp))
    refine vn ?_;go_simp;go_wp2_with fail;rw [Exit.noGoto_normal];go_end0;refine ⟨rfl,?_⟩;have he:k.Qg ⟨.no,id,[]⟩= {k with book:=k.book.lets id,st:=Qt k.st id 3}:=by simp [Qd.Qg]
    exact zKp410)):P:=h
theorem Qpt {P:Prop} (h:P:=by
 obtain ⟨hp,g,cap,bb,bm,h⟩:=h.QV;have HP:=zk hp;have hnn:As (List.length (Qx (Value.int .i64) k.st)<1000000):=⟨by have:=hp.keys.len;simp only [Qx,List.length_map];omega⟩;first
  |(have ty:Tg 1:=tg;have HO:=Heap.nAt (n:=w.heap.size) h (.cells #[.string Kd.ready.str,id,(.slice (some ⟨gv,0,none⟩) 2 capv)] 171) rfl;obtain ⟨W1,hW1⟩:∃W1,w.alloc (.cells #[.string Kd.ready.str,id,(.slice (some ⟨gv,0,none⟩) 2 capv)] 171)=W1:=⟨_,rfl⟩;rw [hW1] at HO;have HK:=zk (Ua HO);have n1:(Kd.ready.str.toList==Kd.ready.str.toList)=true:=by kernel_rfl
    have n2:(Kd.yes.str.toList==Kd.ready.str.toList)=false:=by kernel_rfl
    have n3:(Kd.no.str.toList==Kd.ready.str.toList)=false:=by kernel_rfl
    have n4:(Kd.fyes.str.toList==Kd.ready.str.toList)=false:=by kernel_rfl
    have n5:(Kd.fno.str.toList==Kd.ready.str.toList)=false:=by kernel_rfl
    have tg:=Tg.mk 1;exact Qkw)
  |(have ty:Tg 2:=tg;have HO:=Heap.nAt (n:=w.heap.size) h (.cells #[.string Kd.yes.str,id,v] 171) rfl;obtain ⟨W1,hW1⟩:∃W1,w.alloc (.cells #[.string Kd.yes.str,id,v] 171)=W1:=⟨_,rfl⟩;rw [hW1] at HO;have HK:=zk (Ua HO);have n1:(Kd.ready.str.toList==Kd.yes.str.toList)=false:=by kernel_rfl
    have n2:(Kd.yes.str.toList==Kd.yes.str.toList)=true:=by kernel_rfl
    have n3:(Kd.no.str.toList==Kd.yes.str.toList)=false:=by kernel_rfl
    have n4:(Kd.fyes.str.toList==Kd.yes.str.toList)=false:=by kernel_rfl
    have n5:(Kd.fno.str.toList==Kd.yes.str.toList)=false:=by kernel_rfl
    have tg:=Tg.mk 2;exact Qkw)
  |(have ty:Tg 3:=tg;have HO:=Heap.nAt (n:=w.heap.size) h (.cells #[.string Kd.no.str,id,v] 171) rfl;obtain ⟨W1,hW1⟩:∃W1,w.alloc (.cells #[.string Kd.no.str,id,v] 171)=W1:=⟨_,rfl⟩;rw [hW1] at HO;have HK:=zk (Ua HO);have n1:(Kd.ready.str.toList==Kd.no.str.toList)=false:=by kernel_rfl
    have n2:(Kd.yes.str.toList==Kd.no.str.toList)=false:=by kernel_rfl
    have n3:(Kd.no.str.toList==Kd.no.str.toList)=true:=by kernel_rfl
    have n4:(Kd.fyes.str.toList==Kd.no.str.toList)=false:=by kernel_rfl
    have n5:(Kd.fno.str.toList==Kd.no.str.toList)=false:=by kernel_rfl
    have tg:=Tg.mk 3;exact Qkw)
  |(have ty:Tg 4:=tg;have HO:=Heap.nAt (n:=w.heap.size) h (.cells #[.string Kd.fyes.str,id,v] 171) rfl;obtain ⟨W1,hW1⟩:∃W1,w.alloc (.cells #[.string Kd.fyes.str,id,v] 171)=W1:=⟨_,rfl⟩;rw [hW1] at HO;have HK:=zk (Ua HO);have n1:(Kd.ready.str.toList==Kd.fyes.str.toList)=false:=by kernel_rfl
    have n2:(Kd.yes.str.toList==Kd.fyes.str.toList)=false:=by kernel_rfl
    have n3:(Kd.no.str.toList==Kd.fyes.str.toList)=false:=by kernel_rfl
    have n4:(Kd.fyes.str.toList==Kd.fyes.str.toList)=true:=by kernel_rfl
    have n5:(Kd.fno.str.toList==Kd.fyes.str.toList)=false:=by kernel_rfl
    have tg:=Tg.mk 4;exact Qkw)
  |(have ty:Tg 5:=tg;have HO:=Heap.nAt (n:=w.heap.size) h (.cells #[.string Kd.fno.str,id,v] 171) rfl;obtain ⟨W1,hW1⟩:∃W1,w.alloc (.cells #[.string Kd.fno.str,id,v] 171)=W1:=⟨_,rfl⟩;rw [hW1] at HO;have HK:=zk (Ua HO);have n1:(Kd.ready.str.toList==Kd.fno.str.toList)=false:=by kernel_rfl
    have n2:(Kd.yes.str.toList==Kd.fno.str.toList)=false:=by kernel_rfl
    have n3:(Kd.no.str.toList==Kd.fno.str.toList)=false:=by kernel_rfl
    have n4:(Kd.fyes.str.toList==Kd.fno.str.toList)=false:=by kernel_rfl
    have n5:(Kd.fno.str.toList==Kd.fno.str.toList)=true:=by kernel_rfl
    have tg:=Tg.mk 5;exact Qkw)):P:=h
def Qd.Qg (k:Qd) (e:Entry):Qd:=
 match e.kd,e.n with
 |.ready,[a,q]=> {k with book:=(k.book.take e.id a.toNat q).2,st:=Qt k.st e.id 1}
 |.yes,_=> {k with book:=k.book.gives e.id,st:=Qt k.st e.id 2}
 |.no,_=> {k with book:=k.book.lets e.id,st:=Qt k.st e.id 3}
 |.fyes,_=> {k with book:=k.book.gives e.id,st:=Qt k.st e.id 4}
 |.fno,_=> {k with book:=k.book.lets e.id,st:=Qt k.st e.id 5}
 |_,_=>k
theorem VB {k:Int} {v:Value} (h:Qc Zc k=some v):(k=1∧v=.string Kd.ready.str)∨(k=2∧v=.string Kd.yes.str)∨(k=3∧v=.string Kd.no.str)∨(k=4∧v=.string Kd.fyes.str)∨(k=5∧v=.string Kd.fno.str):=by
 have:=Xe h;simp only [Zc,List.mem_cons,Prod.mk.injEq,List.not_mem_nil,or_false] at this;exact this
theorem Qel (v:Value) (W:World):(method 463 186 v "wharfinger/keeper.take").run Tryz.prog W=.ok (308,v) W:=by kernel_rfl
theorem Qat (v:Value) (W:World):(method 463 186 v "wharfinger/keeper.gives").run Tryz.prog W=.ok (306,v) W:=by kernel_rfl
theorem KA (v:Value) (W:World):(method 463 186 v "wharfinger/keeper.lets").run Tryz.prog W=.ok (307,v) W:=by kernel_rfl
theorem Qcv (v:Value) (W:World):(method 463 100 v "wharfinger/keeper.take").run Tryz.prog W=.ok (294,v) W:=by kernel_rfl
theorem Qbb (v:Value) (W:World):(method 463 100 v "wharfinger/keeper.gives").run Tryz.prog W=.ok (292,v) W:=by kernel_rfl
theorem KO (v:Value) (W:World):(method 463 100 v "wharfinger/keeper.lets").run Tryz.prog W=.ok (293,v) W:=by kernel_rfl
theorem Qfb {w0 w:World} {b bj:Nat} {k:Qd} {R:List SA} (a:Nat) (q:Int) (v:Value) (h:Heap w0 (.kpx b bj k::.slc v 3 1 2 [.int .i64 (a:Int),.int .i64 q]::R) w) (id:Int) (h0:1≤id) (h1:id≤999) (ha:a<8) (hq0:0<q) (hq1:q≤1000000000):
 CH 138 #[b,.agg #[.string Kd.ready.str,id,v]] w (.tuple #[]) w0 (.kpx b bj (k.Qg ⟨.ready,id,[(a:Int),q]⟩)::.slc v 3 1 2 [.int .i64 (a:Int),.int .i64 q]::R):=by
 obtain ⟨gv,capv,rfl, -, -⟩:=Qi2 (h.row 1 rfl);have tg:=Tg.mk 1;exact Qpt
theorem Qjz {w0 w:World} {b bj:Nat} {k:Qd} {R:List SA} (h:Heap w0 (.kpx b bj k::R) w) (id:Int) (h0:1≤id) (h1:id≤999) (v:Value) (hv:v.oneCell'=true):
 CH 138 #[b,.agg #[.string Kd.yes.str,id,v]] w (.tuple #[]) w0 (.kpx b bj (k.Qg ⟨.yes,id,[]⟩)::R):=by
 have tg:=Tg.mk 2;exact Qpt
theorem Qm3 {w0 w:World} {b bj:Nat} {k:Qd} {R:List SA} (h:Heap w0 (.kpx b bj k::R) w) (id:Int) (h0:1≤id) (h1:id≤999) (v:Value) (hv:v.oneCell'=true):
 CH 138 #[b,.agg #[.string Kd.no.str,id,v]] w (.tuple #[]) w0 (.kpx b bj (k.Qg ⟨.no,id,[]⟩)::R):=by
 have tg:=Tg.mk 3;exact Qpt
theorem Qh0 {w0 w:World} {b bj:Nat} {k:Qd} {R:List SA} (h:Heap w0 (.kpx b bj k::R) w) (id:Int) (h0:1≤id) (h1:id≤999) (v:Value) (hv:v.oneCell'=true):
 CH 138 #[b,.agg #[.string Kd.fyes.str,id,v]] w (.tuple #[]) w0 (.kpx b bj (k.Qg ⟨.fyes,id,[]⟩)::R):=by
 have tg:=Tg.mk 4;exact Qpt
theorem Qmg {w0 w:World} {b bj:Nat} {k:Qd} {R:List SA} (h:Heap w0 (.kpx b bj k::R) w) (id:Int) (h0:1≤id) (h1:id≤999) (v:Value) (hv:v.oneCell'=true):
 CH 138 #[b,.agg #[.string Kd.fno.str,id,v]] w (.tuple #[]) w0 (.kpx b bj (k.Qg ⟨.fno,id,[]⟩)::R):=by
 have tg:=Tg.mk 5;exact Qpt
theorem QCs {P:Prop} (h:P:=by
 go_enter Tryz.func106,Tryz.ntmps106;go_wp2_with (first|(go_at_call 136;refine HK.1.mono ?_;rintro en w1 ⟨bk,rfl,h1⟩;have H1:=zk h1;clear h1)|(at_lookup;refine wll H1.1 0 bk _ rfl rfl _ _ 208 9 false rfl Tryz.underlying208 _ zero9 rfl sn rfl (by omega) (by omega) ?_;rw [HLK.1];simp only [Option.getD_some,if_false,Bool.false_eq_true]));have hn:=Heap.nAt (n:=w1.heap.size) H1.1 (.cells #[.string e.kd.str,e.id,.slice av e.n.length capv] 171) rfl;obtain ⟨W3,hW3⟩:∃W3,w1.alloc (.cells #[.string e.kd.str,e.id,.slice av e.n.length capv] 171)=W3:=⟨_,rfl⟩;rw [hW3] at hn⊢;generalize w1.heap.size=pe at hn⊢;have z0:=hn.cB3 0 rfl;have c0:=hn.cB5 2 rfl;have hlb:=hn.lt 2 rfl;have hlz:=hn.lt 0 rfl;have H3:=zk hn;clear hn hW3;refine Xh [(0,.f),(1,.f),(2,.f),(3,.s),(4,.s),(5,.e),(6,.f)] ?_;repeat (first
  |refine vR ?_
  |(refine ve rfl rfl ?_;go_wp2_with (go_at_call 137;refine (Qbr (H3.1.drew.frt 6 rfl) HD.1 e HE.1.ok _ (H3.1.drew.row 7 rfl)).m2 fun w4 h4=>?_;rw [HA1.1];have H4:=zk h4;clear h4);refine ⟨trivial,?_⟩;go_simp))
 refine vn ?_;go_simp;clear c0 z0 hlb hlz;have c0:=H4.1.cB5 3 rfl;have z0:=H4.1.cB3 1 rfl;have hlb:=H4.1.lt 3 rfl;first
  |(have ty:Tg 1:=tg;go_wp2_with fail;go_ret;rw [HS.1,if_pos HR.1];refine ⟨rfl,?_⟩;have h9:=H4.1;rw [HF.1] at h9;have h8:=(((h9.frt 1 rfl).drop.frt 1 rfl).drop.frt 4 rfl).frt 4 rfl |>.frt 4 rfl |>.frt 4 rfl;exact Heap.Ko (Heap.XM (g:=g) (cap:=cap) (bb:=bb) (bm:=bm) HP.1 h8))
  |(have ty:Tg 2:=tg;go_wp2_with (first|(go_at_call 133;refine (Fb H4.1 HD2.1).m2 fun w5 h5=>?_;clear c0 z0 hlb;have c0:=h5.cB5 3 rfl;have z0:=h5.cB3 1 rfl;have hlb:=h5.lt 3 rfl;have H5:=zk (((Heap.XM (g:=g) (cap:=cap) (bb:=bb) (bm:=bm) HP.1 ((((h5.frt 1 rfl).drop.frt 1 rfl).drop.frt 4 rfl).frt 4 rfl |>.frt 4 rfl |>.frt 4 rfl)).Qu2 ((k.j.add e).2.sync)).frt 2 rfl |>.frt 1 rfl);clear h5)|(go_at_call 138;refine (Qc2 H5.1 HE.1).m1 fun w6 H6=>?_));go_ret;rw [HS.1,if_neg (Int.not_le.2 HR.1)];refine ⟨rfl,Heap.Ko (bj:=bj) ?_⟩;rw [Qkr];exact (H6.1.frt 2 rfl).frt 1 rfl)):P:=h
inductive KpE:Entry→Prop where
 |ready (id:Int) (a:Nat) (q:Int) (h0:1≤id) (h1:id≤999) (ha:a<8) (hq0:0<q) (hq1:q≤1000000000):KpE ⟨.ready,id,[(a:Int),q]⟩
 |yes (id:Int) (h0:1≤id) (h1:id≤999):KpE ⟨.yes,id,[]⟩
 |no (id:Int) (h0:1≤id) (h1:id≤999):KpE ⟨.no,id,[]⟩
 |fyes (id:Int) (h0:1≤id) (h1:id≤999):KpE ⟨.fyes,id,[]⟩
 |fno (id:Int) (h0:1≤id) (h1:id≤999):KpE ⟨.fno,id,[]⟩
theorem KpE.ok {e:Entry} (h:KpE e):e.ok:=by
 cases h with
 |ready id a q h0 h1 ha hq0 hq1=>exact ⟨by simp only;omega,h1,by simp,by simp [QU];omega⟩
 |yes id h0 h1=>exact ⟨by simp only;omega,h1,by simp,by simp⟩
 |no id h0 h1=>exact ⟨by simp only;omega,h1,by simp,by simp⟩
 |fyes id h0 h1=>exact ⟨by simp only;omega,h1,by simp,by simp⟩
 |fno id h0 h1=>exact ⟨by simp only;omega,h1,by simp,by simp⟩
theorem Qc2 {w0 w:World} {b bj:Nat} {k:Qd} {R:List SA} {e:Entry} {v:Value} (h:Heap w0 (.kpx b bj k::.slc v 3 1 e.n.length (e.n.map (Value.int .i64))::R) w) (he:KpE e):
 CH 138 #[b,.agg #[.string e.kd.str,e.id,v]] w (.tuple #[]) w0 (.kpx b bj (k.Qg e)::.slc v 3 1 e.n.length (e.n.map (Value.int .i64))::R):=by
 cases he with
 |ready id a q h0 h1 ha hq0 hq1=>exact Qfb a q v h id h0 h1 ha hq0 hq1
 |yes id h0 h1=>exact Qjz h id h0 h1 v (h.JJ 1 rfl)
 |no id h0 h1=>exact Qm3 h id h0 h1 v (h.JJ 1 rfl)
 |fyes id h0 h1=>exact Qh0 h id h0 h1 v (h.JJ 1 rfl)
 |fno id h0 h1=>exact Qmg h id h0 h1 v (h.JJ 1 rfl)
theorem Qkr (k:Qd) (e:Entry):(k.Qg e).j=k.j:=by unfold Qd.Qg;split<;>rfl
theorem Qkz (k:Qd) (e:Entry):(k.Qg e).node=k.node:=by unfold Qd.Qg;split<;>rfl
def FP:Kd→Int
 |.ready=>1
 |.yes=>2
 |.no=>3
 |.fyes=>4
 |.fno=>5
 |_=>0
theorem Qxo {e:Entry} (h:KpE e):Qc Zc (FP e.kd)=some (.string e.kd.str):=by cases h<;>rfl
theorem Qet (k:Kd):0≤FP k∧FP k≤5:=by cases k<;>decide
theorem zero9:∀w,(zeroValue 9).run Tryz.prog w=.ok (.string ⟨#[]⟩) w:=fun _=>by kernel_rfl
def Qd.notes (k:Qd) (e:Entry):Bool×Qd:=
 if k.j.room≤(k.j.es.length:Int) then (false,k) else (true,({k with j:=(k.j.add e).2.sync}:Qd).Qg e)
theorem VY {w0 w:World} {b:Nat} {k:Qd} {R:List SA} {e:Entry} {v:Value} (h:Heap w0 (.keeper b k::.slc v 3 1 e.n.length (e.n.map (Value.int .i64))::R) w) (he:KpE e) (hd:k.j.down=false):
 CH 106 #[b,e.id,.int .i64 (FP e.kd),v] w (.bool (k.notes e).1) w0 (.keeper b (k.notes e).2::.slc v 3 1 e.n.length (e.n.map (Value.int .i64))::R):=by
 obtain ⟨bj,h⟩:=h.YA;obtain ⟨hp,g,cap,bb,bm,h⟩:=h.QV;have HP:=zk hp;have HK:=zk (Ua h);have HS:As (k.notes e=if k.j.room≤(k.j.es.length:Int) then (false,k) else (true,({k with j:=(k.j.add e).2.sync}:Qd).Qg e)):=⟨rfl⟩;have HE:=zk he;have HD:=zk hd;have HLK:=zk (Qxo he);have hs0:=(Qet e.kd).1;have hs1:=(Qet e.kd).2;obtain ⟨av,capv,rfl⟩:=vS2 (h.row 5 rfl);generalize hst:FP e.kd=sn at *;clear h hp he hst;by_cases hr:k.j.room≤(k.j.es.length:Int);have HR:=zk hr;have ha:k.j.add e=(5,k.j):=by simp [Jrn.add,hr]
 have HA1:As ((k.j.add e).1=5):=⟨by rw [ha]⟩;have HF:As ((k.j.add e).2=k.j):=⟨by rw [ha]⟩;clear ha hr hd;have tg:=Tg.mk 1;exact QCs;have HR:=zk hr;have HD2:As ((k.j.add e).2.down=false):=⟨by simp [Jrn.add,hr];exact hd⟩;have HA1:As ((k.j.add e).1=0):=⟨by simp [Jrn.add,hr]⟩;clear hr hd;have tg:=Tg.mk 2;exact QCs
end Go.Proofs.YtlnghlamnehfjaaGreatDoor.S
namespace Go.Proofs.YtlnghlamnehfjaaGreatDoor.S
open Go.RowKit Go.Maps
attribute [local go_sem] Oper.semAt_some
def Qd.Qi (k:Qd) (es:List Entry):Qd:=es.foldl Qd.Qg k
def Qd.start (k:Qd):Qd:=if k.j.down=true then (({k with j:=k.j.recover}:Qd).forget).Qi k.j.es else k
theorem Qsr (k:Qd) (es:List Entry):(k.Qi es).j=k.j:=by
 induction es generalizing k with
 |nil=>rfl
 |cons e r ih=>exact (ih (k.Qg e)).trans (Qkr k e)
theorem Qik (k:Qd) (es:List Entry) {n:Nat} {e:Entry} (h:es[n]? =some e):k.Qi (es.take (n+1))=(k.Qi (es.take n)).Qg e:=by
 obtain ⟨hk,rfl⟩:=List.getElem?_eq_some_iff.1 h;unfold Qd.Qi;rw [List.take_succ_eq_append_getElem hk,List.foldl_append];rfl
theorem Qhp {w0 w:World} {b:Nat} {k:Qd} {R:List SA} (h:Heap w0 (.keeper b k::R) w) (hes:∀e∈k.j.es,KpE e):
 CH 216 #[b] w (.tuple #[]) w0 (.keeper b k.start::R):=by
 have HH:=zk h;have HB:=zk (h.new (.cells #[b] 40));have HDN:=zk (XL (HB.1.frt 1 rfl));have HS:As (k.start=if k.j.down=true then (({k with j:=k.j.recover}:Qd).forget).Qi k.j.es else k):=⟨rfl⟩;have HES:=zk hes;clear hes;obtain ⟨bj,h2⟩:=(HB.1.frt 1 rfl).YA;have H2:=zk h2;obtain ⟨hp,g,cap,bb,bm,h3⟩:=h2.QV;have c0:=h3.cB5 0 rfl;have hlb:=h3.lt 0 rfl;clear h h2 hp h3;cases hd:k.j.down
 ·rw [hd] at HS HDN;clear hd;refine cmk Tryz.func216 rfl ?_;simp only [Tryz.ntmps216,List.size_toArray,List.length_cons,List.length_nil,Nat.reduceAdd,Nat.reduceSub,Array.replicate_succ,Array.replicate_zero,List.push_toArray,List.append_toArray,List.nil_append,List.cons_append];go_wp2_with (go_at_call 19;refine HDN.1.m0 ?_);refine ⟨_,results_none rfl _ _ _,rfl,?_⟩;rw [HS.1];exact HH.1.alloc _
 ·have HREC:As (∀W L,Heap w0 (.jrn bj k.j::L) W→Calls Tryz.prog 220 #[bj] W fun e w'=>∃n,e=.returned (.int .i64 n)∧Heap w0 (.jrn bj k.j.recover::L) w'):=⟨fun W L h=>VI h hd⟩;rw [hd] at HS HDN;clear hd;refine cmk Tryz.func216 rfl ?_;simp only [Tryz.ntmps216,List.size_toArray,List.length_cons,List.length_nil,Nat.reduceAdd,Nat.reduceSub,Array.replicate_succ,Array.replicate_zero,List.push_toArray,List.append_toArray,List.nil_append,List.cons_append];go_wp2_with (first|(go_at_call 19;refine HDN.1.m0 ?_)|(go_at_call 220;refine (HREC.1 _ _ (H2.1.frt 1 rfl)).mono ?_;rintro e w1 ⟨nr,rfl,h1⟩;have H4:=zk ((h1.frt 1 rfl).Qu2 k.j.recover);clear c0 hlb;obtain ⟨x0,xf⟩:=h1.cB1 2 rfl;clear h1)|(go_at_call 76;refine (Qex H4.1).m2 fun w2 h2=>?_;clear x0 xf;have H5:=zk h2;obtain ⟨hp2,g2,cap2,bb2,bm2,h3⟩:=h2.QV;have c0:=h3.cB5 0 rfl;obtain ⟨x0,xf⟩:=h3.cB1 5 rfl;have hlb:=h3.lt 0 rfl;clear h2 h3 hp2)|(go_at_call 221;refine (Qdy H5.1 bj).mono ?_;rintro e w3 ⟨bx,rfl,h3⟩;have H6:=zk h3;clear h3));clear c0 hlb x0 xf;have hje:(({k with j:=k.j.recover}:Qd).forget).j.es=k.j.es:=rfl;have hjr:(({k with j:=k.j.recover}:Qd).forget).j=k.j.recover:=rfl;generalize hs1:({k with j:=k.j.recover}:Qd).forget=s1 at *;rw [←hjr] at H6;refine UL rfl (enters_of Tryz.func227 (by kernel_rfl) rfl) rfl _ _ R s1.j.es _ (Uh w0 bx bj s1.j) (fun n=>.all [.pts w.heap.size (.cells #[b] 40),.kpx b bj (s1.Qi (s1.j.es.take n))]) ?h0 2 (Qui (fun n=>.all [.pts w.heap.size (.cells #[b] 40),.kpx b bj (s1.Qi (s1.j.es.take n))])) ?assign ?body ?done
  case h0=>
   exact Heap.gather (l:= [_,_]) ((H6.1.frt 1 rfl).frt 3 rfl)
  case assign=>
   intro l n x v X W K hk h hK;obtain ⟨u,rfl,h2⟩:=Jg h;have hK2:=hK _ _ (Je (h2.new (.cells #[.string x.kd.str,x.id,u] 171)));have hsh:=h2.shp 0 rfl;clear hK h h2;rcases hsh with ⟨rfl, -, -⟩|⟨g,cap,rfl, -, -, -⟩;all_goals
    simp [Fy,QK] at hK2;simp only [QK]
    gi_wp2
    exact hK2
  case body=>
   intro l n x v p X W hk h;obtain ⟨u,rfl,h2⟩:=JO h;have h3:=Heap.spread (l:= [_,_]) (h2.frt 2 rfl);have hse:KpE x:=HES.1 x (by rw [←hje];exact List.mem_of_getElem? hk);have HSE:=zk hse;have HSU:=zk (Qik s1 s1.j.es hk);obtain ⟨x0,xf⟩:=h3.cB1 0 rfl;have e0:=h3.cB3 2 rfl;have H7:=zk ((h3.frt 3 rfl).frt 2 rfl);clear h h2 h3 hk hse;generalize s1.Qi (s1.j.es.take n)=sk at *;simp only [Fy,QK]
   gi_wp2_with (refine ⟨trivial,(CallsIn.inRound l (callsIn_wide.2 (Qc2 H7.1 HSE.1))).mono ?_⟩;rintro en w4 ⟨rfl,h4⟩;have H8:=zk h4;clear h4)
   show Heap w0 _ _
   rw [HSU.1];exact Heap.gather (l:= [_,_]) ((((H8.1.frt 1 rfl).drop.frt 2 rfl).drop).frt 1 rfl)
  case done=>
   intro D W h;have h2:=Heap.spread (l:= [_,_]) h;have HZ:=h2.putAt 2 rfl (.deferred none);have HT:=zk (h2.at 2 rfl);have HY:=zk ((((HZ.drop.frt 1 rfl).drop).frt 1 rfl).drop);clear h h2 HZ;go_wp2;refine ⟨by simp,.inl ⟨_,_,rfl,run_takeDeferred HT.1,?_⟩⟩;refine ⟨_,results_none rfl _ _ _,rfl,?_⟩;rw [HS.1];simp only [if_true];have h9:=HY.1;rw [List.take_length,hje] at h9;refine Heap.Ko (bj:=bj) ?_;rw [Qsr];exact h9
end Go.Proofs.YtlnghlamnehfjaaGreatDoor.S
namespace Go.Proofs.YtlnghlamnehfjaaGreatDoor.S
open Go.RowKit Go.Maps
theorem Qs7 (g n cap:Nat) (W:World):(binOp .eql 53 (.slice (some ⟨g,0,none⟩) n cap) (.slice none 0 0)).run Tryz.prog W=.ok (.bool false) W:=by kernel_rfl
theorem Qfp {w0 w:World} {R:List SA} (h:Heap w0 R w) (x y:Int) (v:Value) (hr:w.ownsRow 0 3 1 v 2 [.int .i64 x,.int .i64 y]):
 Calls Tryz.prog 75 #[v] w fun e w'=>∃g cap,e=.returned (.slice (some ⟨g,0,none⟩) 2 cap)∧Heap w0 (.slc (.slice (some ⟨g,0,none⟩) 2 cap) 3 1 2 [.int .i64 x,.int .i64 y]::R) w':=by
 have H:=zk h;obtain ⟨i0,hi0,hi1,hi2,hi3⟩:=info_parts info3;have HI:=zk (And.intro hi0 (And.intro hi1 (And.intro hi2 hi3)));clear hi0 hi1 hi2 hi3;obtain ⟨g,cap,rfl,g0,g1⟩:=Qi2 hr;have hgb:g<w.heap.size:=World.block_lt_of_cell? w _ g0;have HX:As (∀(j:Nat) u,([.int .i64 x,.int .i64 y]:List Value)[j]? =some u→w.cell? ⟨g,j,none⟩=some u):=⟨fun j u hu=>by
  rcases j with _|_|j;rw [g0];exact hu;rw [g1];exact hu;simp at hu⟩
 have HGB:=zk hgb;have HN:=zk (Heap.XJ (k:=0) (size:=1) (H.1.new (.cells #[] 3)) (by decide) rfl);clear hr h g0 g1 hgb;have hbe:=Qs7 g 2 cap;go_enter Tryz.func75,Tryz.ntmps75;go_wp2_with (at_builtin;refine wla HN.1 0 _ 3 1 0 [] rfl rfl _ _ 53 rfl i0 _ 8 Tryz.underlying53 HI.1.1 HI.1.2.1 HI.1.2.2.1 HI.1.2.2.2 rfl (by decide) rfl ⟨g,0,none⟩ 2 cap [.int .i64 x,.int .i64 y] rfl rfl (fun j u hu=>by rw [addr_add];have:=HX.1 j u hu;rw [←this];exact (Below.refl _ w).alloc (Nat.le_refl _) _ |>.cell (p:=⟨g,j,none⟩) HGB.1) (fun u hu=>by simp at hu;rcases hu with rfl|rfl<;>rfl) (by decide) (by decide) (by decide) ?_;intro g2 cap2 w2 h2 _;have H2:=zk h2;clear h2);go_ret;exact ⟨g2,cap2,rfl,H2.1⟩
theorem Qrm {w0 w:World} {R:List SA} (h:Heap w0 R w) (node:Int) (v:Value) (hr:w.ownsRow 0 3 1 v 2 (YY node)):
 Calls Tryz.prog 75 #[v] w fun e w'=>∃g cap,e=.returned (.slice (some ⟨g,0,none⟩) 2 cap)∧Heap w0 (.slc (.slice (some ⟨g,0,none⟩) 2 cap) 3 1 2 (YY node)::R) w':=by
 unfold YY at *;by_cases hn:node=1;rw [if_pos hn] at *;exact Qfp h 60 5 v hr;rw [if_neg hn] at *;exact Qfp h 900 40 v hr
theorem Qq2 {w0 w:World} {R:List SA} (h:Heap w0 R w) (node room:Int) (v:Value) (hn:node=1∨node=2) (hr:w.ownsRow 0 3 1 v 2 (YY node)) (hr0:1≤room) (hr1:room≤4096):
 Calls Tryz.prog 42 #[node,v,room] w fun e w'=>∃b,e=.returned (.pointer (some ⟨b,0,none⟩))∧Heap w0 (.keeper b ⟨node,⟨room,[],0,false⟩,Vh node,[]⟩::R) w':=by
 have HC:=zk (Qrm h node v hr);have HNO:=zk hn;obtain ⟨av,cv,rfl⟩:=vS2 hr;clear h hr;have hfor:As (∀{W:World} {b bj g cap:Nat} {L:List SA},Heap w0 (.pts b (.cells #[node,.slice (some ⟨g,0,none⟩) 2 cap,bj,.nilIface,.map none] 91)::.slc (.slice (some ⟨g,0,none⟩) 2 cap) 3 1 2 (YY node)::L) W→Calls Tryz.prog 76 #[b] W fun e w'=>e=.returned (.tuple #[])∧∃bb bm,Heap w0 (.pts b (.cells #[node,.slice (some ⟨g,0,none⟩) 2 cap,bj,(Vh node).iv bb,.map (some bm)] 91)::.slc (.slice (some ⟨g,0,none⟩) 2 cap) 3 1 2 (YY node)::.Yf bb (Vh node)::.map bm []::L) w'):=⟨fun h=>Qa1 hn h⟩;have HL:As (∀W (b:Nat) L,Heap w0 L W→True):=⟨fun _ _ _ _=>trivial⟩;have hfin:As (∀(b bj g cap bb bm:Nat) (W:World),Heap w0 (.pts b (.cells #[node,.slice (some ⟨g,0,none⟩) 2 cap,bj,(Vh node).iv bb,.map (some bm)] 91)::.slc (.slice (some ⟨g,0,none⟩) 2 cap) 3 1 2 (YY node)::.Yf bb (Vh node)::.map bm []::.jrn bj ⟨room,[],0,false⟩::R) W→Heap w0 (.keeper b ⟨node,⟨room,[],0,false⟩,Vh node,[]⟩::R) W):=⟨fun b bj g cap bb bm W h=>Heap.Ko (bj:=bj) (Heap.XM (k:=⟨node,⟨room,[],0,false⟩,Vh node,[]⟩) (g:=g) (cap:=cap) (bb:=bb) (bm:=bm) ⟨hn,Ql.nil,by simp,Qb4 _⟩ h)⟩;generalize hIL:YY node=il at *;generalize hIB:Vh node=ib at *;clear hIL hIB;rcases hn with rfl|rfl;all_goals
  go_enter Tryz.func42,Tryz.ntmps42;go_wp2_with (first|(go_at_call 75;refine HC.1.mono ?_;rintro e w1 ⟨g,cap,rfl,h1⟩;have H1:=zk h1;clear h1)|(go_at_call 73;refine (Qbq H1.1 room hr0 hr1).mono ?_;rintro e w2 ⟨bj,rfl,h2⟩;have H2:=zk h2;clear h2)|(go_at_call 76;refine (hfor.1 ((H2.1.new _).frt 2 rfl |>.frt 1 rfl)).mono ?_;rintro e w3 ⟨rfl,bb,bm,h3⟩;have H3:=zk h3;clear h3));go_ret;exact ⟨_,rfl,hfin.1 _ _ _ _ _ _ _ H3.1⟩
def Qd.ring (k:Qd) (id:Int):List Msg:=if k.j.down=true then [] else if mgi k.st id=1 then [⟨12,k.node,0,id,0,0,0⟩,⟨12,k.node,3-k.node,id,0,0,0⟩] else []
def Qd.force (k:Qd) (id:Int) (yes:Bool):Int×Qd:=
 if k.j.down=true then (10,k) else if mgi k.st id=1 then (if (k.notes ⟨if yes=true then .fyes else .fno,id,[]⟩).1=true then 0 else 5,(k.notes ⟨if yes=true then .fyes else .fno,id,[]⟩).2) else (7,k)
theorem Qgz {w0 w:World} {b:Nat} {k:Qd} {R:List SA} (h:Heap w0 (.keeper b k::R) w) (id:Int) (h0:1≤id) (h1:id≤999) (yes:Bool):
 CH 65 #[b,id,.bool yes] w (.int .i64 (k.force id yes).1) w0 (.keeper b (k.force id yes).2::R):=by
 have HH:=zk h;have HDN:=zk (XL h);have HID:=zk (Qxc id h0 h1);obtain ⟨bj,hx⟩:=h.YA;have HST:=zk (Jn hx id (by omega) (by omega));have hs:St (mgi k.st id):=by
  obtain ⟨hp, -⟩:=hx.QV;cases hm:Qc k.st id with
  |none=>simp [mgi,hm,St]
  |some s=>simp [mgi,hm];exact hp.st _ (Xe hm)
 have HF:=zk (fun W=>Qvs (mgi k.st id) yes W hs);have HN:As (k.j.down=false→∀W,Heap w0 (.keeper b k::R) W→CH 106 #[b,id,.int .i64 (if yes=true then 4 else 5),.slice none 0 0] W (.bool (k.notes ⟨if yes=true then .fyes else .fno,id,[]⟩).1) w0 (.keeper b (k.notes ⟨if yes=true then .fyes else .fno,id,[]⟩).2::R)):=⟨fun hd W hW=>by
  cases yes;refine (VY (e:=⟨.fno,id,[]⟩) ((hW.nRw 3 1).frt 1 rfl) (.fno id h0 h1) hd).m2 fun w' h'=>?_;exact ⟨rfl,(h'.frt 1 rfl).drop⟩;refine (VY (e:=⟨.fyes,id,[]⟩) ((hW.nRw 3 1).frt 1 rfl) (.fyes id h0 h1) hd).m2 fun w' h'=>?_;exact ⟨rfl,(h'.frt 1 rfl).drop⟩⟩
 have HS:As (k.force id yes=if k.j.down=true then (10,k) else if mgi k.st id=1 then (if (k.notes ⟨if yes=true then .fyes else .fno,id,[]⟩).1=true then 0 else 5,(k.notes ⟨if yes=true then .fyes else .fno,id,[]⟩).2) else (7,k)):=⟨rfl⟩;clear h hx hs;cases hd:k.j.down
 ·rw [hd] at HDN HS;have HN2:=zk (HN.1 hd _ HH.1);clear hd HN;generalize k.notes ⟨if yes=true then .fyes else .fno,id,[]⟩=nt at *;obtain ⟨nb,ns⟩:=nt;generalize mgi k.st id=s at *;by_cases hs1:s=1
  ·subst hs1;cases yes<;>cases nb
   all_goals
    simp only [Qng,VW,if_true,Bool.false_eq_true,if_false,eq_self_iff_true,↓reduceIte] at HF HN2 HS;go_enter Tryz.func65,Tryz.ntmps65;go_wp2_with (first|(go_at_call 19;refine HDN.1.m0 ?_)|(go_at_call 104;refine (HID.1 _).m0 ?_)|(go_at_call 17;refine HST.1.m0 ?_)|(go_at_call 105;refine (HF.1 _).m0 ?_)|(go_at_call 106;refine HN2.1.m1 fun w1 H1=>?_));go_ret;rw [HS.1];exact ⟨rfl,H1.1⟩
  ·have HS1:=zk hs1;simp only [Qng,VW,if_neg hs1] at HF;clear hs1 HN2;go_enter Tryz.func65,Tryz.ntmps65;go_wp2_with (first|(go_at_call 19;refine HDN.1.m0 ?_)|(go_at_call 104;refine (HID.1 _).m0 ?_)|(go_at_call 17;refine HST.1.m0 ?_)|(go_at_call 105;refine (HF.1 _).m0 ?_));go_ret;rw [HS.1];simp only [Bool.false_eq_true,if_false,if_neg HS1.1];exact ⟨rfl,HH.1⟩
 ·rw [hd] at HDN HS;clear hd HN;go_enter Tryz.func65,Tryz.ntmps65;go_wp2_with (go_at_call 19;refine HDN.1.m0 ?_);go_ret;rw [HS.1];exact ⟨rfl,HH.1⟩
end Go.Proofs.YtlnghlamnehfjaaGreatDoor.S
namespace Go
section
variable {P:Program} {ops:Array Oper} {C:World→Prop} {Q:Act→World→Prop} {r:List (Nat×Mk)} {a:Act} {w:World} {i:Nat} {o:Oper}
theorem vgo (ho:ops[i]? =some o) (hw:Region.wanted o (yielded ops a.tmps)=false) (hn:XU P ops C Q r (a.put o.dst undef) w):XU P ops C Q ((i,.f)::r) a w:=
 ⟨o,undef,ho,fun w' _=>.inr ⟨hw,rfl⟩,hn⟩
theorem veo (ho:ops[i]? =some o) (hw:Region.wanted o (yielded ops a.tmps)=false) (hn:C w∧XU P ops C Q r (a.put o.dst undef) w):XU P ops C Q ((i,.e)::r) a w:=by
 show XV P ops C i _ a w
 unfold XV wpOp;simp only [ho,hw];exact hn
end
end Go
namespace Go.Proofs.YtlnghlamnehfjaaGreatDoor.S
open Go.RowKit Go.Maps
def Qd.can (k:Qd) (kind id a q:Int):Bool×Qd:=
 if kind=6∧mgi k.st id=0 then ((k.book.take id a.toNat q).1,{k with book:=if (k.book.take id a.toNat q).1=true then (k.book.take id a.toNat q).2.lets id else (k.book.take id a.toNat q).2}) else (false,k)
theorem QAt {w0 w:World} {b bj:Nat} {k:Qd} {R:List SA} (h:Heap w0 (.kpx b bj k::R) w) (kind frm tt id step a q:Int) (h0:1≤id) (h1:id≤999) (hm:kind=6→0≤a∧a<8∧0<q∧q≤1000000000):
 CH 219 #[b,.agg #[kind,frm,.int .i64 tt,id,step,.int .i64 a,.int .i64 q]] w (.bool (k.can kind id a q).1) w0 (.kpx b bj (k.can kind id a q).2::R):=by
 have HH:=zk h;obtain ⟨hp,g,cap,bb,bm,h⟩:=h.QV;have HP:=zk hp;have hb:=h.new (.cells #[kind,frm,.int .i64 tt,id,step,.int .i64 a,.int .i64 q] 113);obtain ⟨W1,hW1⟩:∃W1,w.alloc (.cells #[kind,frm,.int .i64 tt,id,step,.int .i64 a,.int .i64 q] 113)=W1:=⟨_,rfl⟩;have HA:=HH.1.alloc (.cells #[kind,frm,.int .i64 tt,id,step,.int .i64 a,.int .i64 q] 113);rw [hW1] at hb HA;have HAL:=zk HA;clear HA;have HS:As (k.can kind id a q=if kind=6∧mgi k.st id=0 then ((k.book.take id a.toNat q).1,{k with book:=if (k.book.take id a.toNat q).1=true then (k.book.take id a.toNat q).2.lets id else (k.book.take id a.toNat q).2}) else (false,k)):=⟨rfl⟩;have x0:=hb.cB7 0 rfl;obtain ⟨c0,c1,c2,c3,c4,cf⟩:=hb.cB5 1 rfl;have hlb:=hb.lt 1 rfl;have hlx:=hb.lt 0 rfl;have hlk:=Vg (hb.drew.owns 4 rfl) false Tryz.underlying67 (Qjl _) (k:=id) (by omega) (by omega);rw [Dz] at hlk;simp only [Bool.false_eq_true,if_false] at hlk;have HB:=zk hb;clear h hb hp;by_cases hk:kind=6
 ·obtain ⟨ha0,ha1,hq0,hq1⟩:=hm hk;obtain ⟨a',rfl⟩:∃n:Nat,a=(n:Int):=⟨a.toNat,by omega⟩;have ha':a'<8:=by omega
  subst hk;clear hm;by_cases hs:mgi k.st id=0
  ·rw [hs] at hlk;have HSS:=zk hs;clear hs;rcases hbk:k.book with t|t
   ·simp only [hbk,QG.iv] at c3;have hmt:=Qel (.agg #[bb]);have hml:=KA (.agg #[bb]);have HBK:=zk hbk;have H3:=zk HB.1;simp only [hbk,SA.Yf,QG.iv] at H3;have HT:As (k.book.take id a' q=(decide ((t.reserve id a' q).1=0),.goods (t.reserve id a' q).2)):=⟨by rw [hbk];rfl⟩;have hfn:=HP.1.fine.take (id:=id) (i:=a') hq0 hq1;have HFN:=zk hfn;clear hbk hfn;cases hok:decide ((t.reserve id a' q).1=0)
    ·have HOK:=zk hok;clear hok;go_enter Tryz.func219,Tryz.ntmps219;go_wp2;refine Xh [(0,.f),(1,.s),(2,.f),(3,.f),(4,.f),(5,.f),(6,.f),(7,.s),(8,.f),(9,.s),(10,.s),(11,.f),(12,.f),(13,.f),(14,.f),(15,.f),(16,.f),(17,.s),(18,.f),(19,.s),(20,.f),(21,.s),(22,.f),(23,.s),(24,.e),(25,.f),(26,.f)] ?_;repeat (first
      |(refine vg rfl rfl ?_;apply ex2;intro w' hw';go_simp;rfl;go_simp)
      |(refine vgw rfl rfl ?_;apply ex2;intro w' hw';go_simp;rfl;go_simp)
      |(refine vgo rfl rfl ?_;go_simp)
      |(refine vs_ rfl (fun K hK=>?_);go_simp;refine hK _ ?_;clear hK K)
      |(refine vew rfl rfl ?_;go_wp2_with (go_at_call 308;refine (Qco (H3.1.drew.frt 3 rfl) id a' q h0 h1 ha' hq0 hq1).m2 fun w4 h4=>?_;rw [HOK.1];have H4:=zk h4;clear h4);refine ⟨trivial,?_⟩;go_simp))
     refine vn ?_;go_simp;go_wp2_with fail;go_ret;rw [HS.1,if_pos ⟨trivial,HSS.1⟩,show (((a':Nat):Int)).toNat=a' by omega];have HF2:=HFN.1;rw [HT.1,HOK.1] at HF2⊢;refine ⟨rfl,?_⟩;simp only [Bool.false_eq_true,if_false];have hp:=HP.1;refine Heap.XM (k:= {k with book:=.goods (t.reserve id a' q).2}) (g:=g) (cap:=cap) (bb:=bb) (bm:=bm) ⟨hp.node,hp.keys,hp.st,HF2⟩ ?_;have h9:=(H4.1.frt 1 rfl).drop;simp only [HBK.1];exact ((h9.frt 2 rfl).frt 2 rfl)
    ·have HOK:=zk hok;clear hok;go_enter Tryz.func219,Tryz.ntmps219;go_wp2;refine Xh [(0,.f),(1,.s),(2,.f),(3,.f),(4,.f),(5,.f),(6,.f),(7,.s),(8,.f),(9,.s),(10,.s),(11,.f),(12,.f),(13,.f),(14,.f),(15,.f),(16,.f),(17,.s),(18,.f),(19,.s),(20,.f),(21,.s),(22,.f),(23,.s),(24,.e),(25,.f),(26,.f)] ?_;repeat (first
      |(refine vg rfl rfl ?_;apply ex2;intro w' hw';go_simp;rfl;go_simp)
      |(refine vgw rfl rfl ?_;apply ex2;intro w' hw';go_simp;rfl;go_simp)
      |(refine vgo rfl rfl ?_;go_simp)
      |(refine vs_ rfl (fun K hK=>?_);go_simp;refine hK _ ?_;clear hK K)
      |(refine vew rfl rfl ?_;go_wp2_with (go_at_call 308;refine (Qco (H3.1.drew.frt 3 rfl) id a' q h0 h1 ha' hq0 hq1).m2 fun w4 h4=>?_;rw [HOK.1];have H4:=zk h4;clear h4);refine ⟨trivial,?_⟩;go_simp))
     refine vn ?_;go_simp;clear c0 c1 c2 c3 c4 cf x0 hlb hlx;have x0:=H4.1.cB7 1 rfl;obtain ⟨c0,c1,c2,c3,c4,cf⟩:=H4.1.cB5 2 rfl;have hlb:=H4.1.lt 2 rfl;go_wp2_with fail;refine Xh [(0,.f),(1,.f),(2,.f),(3,.s),(4,.f),(5,.s),(6,.e)] ?_;repeat (first
      |refine vR ?_
      |(refine ve rfl rfl ?_;go_wp2_with (go_at_call 307;refine (Qd8 (H4.1.drew) id h0 h1).m1 fun w5 H5=>?_);refine ⟨trivial,?_⟩;go_simp))
     refine vn ?_;go_simp;go_wp2_with fail;go_ret;rw [HS.1,if_pos ⟨trivial,HSS.1⟩,show (((a':Nat):Int)).toNat=a' by omega];have HF2:=QG.fine.lets HFN.1 (id:=id);rw [HT.1,HOK.1] at HF2⊢;refine ⟨rfl,?_⟩;simp only [if_true];have hp:=HP.1;refine Heap.XM (k:= {k with book:=QG.lets (.goods (t.reserve id a' q).2) id}) (g:=g) (cap:=cap) (bb:=bb) (bm:=bm) ⟨hp.node,hp.keys,hp.st,HF2⟩ ?_;have h9:=(H5.1.frt 1 rfl).drop;simp only [HBK.1];exact ((h9.frt 2 rfl).frt 2 rfl)
   ·simp only [hbk,QG.iv] at c3;have hmt:=Qcv (.agg #[bb]);have hml:=KO (.agg #[bb]);have HBK:=zk hbk;have H3:=zk HB.1;simp only [hbk,SA.Yf,QG.iv] at H3;have HFM:As t.fine:=⟨by have:=HP.1.fine;rw [hbk] at this;exact this⟩;have HT:As (k.book.take id a' q=(decide ((t.allow id a' q).1=0),.money (t.allow id a' q).2)):=⟨by rw [hbk];rfl⟩;have hfn:=HP.1.fine.take (id:=id) (i:=a') hq0 hq1;have HFN:=zk hfn;clear hbk hfn;cases hok:decide ((t.allow id a' q).1=0)
    ·have HOK:=zk hok;clear hok;go_enter Tryz.func219,Tryz.ntmps219;go_wp2;refine Xh [(0,.f),(1,.s),(2,.f),(3,.f),(4,.f),(5,.f),(6,.f),(7,.s),(8,.f),(9,.s),(10,.s),(11,.f),(12,.f),(13,.f),(14,.f),(15,.f),(16,.f),(17,.s),(18,.f),(19,.s),(20,.f),(21,.s),(22,.f),(23,.s),(24,.e),(25,.f),(26,.f)] ?_;repeat (first
      |(refine vg rfl rfl ?_;apply ex2;intro w' hw';go_simp;rfl;go_simp)
      |(refine vgw rfl rfl ?_;apply ex2;intro w' hw';go_simp;rfl;go_simp)
      |(refine vgo rfl rfl ?_;go_simp)
      |(refine vs_ rfl (fun K hK=>?_);go_simp;refine hK _ ?_;clear hK K)
      |(refine vew rfl rfl ?_;go_wp2_with (go_at_call 294;refine (Qdj (H3.1.drew.frt 3 rfl) HFM.1 id a' q h0 h1 ha' hq0 hq1).m2 fun w4 h4=>?_;rw [HOK.1];have H4:=zk h4;clear h4);refine ⟨trivial,?_⟩;go_simp))
     refine vn ?_;go_simp;go_wp2_with fail;go_ret;rw [HS.1,if_pos ⟨trivial,HSS.1⟩,show (((a':Nat):Int)).toNat=a' by omega];have HF2:=HFN.1;rw [HT.1,HOK.1] at HF2⊢;refine ⟨rfl,?_⟩;simp only [Bool.false_eq_true,if_false];have hp:=HP.1;refine Heap.XM (k:= {k with book:=.money (t.allow id a' q).2}) (g:=g) (cap:=cap) (bb:=bb) (bm:=bm) ⟨hp.node,hp.keys,hp.st,HF2⟩ ?_;have h9:=(H4.1.frt 1 rfl).drop;simp only [HBK.1];exact ((h9.frt 2 rfl).frt 2 rfl)
    ·have HOK:=zk hok;clear hok;go_enter Tryz.func219,Tryz.ntmps219;go_wp2;refine Xh [(0,.f),(1,.s),(2,.f),(3,.f),(4,.f),(5,.f),(6,.f),(7,.s),(8,.f),(9,.s),(10,.s),(11,.f),(12,.f),(13,.f),(14,.f),(15,.f),(16,.f),(17,.s),(18,.f),(19,.s),(20,.f),(21,.s),(22,.f),(23,.s),(24,.e),(25,.f),(26,.f)] ?_;repeat (first
      |(refine vg rfl rfl ?_;apply ex2;intro w' hw';go_simp;rfl;go_simp)
      |(refine vgw rfl rfl ?_;apply ex2;intro w' hw';go_simp;rfl;go_simp)
      |(refine vgo rfl rfl ?_;go_simp)
      |(refine vs_ rfl (fun K hK=>?_);go_simp;refine hK _ ?_;clear hK K)
      |(refine vew rfl rfl ?_;go_wp2_with (go_at_call 294;refine (Qdj (H3.1.drew.frt 3 rfl) HFM.1 id a' q h0 h1 ha' hq0 hq1).m2 fun w4 h4=>?_;rw [HOK.1];have H4:=zk h4;clear h4);refine ⟨trivial,?_⟩;go_simp))
     refine vn ?_;go_simp;clear c0 c1 c2 c3 c4 cf x0 hlb hlx;have x0:=H4.1.cB7 1 rfl;obtain ⟨c0,c1,c2,c3,c4,cf⟩:=H4.1.cB5 2 rfl;have hlb:=H4.1.lt 2 rfl;go_wp2_with fail;refine Xh [(0,.f),(1,.f),(2,.f),(3,.s),(4,.f),(5,.s),(6,.e)] ?_;repeat (first
      |refine vR ?_
      |(refine ve rfl rfl ?_;go_wp2_with (go_at_call 293;refine (Qcn (H4.1.drew) id h0 h1).m1 fun w5 H5=>?_);refine ⟨trivial,?_⟩;go_simp))
     refine vn ?_;go_simp;go_wp2_with fail;go_ret;rw [HS.1,if_pos ⟨trivial,HSS.1⟩,show (((a':Nat):Int)).toNat=a' by omega];have HF2:=QG.fine.lets HFN.1 (id:=id);rw [HT.1,HOK.1] at HF2⊢;refine ⟨rfl,?_⟩;simp only [if_true];have hp:=HP.1;refine Heap.XM (k:= {k with book:=QG.lets (.money (t.allow id a' q).2) id}) (g:=g) (cap:=cap) (bb:=bb) (bm:=bm) ⟨hp.node,hp.keys,hp.st,HF2⟩ ?_;have h9:=(H5.1.frt 1 rfl).drop;simp only [HBK.1];exact ((h9.frt 2 rfl).frt 2 rfl)
  ·have HSS:=zk hs;generalize hsg:mgi k.st id=s at *;have hsb:(s==0)=false:=by simpa using hs
   clear hs hsg;go_enter Tryz.func219,Tryz.ntmps219;go_wp2;refine Xh [(0,.f),(1,.s),(2,.f),(3,.f),(4,.f),(5,.f),(6,.f),(7,.s),(8,.f),(9,.s),(10,.s),(11,.f),(12,.f),(13,.f),(14,.f),(15,.f),(16,.f),(17,.s),(18,.f),(19,.s),(20,.f),(21,.s),(22,.f),(23,.s),(24,.e),(25,.f),(26,.f)] ?_;repeat (first
    |(refine vg rfl rfl ?_;apply ex2;intro w' hw';go_simp;rfl;go_simp)
    |(refine vgw rfl rfl ?_;apply ex2;intro w' hw';go_simp;rfl;go_simp)
    |(refine vgo rfl rfl ?_;go_simp)
    |(refine vs_ rfl (fun K hK=>?_);go_simp;refine hK _ ?_;clear hK K)
    |(refine veo rfl rfl ⟨trivial,?_⟩;go_simp))
   refine vn ?_;go_simp;go_wp2_with fail;go_ret;rw [HS.1,if_neg (fun hh=>HSS.1 hh.2)];exact ⟨rfl,HAL.1.drew⟩
 ·have hkb:(kind==6)=false:=by simpa using hk
  have HK:=zk hk;clear hk hm hlk;go_enter Tryz.func219,Tryz.ntmps219;go_wp2;refine Xh [(0,.f),(1,.s),(2,.f),(3,.f),(4,.f),(5,.f),(6,.f),(7,.s),(8,.f),(9,.s),(10,.s),(11,.f),(12,.f),(13,.f),(14,.f),(15,.f),(16,.f),(17,.s),(18,.f),(19,.s),(20,.f),(21,.s),(22,.f),(23,.s),(24,.e),(25,.f),(26,.f)] ?_;repeat (first
   |(refine vg rfl rfl ?_;apply ex2;intro w' hw';go_simp;rfl;go_simp)
   |(refine vgw rfl rfl ?_;apply ex2;intro w' hw';go_simp;rfl;go_simp)
   |(refine vgo rfl rfl ?_;go_simp)
   |(refine vs_ rfl (fun K hK=>?_);go_simp;refine hK _ ?_;clear hK K)
   |(refine veo rfl rfl ⟨trivial,?_⟩;go_simp))
  refine vn ?_;go_simp;go_wp2_with fail;go_ret;rw [HS.1,if_neg (fun hh=>HK.1 hh.1)];exact ⟨rfl,HAL.1.drew⟩
theorem Qjr {w0 w:World} {b:Nat} {k:Qd} {R:List SA} (h:Heap w0 (.keeper b k::R) w) (id:Int) (h0:1≤id) (h1:id≤999):
 Calls Tryz.prog 69 #[b,id] w fun e w'=>∃v',e=.returned v'∧Heap w0 (.slc v' 113 7 (k.ring id).length (Qk (k.ring id))::.keeper b k::R) w':=by
 have HH:=zk h;have HDN:=zk (XL h);obtain ⟨bj,hx⟩:=h.YA;have HST:=zk (Jn hx id (by omega) (by omega));have HOT:As (∀W L,Heap w0 (.keeper b k::L) W→CE 110 #[b] W (.int .i64 (3-k.node))):=⟨fun W L h=>by
  obtain ⟨bj,hx⟩:=h.YA;exact Qfq hx⟩
 obtain ⟨hp,g,cap,bb,bm,hx⟩:=hx.QV;have c0:=hx.cB5 0 rfl;have hlb:=hx.lt 0 rfl;have HR:As (k.ring id=if k.j.down=true then [] else if mgi k.st id=1 then [⟨12,k.node,0,id,0,0,0⟩,⟨12,k.node,3-k.node,id,0,0,0⟩] else []):=⟨rfl⟩;generalize k.ring id=rg at *;clear h hx hp;cases hd:k.j.down
 ·rw [hd] at HDN HR;clear hd;simp only [Bool.false_eq_true,if_false] at HR;generalize mgi k.st id=s at *;by_cases hs:s=1
  ·subst hs;simp only [if_true,↓reduceIte] at HR;have hA:=HH.1.new (.cells #[.int .i64 12,k.node,.int .i64 0,id,.int .i64 0,.int .i64 0,.int .i64 0] 113);have HA:=zk (Heap.nAt (n:=w.heap.size+1) hA (.cells #[.int .i64 12,k.node,.int .i64 0,id,.int .i64 0,.int .i64 0,.int .i64 0] 113) (by simp));clear hA;go_enter Tryz.func69,Tryz.ntmps69;go_wp2_with (first|(go_at_call 19;refine HDN.1.m0 ?_)|(go_at_call 17;refine HST.1.m0 ?_)|(go_at_call 110;refine (HOT.1 _ _ (HA.1.frt 2 rfl)).m0 ?_));go_ret;refine ⟨_,rfl,?_⟩;rw [HR.1];have h4:=Heap.nAt (n:=w.heap.size+1) (HH.1.new (.cells #[.int .i64 12,k.node,.int .i64 0,id,.int .i64 0,.int .i64 0,.int .i64 0] 113)) (.cells #[.int .i64 12,k.node,.int .i64 (3-k.node),id,.int .i64 0,.int .i64 0,.int .i64 0] 113) (by simp);have h5:=Heap.nAt (n:=w.heap.size+1+1) h4 (.cells #[.int .i64 12,k.node,.int .i64 0,id,.int .i64 0,.int .i64 0,.int .i64 0,.int .i64 12,k.node,.int .i64 (3-k.node),id,.int .i64 0,.int .i64 0,.int .i64 0] 113) (by simp);have h6:=Heap.XJ (k:=2) (size:=7) h5 (by decide) rfl;exact ((h6.frt 1 rfl).drop.frt 1 rfl).drop
  ·have hsb:(s != 1)=true:=by simpa using hs
   simp only [if_neg hs] at HR;clear hs;go_enter Tryz.func69,Tryz.ntmps69;go_wp2_with (first|(go_at_call 19;refine HDN.1.m0 ?_)|(go_at_call 17;refine HST.1.m0 ?_));go_ret;refine ⟨_,rfl,?_⟩;rw [HR.1];exact HH.1.nRw 113 7
 ·rw [hd] at HDN HR;clear hd;simp only [if_true] at HR;go_enter Tryz.func69,Tryz.ntmps69;go_wp2_with (go_at_call 19;refine HDN.1.m0 ?_);go_ret;refine ⟨_,rfl,?_⟩;rw [HR.1];exact HH.1.nRw 113 7
theorem Qim (v:Value) (W:World):(Instr.typeAssert (.iface 100 v) 89 100 true).run Tryz.prog W=.ok (.tuple #[v,.bool true]) W:=by kernel_rfl
theorem Qrv {w0 w:World} {b bj:Nat} {k:Qd} {R:List SA} (h:Heap w0 (.kpx b bj k::R) w) (t:Qn) (ht:k.book=.money t):
 Calls Tryz.prog 23 #[b] w fun e w'=>∃g cap bb bm,e=.returned (.pointer (some ⟨bb,0,none⟩))∧Heap w0 (.pts b (.cells #[k.node,.slice (some ⟨g,0,none⟩) 2 cap,bj,k.book.iv bb,.map (some bm)] 91)::.slc (.slice (some ⟨g,0,none⟩) 2 cap) 3 1 2 (YY k.node)::.Yf bb k.book::.map bm (Qx (Value.int .i64) k.st)::R) w':=by
 obtain ⟨hp,g,cap,bb,bm,h⟩:=h.QV;obtain ⟨c0,c1,c2,c3,c4,cf⟩:=h.cB5 0 rfl;have H:=zk h;rw [ht] at c3;simp only [QG.iv] at c3;have hta:=Qim (.agg #[bb]);clear h hp ht;go_enter Tryz.func23,Tryz.ntmps23;go_wp2;go_ret;exact ⟨g,cap,bb,bm,rfl,H.1.alloc _⟩
theorem UM (n:Int) (hn:n=1∨n=2) (w:World):CE 284 #[.int .i64 n] w (.tuple #[.int .i64 (n-1),.bool true]):=by
 rcases hn with rfl|rfl
 ·go_enter Tryz.func284,Tryz.ntmps284;go_wp2;exact bodyPost_ret (v:=.tuple #[.int .i64 0,.bool true]) (by simp [results,Tryz.results284,go_sem]) rfl ⟨rfl,rfl⟩
 ·go_enter Tryz.func284,Tryz.ntmps284;go_wp2;exact bodyPost_ret (v:=.tuple #[.int .i64 1,.bool true]) (by simp [results,Tryz.results284,go_sem]) rfl ⟨rfl,rfl⟩
theorem cey {w0 w:World} {R:List SA} (h:Heap w0 R w) (s:ByteArray) (id:Int) (a:Option Addr) (m c:Nat):
 CH 101 #[.string s,id,.slice a m c] w (.agg #[.string s,id,.slice a m c]) w0 R:=by
 have hb:=h.new (.cells #[.string s,id,.slice a m c] 171);obtain ⟨z0,z1,z2,zf⟩:=hb.cB3 0 rfl;have HZ:=zk (And.intro z0 (And.intro z1 z2));have HB:=zk hb.drop;clear h hb z0 z1 z2 zf;go_enter Tryz.func101,Tryz.ntmps101;go_wp2;obtain ⟨z0,z1,z2⟩:=HZ.1;exact bodyPost_ret (v:=.agg #[.string s,id,.slice a m c]) (by simp [results,Tryz.results101,go_sem,z0,z1,z2]) rfl ⟨rfl,HB.1⟩
def Kk (s id a q:Int):Entry:=if s=1 then ⟨.ready,id,[a,q]⟩ else if s=2 then ⟨.yes,id,[]⟩ else ⟨.no,id,[]⟩
def Qd.handle (k:Qd) (m:Msg):List Msg×Qd:=
 if k.j.down=true then ([],k) else
 let c:=k.can m.kind m.id m.a m.b
 let x:=Qr (mgi k.st m.id) m.kind c.1
 let p:=if x.1=mgi k.st m.id then (true,c.2) else c.2.notes (Kk x.1 m.id m.a m.b)
 (if p.1=false then [] else if x.2=0 then [] else [⟨x.2,k.node,if x.2=11∨x.2=17 then 0 else m.frm,m.id,0,0,0⟩],p.2)
theorem Qdc (k:Qd) (kind id a q:Int):(k.can kind id a q).2.node=k.node∧(k.can kind id a q).2.st=k.st∧(k.can kind id a q).2.j=k.j:=by
 unfold Qd.can;split<;>exact ⟨rfl,rfl,rfl⟩
theorem Qll (s kd:Int) (can:Bool) (h:St s):(Qr s kd can).1=s∨((Qr s kd can).1=1∧kd=6∧s=0)∨(Qr s kd can).1=2∨(Qr s kd can).1=3:=by
 unfold Qr TH Zg ZU TY;by_cases h6:kd=6;rw [if_pos h6];by_cases h0:s=0;rw [if_pos h0];cases can;exact .inr (.inr (.inr rfl));exact .inr (.inl ⟨rfl,h6,h0⟩);rw [if_neg h0];split;exact .inl rfl;split<;>exact .inl rfl
 rw [if_neg h6];split;split;exact .inr (.inr (.inl rfl));split;exact .inl rfl;split<;>exact .inl rfl
 split;split;exact .inr (.inr (.inr rfl));split;exact .inl rfl;split<;>exact .inl rfl
 split;split;exact .inr (.inr (.inr rfl));split<;>exact .inl rfl
 exact .inl rfl
theorem QB7 {P:Prop} (h:P:=by
 go_enter Tryz.func215,Tryz.ntmps215;go_wp2_with fail;go_quiet ((first|(refine (HDN.1 _ _ ((HH.1.alloc _).drewN _)).m0 ?_;exact ⟨rfl,_,rfl⟩)|(refine (HID.1 _).m0 ?_;exact ⟨rfl,_,rfl⟩)|(refine (HOT.1 _ _ ((HH.1.alloc _).drewN _)).m0 ?_;exact ⟨rfl,_,rfl⟩)));have h2:=(HB.1.frt 1 rfl).drewN nq;generalize (w.alloc (.cells #[kind,frm,k.node,id,step,.int .i64 a,.int .i64 q] 113)).drewN nq=W2 at h2⊢;obtain ⟨bj,h2⟩:=h2.YA;have HSTS:As (St (mgi k.st id)):=⟨by
  obtain ⟨hp, -⟩:=h2.QV;cases hm:Qc k.st id with
  |none=>simp [mgi,hm,St]
  |some s=>simp [mgi,hm];exact hp.st _ (Xe hm)⟩
 have HST:=zk (Jn h2 id (by omega) (by omega));have x0:=h2.cB7 2 rfl;have hlx:=h2.lt 2 rfl;have H2:=zk h2;clear h2 c0 hlb;go_wp2_with (go_at_call 17;refine HST.1.m0 ?_);refine wro (fun W=>W.cell? ⟨w.heap.size,0,none⟩=some (.int .i64 kind)) [(0,.f),(1,.f),(2,.f),(3,.f),(4,.s),(5,.e),(6,.e),(7,.f),(8,.f),(9,.f),(10,.f),(11,.f)] x0.1 ?_;repeat (first
  |refine vR ?_
  |(refine ve rfl rfl ?_;go_wp2_with (go_at_call 219;refine (QAt H2.1.drew kind frm k.node id step a q h0 h1 HMM.1).m1 fun w3 H3=>?_);refine ⟨H3.1.cell 2 0 rfl rfl,?_⟩;go_simp)
  |(refine ve rfl rfl ?_;go_wp2_with (go_at_call 218;refine (Qx4 _ _ _ _ HSTS.1).m0 ?_;simp only [VW]);refine ⟨H3.1.cell 2 0 rfl rfl,?_⟩;go_simp))
 refine vn ?_;go_simp;have HJ:=zk (Qdc k kind id a q);have HVC:=zk (Qll (mgi k.st id) kind (k.can kind id a q).1 HSTS.1);generalize Qr (mgi k.st id) kind (k.can kind id a q).1=p at *;obtain ⟨s',rk⟩:=p;generalize k.can kind id a q=p at *;obtain ⟨cn,k2⟩:=p;simp only at HJ HVC HRES H3⊢;have H4:As (Heap w0 (.keeper b k2::.pts w.heap.size (.cells #[kind,frm,k.node,id,step,.int .i64 a,.int .i64 q] 113)::R) w3):=⟨by
  have h:=H3.1;rw [←HJ.1.2.2] at h;exact h.Ko⟩
 have HC2:As (∀W L k',k'.node=k.node→Heap w0 (.keeper b k'::L) W→W.cell? ⟨b,0,none⟩=some (.int .i64 k.node)∧b<W.heap.size):=⟨fun W L k' e h=>by
  obtain ⟨bj,hx⟩:=h.YA;obtain ⟨hp,g,cap,bb,bm,hx⟩:=hx.QV;have:=hx.cell 0 0 rfl rfl;rw [e] at this;exact ⟨this,hx.lt 0 rfl⟩⟩
 clear x0 hlx;have x0:=H4.1.cB7 1 rfl;have hlx:=H4.1.lt 1 rfl;obtain ⟨c0,hlb⟩:=HC2.1 _ _ _ HJ.1.1 H4.1;by_cases hs:s'=mgi k.st id
 ·have hsb:(s' != mgi k.st id)=false:=by simpa using hs
  have HRV:As (res=(if rk=0 then [] else [⟨rk,k.node,if rk=11∨rk=17 then 0 else frm,id,0,0,0⟩],k2)):=⟨by rw [HRES.1,if_pos hs];simp⟩;clear hs;obtain ⟨k3,hk3⟩:∃k3,k3=k2:=⟨_,rfl⟩;rw [←hk3] at HRV H4;by_cases hk0:rk=0
  ·subst hk0;go_wp2_with fail;go_ret;refine ⟨_,rfl,?_⟩;rw [HRV.1];exact ((H4.1.frt 1 rfl).drop).nRw 113 7
  ·have hk0b:(rk==0)=false:=by simpa using hk0
   by_cases hk1:rk=11
   ·have hk1b:(rk==11)=true:=by simpa using hk1
    have HRQ:As (res=([⟨rk,k.node,0,id,0,0,0⟩],k3)):=⟨by rw [HRV.1,if_neg hk0,if_pos (.inl hk1)]⟩;subst hk1;go_wp2_with fail;have tg:=Tg.mk 1;exact Qhm
   ·have hk1b:(rk==11)=false:=by simpa using hk1
    by_cases hk2:rk=17
    ·have hk2b:(rk==17)=true:=by simpa using hk2
     have HRQ:As (res=([⟨rk,k.node,0,id,0,0,0⟩],k3)):=⟨by rw [HRV.1,if_neg hk0,if_pos (.inr hk2)]⟩;subst hk2;go_wp2_with fail;have tg:=Tg.mk 2;exact Qhm
    ·have hk2b:(rk==17)=false:=by simpa using hk2
     have HRQ:As (res=([⟨rk,k.node,frm,id,0,0,0⟩],k3)):=⟨by rw [HRV.1,if_neg hk0,if_neg (by simp [hk1,hk2])]⟩;go_wp2_with fail;have tg:=Tg.mk 3;exact Qhm
 rcases HVC.1 with hq|⟨hs1,hk6, -⟩|hs1|hs1;exact absurd hq hs;have tg:=Tg.mk 1;exact Qzd;have tg:=Tg.mk 2;exact Qzd;have tg:=Tg.mk 3;exact Qzd):P:=h
theorem Qu9 {P:Prop} (h:P:=by
 obtain ⟨ok,k3⟩:=p;simp only at HRV HN HNN;clear HV hK;cases ok;simp only [if_true] at HRV;exact QCu;simp only [Bool.true_eq_false,if_false] at HRV;by_cases hk0:rk=0;subst hk0;exact QCu;have hk0b:(rk==0)=false:=by simpa using hk0
 by_cases hk1:rk=11;have hk1b:(rk==11)=true:=by simpa using hk1
 have HRQ:As (res=([⟨rk,k.node,0,id,0,0,0⟩],k3)):=⟨by rw [HRV.1,if_neg hk0,if_pos (.inl hk1)]⟩;subst hk1;have tg:=Tg.mk 1;exact Qql;have hk1b:(rk==11)=false:=by simpa using hk1
 by_cases hk2:rk=17;have hk2b:(rk==17)=true:=by simpa using hk2
 have HRQ:As (res=([⟨rk,k.node,0,id,0,0,0⟩],k3)):=⟨by rw [HRV.1,if_neg hk0,if_pos (.inr hk2)]⟩;subst hk2;have tg:=Tg.mk 2;exact Qql;have hk2b:(rk==17)=false:=by simpa using hk2
 have HRQ:As (res=([⟨rk,k.node,frm,id,0,0,0⟩],k3)):=⟨by rw [HRV.1,if_neg hk0,if_neg (by simp [hk1,hk2])]⟩;have tg:=Tg.mk 3;exact Qql):P:=h
theorem QC0 {P:Prop} (h:P:=by
 go_enter Tryz.func215,Tryz.ntmps215;go_wp2_with fail;go_quiet ((first|(refine (HDN.1 _ _ ((HH.1.alloc _).drewN _)).m0 ?_;exact ⟨rfl,_,rfl⟩)|(refine (HID.1 _).m0 ?_;exact ⟨rfl,_,rfl⟩)|(refine (HOT.1 _ _ ((HH.1.alloc _).drewN _)).m0 ?_;exact ⟨rfl,_,rfl⟩)));go_wp2_with fail;go_ret;refine ⟨_,rfl,?_⟩;rw [HRES.1];exact ((HH.1.alloc _).drewN nq).nRw 113 7):P:=h
theorem QCu {P:Prop} (h:P:=by
 have tg:=Tg.mk 4;exact Qql):P:=h
theorem Qhm {P:Prop} (h:P:=by
 refine Xh [(0,.f),(1,.f),(2,.f),(3,.f),(4,.s),(5,.f),(6,.f),(7,.s),(8,.f),(9,.e),(10,.f)] ?_;repeat (first
  |refine vR ?_
  |(refine ve rfl rfl ?_;go_wp2_with fail;refine ⟨trivial,?_⟩;go_simp))
 refine vn ?_;go_simp;go_wp2_with fail;go_ret;refine ⟨_,rfl,?_⟩;rw [HRQ.1];first
  |(have ty:Tg 1:=tg;have h6:=Heap.XJ (k:=1) (size:=7) ((H4.1.drew).new (.cells #[.int .i64 11,k.node,.int .i64 0,id,.int .i64 0,.int .i64 0,.int .i64 0] 113)) (by decide) rfl;exact (h6.frt 2 rfl).drop)
  |(have ty:Tg 2:=tg;have h6:=Heap.XJ (k:=1) (size:=7) ((H4.1.drew).new (.cells #[.int .i64 17,k.node,.int .i64 0,id,.int .i64 0,.int .i64 0,.int .i64 0] 113)) (by decide) rfl;exact (h6.frt 2 rfl).drop)
  |(have ty:Tg 3:=tg;have h6:=Heap.XJ (k:=1) (size:=7) ((H4.1.drew).new (.cells #[.int .i64 rk,k.node,frm,id,.int .i64 0,.int .i64 0,.int .i64 0] 113)) (by decide) rfl;exact (h6.frt 2 rfl).drop)
  |(have ty:Tg 4:=tg;have h6:=Heap.XJ (k:=1) (size:=7) ((H5.1.drew).new (.cells #[.int .i64 11,k.node,.int .i64 0,id,.int .i64 0,.int .i64 0,.int .i64 0] 113)) (by decide) rfl;exact (h6.frt 2 rfl).drop)
  |(have ty:Tg 5:=tg;have h6:=Heap.XJ (k:=1) (size:=7) ((H5.1.drew).new (.cells #[.int .i64 17,k.node,.int .i64 0,id,.int .i64 0,.int .i64 0,.int .i64 0] 113)) (by decide) rfl;exact (h6.frt 2 rfl).drop)
  |(have ty:Tg 6:=tg;have h6:=Heap.XJ (k:=1) (size:=7) ((H5.1.drew).new (.cells #[.int .i64 rk,k.node,frm,id,.int .i64 0,.int .i64 0,.int .i64 0] 113)) (by decide) rfl;exact (h6.frt 2 rfl).drop)):P:=h
theorem Qql {P:Prop} (h:P:=by
 go_wp2_with (go_at_call 106;refine (HN.1 _ _ (HNH.1 _ H4.1)).m2 fun w5 h5=>?_;clear x0 c0 hlb hlx;have x0:=h5.cB7 2 rfl;have hlx:=h5.lt 2 rfl;obtain ⟨c0,hlb⟩:=HC2.1 _ _ _ (HNN.1.trans HJ.1.1) h5;have H5:=zk (h5.frt 1 rfl).drop;clear h5);first
  |(have ty:Tg 1:=tg;have tg:=Tg.mk 4;exact Qhm)
  |(have ty:Tg 2:=tg;have tg:=Tg.mk 5;exact Qhm)
  |(have ty:Tg 3:=tg;have tg:=Tg.mk 6;exact Qhm)
  |(have ty:Tg 4:=tg;go_ret;refine ⟨_,rfl,?_⟩;rw [HRV.1];exact ((H5.1.frt 1 rfl).drop).nRw 113 7)):P:=h
theorem Qzd {P:Prop} (h:P:=by
 have hsb:(s' != mgi k.st id)=true:=by simpa using hs
 have HRV:As (res=(if (k2.notes (Kk s' id a q)).1=false then [] else if rk=0 then [] else [⟨rk,k.node,if rk=11∨rk=17 then 0 else frm,id,0,0,0⟩],(k2.notes (Kk s' id a q)).2)):=⟨by rw [HRES.1,if_neg hs]⟩;clear hs;first
  |(have ty:Tg 1:=tg;have hK:=zk (KpE.ready id a.toNat q h0 h1 (by have:=HMM.1 hk6;omega) (by have:=HMM.1 hk6;omega) (by have:=HMM.1 hk6;omega));rw [Int.toNat_of_nonneg (HMM.1 hk6).1] at hK;subst hs1;have HV:As (Kk 1 id a q=⟨.ready,id,[a,q]⟩):=⟨rfl⟩;rw [HV.1] at HRV;have HN:=zk (fun W v (h:Heap w0 (.keeper b k2::.slc v 3 1 2 [.int .i64 a,.int .i64 q]::.pts w.heap.size (.cells #[kind,frm,k.node,id,step,.int .i64 a,.int .i64 q] 113)::R) W)=>VY (e:=⟨.ready,id,[a,q]⟩) h hK.1 HD2.1);have HNH:=zk (fun W (h:Heap w0 (.keeper b k2::.pts w.heap.size (.cells #[kind,frm,k.node,id,step,.int .i64 a,.int .i64 q] 113)::R) W)=>(Heap.XJ (k:=2) (size:=1) (h.new (.cells #[.int .i64 a,.int .i64 q] 3)) (by decide) rfl).frt 1 rfl);have HNN:=zk (TG k2 (⟨.ready,id,[a,q]⟩:Entry));simp only [FP] at HN;generalize k2.notes ⟨.ready,id,[a,q]⟩=p at *;exact Qu9)
  |(have ty:Tg 2:=tg;have hK:=zk (KpE.yes id h0 h1);subst hs1;have HV:As (Kk 2 id a q=⟨.yes,id,[]⟩):=⟨rfl⟩;rw [HV.1] at HRV;have HN:=zk (fun W v (h:Heap w0 (.keeper b k2::.slc v 3 1 0 []::.pts w.heap.size (.cells #[kind,frm,k.node,id,step,.int .i64 a,.int .i64 q] 113)::R) W)=>VY (e:=⟨.yes,id,[]⟩) h hK.1 HD2.1);have HNH:=zk (fun W (h:Heap w0 (.keeper b k2::.pts w.heap.size (.cells #[kind,frm,k.node,id,step,.int .i64 a,.int .i64 q] 113)::R) W)=>(h.nRw 3 1).frt 1 rfl);have HNN:=zk (TG k2 (⟨.yes,id,[]⟩:Entry));simp only [FP] at HN;generalize k2.notes ⟨.yes,id,[]⟩=p at *;exact Qu9)
  |(have ty:Tg 3:=tg;have hK:=zk (KpE.no id h0 h1);subst hs1;have HV:As (Kk 3 id a q=⟨.no,id,[]⟩):=⟨rfl⟩;rw [HV.1] at HRV;have HN:=zk (fun W v (h:Heap w0 (.keeper b k2::.slc v 3 1 0 []::.pts w.heap.size (.cells #[kind,frm,k.node,id,step,.int .i64 a,.int .i64 q] 113)::R) W)=>VY (e:=⟨.no,id,[]⟩) h hK.1 HD2.1);have HNH:=zk (fun W (h:Heap w0 (.keeper b k2::.pts w.heap.size (.cells #[kind,frm,k.node,id,step,.int .i64 a,.int .i64 q] 113)::R) W)=>(h.nRw 3 1).frt 1 rfl);have HNN:=zk (TG k2 (⟨.no,id,[]⟩:Entry));simp only [FP] at HN;generalize k2.notes ⟨.no,id,[]⟩=p at *;exact Qu9)):P:=h
theorem TG (k:Qd) (e:Entry):(k.notes e).2.node=k.node:=by
 unfold Qd.notes;split;rfl;rw [Qkz]
theorem Qb8 {w0 w:World} {b:Nat} {k:Qd} {R:List SA} (h:Heap w0 (.keeper b k::R) w) (kind frm id step a q:Int) (hfr:frm=0∨frm=3-k.node) (h0:1≤id) (h1:id≤999) (hm:kind=6→0≤a∧a<8∧0<q∧q≤1000000000):
 Calls Tryz.prog 215 #[b,Msg.val ⟨kind,frm,k.node,id,step,a,q⟩] w fun en w'=>∃v',en=.returned v'∧Heap w0 (.slc v' 113 7 (k.handle ⟨kind,frm,k.node,id,step,a,q⟩).1.length (Qk (k.handle ⟨kind,frm,k.node,id,step,a,q⟩).1)::.keeper b (k.handle ⟨kind,frm,k.node,id,step,a,q⟩).2::R) w':=by
 have HH:=zk h;have hb:=h.new (.cells #[kind,frm,k.node,id,step,.int .i64 a,.int .i64 q] 113);have HB:=zk hb;have HDN:As (∀W L,Heap w0 (.keeper b k::L) W→CE 19 #[b] W (.bool k.j.down)):=⟨fun W L h=>XL h⟩;have HOT:As (∀W L,Heap w0 (.keeper b k::L) W→CE 110 #[b] W (.int .i64 (3-k.node))):=⟨fun W L h=>by
  obtain ⟨bj,hx⟩:=h.YA;exact Qfq hx⟩
 have HID:=zk (Qxc id h0 h1);have HCELL:As (∀W L,Heap w0 (.keeper b k::L) W→W.cell? ⟨b,0,none⟩=some (.int .i64 k.node)∧b<W.heap.size):=⟨fun W L h=>by
  obtain ⟨bj,hx⟩:=h.YA;obtain ⟨hp,g,cap,bb,bm,hx⟩:=hx.QV;exact ⟨hx.cell 0 0 rfl rfl,hx.lt 0 rfl⟩⟩
 obtain ⟨c0,hlb⟩:=HCELL.1 _ _ h;have HMM:=zk hm;obtain ⟨bj,hx⟩:=h.YA;have hnode:=hx.QV.1.node;have hfd:(frm != 0)=false∨((frm != 0)=true∧(frm != 3-k.node)=false):=by
  rcases hfr with rfl|rfl;exact .inl rfl;refine .inr ⟨by rcases hnode with e|e<;>rw [e]<;>rfl,by simp⟩
 clear h hb hm hx;unfold Msg.val;cases hd:k.j.down;have HD2:As ((k.can kind id a q).2.j.down=false):=⟨by rw [(Qdc k kind id a q).2.2];exact hd⟩;rw [hd] at HDN;have HRES:As (k.handle ⟨kind,frm,k.node,id,step,a,q⟩=((if (if (Qr (mgi k.st id) kind (k.can kind id a q).1).1=mgi k.st id then (true,(k.can kind id a q).2) else (k.can kind id a q).2.notes (Kk (Qr (mgi k.st id) kind (k.can kind id a q).1).1 id a q)).1=false then [] else if (Qr (mgi k.st id) kind (k.can kind id a q).1).2=0 then [] else [⟨(Qr (mgi k.st id) kind (k.can kind id a q).1).2,k.node,if (Qr (mgi k.st id) kind (k.can kind id a q).1).2=11∨(Qr (mgi k.st id) kind (k.can kind id a q).1).2=17 then 0 else frm,id,0,0,0⟩]),(if (Qr (mgi k.st id) kind (k.can kind id a q).1).1=mgi k.st id then (true,(k.can kind id a q).2) else (k.can kind id a q).2.notes (Kk (Qr (mgi k.st id) kind (k.can kind id a q).1).1 id a q)).2)):=⟨by unfold Qd.handle;rw [if_neg (by simp [hd])]⟩;generalize k.handle ⟨kind,frm,k.node,id,step,a,q⟩=res at *;rcases hfd with hf1|⟨hf1,hf2⟩;exact QB7;exact QB7;rw [hd] at HDN;have HRES:As (k.handle ⟨kind,frm,k.node,id,step,a,q⟩=([],k)):=⟨by unfold Qd.handle;rw [if_pos hd]⟩;generalize k.handle ⟨kind,frm,k.node,id,step,a,q⟩=res at *;rcases hfd with hf1|⟨hf1,hf2⟩;exact QC0;exact QC0
end Go.Proofs.YtlnghlamnehfjaaGreatDoor.S
