/- Part Q23. -/
import Derived.Test.YtlnghlamnehfjaaGreatDoorQ19
import Derived.Test.YtlnghlamnehfjaaGreatDoorQ22
set_option linter.unusedVariables false
set_option linter.unusedSimpArgs false
set_option maxRecDepth 100000
set_option maxHeartbeats 64000000
namespace Go
section
variable {P:Program} {ops:Array Oper} {C:World→Prop} {Q:Act→World→Prop} {r:List (Nat×Mk)} {a:Act} {w:World} {i:Nat} {o:Oper}
theorem vgw (ho:ops[i]? =some o) (hw:Region.wanted o (yielded ops a.tmps)=true) (h:∃v,(∀w',C w'→(execOp a.eval o).run P w'=.ok (.value v) w')∧XU P ops C Q r (a.put o.dst v) w):XU P ops C Q ((i,.f)::r) a w:=
 let ⟨v,h1,h2⟩:=h
 ⟨o,v,ho,fun w' hw'=>.inl ⟨hw,.inl (h1 w' hw')⟩,h2⟩
theorem vew (ho:ops[i]? =some o) (hw:Region.wanted o (yielded ops a.tmps)=true) (h:wpList P ops (Qe2 C (XU P ops C Q r)) [o] a w):XU P ops C Q ((i,.e)::r) a w:=by
 show XV P ops C i _ a w
 unfold XV wpOp;simp only [ho,hw,if_true];left;simp only [wpList,hw,if_true] at h;rcases h with h|⟨_,_,_,h⟩;exact JP h;exact h.elim
end
end Go
namespace Go.Proofs.YtlnghlamnehfjaaGreatDoor.S
open Go.RowKit Go.Maps
structure Qh where
 j:Jrn
 l:List Pc
def SA.Xk (b:Nat) (s:Qh):SA:=.ex fun p:Nat×Nat=>.all [.pts b (.cells #[p.1,p.2] 152),.jrn p.1 s.j,.XA p.2 s.l]
def SA.shx (b bj:Nat) (s:Qh):SA:=.ex fun p:Nat=>.all [.pts b (.cells #[bj,p] 152),.XA p s.l]
section
variable {w0 w:World} {b bj bp:Nat} {s:Qh} {R:List SA}
theorem Heap.Yv (h:Heap w0 (.Xk b s::R) w):∃bj bp,Heap w0 (.pts b (.cells #[.pointer (some ⟨bj,0,none⟩),.pointer (some ⟨bp,0,none⟩)] 152)::.jrn bj s.j::.XA bp s.l::R) w:=by
 obtain ⟨⟨bj,bp⟩,h⟩:=h.YL;exact ⟨bj,bp,Heap.spread h⟩
theorem Heap.Yw (h:Heap w0 (.pts b (.cells #[bj,bp] 152)::.jrn bj s.j::.XA bp s.l::R) w):Heap w0 (.Xk b s::R) w:=
 Heap.Yr (f:=fun p:Nat×Nat=>.all [.pts b (.cells #[p.1,p.2] 152),.jrn p.1 s.j,.XA p.2 s.l]) (bj,bp) (Heap.gather (l:= [_,_,_]) h)
theorem Heap.Qji (h:Heap w0 (.shx b bj s::R) w):∃bp,Heap w0 (.pts b (.cells #[bj,.pointer (some ⟨bp,0,none⟩)] 152)::.XA bp s.l::R) w:=by
 obtain ⟨bp,h⟩:=h.YL;exact ⟨bp,Heap.spread h⟩
theorem Heap.Du (h:Heap w0 (.pts b (.cells #[bj,bp] 152)::.XA bp s.l::R) w):Heap w0 (.shx b bj s::R) w:=
 Heap.Yr (f:=fun p:Nat=>.all [.pts b (.cells #[bj,p] 152),.XA p s.l]) bp (Heap.gather (l:= [_,_]) h)
theorem Heap.shx_of (h:Heap w0 (.Xk b s::R) w):∃bj,Heap w0 (.shx b bj s::.jrn bj s.j::R) w:=by
 obtain ⟨bj,bp,h⟩:=h.Yv;exact ⟨bj,Heap.Du (((h.frt 1 rfl).frt 2 rfl).frt 2 rfl)⟩
theorem Heap.Qvf (h:Heap w0 (.shx b bj s::.jrn bj s.j::R) w):Heap w0 (.Xk b s::R) w:=by
 obtain ⟨bp,h⟩:=h.Qji;exact Heap.Yw ((h.frt 2 rfl).frt 1 rfl)
end
theorem Qcg {w0 w:World} {R:List SA} (h:Heap w0 R w) (room:Int) (hr0:1≤room) (hr1:room≤4096):
 Calls Tryz.prog 40 #[room] w fun e w'=>∃b,e=.returned (.pointer (some ⟨b,0,none⟩))∧Heap w0 (.Xk b ⟨⟨room,[],0,false⟩,[]⟩::R) w':=by
 have HJ:=zk (Qbq h room hr0 hr1);clear h;go_enter Tryz.func40,Tryz.ntmps40;go_wp2_with (first|(go_at_call 73;refine HJ.1.mono ?_;rintro e w1 ⟨bj,rfl,h2⟩;have H1:=zk h2;clear h2)|(go_at_call 74;refine (TN H1.1).mono ?_;rintro e w2 ⟨bp,rfl,h3⟩;have H3:=zk h3;clear h3));go_ret;exact ⟨_,rfl,Heap.Yw (bj:=bj) (bp:=bp) (((H3.1.new _).frt 2 rfl).frt 1 rfl)⟩
theorem Ue {w0 w:World} {b:Nat} {s:Qh} {R:List SA} (h:Heap w0 (.Xk b s::R) w):
 CE 259 #[b] w (.bool s.j.down):=by
 obtain ⟨bj,bp,h⟩:=h.Yv;have c0:=h.cB2 0 rfl;have HD:=zk (Fa (h.frt 1 rfl));clear h;go_enter Tryz.func259,Tryz.ntmps259;go_wp2_with (go_at_call 37;refine HD.1.m0 ?_);go_ret;exact ⟨rfl,rfl⟩
theorem Qln {w0 w:World} {b:Nat} {s:Qh} {R:List SA} (h:Heap w0 (.Xk b s::R) w):
 Calls Tryz.prog 83 #[b] w fun e w'=>∃bj bp,e=.returned (.pointer (some ⟨bp,0,none⟩))∧w=w'∧Heap w0 (.pts b (.cells #[.pointer (some ⟨bj,0,none⟩),bp] 152)::.jrn bj s.j::.XA bp s.l::R) w:=by
 obtain ⟨bj,bp,h⟩:=h.Yv;have c0:=h.cB2 0 rfl;have H:=zk h;clear h;go_enter Tryz.func83,Tryz.ntmps83;go_wp2;go_ret;exact ⟨bj,bp,rfl,rfl,H.1⟩
def Qh.Qj (s:Qh) (stay:Int):Qh:=if s.j.down=true then s else ⟨s.j.Qj stay,[]⟩
theorem Qrl {w0 w:World} {b:Nat} {s:Qh} {R:List SA} (h:Heap w0 (.Xk b s::R) w) (stay QQ:Int):
 CH 258 #[b,stay,QQ] w (.tuple #[]) w0 (.Xk b (s.Qj stay)::R):=by
 have HH:=zk h;have HD:=zk (Ue h);obtain ⟨bj,bp,h⟩:=h.Yv;have c0:=h.cB2 0 rfl;have hlb:=h.lt 0 rfl;have HO:=zk h;have HS:As (s.Qj stay=if s.j.down=true then s else ⟨s.j.Qj stay,[]⟩):=⟨rfl⟩;cases hd:s.j.down
 ·have HC:=zk (JN (h.frt 1 rfl) hd stay QQ);rw [hd] at HD HS;clear h hd;go_enter Tryz.func258,Tryz.ntmps258;go_wp2_with (first|(go_at_call 259;refine HD.1.m0 ?_)|(go_at_call 217;refine HC.1.mono ?_;rintro e w1 ⟨⟨cv,rfl⟩,h1⟩;have H1:=zk h1;clear h1)|(go_at_call 74;refine (TN H1.1).mono ?_;rintro e w2 ⟨bn,rfl,h2⟩;clear c0 hlb;have c0:=h2.cB2 2 rfl;have hlb:=h2.lt 2 rfl;have H2:=zk h2;clear h2));go_end0;rw [HS.1];have h3:=H2.1.sAt 2 1 (.pointer (some ⟨bn,0,none⟩)) rfl;refine ⟨rfl,Heap.Yw (bj:=bj) (bp:=bn) ?_⟩;exact (((h3.frt 3 rfl).drop.frt 1 rfl).frt 2 rfl)
 ·rw [hd] at HD HS;clear h hd;go_enter Tryz.func258,Tryz.ntmps258;go_wp2_with (go_at_call 259;refine HD.1.m0 ?_);refine bodyPost_ret (results_none rfl _ _ _) rfl ⟨rfl,?_⟩;rw [HS.1];exact HH.1
def Qh.Qg (s:Qh) (e:Entry):Qh:=
 match e.kd,e.n with
 |.sent,[a,q]=> {s with l:=(Yc s.l e.id a.toNat q).2}
 |_,_=>s
theorem Qi2 {w:World} {T:TypeId} {v x y:Value} (hr:w.ownsRow 0 T 1 v 2 [x,y]):∃g cap,v=.slice (some ⟨g,0,none⟩) 2 cap∧w.cell? ⟨g,0,none⟩=some x∧w.cell? ⟨g,1,none⟩=some y:=by
 rcases hr.2 with ⟨h,h'⟩|⟨g,cap,cur,h,_⟩;cases h';refine ⟨g,cap,h,?_,?_⟩;exact hr.cells (g:=g) (by rw [h];rfl) 0 x rfl;have:=hr.cells (g:=g) (by rw [h];rfl) 1 y rfl
 rwa [show (⟨g,0,none⟩:Addr).add 1=⟨g,1,none⟩ by unfold Addr.add;split<;>simp_all] at this
theorem Qcq {w0 w:World} {b bj:Nat} {s:Qh} {R:List SA} (h:Heap w0 (.shx b bj s::R) w) (id:Int) (h0:1≤id) (h1:id≤999) (a:Nat) (ha:a<8) (q:Int) (v:Value) (hr:w.ownsRow 0 3 1 v 2 [.int .i64 (a:Int),.int .i64 q]) (hl:s.l.length<5000):
 CH 263 #[b,.agg #[.string Kd.sent.str,id,v]] w (.tuple #[]) w0 (.shx b bj (s.Qg ⟨.sent,id,[(a:Int),q]⟩)::R):=by
 obtain ⟨bp,h⟩:=h.Qji;obtain ⟨g,cap,rfl,g0,g1⟩:=Qi2 hr;have hgb:g<w.heap.size:=World.block_lt_of_cell? w _ g0;have HO:=Heap.nAt (n:=w.heap.size) h (.cells #[.string Kd.sent.str,id,.slice (some ⟨g,0,none⟩) 2 cap] 171) rfl;have n1:(Kd.sent.str.toList== [115,101,110,116])=true:=by kernel_rfl
 have HL:=zk hl;obtain ⟨W1,hW1⟩:∃W1,w.alloc (.cells #[.string Kd.sent.str,id,.slice (some ⟨g,0,none⟩) 2 cap] 171)=W1:=⟨_,rfl⟩;have g0:W1.cell? ⟨g,0,none⟩=some (.int .i64 (a:Int)):=by rw [←hW1];exact (Below.cell ((Below.refl _ w).alloc (Nat.le_refl _) _) (p:=⟨g,0,none⟩) hgb).trans g0
 have g1:W1.cell? ⟨g,1,none⟩=some (.int .i64 q):=by rw [←hW1];exact (Below.cell ((Below.refl _ w).alloc (Nat.le_refl _) _) (p:=⟨g,1,none⟩) hgb).trans g1
 have hgb:g<W1.heap.size:=by rw [←hW1];simp;omega
 rw [hW1] at HO;have c0:=HO.cB2 1 rfl;have x0:=HO.cB3 0 rfl;have hlb:=HO.lt 1 rfl;have HX:=zk HO;clear h hr hl HO;go_enter Tryz.func263,Tryz.ntmps263;go_wp2;refine Xh [(0,.f),(1,.f),(2,.f),(3,.s),(4,.f),(5,.s),(6,.f),(7,.s),(8,.f),(9,.s),(10,.f),(11,.s),(12,.f),(13,.s),(14,.e)] ?_;repeat (first
  |refine vR ?_
  |(refine ve rfl rfl ?_;go_wp2_with (go_at_call 264;refine (Qag (HX.1.drew.frt 2 rfl) id a q h0 h1 ha HL.1).m1 fun w2 H2=>?_);refine ⟨trivial,?_⟩;go_simp))
 refine vn ?_;go_simp;go_wp2_with fail;go_end0;refine ⟨rfl,Heap.Du (bp:=bp) ?_⟩;have h9:=(H2.1.frt 1 rfl).drop;have e:(s.Qg ⟨.sent,id,[(a:Int),q]⟩).l=(Yc s.l id a q).2:=by simp [Qh.Qg]
 rw [e];exact h9.frt 1 rfl
theorem QBi {P:Prop} (h:P:=by
 clear hr;go_enter Tryz.func262,Tryz.ntmps262;go_wp2;refine Xh [(0,.f),(1,.f),(2,.f),(3,.s),(4,.f),(5,.s),(6,.e),(7,.f),(8,.f),(9,.f),(10,.f),(11,.f),(12,.f),(13,.f)] ?_;repeat (first
  |refine vR ?_
  |(refine ve rfl rfl ?_;go_wp2_with (go_at_call 84;refine (Qdl (HB.1.drew.frt 3 rfl) id).mono ?_;rintro e w2 ⟨⟨y0,y1,rfl⟩,h2⟩;rw [HPH.1];have H2:=zk h2;clear h2);refine ⟨trivial,?_⟩;go_simp))
 refine vn ?_;go_simp;clear c0 x0 hlb hlx;have c0:=H2.1.cB2 2 rfl;have x0:=H2.1.cB7 1 rfl;have hlb:=H2.1.lt 2 rfl;have hlx:=H2.1.lt 1 rfl;go_wp2_with fail;have hn:=Heap.nAt (n:=w2.heap.size+1) (Heap.XJ (k:=2) (size:=1) (H2.1.new (.cells #[.int .i64 (a:Int),.int .i64 q] 3)) (by decide) rfl) (.cells #[.string ⟨#[115,101,110,116]⟩,id,.slice (some ⟨w2.heap.size,0,none⟩) 2 2] 171) (by simp);obtain ⟨W3,hW3⟩:∃W3,(w2.alloc (.cells #[.int .i64 (a:Int),.int .i64 q] 3)).alloc (.cells #[.string ⟨#[115,101,110,116]⟩,id,.slice (some ⟨w2.heap.size,0,none⟩) 2 2] 171)=W3:=⟨_,rfl⟩;rw [hW3] at hn;have H5:=zk hn;clear hn;go_wp2_with fail;try rw [hW3]
 refine wro (fun W=>W.cell? ⟨w.heap.size,3,none⟩=some (.int .i64 id)∧W.cell? ⟨w.heap.size,5,none⟩=some (.int .i64 (a:Int))∧W.cell? ⟨w.heap.size,6,none⟩=some (.int .i64 q)) [(1,.f),(2,.f),(3,.f),(4,.f),(5,.f),(6,.f),(0,.e),(7,.e),(8,.f),(9,.f),(10,.f),(11,.f),(12,.f),(13,.s),(14,.s),(15,.e),(16,.f),(17,.f)] ⟨H5.1.cell 3 3 rfl rfl,H5.1.cell 3 5 rfl rfl,H5.1.cell 3 6 rfl rfl⟩ ?_;repeat (first
  |(refine vg rfl rfl ?_;apply ex2;intro w' hw';obtain ⟨q3,q5,q6⟩:=hw';go_simp;rfl;go_simp)
  |(refine vgw rfl rfl ?_;apply ex2;intro w' hw';obtain ⟨q3,q5,q6⟩:=hw';go_simp;rfl;go_simp)
  |(refine vs_ rfl (fun K hK=>?_);go_simp;refine hK _ ?_;clear hK K)
  |(refine ve rfl rfl ?_;go_wp2_with (go_at_call 74;refine (TN H5.1.drew).mono ?_;rintro e w3 ⟨bn,rfl,h3⟩;have H3:=zk h3;clear h3);refine ⟨⟨H3.1.cell 4 3 rfl rfl,H3.1.cell 4 5 rfl rfl,H3.1.cell 4 6 rfl rfl⟩,?_⟩;go_simp)
  |(refine ve rfl rfl ?_;go_wp2_with (go_at_call 264;refine (Qag H3.1 id a q h0 h1 ha (by simp)).m2 fun w4 h4=>?_;rw [HP0.1];have H4:=zk h4.drop;clear h4);refine ⟨⟨H4.1.cell 3 3 rfl rfl,H4.1.cell 3 5 rfl rfl,H4.1.cell 3 6 rfl rfl⟩,?_⟩;clear c0 x0 hlb hlx;have c0:=H4.1.cB2 4 rfl;have z0:=H4.1.cB3 0 rfl;have hlb:=H4.1.lt 4 rfl;have hlz:=H4.1.lt 0 rfl;go_simp)
  |(refine vew rfl rfl ?_;go_wp2_with (go_at_call 137;refine (Qbr (H4.1.frt 5 rfl) HD.1 ⟨.sent,id,[(a:Int),q]⟩ HEO.1 _ (H4.1.row 1 rfl)).m2 fun w5 h5=>?_;rw [HA1.1];have H6:=zk h5;clear h5);refine ⟨⟨H6.1.cell 4 3 rfl rfl,H6.1.cell 4 5 rfl rfl,H6.1.cell 4 6 rfl rfl⟩,?_⟩;go_simp))
 refine vn ?_;go_simp;first
  |(have ty:Tg 1:=tg;go_wp2_with fail;go_ret;have h9:=H6.1;rw [HA2.1] at h9;rw [HS.1];simp only [Bool.false_eq_true,if_false,if_pos HR.1];refine ⟨rfl,Heap.Yw (bj:=bj) (bp:=bp) ?_⟩;exact (((((h9.frt 1 rfl).drop.frt 1 rfl).drop).frt 2 rfl).drop).frt 2 rfl)
  |(have ty:Tg 2:=tg;clear c0 z0 hlb hlz;have c0:=H6.1.cB2 5 rfl;have z0:=H6.1.cB3 1 rfl;go_wp2_with (first|(go_at_call 133;refine (Fb H6.1 HA2.1).m2 fun w6 h6=>?_;clear c0 z0;have c0:=h6.cB2 5 rfl;have z0:=h6.cB3 1 rfl;have H7:=zk (Heap.Du (s:=({s with j:=(s.j.add ⟨.sent,id,[(a:Int),q]⟩).2.sync}:Qh)) (bp:=bp) (((h6.frt 5 rfl).frt 4 rfl).frt 1 rfl));clear h6)|(go_at_call 263;refine (Qcq H7.1 id h0 h1 a ha q _ (H7.1.row 3 rfl) HLL.1).m1 fun w7 H8=>?_));go_ret;rw [HS.1];simp only [Bool.false_eq_true,if_false,if_neg (Int.not_le.2 HR.1)];refine ⟨rfl,Heap.Qvf (bj:=bj) ?_⟩;rw [Qk3];exact (((H8.1.frt 2 rfl).drop.frt 2 rfl).drop.frt 2 rfl).drop)):P:=h
def Qh.Kc (s:Qh) (id a q:Int):Bool×Qh:=
 if VU s.l id=true then (true,s) else if s.j.room≤(s.j.es.length:Int) then (false,s) else (true,({s with j:=(s.j.add ⟨.sent,id,[a,q]⟩).2.sync}:Qh).Qg ⟨.sent,id,[a,q]⟩)
theorem Qk3 (s:Qh) (e:Entry):(s.Qg e).j=s.j:=by unfold Qh.Qg;split<;>rfl
theorem Qrj {w0 w:World} {b:Nat} {s:Qh} {R:List SA} (h:Heap w0 (.Xk b s::R) w) (hd:s.j.down=false) (hl:s.l.length<5000) (kind frm tt id step:Int) (a:Nat) (q:Int)
 (h0:1≤id) (h1:id≤999) (ha:a<8) (hq0:0<q) (hq1:q≤1000000000):
 CH 262 #[b,.agg #[kind,frm,.int .i64 tt,id,step,.int .i64 (a:Int),.int .i64 q]] w (.bool (s.Kc id a q).1) w0 (.Xk b (s.Kc id a q).2::R):=by
 have HH:=zk h;obtain ⟨bj,bp,h⟩:=h.Yv;have hb:=h.new (.cells #[kind,frm,.int .i64 tt,id,step,.int .i64 (a:Int),.int .i64 q] 113);have HS:As (s.Kc id a q=if VU s.l id=true then (true,s) else if s.j.room≤(s.j.es.length:Int) then (false,s) else (true,({s with j:=(s.j.add ⟨.sent,id,[(a:Int),q]⟩).2.sync}:Qh).Qg ⟨.sent,id,[(a:Int),q]⟩)):=⟨rfl⟩;have HP0:As ((Yc [] id a q).1=0):=⟨by
  have:(decide (q=0)|| !may q)=false:=by simp [may];omega
  simp [Yc,this,VU,ZQ]⟩
 have HD:=zk hd;have HLL:=zk hl;have HEO:As (Entry.ok ⟨.sent,id,[(a:Int),q]⟩):=⟨⟨by simp only;omega,h1,by simp,by simp [QU];omega⟩⟩;obtain ⟨W1,hW1⟩:∃W1,w.alloc (.cells #[kind,frm,.int .i64 tt,id,step,.int .i64 (a:Int),.int .i64 q] 113)=W1:=⟨_,rfl⟩;rw [hW1] at hb;have c0:=hb.cB2 1 rfl;have x0:=hb.cB7 0 rfl;have hlb:=hb.lt 1 rfl;have hlx:=hb.lt 0 rfl;have HB:=zk hb;clear h hb hd hl;cases hph:VU s.l id;rw [hph] at HS;have HPH:=zk hph;clear hph;by_cases hr:s.j.room≤(s.j.es.length:Int);have HR:=zk hr;have HA1:As ((s.j.add ⟨.sent,id,[(a:Int),q]⟩).1=5):=⟨by simp [Jrn.add,hr]⟩;have HA2:As ((s.j.add ⟨.sent,id,[(a:Int),q]⟩).2=s.j):=⟨by simp [Jrn.add,hr]⟩;have tg:=Tg.mk 1;exact QBi;have HR:=zk hr;have HA1:As ((s.j.add ⟨.sent,id,[(a:Int),q]⟩).1=0):=⟨by simp [Jrn.add,hr]⟩;have HA2:As ((s.j.add ⟨.sent,id,[(a:Int),q]⟩).2.down=false):=⟨by simp [Jrn.add,hr];exact HD.1⟩;have tg:=Tg.mk 2;exact QBi
 ·rw [hph] at HS;have HPH:=zk hph;clear hph;go_enter Tryz.func262,Tryz.ntmps262;go_wp2;refine Xh [(0,.f),(1,.f),(2,.f),(3,.s),(4,.f),(5,.s),(6,.e),(7,.f),(8,.f),(9,.f),(10,.f),(11,.f),(12,.f),(13,.f)] ?_;repeat (first
   |refine vR ?_
   |(refine ve rfl rfl ?_;go_wp2_with (go_at_call 84;refine (Qdl (HB.1.drew.frt 3 rfl) id).mono ?_;rintro e w2 ⟨⟨y0,y1,rfl⟩,h2⟩;rw [HPH.1];have H2:=zk h2;clear h2);refine ⟨trivial,?_⟩;go_simp))
  refine vn ?_;go_simp;clear c0 x0 hlb hlx;have c0:=H2.1.cB2 2 rfl;have x0:=H2.1.cB7 1 rfl;have hlb:=H2.1.lt 2 rfl;have hlx:=H2.1.lt 1 rfl;go_wp2_with fail;refine wro (fun W=>W.cell? ⟨w.heap.size,3,none⟩=some (.int .i64 id)∧W.cell? ⟨w.heap.size,5,none⟩=some (.int .i64 (a:Int))∧W.cell? ⟨w.heap.size,6,none⟩=some (.int .i64 q)) [(1,.f),(2,.f),(3,.f),(4,.f),(5,.f),(6,.f),(0,.e),(7,.e),(8,.f),(9,.f)] ⟨H2.1.cell 1 3 rfl rfl,H2.1.cell 1 5 rfl rfl,H2.1.cell 1 6 rfl rfl⟩ ?_;repeat (first
   |(refine vg rfl rfl ?_;apply ex2;intro w' hw';obtain ⟨q3,q5,q6⟩:=hw';go_simp;rfl;go_simp)
   |(refine ve rfl rfl ?_;go_wp2_with (go_at_call 74;refine (TN H2.1.drew).mono ?_;rintro e w3 ⟨bn,rfl,h3⟩;have H3:=zk h3;clear h3);refine ⟨⟨H3.1.cell 2 3 rfl rfl,H3.1.cell 2 5 rfl rfl,H3.1.cell 2 6 rfl rfl⟩,?_⟩;go_simp)
   |(refine ve rfl rfl ?_;go_wp2_with (go_at_call 264;refine (Qag H3.1 id a q h0 h1 ha (by simp)).m2 fun w4 h4=>?_;rw [HP0.1];have H4:=zk h4.drop;clear h4);refine ⟨⟨H4.1.cell 1 3 rfl rfl,H4.1.cell 1 5 rfl rfl,H4.1.cell 1 6 rfl rfl⟩,?_⟩;go_simp))
  refine vn ?_;go_simp;go_wp2_with fail;go_ret;rw [HS.1];refine ⟨rfl,Heap.Yw (bj:=bj) (bp:=bp) ?_⟩;exact (((H4.1.frt 1 rfl).drop).frt 2 rfl).frt 2 rfl
end Go.Proofs.YtlnghlamnehfjaaGreatDoor.S
namespace Go.Proofs.YtlnghlamnehfjaaGreatDoor.S
open Go.RowKit Go.Maps
attribute [local go_sem] Oper.semAt_some
def Qh.handle (s:Qh) (m:Msg):List Msg×Qh:=
 if s.j.down=true then ([],s) else ((if (s.Kc m.id m.a m.b).1=true then [⟨16,3,0,m.id,0,0,0⟩] else []),(s.Kc m.id m.a m.b).2)
theorem Qo8 {w0 w:World} {b:Nat} {s:Qh} {R:List SA} (h:Heap w0 (.Xk b s::R) w) (hl:s.l.length<5000) (id step:Int) (a:Nat) (q:Int)
 (h0:1≤id) (h1:id≤999) (ha:a<8) (hq0:0<q) (hq1:q≤1000000000):
 Calls Tryz.prog 260 #[b,Msg.val ⟨15,0,3,id,step,(a:Int),q⟩] w fun en w'=>∃v',en=.returned v'∧Heap w0 (.slc v' 113 7 (s.handle ⟨15,0,3,id,step,(a:Int),q⟩).1.length (Qk (s.handle ⟨15,0,3,id,step,(a:Int),q⟩).1)::.Xk b (s.handle ⟨15,0,3,id,step,(a:Int),q⟩).2::R) w':=by
 have HH:=zk h;have HDN:=zk (Ue (h.alloc (.cells #[.int .i64 15,.int .i64 0,.int .i64 3,id,step,.int .i64 (a:Int),.int .i64 q] 113)));have hb:=h.new (.cells #[.int .i64 15,.int .i64 0,.int .i64 3,id,step,.int .i64 (a:Int),.int .i64 q] 113);have HB:=zk hb;unfold Msg.val;simp only [Qh.handle];cases hd:s.j.down
 ·have HSH:=zk (Qrj (hb.frt 1 rfl) hd hl 15 0 3 id step a q h0 h1 ha hq0 hq1);rw [hd] at HDN;clear h hd hb hl;simp only [Bool.false_eq_true,if_false];generalize s.Kc id a q=p at *;obtain ⟨ok,ns⟩:=p;cases ok
  ·simp only [Bool.false_eq_true,if_false];go_enter Tryz.func260,Tryz.ntmps260;go_wp2_with (first|(go_at_call 259;refine HDN.1.m0 ?_)|(go_at_call 262;refine HSH.1.m1 fun w2 H2=>?_));go_ret;exact ⟨_,rfl,((H2.1.frt 1 rfl).drop).nRw 113 7⟩
  ·simp only [if_true];go_enter Tryz.func260,Tryz.ntmps260;go_wp2_with (first|(go_at_call 259;refine HDN.1.m0 ?_)|(go_at_call 262;refine HSH.1.m2 fun w2 h2=>?_;have x0:=h2.cB7 1 rfl;have H2:=zk h2;clear h2));go_ret;refine ⟨_,rfl,?_⟩;have h6:=Heap.XJ (k:=1) (size:=7) (H2.1.new (.cells #[.int .i64 16,.int .i64 3,.int .i64 0,id,.int .i64 0,.int .i64 0,.int .i64 0] 113)) (by decide) rfl;exact (h6.frt 2 rfl).drop
 ·rw [hd] at HDN;clear h hd hb hl;simp only [if_true];go_enter Tryz.func260,Tryz.ntmps260;go_wp2_with (go_at_call 259;refine HDN.1.m0 ?_);go_ret;exact ⟨_,rfl,(HH.1.alloc _).nRw 113 7⟩
def ShE (e:Entry):Prop:=∃(id:Int) (a:Nat) (q:Int),e=⟨.sent,id,[(a:Int),q]⟩∧1≤id∧id≤999∧a<8
def Qh.Qi (s:Qh) (es:List Entry):Qh:=es.foldl Qh.Qg s
def Qh.start (s:Qh):Qh:=if s.j.down=true then (⟨s.j.recover,[]⟩:Qh).Qi s.j.es else s
theorem Qta (s:Qh) (es:List Entry):(s.Qi es).j=s.j:=by
 induction es generalizing s with
 |nil=>rfl
 |cons e r ih=>exact (ih (s.Qg e)).trans (Qk3 s e)
theorem Qh4 (s:Qh) (es:List Entry) {k:Nat} {e:Entry} (h:es[k]? =some e):s.Qi (es.take (k+1))=(s.Qi (es.take k)).Qg e:=by
 obtain ⟨hk,rfl⟩:=List.getElem?_eq_some_iff.1 h;unfold Qh.Qi;rw [List.take_succ_eq_append_getElem hk,List.foldl_append];rfl
theorem Qtq (l:List Pc) (id:Int) (a:Nat) (q:Int):(Yc l id a q).2.length≤l.length+1:=by
 unfold Yc;split;simp;split<;>simp
theorem Qn4 (s:Qh) (e:Entry):(s.Qg e).l.length≤s.l.length+1:=by
 unfold Qh.Qg;split;exact Qtq _ _ _ _;simp
theorem Qjs (s:Qh) (es:List Entry):(s.Qi es).l.length≤s.l.length+es.length:=by
 induction es generalizing s with
 |nil=>simp [Qh.Qi]
 |cons e r ih=>
  have h1:=ih (s.Qg e);have h2:=Qn4 s e;simp only [Qh.Qi,List.foldl_cons,List.length_cons] at *;omega
theorem Qtd {w0 w:World} {b:Nat} {s:Qh} {R:List SA} (h:Heap w0 (.Xk b s::R) w) (hes:∀e∈s.j.es,ShE e):
 CH 261 #[b] w (.tuple #[]) w0 (.Xk b s.start::R):=by
 have HH:=zk h;have HB:=zk (h.new (.cells #[b] 63));have HDN:=zk (Ue (HB.1.frt 1 rfl));have HS:As (s.start=if s.j.down=true then (⟨s.j.recover,[]⟩:Qh).Qi s.j.es else s):=⟨rfl⟩;have HES:=zk hes;clear hes;obtain ⟨bj,bp,h3⟩:=(HB.1.frt 1 rfl).Yv;have c0:=h3.cB2 0 rfl;have hlb:=h3.lt 0 rfl;have HLE:As (s.j.es.length≤4096):=⟨by
  have hp:=(h3.frt 1 rfl).Yp.1;have:=hp.len;have:=hp.r1;omega⟩
 clear h;cases hd:s.j.down
 ·rw [hd] at HS HDN;clear hd;refine cmk Tryz.func261 rfl ?_;simp only [Tryz.ntmps261,List.size_toArray,List.length_cons,List.length_nil,Nat.reduceAdd,Nat.reduceSub,Array.replicate_succ,Array.replicate_zero,List.push_toArray,List.append_toArray,List.nil_append,List.cons_append];go_wp2_with (go_at_call 259;refine HDN.1.m0 ?_);refine ⟨_,results_none rfl _ _ _,rfl,?_⟩;rw [HS.1];exact HH.1.alloc _
 ·have HREC:As (∀W L,Heap w0 (.jrn bj s.j::L) W→Calls Tryz.prog 220 #[bj] W fun e w'=>∃n,e=.returned (.int .i64 n)∧Heap w0 (.jrn bj s.j.recover::L) w'):=⟨fun W L h=>VI h hd⟩;rw [hd] at HS HDN;clear hd;refine cmk Tryz.func261 rfl ?_;simp only [Tryz.ntmps261,List.size_toArray,List.length_cons,List.length_nil,Nat.reduceAdd,Nat.reduceSub,Array.replicate_succ,Array.replicate_zero,List.push_toArray,List.append_toArray,List.nil_append,List.cons_append];have H3:=zk h3;clear h3;go_wp2_with (first|(go_at_call 259;refine HDN.1.m0 ?_)|(go_at_call 220;refine (HREC.1 _ _ (H3.1.frt 1 rfl)).mono ?_;rintro e w1 ⟨nr,rfl,h1⟩;clear c0 hlb;have c0:=h1.cB2 1 rfl;obtain ⟨x0,xf⟩:=h1.cB1 3 rfl;have hlb:=h1.lt 1 rfl;have H4:=zk h1;clear h1));refine wro (fun W=>W.cell? ⟨w.heap.size,0,none⟩=some (.pointer (some ⟨b,0,none⟩))) [(0,.f),(1,.e),(2,.f),(3,.f),(4,.e)] x0 ?_;repeat (first
   |(refine vg rfl rfl ?_;apply ex2;intro w' hw';go_simp;rfl;go_simp)
   |(refine ve rfl rfl ?_;go_wp2_with (go_at_call 74;refine (TN H4.1.drew).mono ?_;rintro e w2 ⟨bn,rfl,h2⟩;have H5:=zk h2;clear h2);refine ⟨H5.1.cell 4 0 rfl rfl,?_⟩;clear c0 hlb x0 xf;have c0:=H5.1.cB2 2 rfl;have hlb:=H5.1.lt 2 rfl;go_simp)
   |(refine ve rfl rfl ?_;go_wp2_with fail;have H6:=zk (H5.1.sAt 2 1 (.pointer (some ⟨bn,0,none⟩)) rfl);refine ⟨H6.1.cell 4 0 rfl rfl,?_⟩;go_simp))
  refine vn ?_;go_simp;have H7:=zk H6.1;generalize w2.setCell ⟨b,1,none⟩ (.pointer (some ⟨bn,0,none⟩))=W2 at H7⊢;clear c0 hlb;have c0:=H7.1.cB2 2 rfl;obtain ⟨x0,xf⟩:=H7.1.cB1 4 rfl;have hlb:=H7.1.lt 2 rfl;go_wp2_with (go_at_call 221;refine (Qdy H7.1 bj).mono ?_;rintro e w3 ⟨bx,rfl,h3⟩;have H8:=zk h3;clear h3);clear c0 hlb x0 xf;obtain ⟨s1,hs1⟩:∃s1:Qh,s1=⟨s.j.recover,[]⟩:=⟨_,rfl⟩;have hje:s1.j.es=s.j.es:=by rw [hs1];rfl
  have hjr:s1.j=s.j.recover:=by rw [hs1]
  have hl0:s1.l.length=0:=by rw [hs1];rfl
  rw [←hs1] at HS;rw [←hjr] at H8;refine UL rfl (enters_of Tryz.func227 (by kernel_rfl) rfl) rfl _ _ R s1.j.es _ (Uh w0 bx bj s1.j) (fun k=>.all [.pts w.heap.size (.cells #[b] 63),.shx b bj (s1.Qi (s1.j.es.take k))]) ?h0 2 (Qui (fun k=>.all [.pts w.heap.size (.cells #[b] 63),.shx b bj (s1.Qi (s1.j.es.take k))])) ?assign ?body ?done
  case h0=>
   have h9:=((H8.1.frt 4 rfl).drop.frt 3 rfl).frt 2 rfl |>.frt 1 rfl;have hl1:s1.l= []:=by rw [hs1]
   have hx:Heap w0 (.shx b bj s1::_) w3:=Heap.Du (s:=s1) (bj:=bj) (bp:=bn) (by rw [hl1];exact h9);exact Heap.gather (l:= [_,_]) (hx.frt 3 rfl)
  case assign=>
   intro l k x v X W K hk h hK;obtain ⟨u,rfl,h2⟩:=Jg h;have hK2:=hK _ _ (Je (h2.new (.cells #[.string x.kd.str,x.id,u] 171)));have hsh:=h2.shp 0 rfl;clear hK h h2;rcases hsh with ⟨rfl, -, -⟩|⟨g,cap,rfl, -, -, -⟩;all_goals
    simp [Fy,QK] at hK2;simp only [QK]
    gi_wp2
    exact hK2
  case body=>
   intro l k x v p X W hk h;obtain ⟨u,rfl,h2⟩:=JO h;have h3:=Heap.spread (l:= [_,_]) (h2.frt 2 rfl);obtain ⟨id,a,q,rfl,h0,h1,ha⟩:=HES.1 x (by rw [←hje];exact List.mem_of_getElem? hk);have HSU:=zk (Qh4 s1 s1.j.es hk);have HLK:As ((s1.Qi (s1.j.es.take k)).l.length<5000):=⟨by
    have:=Qjs s1 (s1.j.es.take k);have:=HLE.1;rw [List.length_take,hje] at *;omega⟩
   obtain ⟨x0,xf⟩:=h3.cB1 0 rfl;have e0:=h3.cB3 2 rfl;have H7:=zk ((h3.frt 3 rfl).frt 2 rfl);clear h h2 h3 hk;generalize s1.Qi (s1.j.es.take k)=sk at *;simp only [Fy,QK]
   gi_wp2_with (refine ⟨trivial,(CallsIn.inRound l (callsIn_wide.2 (Qcq H7.1 id h0 h1 a ha q _ (H7.1.row 1 rfl) HLK.1))).mono ?_⟩;rintro en w4 ⟨rfl,h4⟩;have H8:=zk h4;clear h4)
   show Heap w0 _ _
   rw [HSU.1];exact Heap.gather (l:= [_,_]) ((((H8.1.frt 1 rfl).drop.frt 2 rfl).drop).frt 1 rfl)
  case done=>
   intro D W h;have h2:=Heap.spread (l:= [_,_]) h;have HZ:=h2.putAt 2 rfl (.deferred none);have HT:=zk (h2.at 2 rfl);have HY:=zk ((((HZ.drop.frt 1 rfl).drop).frt 1 rfl).drop);clear h h2 HZ;go_wp2;refine ⟨by simp,.inl ⟨_,_,rfl,run_takeDeferred HT.1,?_⟩⟩;refine ⟨_,results_none rfl _ _ _,rfl,?_⟩;rw [HS.1];simp only [if_true];have h9:=HY.1;rw [List.take_length,hje] at h9;refine Heap.Qvf (bj:=bj) ?_;rw [Qta];exact h9
end Go.Proofs.YtlnghlamnehfjaaGreatDoor.S
