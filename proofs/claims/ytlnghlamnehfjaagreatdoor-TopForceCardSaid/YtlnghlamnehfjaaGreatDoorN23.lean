/- Contracts and plain laws of the program, part N23. -/
import Derived.Test.YtlnghlamnehfjaaGreatDoorN19
import Derived.Test.YtlnghlamnehfjaaGreatDoorN22
set_option linter.unusedVariables false
set_option linter.unusedSimpArgs false
set_option maxRecDepth 100000
set_option maxHeartbeats 64000000
namespace Go
section
variable {P:Program} {ops:Array Oper} {C:World→Prop} {Q:Act→World→Prop} {r:List (Nat×Mk)} {a:Act} {w:World} {i:Nat} {o:Oper}
theorem vgw (ho:ops[i]? =some o) (hw:Region.wanted o (yielded ops a.tmps)=true) (h:∃v,(∀w',C w'→(execOp a.eval o).run P w'=.ok (.value v) w')∧wpOrd P ops C Q r (a.put o.dst v) w):wpOrd P ops C Q ((i,.f)::r) a w:=
 let ⟨v,h1,h2⟩:=h
 ⟨o,v,ho,fun w' hw'=>.inl ⟨hw,.inl (h1 w' hw')⟩,h2⟩
theorem vew (ho:ops[i]? =some o) (hw:Region.wanted o (yielded ops a.tmps)=true) (h:wpList P ops (ordX C (wpOrd P ops C Q r)) [o] a w):wpOrd P ops C Q ((i,.e)::r) a w:=by
 show effOp P ops C i _ a w
 unfold effOp wpOp;simp only [ho,hw,if_true];left;simp only [wpList,hw,if_true] at h;rcases h with h|⟨_,_,_,h⟩
 ·exact upon_ordX h
 ·exact h.elim
end
end Go
namespace Go.Proofs.YtlnghlamnehfjaaGreatDoor.S
open Go.RowKit Go.Maps
structure Shipper where
 j:Jrn
 l:List Pc
def SA.shipper (b:Nat) (s:Shipper):SA:=.ex fun p:Nat×Nat=>.all [.pts b (.cells #[.pointer (some ⟨p.1,0,none⟩),.pointer (some ⟨p.2,0,none⟩)] 152),.jrn p.1 s.j,.parcels p.2 s.l]
def SA.shx (b bj:Nat) (s:Shipper):SA:=.ex fun p:Nat=>.all [.pts b (.cells #[.pointer (some ⟨bj,0,none⟩),.pointer (some ⟨p,0,none⟩)] 152),.parcels p s.l]
section
variable {w0 w:World} {b bj bp:Nat} {s:Shipper} {R:List SA}
theorem Heap.open_shipper (h:Heap w0 (.shipper b s::R) w):∃bj bp,Heap w0 (.pts b (.cells #[.pointer (some ⟨bj,0,none⟩),.pointer (some ⟨bp,0,none⟩)] 152)::.jrn bj s.j::.parcels bp s.l::R) w:=by
 obtain ⟨⟨bj,bp⟩,h⟩:=h.unex;exact ⟨bj,bp,Heap.spread h⟩
theorem Heap.shut_shipper (h:Heap w0 (.pts b (.cells #[.pointer (some ⟨bj,0,none⟩),.pointer (some ⟨bp,0,none⟩)] 152)::.jrn bj s.j::.parcels bp s.l::R) w):Heap w0 (.shipper b s::R) w:=
 Heap.reex (f:=fun p:Nat×Nat=>.all [.pts b (.cells #[.pointer (some ⟨p.1,0,none⟩),.pointer (some ⟨p.2,0,none⟩)] 152),.jrn p.1 s.j,.parcels p.2 s.l]) (bj,bp) (Heap.gather (l:= [_,_,_]) h)
theorem Heap.open_shx (h:Heap w0 (.shx b bj s::R) w):∃bp,Heap w0 (.pts b (.cells #[.pointer (some ⟨bj,0,none⟩),.pointer (some ⟨bp,0,none⟩)] 152)::.parcels bp s.l::R) w:=by
 obtain ⟨bp,h⟩:=h.unex;exact ⟨bp,Heap.spread h⟩
theorem Heap.shut_shx (h:Heap w0 (.pts b (.cells #[.pointer (some ⟨bj,0,none⟩),.pointer (some ⟨bp,0,none⟩)] 152)::.parcels bp s.l::R) w):Heap w0 (.shx b bj s::R) w:=
 Heap.reex (f:=fun p:Nat=>.all [.pts b (.cells #[.pointer (some ⟨bj,0,none⟩),.pointer (some ⟨p,0,none⟩)] 152),.parcels p s.l]) bp (Heap.gather (l:= [_,_]) h)
theorem Heap.shx_of (h:Heap w0 (.shipper b s::R) w):∃bj,Heap w0 (.shx b bj s::.jrn bj s.j::R) w:=by
 obtain ⟨bj,bp,h⟩:=h.open_shipper;exact ⟨bj,Heap.shut_shx (((h.frt 1 rfl).frt 2 rfl).frt 2 rfl)⟩
theorem Heap.shx_to (h:Heap w0 (.shx b bj s::.jrn bj s.j::R) w):Heap w0 (.shipper b s::R) w:=by
 obtain ⟨bp,h⟩:=h.open_shx;exact Heap.shut_shipper ((h.frt 2 rfl).frt 1 rfl)
end
theorem hnew2_ok {w0 w:World} {R:List SA} (h:Heap w0 R w) (room:Int) (hr0:1≤room) (hr1:room≤4096):
 Calls Tryz.prog 40 #[.int .i64 room] w fun e w'=>∃b,e=.returned (.pointer (some ⟨b,0,none⟩))∧Heap w0 (.shipper b ⟨⟨room,[],0,false⟩,[]⟩::R) w':=by
 have HJ:=zk (jnew_ok h room hr0 hr1);clear h;go_enter Tryz.func40,Tryz.ntmps40;go_wp2_with (first|(go_at_call 73;refine HJ.out.mono ?_;rintro e w1 ⟨bj,rfl,h2⟩;have H1:=zk h2;clear h2)|(go_at_call 74;refine (pcnew_ok H1.out).mono ?_;rintro e w2 ⟨bp,rfl,h3⟩;have H3:=zk h3;clear h3));go_ret;exact ⟨_,rfl,Heap.shut_shipper (bj:=bj) (bp:=bp) (((H3.out.new _).frt 2 rfl).frt 1 rfl)⟩
theorem hdown_ok {w0 w:World} {b:Nat} {s:Shipper} {R:List SA} (h:Heap w0 (.shipper b s::R) w):
 Calls Tryz.prog 259 #[.pointer (some ⟨b,0,none⟩)] w fun e w'=>e=.returned (.bool s.j.down)∧w=w':=by
 obtain ⟨bj,bp,h⟩:=h.open_shipper;obtain ⟨c0,c1,cf⟩:=h.cB2 0 rfl;have HD:=zk (jdown_ok (h.frt 1 rfl));clear h;go_enter Tryz.func259,Tryz.ntmps259;go_wp2_with (go_at_call 37;refine HD.out.mono ?_;rintro e w' ⟨rfl,rfl⟩);go_ret;exact ⟨rfl,rfl⟩
theorem hparcels_ok {w0 w:World} {b:Nat} {s:Shipper} {R:List SA} (h:Heap w0 (.shipper b s::R) w):
 Calls Tryz.prog 83 #[.pointer (some ⟨b,0,none⟩)] w fun e w'=>∃bj bp,e=.returned (.pointer (some ⟨bp,0,none⟩))∧w=w'∧Heap w0 (.pts b (.cells #[.pointer (some ⟨bj,0,none⟩),.pointer (some ⟨bp,0,none⟩)] 152)::.jrn bj s.j::.parcels bp s.l::R) w:=by
 obtain ⟨bj,bp,h⟩:=h.open_shipper;obtain ⟨c0,c1,cf⟩:=h.cB2 0 rfl;have H:=zk h;clear h;go_enter Tryz.func83,Tryz.ntmps83;go_wp2;go_ret;exact ⟨bj,bp,rfl,rfl,H.out⟩
def Shipper.crash (s:Shipper) (stay:Int):Shipper:=if s.j.down=true then s else ⟨s.j.crash stay,[]⟩
theorem hcrash_ok {w0 w:World} {b:Nat} {s:Shipper} {R:List SA} (h:Heap w0 (.shipper b s::R) w) (stay torn:Int):
 Calls Tryz.prog 258 #[.pointer (some ⟨b,0,none⟩),.int .i64 stay,.int .i64 torn] w fun en w'=>en=.returned (.tuple #[])∧Heap w0 (.shipper b (s.crash stay)::R) w':=by
 have HH:=zk h;have HD:=zk (hdown_ok h);obtain ⟨bj,bp,h⟩:=h.open_shipper;obtain ⟨c0,c1,cf⟩:=h.cB2 0 rfl;have hlb:=h.lt 0 rfl;have HO:=zk h;have HS:As (s.crash stay=if s.j.down=true then s else ⟨s.j.crash stay,[]⟩):=⟨rfl⟩;cases hd:s.j.down
 ·have HC:=zk (jcrash_ok (h.frt 1 rfl) hd stay torn);rw [hd] at HD HS;clear h hd;go_enter Tryz.func258,Tryz.ntmps258;go_wp2_with (first|(go_at_call 259;refine HD.out.mono ?_;rintro e w' ⟨rfl,rfl⟩)|(go_at_call 217;refine HC.out.mono ?_;rintro e w1 ⟨⟨cv,rfl⟩,h1⟩;have H1:=zk h1;clear h1)|(go_at_call 74;refine (pcnew_ok H1.out).mono ?_;rintro e w2 ⟨bn,rfl,h2⟩;clear c0 c1 cf hlb;obtain ⟨c0,c1,cf⟩:=h2.cB2 2 rfl;have hlb:=h2.lt 2 rfl;have H2:=zk h2;clear h2));go_end0;rw [HS.out];have h3:=H2.out.sAt 2 1 (.pointer (some ⟨bn,0,none⟩)) rfl;refine ⟨rfl,Heap.shut_shipper (bj:=bj) (bp:=bn) ?_⟩;exact (((h3.frt 3 rfl).drop.frt 1 rfl).frt 2 rfl)
 ·rw [hd] at HD HS;clear h hd;go_enter Tryz.func258,Tryz.ntmps258;go_wp2_with (go_at_call 259;refine HD.out.mono ?_;rintro e w' ⟨rfl,rfl⟩);refine bodyPost_ret (results_none rfl _ _ _) rfl ⟨rfl,?_⟩;rw [HS.out];exact HH.out
def Shipper.plays (s:Shipper) (e:Entry):Shipper:=
 match e.kd,e.n with
 |.sent,[a,q]=> {s with l:=(pship s.l e.id a.toNat q).2}
 |_,_=>s
theorem row_two {w:World} {T:TypeId} {v x y:Value} (hr:w.ownsRow 0 T 1 v 2 [x,y]):∃g cap,v=.slice (some ⟨g,0,none⟩) 2 cap∧w.cell? ⟨g,0,none⟩=some x∧w.cell? ⟨g,1,none⟩=some y:=by
 rcases hr.2 with ⟨h,h'⟩|⟨g,cap,cur,h,_⟩
 ·cases h'
 ·refine ⟨g,cap,h,?_,?_⟩
  ·exact hr.cells (g:=g) (by rw [h];rfl) 0 x rfl
  ·have:=hr.cells (g:=g) (by rw [h];rfl) 1 y rfl
   rwa [show (⟨g,0,none⟩:Addr).add 1=⟨g,1,none⟩ by unfold Addr.add;split<;>simp_all] at this
set_option maxHeartbeats 4000000 in
theorem hplaysX_ok {w0 w:World} {b bj:Nat} {s:Shipper} {R:List SA} (h:Heap w0 (.shx b bj s::R) w) (id:Int) (h0:1≤id) (h1:id≤999) (a:Nat) (ha:a<8) (q:Int) (v:Value) (hr:w.ownsRow 0 3 1 v 2 [.int .i64 (a:Int),.int .i64 q]) (hl:s.l.length<5000):
 Calls Tryz.prog 263 #[.pointer (some ⟨b,0,none⟩),.agg #[.string Kd.sent.str,.int .i64 id,v]] w fun en w'=>en=.returned (.tuple #[])∧Heap w0 (.shx b bj (s.plays ⟨.sent,id,[(a:Int),q]⟩)::R) w':=by
 obtain ⟨bp,h⟩:=h.open_shx;obtain ⟨g,cap,rfl,g0,g1⟩:=row_two hr;have hgb:g<w.heap.size:=World.block_lt_of_cell? w _ g0;have HO:=Heap.nAt (n:=w.heap.size) h (.cells #[.string Kd.sent.str,.int .i64 id,.slice (some ⟨g,0,none⟩) 2 cap] 171) rfl;have n1:(Kd.sent.str.toList== [115,101,110,116])=true:=by kernel_rfl
 have HL:=zk hl;obtain ⟨W1,hW1⟩:∃W1,w.alloc (.cells #[.string Kd.sent.str,.int .i64 id,.slice (some ⟨g,0,none⟩) 2 cap] 171)=W1:=⟨_,rfl⟩;have g0:W1.cell? ⟨g,0,none⟩=some (.int .i64 (a:Int)):=by rw [←hW1];exact (Below.cell ((Below.refl _ w).alloc (Nat.le_refl _) _) (p:=⟨g,0,none⟩) hgb).trans g0
 have g1:W1.cell? ⟨g,1,none⟩=some (.int .i64 q):=by rw [←hW1];exact (Below.cell ((Below.refl _ w).alloc (Nat.le_refl _) _) (p:=⟨g,1,none⟩) hgb).trans g1
 have hgb:g<W1.heap.size:=by rw [←hW1];simp;omega
 rw [hW1] at HO;obtain ⟨c0,c1,cf⟩:=HO.cB2 1 rfl;obtain ⟨x0,x1,x2,xf⟩:=HO.cB3 0 rfl;have hlb:=HO.lt 1 rfl;have HX:=zk HO;clear h hr hl HO;go_enter Tryz.func263,Tryz.ntmps263;go_wp2;refine wro0 [(0,.f),(1,.f),(2,.f),(3,.s),(4,.f),(5,.s),(6,.f),(7,.s),(8,.f),(9,.s),(10,.f),(11,.s),(12,.f),(13,.s),(14,.e)] ?_;repeat (first
  |(refine vg rfl rfl ?_;apply ex2;intro w' hw';go_simp;rfl;go_simp)
  |(refine vs_ rfl (fun K hK=>?_);go_simp;refine hK _ ?_;clear hK K)
  |(refine ve rfl rfl ?_;go_wp2_with (go_at_call 264;refine (pcship_ok (HX.out.drew.frt 2 rfl) id a q h0 h1 ha HL.out).mono ?_;rintro e w2 ⟨rfl,h2⟩;have H2:=zk h2;clear h2);refine ⟨trivial,?_⟩;go_simp))
 refine vn ?_;go_simp;go_wp2_with (fail);go_end0;refine ⟨rfl,Heap.shut_shx (bp:=bp) ?_⟩;have h9:=(H2.out.frt 1 rfl).drop;have e:(s.plays ⟨.sent,id,[(a:Int),q]⟩).l=(pship s.l id a q).2:=by simp [Shipper.plays]
 rw [e];exact h9.frt 1 rfl
def Shipper.ships (s:Shipper) (id a q:Int):Bool×Shipper:=
 if phas s.l id=true then (true,s) else if s.j.room≤(s.j.es.length:Int) then (false,s) else (true,({s with j:=(s.j.add ⟨.sent,id,[a,q]⟩).2.sync}:Shipper).plays ⟨.sent,id,[a,q]⟩)
theorem hplays_j (s:Shipper) (e:Entry):(s.plays e).j=s.j:=by unfold Shipper.plays;split<;>rfl
set_option maxHeartbeats 8000000 in
theorem hships_ok {w0 w:World} {b:Nat} {s:Shipper} {R:List SA} (h:Heap w0 (.shipper b s::R) w) (hd:s.j.down=false) (hl:s.l.length<5000) (kind frm tt id step:Int) (a:Nat) (q:Int)
 (h0:1≤id) (h1:id≤999) (ha:a<8) (hq0:0<q) (hq1:q≤1000000000):
 Calls Tryz.prog 262 #[.pointer (some ⟨b,0,none⟩),.agg #[.int .i64 kind,.int .i64 frm,.int .i64 tt,.int .i64 id,.int .i64 step,.int .i64 (a:Int),.int .i64 q]] w fun en w'=>en=.returned (.bool (s.ships id a q).1)∧Heap w0 (.shipper b (s.ships id a q).2::R) w':=by
 have HH:=zk h;obtain ⟨bj,bp,h⟩:=h.open_shipper;have hb:=h.new (.cells #[.int .i64 kind,.int .i64 frm,.int .i64 tt,.int .i64 id,.int .i64 step,.int .i64 (a:Int),.int .i64 q] 113);have HS:As (s.ships id a q=if phas s.l id=true then (true,s) else if s.j.room≤(s.j.es.length:Int) then (false,s) else (true,({s with j:=(s.j.add ⟨.sent,id,[(a:Int),q]⟩).2.sync}:Shipper).plays ⟨.sent,id,[(a:Int),q]⟩)):=⟨rfl⟩;have HP0:As ((pship [] id a q).1=0):=⟨by
  have:(decide (q=0)|| !may q)=false:=by simp [may];omega
  simp [pship,this,phas,pfind]⟩
 have HD:=zk hd;have HLL:=zk hl;have HEO:As (Entry.ok ⟨.sent,id,[(a:Int),q]⟩):=⟨⟨by simp only;omega,h1,by simp,by simp [numOk];omega⟩⟩;obtain ⟨W1,hW1⟩:∃W1,w.alloc (.cells #[.int .i64 kind,.int .i64 frm,.int .i64 tt,.int .i64 id,.int .i64 step,.int .i64 (a:Int),.int .i64 q] 113)=W1:=⟨_,rfl⟩;rw [hW1] at hb;obtain ⟨c0,c1,cf⟩:=hb.cB2 1 rfl;obtain ⟨x0,x1,x2,x3,x4,x5,x6,xf⟩:=hb.cB7 0 rfl;have hlb:=hb.lt 1 rfl;have hlx:=hb.lt 0 rfl;have HB:=zk hb;clear h hb hd hl;cases hph:phas s.l id
 ·rw [hph] at HS;have HPH:=zk hph;clear hph;by_cases hr:s.j.room≤(s.j.es.length:Int)
  ·have HR:=zk hr;have HA1:As ((s.j.add ⟨.sent,id,[(a:Int),q]⟩).1=5):=⟨by simp [Jrn.add,hr]⟩;have HA2:As ((s.j.add ⟨.sent,id,[(a:Int),q]⟩).2=s.j):=⟨by simp [Jrn.add,hr]⟩;clear hr;go_enter Tryz.func262,Tryz.ntmps262;go_wp2;refine wro0 [(0,.f),(1,.f),(2,.f),(3,.s),(4,.f),(5,.s),(6,.e),(7,.f),(8,.f),(9,.f),(10,.f),(11,.f),(12,.f),(13,.f)] ?_;repeat (first
    |(refine vg rfl rfl ?_;apply ex2;intro w' hw';go_simp;rfl;go_simp)
    |(refine vs_ rfl (fun K hK=>?_);go_simp;refine hK _ ?_;clear hK K)
    |(refine ve rfl rfl ?_;go_wp2_with (go_at_call 84;refine (pchas_ok (HB.out.drew.frt 3 rfl) id).mono ?_;rintro e w2 ⟨⟨y0,y1,rfl⟩,h2⟩;rw [HPH.out];have H2:=zk h2;clear h2);refine ⟨trivial,?_⟩;go_simp))
   refine vn ?_;go_simp;clear c0 c1 cf x0 x1 x2 x3 x4 x5 x6 xf hlb hlx;obtain ⟨c0,c1,cf⟩:=H2.out.cB2 2 rfl;obtain ⟨x0,x1,x2,x3,x4,x5,x6,xf⟩:=H2.out.cB7 1 rfl;have hlb:=H2.out.lt 2 rfl;have hlx:=H2.out.lt 1 rfl;go_wp2_with (fail);have hn:=Heap.nAt (n:=w2.heap.size+1) (Heap.asSlc (k:=2) (size:=1) (H2.out.new (.cells #[.int .i64 (a:Int),.int .i64 q] 3)) (by decide) rfl) (.cells #[.string ⟨#[115,101,110,116]⟩,.int .i64 id,.slice (some ⟨w2.heap.size,0,none⟩) 2 2] 171) (by simp);obtain ⟨W3,hW3⟩:∃W3,(w2.alloc (.cells #[.int .i64 (a:Int),.int .i64 q] 3)).alloc (.cells #[.string ⟨#[115,101,110,116]⟩,.int .i64 id,.slice (some ⟨w2.heap.size,0,none⟩) 2 2] 171)=W3:=⟨_,rfl⟩;rw [hW3] at hn;have H5:=zk hn;clear hn;go_wp2_with (fail);try rw [hW3]
   refine wro (fun W=>W.cell? ⟨w.heap.size,3,none⟩=some (.int .i64 id)∧W.cell? ⟨w.heap.size,5,none⟩=some (.int .i64 (a:Int))∧W.cell? ⟨w.heap.size,6,none⟩=some (.int .i64 q)) [(1,.f),(2,.f),(3,.f),(4,.f),(5,.f),(6,.f),(0,.e),(7,.e),(8,.f),(9,.f),(10,.f),(11,.f),(12,.f),(13,.s),(14,.s),(15,.e),(16,.f),(17,.f)] ⟨H5.out.cell 3 3 rfl rfl,H5.out.cell 3 5 rfl rfl,H5.out.cell 3 6 rfl rfl⟩ ?_;repeat (first
    |(refine vg rfl rfl ?_;apply ex2;intro w' hw';obtain ⟨q3,q5,q6⟩:=hw';go_simp;rfl;go_simp)
    |(refine vgw rfl rfl ?_;apply ex2;intro w' hw';obtain ⟨q3,q5,q6⟩:=hw';go_simp;rfl;go_simp)
    |(refine vs_ rfl (fun K hK=>?_);go_simp;refine hK _ ?_;clear hK K)
    |(refine ve rfl rfl ?_;go_wp2_with (go_at_call 74;refine (pcnew_ok H5.out.drew).mono ?_;rintro e w3 ⟨bn,rfl,h3⟩;have H3:=zk h3;clear h3);refine ⟨⟨H3.out.cell 4 3 rfl rfl,H3.out.cell 4 5 rfl rfl,H3.out.cell 4 6 rfl rfl⟩,?_⟩;go_simp)
    |(refine ve rfl rfl ?_;go_wp2_with (go_at_call 264;refine (pcship_ok H3.out id a q h0 h1 ha (by simp)).mono ?_;rintro e w4 ⟨rfl,h4⟩;rw [HP0.out];have H4:=zk h4.drop;clear h4);refine ⟨⟨H4.out.cell 3 3 rfl rfl,H4.out.cell 3 5 rfl rfl,H4.out.cell 3 6 rfl rfl⟩,?_⟩;clear c0 c1 cf x0 x1 x2 x3 x4 x5 x6 xf hlb hlx;obtain ⟨c0,c1,cf⟩:=H4.out.cB2 4 rfl;obtain ⟨z0,z1,z2,zf⟩:=H4.out.cB3 0 rfl;have hlb:=H4.out.lt 4 rfl;have hlz:=H4.out.lt 0 rfl;go_simp)
    |(refine vew rfl rfl ?_;go_wp2_with (go_at_call 137;refine (jadd_ok (H4.out.frt 5 rfl) HD.out ⟨.sent,id,[(a:Int),q]⟩ HEO.out _ (H4.out.row 1 rfl)).mono ?_;rintro e w5 ⟨rfl,h5⟩;rw [HA1.out];have H6:=zk h5;clear h5);refine ⟨⟨H6.out.cell 4 3 rfl rfl,H6.out.cell 4 5 rfl rfl,H6.out.cell 4 6 rfl rfl⟩,?_⟩;go_simp))
   refine vn ?_;go_simp;go_wp2_with (fail);go_ret;have h9:=H6.out;rw [HA2.out] at h9;rw [HS.out];simp only [Bool.false_eq_true,if_false,if_pos HR.out];refine ⟨rfl,Heap.shut_shipper (bj:=bj) (bp:=bp) ?_⟩;exact (((((h9.frt 1 rfl).drop.frt 1 rfl).drop).frt 2 rfl).drop).frt 2 rfl
  ·have HR:=zk hr;have HA1:As ((s.j.add ⟨.sent,id,[(a:Int),q]⟩).1=0):=⟨by simp [Jrn.add,hr]⟩;have HA2:As ((s.j.add ⟨.sent,id,[(a:Int),q]⟩).2.down=false):=⟨by simp [Jrn.add,hr];exact HD.out⟩;clear hr;go_enter Tryz.func262,Tryz.ntmps262;go_wp2;refine wro0 [(0,.f),(1,.f),(2,.f),(3,.s),(4,.f),(5,.s),(6,.e),(7,.f),(8,.f),(9,.f),(10,.f),(11,.f),(12,.f),(13,.f)] ?_;repeat (first
    |(refine vg rfl rfl ?_;apply ex2;intro w' hw';go_simp;rfl;go_simp)
    |(refine vs_ rfl (fun K hK=>?_);go_simp;refine hK _ ?_;clear hK K)
    |(refine ve rfl rfl ?_;go_wp2_with (go_at_call 84;refine (pchas_ok (HB.out.drew.frt 3 rfl) id).mono ?_;rintro e w2 ⟨⟨y0,y1,rfl⟩,h2⟩;rw [HPH.out];have H2:=zk h2;clear h2);refine ⟨trivial,?_⟩;go_simp))
   refine vn ?_;go_simp;clear c0 c1 cf x0 x1 x2 x3 x4 x5 x6 xf hlb hlx;obtain ⟨c0,c1,cf⟩:=H2.out.cB2 2 rfl;obtain ⟨x0,x1,x2,x3,x4,x5,x6,xf⟩:=H2.out.cB7 1 rfl;have hlb:=H2.out.lt 2 rfl;have hlx:=H2.out.lt 1 rfl;go_wp2_with (fail);have hn:=Heap.nAt (n:=w2.heap.size+1) (Heap.asSlc (k:=2) (size:=1) (H2.out.new (.cells #[.int .i64 (a:Int),.int .i64 q] 3)) (by decide) rfl) (.cells #[.string ⟨#[115,101,110,116]⟩,.int .i64 id,.slice (some ⟨w2.heap.size,0,none⟩) 2 2] 171) (by simp);obtain ⟨W3,hW3⟩:∃W3,(w2.alloc (.cells #[.int .i64 (a:Int),.int .i64 q] 3)).alloc (.cells #[.string ⟨#[115,101,110,116]⟩,.int .i64 id,.slice (some ⟨w2.heap.size,0,none⟩) 2 2] 171)=W3:=⟨_,rfl⟩;rw [hW3] at hn;have H5:=zk hn;clear hn;go_wp2_with (fail);try rw [hW3]
   refine wro (fun W=>W.cell? ⟨w.heap.size,3,none⟩=some (.int .i64 id)∧W.cell? ⟨w.heap.size,5,none⟩=some (.int .i64 (a:Int))∧W.cell? ⟨w.heap.size,6,none⟩=some (.int .i64 q)) [(1,.f),(2,.f),(3,.f),(4,.f),(5,.f),(6,.f),(0,.e),(7,.e),(8,.f),(9,.f),(10,.f),(11,.f),(12,.f),(13,.s),(14,.s),(15,.e),(16,.f),(17,.f)] ⟨H5.out.cell 3 3 rfl rfl,H5.out.cell 3 5 rfl rfl,H5.out.cell 3 6 rfl rfl⟩ ?_;repeat (first
    |(refine vg rfl rfl ?_;apply ex2;intro w' hw';obtain ⟨q3,q5,q6⟩:=hw';go_simp;rfl;go_simp)
    |(refine vgw rfl rfl ?_;apply ex2;intro w' hw';obtain ⟨q3,q5,q6⟩:=hw';go_simp;rfl;go_simp)
    |(refine vs_ rfl (fun K hK=>?_);go_simp;refine hK _ ?_;clear hK K)
    |(refine ve rfl rfl ?_;go_wp2_with (go_at_call 74;refine (pcnew_ok H5.out.drew).mono ?_;rintro e w3 ⟨bn,rfl,h3⟩;have H3:=zk h3;clear h3);refine ⟨⟨H3.out.cell 4 3 rfl rfl,H3.out.cell 4 5 rfl rfl,H3.out.cell 4 6 rfl rfl⟩,?_⟩;go_simp)
    |(refine ve rfl rfl ?_;go_wp2_with (go_at_call 264;refine (pcship_ok H3.out id a q h0 h1 ha (by simp)).mono ?_;rintro e w4 ⟨rfl,h4⟩;rw [HP0.out];have H4:=zk h4.drop;clear h4);refine ⟨⟨H4.out.cell 3 3 rfl rfl,H4.out.cell 3 5 rfl rfl,H4.out.cell 3 6 rfl rfl⟩,?_⟩;clear c0 c1 cf x0 x1 x2 x3 x4 x5 x6 xf hlb hlx;obtain ⟨c0,c1,cf⟩:=H4.out.cB2 4 rfl;obtain ⟨z0,z1,z2,zf⟩:=H4.out.cB3 0 rfl;have hlb:=H4.out.lt 4 rfl;have hlz:=H4.out.lt 0 rfl;go_simp)
    |(refine vew rfl rfl ?_;go_wp2_with (go_at_call 137;refine (jadd_ok (H4.out.frt 5 rfl) HD.out ⟨.sent,id,[(a:Int),q]⟩ HEO.out _ (H4.out.row 1 rfl)).mono ?_;rintro e w5 ⟨rfl,h5⟩;rw [HA1.out];have H6:=zk h5;clear h5);refine ⟨⟨H6.out.cell 4 3 rfl rfl,H6.out.cell 4 5 rfl rfl,H6.out.cell 4 6 rfl rfl⟩,?_⟩;go_simp))
   refine vn ?_;go_simp;clear c0 c1 cf z0 z1 z2 zf hlb hlz;obtain ⟨c0,c1,cf⟩:=H6.out.cB2 5 rfl;obtain ⟨z0,z1,z2,zf⟩:=H6.out.cB3 1 rfl;go_wp2_with (first|(go_at_call 133;refine (jsync_ok H6.out HA2.out).mono ?_;rintro e w6 ⟨rfl,h6⟩;clear c0 c1 cf z0 z1 z2 zf;obtain ⟨c0,c1,cf⟩:=h6.cB2 5 rfl;obtain ⟨z0,z1,z2,zf⟩:=h6.cB3 1 rfl;have H7:=zk (Heap.shut_shx (s:=({s with j:=(s.j.add ⟨.sent,id,[(a:Int),q]⟩).2.sync}:Shipper)) (bp:=bp) (((h6.frt 5 rfl).frt 4 rfl).frt 1 rfl));clear h6)|(go_at_call 263;refine (hplaysX_ok H7.out id h0 h1 a ha q _ (H7.out.row 3 rfl) HLL.out).mono ?_;rintro e w7 ⟨rfl,h7⟩;have H8:=zk h7;clear h7));go_ret;rw [HS.out];simp only [Bool.false_eq_true,if_false,if_neg (Int.not_le.2 HR.out)];refine ⟨rfl,Heap.shx_to (bj:=bj) ?_⟩;rw [hplays_j];exact (((H8.out.frt 2 rfl).drop.frt 2 rfl).drop.frt 2 rfl).drop
 ·rw [hph] at HS;have HPH:=zk hph;clear hph;go_enter Tryz.func262,Tryz.ntmps262;go_wp2;refine wro0 [(0,.f),(1,.f),(2,.f),(3,.s),(4,.f),(5,.s),(6,.e),(7,.f),(8,.f),(9,.f),(10,.f),(11,.f),(12,.f),(13,.f)] ?_;repeat (first
   |(refine vg rfl rfl ?_;apply ex2;intro w' hw';go_simp;rfl;go_simp)
   |(refine vs_ rfl (fun K hK=>?_);go_simp;refine hK _ ?_;clear hK K)
   |(refine ve rfl rfl ?_;go_wp2_with (go_at_call 84;refine (pchas_ok (HB.out.drew.frt 3 rfl) id).mono ?_;rintro e w2 ⟨⟨y0,y1,rfl⟩,h2⟩;rw [HPH.out];have H2:=zk h2;clear h2);refine ⟨trivial,?_⟩;go_simp))
  refine vn ?_;go_simp;clear c0 c1 cf x0 x1 x2 x3 x4 x5 x6 xf hlb hlx;obtain ⟨c0,c1,cf⟩:=H2.out.cB2 2 rfl;obtain ⟨x0,x1,x2,x3,x4,x5,x6,xf⟩:=H2.out.cB7 1 rfl;have hlb:=H2.out.lt 2 rfl;have hlx:=H2.out.lt 1 rfl;go_wp2_with (fail);refine wro (fun W=>W.cell? ⟨w.heap.size,3,none⟩=some (.int .i64 id)∧W.cell? ⟨w.heap.size,5,none⟩=some (.int .i64 (a:Int))∧W.cell? ⟨w.heap.size,6,none⟩=some (.int .i64 q)) [(1,.f),(2,.f),(3,.f),(4,.f),(5,.f),(6,.f),(0,.e),(7,.e),(8,.f),(9,.f)] ⟨H2.out.cell 1 3 rfl rfl,H2.out.cell 1 5 rfl rfl,H2.out.cell 1 6 rfl rfl⟩ ?_;repeat (first
   |(refine vg rfl rfl ?_;apply ex2;intro w' hw';obtain ⟨q3,q5,q6⟩:=hw';go_simp;rfl;go_simp)
   |(refine ve rfl rfl ?_;go_wp2_with (go_at_call 74;refine (pcnew_ok H2.out.drew).mono ?_;rintro e w3 ⟨bn,rfl,h3⟩;have H3:=zk h3;clear h3);refine ⟨⟨H3.out.cell 2 3 rfl rfl,H3.out.cell 2 5 rfl rfl,H3.out.cell 2 6 rfl rfl⟩,?_⟩;go_simp)
   |(refine ve rfl rfl ?_;go_wp2_with (go_at_call 264;refine (pcship_ok H3.out id a q h0 h1 ha (by simp)).mono ?_;rintro e w4 ⟨rfl,h4⟩;rw [HP0.out];have H4:=zk h4.drop;clear h4);refine ⟨⟨H4.out.cell 1 3 rfl rfl,H4.out.cell 1 5 rfl rfl,H4.out.cell 1 6 rfl rfl⟩,?_⟩;go_simp))
  refine vn ?_;go_simp;go_wp2_with (fail);go_ret;rw [HS.out];refine ⟨rfl,Heap.shut_shipper (bj:=bj) (bp:=bp) ?_⟩;exact (((H4.out.frt 1 rfl).drop).frt 2 rfl).frt 2 rfl
end Go.Proofs.YtlnghlamnehfjaaGreatDoor.S
namespace Go.Proofs.YtlnghlamnehfjaaGreatDoor.S
open Go.RowKit Go.Maps
attribute [local go_sem] Oper.semAt_some
def Shipper.handle (s:Shipper) (m:Msg):List Msg×Shipper:=
 if s.j.down=true then ([],s) else ((if (s.ships m.id m.a m.b).1=true then [⟨16,3,0,m.id,0,0,0⟩] else []),(s.ships m.id m.a m.b).2)
set_option maxHeartbeats 4000000 in
theorem hhandle_ok {w0 w:World} {b:Nat} {s:Shipper} {R:List SA} (h:Heap w0 (.shipper b s::R) w) (hl:s.l.length<5000) (id step:Int) (a:Nat) (q:Int)
 (h0:1≤id) (h1:id≤999) (ha:a<8) (hq0:0<q) (hq1:q≤1000000000):
 Calls Tryz.prog 260 #[.pointer (some ⟨b,0,none⟩),Msg.val ⟨15,0,3,id,step,(a:Int),q⟩] w fun en w'=>∃v',en=.returned v'∧Heap w0 (.slc v' 113 7 (s.handle ⟨15,0,3,id,step,(a:Int),q⟩).1.length (mcells (s.handle ⟨15,0,3,id,step,(a:Int),q⟩).1)::.shipper b (s.handle ⟨15,0,3,id,step,(a:Int),q⟩).2::R) w':=by
 have HH:=zk h;have HDN:=zk (hdown_ok (h.alloc (.cells #[.int .i64 15,.int .i64 0,.int .i64 3,.int .i64 id,.int .i64 step,.int .i64 (a:Int),.int .i64 q] 113)));have hb:=h.new (.cells #[.int .i64 15,.int .i64 0,.int .i64 3,.int .i64 id,.int .i64 step,.int .i64 (a:Int),.int .i64 q] 113);have HB:=zk hb;unfold Msg.val;simp only [Shipper.handle];cases hd:s.j.down
 ·have HSH:=zk (hships_ok (hb.frt 1 rfl) hd hl 15 0 3 id step a q h0 h1 ha hq0 hq1);rw [hd] at HDN;clear h hd hb hl;simp only [Bool.false_eq_true,if_false];generalize s.ships id a q=p at *;obtain ⟨ok,ns⟩:=p;cases ok
  ·simp only [Bool.false_eq_true,if_false];go_enter Tryz.func260,Tryz.ntmps260;go_wp2_with (first|(go_at_call 259;refine HDN.out.mono ?_;rintro e w' ⟨rfl,rfl⟩)|(go_at_call 262;refine HSH.out.mono ?_;rintro e w2 ⟨rfl,h2⟩;have H2:=zk h2;clear h2));go_ret;exact ⟨_,rfl,((H2.out.frt 1 rfl).drop).nRw 113 7⟩
  ·simp only [if_true];go_enter Tryz.func260,Tryz.ntmps260;go_wp2_with (first|(go_at_call 259;refine HDN.out.mono ?_;rintro e w' ⟨rfl,rfl⟩)|(go_at_call 262;refine HSH.out.mono ?_;rintro e w2 ⟨rfl,h2⟩;obtain ⟨x0,x1,x2,x3,x4,x5,x6,xf⟩:=h2.cB7 1 rfl;have H2:=zk h2;clear h2));go_ret;refine ⟨_,rfl,?_⟩;have h6:=Heap.asSlc (k:=1) (size:=7) (H2.out.new (.cells #[.int .i64 16,.int .i64 3,.int .i64 0,.int .i64 id,.int .i64 0,.int .i64 0,.int .i64 0] 113)) (by decide) rfl;exact (h6.frt 2 rfl).drop
 ·rw [hd] at HDN;clear h hd hb hl;simp only [if_true];go_enter Tryz.func260,Tryz.ntmps260;go_wp2_with (go_at_call 259;refine HDN.out.mono ?_;rintro e w' ⟨rfl,rfl⟩);go_ret;exact ⟨_,rfl,(HH.out.alloc _).nRw 113 7⟩
def ShE (e:Entry):Prop:=∃(id:Int) (a:Nat) (q:Int),e=⟨.sent,id,[(a:Int),q]⟩∧1≤id∧id≤999∧a<8
def Shipper.replay (s:Shipper) (es:List Entry):Shipper:=es.foldl Shipper.plays s
def Shipper.start (s:Shipper):Shipper:=if s.j.down=true then (⟨s.j.recover,[]⟩:Shipper).replay s.j.es else s
theorem hreplay_j (s:Shipper) (es:List Entry):(s.replay es).j=s.j:=by
 induction es generalizing s with
 |nil=>rfl
 |cons e r ih=>exact (ih (s.plays e)).trans (hplays_j s e)
theorem hreplay_succ (s:Shipper) (es:List Entry) {k:Nat} {e:Entry} (h:es[k]? =some e):s.replay (es.take (k+1))=(s.replay (es.take k)).plays e:=by
 obtain ⟨hk,rfl⟩:=List.getElem?_eq_some_iff.1 h;unfold Shipper.replay;rw [List.take_succ_eq_append_getElem hk,List.foldl_append];rfl
theorem pship_len (l:List Pc) (id:Int) (a:Nat) (q:Int):(pship l id a q).2.length≤l.length+1:=by
 unfold pship;split
 ·simp
 ·split<;>simp
theorem hplays_len (s:Shipper) (e:Entry):(s.plays e).l.length≤s.l.length+1:=by
 unfold Shipper.plays;split
 ·exact pship_len _ _ _ _
 ·simp
theorem hreplay_len (s:Shipper) (es:List Entry):(s.replay es).l.length≤s.l.length+es.length:=by
 induction es generalizing s with
 |nil=>simp [Shipper.replay]
 |cons e r ih=>
  have h1:=ih (s.plays e);have h2:=hplays_len s e;simp only [Shipper.replay,List.foldl_cons,List.length_cons] at *;omega
set_option maxHeartbeats 4000000 in
theorem hstart_ok {w0 w:World} {b:Nat} {s:Shipper} {R:List SA} (h:Heap w0 (.shipper b s::R) w) (hes:∀e∈s.j.es,ShE e):
 Calls Tryz.prog 261 #[.pointer (some ⟨b,0,none⟩)] w fun en w'=>en=.returned (.tuple #[])∧Heap w0 (.shipper b s.start::R) w':=by
 have HH:=zk h;have HB:=zk (h.new (.cells #[.pointer (some ⟨b,0,none⟩)] 63));have HDN:=zk (hdown_ok (HB.out.frt 1 rfl));have HS:As (s.start=if s.j.down=true then (⟨s.j.recover,[]⟩:Shipper).replay s.j.es else s):=⟨rfl⟩;have HES:=zk hes;clear hes;obtain ⟨bj,bp,h3⟩:=(HB.out.frt 1 rfl).open_shipper;obtain ⟨c0,c1,cf⟩:=h3.cB2 0 rfl;have hlb:=h3.lt 0 rfl;have HLE:As (s.j.es.length≤4096):=⟨by
  have hp:=(h3.frt 1 rfl).open_jrn.1;have:=hp.len;have:=hp.r1;omega⟩
 clear h;cases hd:s.j.down
 ·rw [hd] at HS HDN;clear hd;refine cmk Tryz.func261 rfl ?_;simp only [Tryz.ntmps261,List.size_toArray,List.length_cons,List.length_nil,Nat.reduceAdd,Nat.reduceSub,Array.replicate_succ,Array.replicate_zero,List.push_toArray,List.append_toArray,List.nil_append,List.cons_append];go_wp2_with (go_at_call 259;refine HDN.out.mono ?_;rintro e w' ⟨rfl,rfl⟩);refine ⟨_,results_none rfl _ _ _,rfl,?_⟩;rw [HS.out];exact HH.out.alloc _
 ·have HREC:As (∀W L,Heap w0 (.jrn bj s.j::L) W→Calls Tryz.prog 220 #[.pointer (some ⟨bj,0,none⟩)] W fun e w'=>∃n,e=.returned (.int .i64 n)∧Heap w0 (.jrn bj s.j.recover::L) w'):=⟨fun W L h=>jrecover_ok h hd⟩;rw [hd] at HS HDN;clear hd;refine cmk Tryz.func261 rfl ?_;simp only [Tryz.ntmps261,List.size_toArray,List.length_cons,List.length_nil,Nat.reduceAdd,Nat.reduceSub,Array.replicate_succ,Array.replicate_zero,List.push_toArray,List.append_toArray,List.nil_append,List.cons_append];have H3:=zk h3;clear h3;go_wp2_with (first|(go_at_call 259;refine HDN.out.mono ?_;rintro e w' ⟨rfl,rfl⟩)|(go_at_call 220;refine (HREC.out _ _ (H3.out.frt 1 rfl)).mono ?_;rintro e w1 ⟨nr,rfl,h1⟩;clear c0 c1 cf hlb;obtain ⟨c0,c1,cf⟩:=h1.cB2 1 rfl;obtain ⟨x0,xf⟩:=h1.cB1 3 rfl;have hlb:=h1.lt 1 rfl;have H4:=zk h1;clear h1));refine wro (fun W=>W.cell? ⟨w.heap.size,0,none⟩=some (.pointer (some ⟨b,0,none⟩))) [(0,.f),(1,.e),(2,.f),(3,.f),(4,.e)] x0 ?_;repeat (first
   |(refine vg rfl rfl ?_;apply ex2;intro w' hw';go_simp;rfl;go_simp)
   |(refine ve rfl rfl ?_;go_wp2_with (go_at_call 74;refine (pcnew_ok H4.out.drew).mono ?_;rintro e w2 ⟨bn,rfl,h2⟩;have H5:=zk h2;clear h2);refine ⟨H5.out.cell 4 0 rfl rfl,?_⟩;clear c0 c1 cf hlb x0 xf;obtain ⟨c0,c1,cf⟩:=H5.out.cB2 2 rfl;have hlb:=H5.out.lt 2 rfl;go_simp)
   |(refine ve rfl rfl ?_;go_wp2_with (fail);have H6:=zk (H5.out.sAt 2 1 (.pointer (some ⟨bn,0,none⟩)) rfl);refine ⟨H6.out.cell 4 0 rfl rfl,?_⟩;go_simp))
  refine vn ?_;go_simp;have H7:=zk H6.out;generalize w2.setCell ⟨b,1,none⟩ (.pointer (some ⟨bn,0,none⟩))=W2 at H7⊢;clear c0 c1 cf hlb;obtain ⟨c0,c1,cf⟩:=H7.out.cB2 2 rfl;obtain ⟨x0,xf⟩:=H7.out.cB1 4 rfl;have hlb:=H7.out.lt 2 rfl;go_wp2_with (go_at_call 221;refine (all_ok H7.out bj).mono ?_;rintro e w3 ⟨bx,rfl,h3⟩;have H8:=zk h3;clear h3);clear c0 c1 cf hlb x0 xf;obtain ⟨s1,hs1⟩:∃s1:Shipper,s1=⟨s.j.recover,[]⟩:=⟨_,rfl⟩;have hje:s1.j.es=s.j.es:=by rw [hs1];rfl
  have hjr:s1.j=s.j.recover:=by rw [hs1]
  have hl0:s1.l.length=0:=by rw [hs1];rfl
  rw [←hs1] at HS;rw [←hjr] at H8;refine wp_rangeGB rfl (enters_of Tryz.func227 (by kernel_rfl) rfl) rfl _ _ R s1.j.es _ (all_gives w0 bx bj s1.j) (fun k=>.all [.pts w.heap.size (.cells #[.pointer (some ⟨b,0,none⟩)] 63),.shx b bj (s1.replay (s1.j.es.take k))]) ?h0 2 (entN (fun k=>.all [.pts w.heap.size (.cells #[.pointer (some ⟨b,0,none⟩)] 63),.shx b bj (s1.replay (s1.j.es.take k))])) ?assign ?body ?done
  case h0=>
   have h9:=((H8.out.frt 4 rfl).drop.frt 3 rfl).frt 2 rfl |>.frt 1 rfl;have hl1:s1.l= []:=by rw [hs1]
   have hx:Heap w0 (.shx b bj s1::_) w3:=Heap.shut_shx (s:=s1) (bj:=bj) (bp:=bn) (by rw [hl1];exact h9);exact Heap.gather (l:= [_,_]) (hx.frt 3 rfl)
  case assign=>
   intro l k x v X W K hk h hK;obtain ⟨u,rfl,h2⟩:=give_open h;have hK2:=hK _ _ (entN_shut (h2.new (.cells #[.string x.kd.str,.int .i64 x.id,u] 171)));have hsh:=h2.shp 0 rfl;clear hK h h2;rcases hsh with ⟨rfl, -, -⟩|⟨g,cap,rfl, -, -, -⟩;all_goals
    simp [gAct,roundAct] at hK2;simp only [roundAct]
    gi_wp2
    exact hK2
  case body=>
   intro l k x v p X W hk h;obtain ⟨u,rfl,h2⟩:=entN_open h;have h3:=Heap.spread (l:= [_,_]) (h2.frt 2 rfl);obtain ⟨id,a,q,rfl,h0,h1,ha⟩:=HES.out x (by rw [←hje];exact List.mem_of_getElem? hk);have HSU:=zk (hreplay_succ s1 s1.j.es hk);have HLK:As ((s1.replay (s1.j.es.take k)).l.length<5000):=⟨by
    have:=hreplay_len s1 (s1.j.es.take k);have:=HLE.out;rw [List.length_take,hje] at *;omega⟩
   obtain ⟨x0,xf⟩:=h3.cB1 0 rfl;obtain ⟨e0,e1,e2,ef⟩:=h3.cB3 2 rfl;have H7:=zk ((h3.frt 3 rfl).frt 2 rfl);clear h h2 h3 hk;generalize s1.replay (s1.j.es.take k)=sk at *;simp only [gAct,roundAct]
   gi_wp2_with (refine ⟨trivial,(CallsIn.inRound l (callsIn_wide.2 (hplaysX_ok H7.out id h0 h1 a ha q _ (H7.out.row 1 rfl) HLK.out))).mono ?_⟩;rintro en w4 ⟨rfl,h4⟩;have H8:=zk h4;clear h4)
   show Heap w0 _ _
   rw [HSU.out];exact Heap.gather (l:= [_,_]) ((((H8.out.frt 1 rfl).drop.frt 2 rfl).drop).frt 1 rfl)
  case done=>
   intro D W h;have h2:=Heap.spread (l:= [_,_]) h;have HZ:=h2.putAt 2 rfl (.deferred none);have HT:=zk (h2.at 2 rfl);have HY:=zk ((((HZ.drop.frt 1 rfl).drop).frt 1 rfl).drop);clear h h2 HZ;go_wp2;refine ⟨by simp,.inl ⟨_,_,rfl,run_takeDeferred HT.out,?_⟩⟩;refine ⟨_,results_none rfl _ _ _,rfl,?_⟩;rw [HS.out];simp only [if_true];have h9:=HY.out;rw [List.take_length,hje] at h9;refine Heap.shx_to (bj:=bj) ?_;rw [hreplay_j];exact h9
end Go.Proofs.YtlnghlamnehfjaaGreatDoor.S
