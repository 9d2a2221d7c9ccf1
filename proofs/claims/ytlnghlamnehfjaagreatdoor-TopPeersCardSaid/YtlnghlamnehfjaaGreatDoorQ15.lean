/- Part Q15. -/
import Derived.Test.YtlnghlamnehfjaaGreatDoorQ13
import Derived.Test.YtlnghlamnehfjaaGreatDoorQ14
import Derived.WalkMore
import Derived.RangeFuncOwn
import Derived.Lib.AtoiErrMem
set_option linter.unusedVariables false
set_option linter.unusedSimpArgs false
set_option maxRecDepth 100000
set_option maxHeartbeats 64000000
namespace Go.Proofs.YtlnghlamnehfjaaGreatDoor.S
open Go.RowKit Go.Maps
attribute [local go_sem] Oper.semAt_some
theorem Ql6 {w0 w:World} {R:List SA} (h:Heap w0 R w) (s:ByteArray):Calls Tryz.prog 232 #[.string s,.string ⟨#[32]⟩] w fun e w'=>∃b0 b1 b2,
 e=.returned (.func (.func 237) #[] #[.pointer (some ⟨b1,0,none⟩),.pointer (some ⟨b0,0,none⟩),.pointer (some ⟨b2,0,none⟩)])∧
 Heap w0 (.pts b0 (.cells #[.string s] 9)::.pts b1 (.cells #[.string ⟨#[32]⟩] 9)::.pts b2 (.cells #[.int .i64 0] 3)::R) w':=by
 have H:=zk h;clear h;have h234:As (Calls Tryz.prog 234 #[.string s,.string ⟨#[32]⟩,.int .i64 0] w fun e w'=>∃b0 b1 b2,
  e=.returned (.func (.func 237) #[] #[.pointer (some ⟨b1,0,none⟩),.pointer (some ⟨b0,0,none⟩),.pointer (some ⟨b2,0,none⟩)])∧
  Heap w0 (.pts b0 (.cells #[.string s] 9)::.pts b1 (.cells #[.string ⟨#[32]⟩] 9)::.pts b2 (.cells #[.int .i64 0] 3)::R) w'):=by
  refine ⟨?_⟩;go_enter Tryz.func234,Tryz.ntmps234;go_wp2;go_ret;refine ⟨w.heap.size,w.heap.size+1,w.heap.size+1+1,rfl,?_⟩;have:=Heap.nAt (n:=w.heap.size+1+1) (Heap.nAt (n:=w.heap.size+1) (Heap.nAt (n:=w.heap.size) H.1 (.cells #[.string s] 9) rfl) (.cells #[.string ⟨#[32]⟩] 9) (by simp)) (.cells #[.int .i64 0] 3) (by simp);exact (this.frt 1 rfl).frt 2 rfl
 go_enter Tryz.func232,Tryz.ntmps232;go_wp2_with (go_at_call 234;refine h234.1.mono ?_;rintro e w' ⟨b0,b1,b2,rfl,h⟩;have H':=zk h;clear h);go_ret;exact ⟨b0,b1,b2,rfl,H'.1⟩
theorem Qpx (s:ByteArray) (l:List Int):ZN s l=jn (s::l.map XW):=by
 induction l generalizing s with
 |nil=>rfl
 |cons n l ih=>
  show ZN (s++(⟨#[32]⟩++XW n)) l=_
  rw [ih];cases l with
  |nil=>rfl
  |cons m l=>
   show (s++(⟨#[32]⟩++XW n))++(⟨#[32]⟩++jn (XW m::l.map XW))=s++(⟨#[32]⟩++(XW n++(⟨#[32]⟩++jn (XW m::l.map XW))))
   simp only [ByteArray.append_assoc]
theorem Qii (n:Int):Jp (XW n):=by
 intro c hc;rw [KE] at hc;rcases Qpp n c hc with h|h;rintro rfl;simp at h;rintro rfl;simp at h
theorem Qnr (k:Kd):Jp k.str:=by
 have:∀c∈k.str.data.toList,c≠32:=by cases k<;>decide
 exact this
def words (e:Entry):List ByteArray:=e.kd.str::(e.id::e.n).map XW
def Qd9 (be bp:Nat) (e:Entry) (k:Nat):SA:=.ex fun v=>
 .star (.pts be (.cells #[.string (if k=0 then ByteArray.empty else e.kd.str),.int .i64 (if k<2 then 0 else e.id),v] 171)) (.star (.pts bp (.cells #[.int .i64 k] 3)) (.slc v 3 1 (e.n.take (k-2)).length ((e.n.take (k-2)).map (Value.int .i64))))
def QEz (w0:World) (R:List SA) (e:Entry) (en:Ending) (w':World):Prop:=∃v,en=.returned (.tuple #[.agg #[.string e.kd.str,e.id,v],.int .i64 0])∧Heap w0 (.slc v 3 1 e.n.length (e.n.map (Value.int .i64))::R) w'
theorem Qb6 {w0 w:World} {X:List SA} {be bp k:Nat} {e:Entry} {x:ByteArray} {v:Value} (h:Heap w0 (.when (v=.string x) .emp::Qd9 be bp e k::X) w):v=.string x∧∃u,
 Heap w0 (.pts be (.cells #[.string (if k=0 then ByteArray.empty else e.kd.str),.int .i64 (if k<2 then 0 else e.id),u] 171)::.pts bp (.cells #[.int .i64 k] 3)::.slc u 3 1 (e.n.take (k-2)).length ((e.n.take (k-2)).map (Value.int .i64))::X) w:=by
 obtain ⟨hv,h⟩:=h.QT;obtain ⟨u,h⟩:=(h.drop).YL;exact ⟨hv,u,((h.XF.frt 1 rfl).XF.frt 2 rfl)⟩
theorem Uw {w0 w:World} {X:List SA} {be bp k:Nat} {e:Entry} {u:Value} (h:Heap w0 (.pts be (.cells #[.string (if k=0 then ByteArray.empty else e.kd.str),.int .i64 (if k<2 then 0 else e.id),u] 171)::.pts bp (.cells #[.int .i64 k] 3)::.slc u 3 1 (e.n.take (k-2)).length ((e.n.take (k-2)).map (Value.int .i64))::X) w):
 Heap w0 (Qd9 be bp e k::X) w:=by
 refine Heap.Yr u (Heap.Xx ?_);exact (Heap.Xx (h.frt 1 rfl |>.frt 2 rfl |>.frt 1 rfl)).frt 1 rfl
theorem Qq6 {w0 w:World} {R:List SA} (h:Heap w0 R w) (n:Int) (hn:QU n):CH 233 #[.string (XW n)] w (.tuple #[.int .i64 n,.nilIface]) w0 R:=by
 refine (Tryz.strconv_Atoi (XW n) n (Nat.le_trans (Kw n hn) (by decide)) (by rw [KE];exact Quf n) w).mono ?_;rintro e w' ⟨rfl,t,rfl⟩;exact ⟨rfl,h.below (Lib.bytesWorld_below _ _ _)⟩
theorem Qf1 {w0 w:World} {R:List SA} (h:Heap w0 R w) (n:Int) (hn:QU n):CH 177 #[.int .i64 n] w (.string (XW n)) w0 R:=by
 refine (Qqb n w h.tab hn).m2 fun w' hb=>?_;exact ⟨rfl,h.below hb⟩
theorem Qsa {w0 w:World} {A B D:SA} {r n:Nat} {k u:Value} {i:Int} {xs:List Value} {R:List SA} (h:Heap w0 (A::B::.slc u 3 1 n xs::D::.pts r (.cells #[.string ⟨#[]⟩,.int .i64 0,.slice none 0 0] 171)::R) w):
 Heap w0 (A::B::.slc u 3 1 n xs::D::.pts r (.cells #[k,.int .i64 i,u] 171)::R) (((w.setCell ⟨r,0,none⟩ k).setCell ⟨r,1,none⟩ (.int .i64 i)).setCell ⟨r,2,none⟩ u):=
 ((h.sAt 4 0 k rfl).sAt 4 1 (.int .i64 i) rfl).sAt 4 2 u rfl
theorem Qfs {W:World} {b:Nat} {u:Value} {k:ByteArray} {i x:Int} (r0:W.cell? ⟨b,0,none⟩=some (.string k)) (r1:W.cell? ⟨b,1,none⟩=some (.int .i64 i)) (r2:W.cell? ⟨b,2,none⟩=some u) (tmps:Array Value)
 (h2:tmps[2]?.getD undef=.pointer (some ⟨b,0,none⟩)) (h3:tmps[3]?.getD undef=.int .i64 x):(results Tryz.f229 tmps).run Tryz.prog W=.ok (.tuple #[.agg #[.string k,.int .i64 i,u],.int .i64 x]) W:=by
 simp [results,Tryz.results229,go_sem,r0,r1,r2,h2,h3]
theorem Qti {w0 w:World} {R:List SA} (h:Heap w0 R w) (e:Entry) (he:e.ok):Calls Tryz.prog 229 #[.string e.line] w (QEz w0 R e):=by
 have H:=zk h;have HE:=zk he;have hl:=he.QBq;have hbs:=he.Qqo;have hdp:Fence.wide.depth=none:=rfl;have hwf:∀f,Fence.wide.fn f=True:=fun _=>rfl;have hl2:(e.line.size:Int)≤71:=by omega
 have HR:As (∀W,Calls Tryz.prog 231 #[.string e.line] W fun en w'=>en=.returned (.tuple #[.string (ZN e.kd.str (e.id::e.n)),.bool true])∧Below W.heap.size W w'):=⟨fun W=>Qv4 (ZN e.kd.str (e.id::e.n)) W (by omega)⟩;generalize e.line=ln at *;clear h he hbs;refine cmk Tryz.func229 rfl ?_;simp only [Tryz.ntmps229,List.size_toArray,List.length_cons,List.length_nil,Nat.reduceAdd,Nat.reduceSub,Array.replicate_succ,Array.replicate_zero,List.push_toArray,List.append_toArray,List.nil_append,List.cons_append];go_wp2;go_step3;go_wp2_with (go_at_call 231;refine (HR.1 _).m2 fun w1 hb=>?_;have H1:=zk ((Heap.nAt (n:=w.heap.size) H.1 _ rfl).below hb);clear hb);go_step3;go_wp2_with (go_at_call 232;refine (Ql6 (Heap.nAt (n:=w1.heap.size+1) (Heap.nAt (n:=w1.heap.size) H1.1 _ rfl) _ (by simp)) _).mono ?_;rintro en w2 ⟨b0,b1,b2,rfl,h⟩;have H2:=zk h;clear h);have hsz:(jn (words e)).size≤1000:=by
  have:=HE.1.Qqo;rw [Qpx] at this;exact Nat.le_trans this (by decide)
 have hwd:∀y∈words e,Jp y:=by
  intro y hy;rcases List.mem_cons.1 hy with rfl|hy;exact Qnr _;obtain ⟨m,_,rfl⟩:=List.mem_map.1 hy;exact Qii m
 rw [Qpx] at H2;refine Qgt rfl (enters_of Tryz.func237 (by kernel_rfl) rfl) rfl _ [] (.pts w.heap.size (.cells #[.string {data:= #[]},.int .i64 0,.slice none 0 0] 171)::R) (words e) _ (Qjq w0 b0 b1 b2 _ _ hwd hsz) (Qd9 w1.heap.size (w1.heap.size+1) e) ?h0 [8] ?assign ?body ?done
 case h0=>
  refine Uw (u:=.slice none 0 0) (k:=0) ?_;exact (((((H2.1.frt 3 rfl).frt 4 rfl).nRw 3 1).frt 1 rfl).frt 2 rfl).frt 1 rfl
 case assign=>
  intro l v W K hK;simp [QK] at hK;simp only [QK]
  gi_wp2
  exact hK
 case body=>
  intro l k x v X W hx h;simp only [QK];obtain ⟨hv,u,h2⟩:=Qb6 h;clear h;subst hv;have h:=h2;clear h2;rcases k with _|_|m
  ·obtain rfl:x=e.kd.str:=by simpa [words] using hx.symm
   simp only [if_true,Nat.zero_lt_two] at h;have c0:=h.cB3 0 rfl;obtain ⟨p0,pf⟩:=h.cB1 1 rfl;have hlb:=h.lt 0 rfl;have hne:=h.ne 0 1 (by decide) rfl rfl;have HH:=zk h;clear h
   gi_wp2
   refine Uw (u:=u) ?_;exact (HH.1.sAt 0 0 _ rfl).sAt 1 0 _ rfl
  ·obtain rfl:x=XW e.id:=by simpa [words] using hx.symm
   simp only [Nat.zero_add,Nat.one_ne_zero,if_false,Nat.one_lt_two,if_true] at h;have c0:=h.cB3 0 rfl;obtain ⟨p0,pf⟩:=h.cB1 1 rfl;have HH:=zk h;have hid:As (QU e.id):=⟨HE.1.nums _ (by simp)⟩;clear h c0
   gi_wp2_with (first|(gi_at_call 233;refine (CallsIn.inRound l (callsIn_wide.2 (Qq6 HH.1 e.id hid.1))).mono ?_;rintro en w3 ⟨rfl,h3⟩;have H3:=zk h3;clear h3)|(gi_at_call 177;refine (CallsIn.inRound l (callsIn_wide.2 (Qf1 H3.1 e.id hid.1))).mono ?_;rintro en w4 ⟨rfl,h4⟩;have c0:=h4.cB3 0 rfl;obtain ⟨p0,pf⟩:=h4.cB1 1 rfl;have hlb:=h4.lt 0 rfl;have hne:=h4.ne 0 1 (by decide) rfl rfl;have H4:=zk h4;clear h4))
   refine Uw (u:=u) ?_;exact (H4.1.sAt 0 1 _ rfl).sAt 1 0 _ rfl
  ·obtain ⟨n,hn,rfl⟩:∃n,e.n[m]? =some n∧x=XW n:=by
    have:((e.id::e.n).map XW)[m+1]? =some x:=hx;rw [List.map_cons,List.getElem?_cons_succ,List.getElem?_map] at this;cases hh:e.n[m]? with
    |none=>rw [hh] at this;cases this
    |some n=>rw [hh] at this;exact ⟨n,rfl,(Option.some.inj this).symm⟩
   have e3:¬m+1+1=0:=by omega
   have e4:¬m+1+1<2:=by omega
   have e5:m+1+1-2=m:=by omega
   have hml:m<e.n.length:=(List.getElem?_eq_some_iff.1 hn).1;have hlen:=HE.1.len;have e6:(e.n.take m).length=m:=by rw [List.length_take];omega
   have e7:e.n.take (m+1)=e.n.take m++ [n]:=by rw [List.take_add_one,hn];rfl
   have e8:(e.n.take (m+1)).length=m+1:=by rw [List.length_take];omega
   rw [e5,e6,if_neg e3,if_neg e4] at h;have hS:=h.shp 2 rfl;have HH:=zk h;have hid:As (QU n):=⟨HE.1.nums _ (List.mem_cons_of_mem _ (List.mem_of_getElem? hn))⟩;have HN:As (m+1≤1000):=⟨by omega⟩;have hm2:(2:Int)≤((m+1+1:Nat):Int):=by omega
   have hm3:((m+1+1:Nat):Int)≤1000:=by omega
   have HF:As (∀(g cap:Nat) (W:World),Heap w0 (.pts w1.heap.size (.cells #[.string e.kd.str,e.id,.slice (some ⟨g,0,none⟩) (m+1) cap] 171)::.pts (w1.heap.size+1) (.cells #[.int .i64 (((m+1+1:Nat):Int)+1)] 3)::.slc (.slice (some ⟨g,0,none⟩) (m+1) cap) 3 1 (m+1) ((e.n.take m).map (Value.int .i64)++ [.int .i64 n])::X) W→Heap w0 (Qd9 w1.heap.size (w1.heap.size+1) e (m+1+1+1)::X) W):=⟨by
    intro g cap W h;have f3:¬m+1+1+1=0:=by omega
    have f4:¬m+1+1+1<2:=by omega
    have f5:m+1+1+1-2=m+1:=by omega
    refine Uw (u:=.slice (some ⟨g,0,none⟩) (m+1) cap) ?_;rw [f5,e8,if_neg f3,if_neg f4,e7,List.map_append];exact h⟩
   generalize ((m+1+1:Nat):Int)=kk at *;obtain ⟨i0,hi0,hi1,hi2,hi3⟩:=info_parts info3;have HI:=zk (And.intro hi0 (And.intro hi1 (And.intro hi2 hi3)));clear hi0 hi1 hi2 hi3;obtain ⟨p0,pf⟩:=h.cB1 1 rfl;clear h e3 e4 e5 e6 e7 e8 hml hlen hn hx;rcases hS with ⟨rfl,hm0,hm1⟩|⟨g,cap,rfl,hm0,hm1⟩;all_goals
    clear hm0 hm1
    gi_wp2_with (first|(gi_at_call 233;refine (CallsIn.inRound l (callsIn_wide.2 (Qq6 HH.1 n hid.1))).mono ?_;rintro en w3 ⟨rfl,h3⟩;have H3:=zk h3;clear h3)|(gi_at_call 177;refine (CallsIn.inRound l (callsIn_wide.2 (Qf1 H3.1 n hid.1))).mono ?_;rintro en w4 ⟨rfl,h4⟩;have c0:=h4.cB3 0 rfl;obtain ⟨p0,pf⟩:=h4.cB1 1 rfl;have hlb:=h4.lt 0 rfl;have hne:=h4.ne 0 1 (by decide) rfl rfl;have H4:=zk h4;clear h4)|(gi_at_builtin;refine Dn (H4.1.alloc _) 2 _ 3 1 m _ rfl rfl _ _ 53 rfl i0 _ 8 Tryz.underlying53 HI.1.1 HI.1.2.1 HI.1.2.2.1 HI.1.2.2.2 rfl (by decide) rfl ⟨w4.heap.size,0,none⟩ 1 1 [.int .i64 n] rfl rfl (cell_one_new _ _ _) (by simp [Value.oneCell']) (by have:=HN.1;omega) (by decide) (by omega) ?_;intro g2 cap2 w5 h5 _;clear c0 p0 pf hlb;have c0:=h5.cB3 0 rfl;obtain ⟨p0,pf⟩:=h5.cB1 1 rfl;have hlb:=h5.lt 0 rfl;have H5:=zk h5;clear h5))
    exact HF.1 g2 cap2 _ ((H5.1.sAt 0 2 _ rfl).sAt 1 0 _ rfl)
 case done=>
  intro D W h;have h:Heap w0 (Qd9 w1.heap.size (w1.heap.size+1) e (e.n.length+2)::.pts D (.deferred (some []))::.pts w.heap.size (.cells #[.string {data:= #[]},.int .i64 0,.slice none 0 0] 171)::R) W:=by
   have e1:(words e).length=e.n.length+2:=by simp [words]
   rw [e1] at h;exact h
  obtain ⟨-,u,h2⟩:=Qb6 (x:=ByteArray.empty) (Heap.QZ rfl h.ZM);clear h;have e2:e.n.length+2-2=e.n.length:=by omega
  have e3:¬e.n.length+2=0:=by omega
  have e4:¬e.n.length+2<2:=by omega
  rw [e2,List.take_length,if_neg e3,if_neg e4] at h2;have c0:=h2.cB3 0 rfl;obtain ⟨p0,pf⟩:=h2.cB1 1 rfl;have q0:=h2.cB3 4 rfl;have hlb:=h2.lt 4 rfl;have hDn:=h2.ne 3 4 (by decide) rfl rfl;have hK:=h2.at 3 rfl;have H3:=zk h2;have HM:As (Calls Tryz.prog 176 #[.agg #[.string e.kd.str,e.id,u]] W fun en w'=>en=.returned (.bool true)∧Below W.heap.size W w'):=⟨Qqc e.kd e.id u e.n W (h2.row 2 rfl) HE.1⟩;have hlen:(2:Int)≤((e.n.length+2:Nat):Int):=by omega
  have hS:=h2.shp 2 rfl;clear h2;generalize ((e.n.length+2:Nat):Int)=kk at *;rcases hS with ⟨rfl,hm0,hm1⟩|⟨g,cap,rfl,hm0,hm1⟩;all_goals
   clear hm0 hm1;go_wp2_with (go_at_call 176;refine HM.1.m2 fun w3 hb=>?_;have h3:=H3.1.below hb;clear c0 p0 pf q0 hlb hK;have c0:=h3.cB3 0 rfl;obtain ⟨p0,pf⟩:=h3.cB1 1 rfl;have q0:=h3.cB3 4 rfl;have hlb:=h3.lt 4 rfl;have hK:=h3.at 3 rfl;have H4:=zk h3;clear h3 hb);rw [Exit.noGoto_ret];have HZ:=Qsa (k:=.string e.kd.str) (i:=e.id) H4.1;refine ⟨by simp,.inl ⟨_,_,rfl,run_takeDeferred (HZ.at 3 rfl),?_⟩⟩;have HY:=HZ.putAt 3 rfl (.deferred none);obtain ⟨r0,r1,r2,rf⟩:=HY.cB3 4 rfl;exact ⟨_,Qfs r0 r1 r2 _ rfl rfl,_,rfl,((HY.drop.drop.frt 1 rfl).drop.frt 1 rfl).drop⟩
theorem Qtl (t:ByteArray) (w:World) (h:Qnf t):Calls Tryz.prog 231 #[.string t] w fun e w'=>e=.returned (.tuple #[.string ⟨#[]⟩,.bool false])∧Below w.heap.size w w':=by
 by_cases h3:t.size<3;exact Qou t w h3;exact QAe t w (by omega) (Nat.le_trans h.1 (by decide)) (h.2 (by omega))
theorem Qx9 {w0 w:World} {R:List SA} (h:Heap w0 R w) (t:ByteArray) (ht:Qnf t):
 CH 229 #[.string t] w (.tuple #[.agg #[.string ⟨#[]⟩,.int .i64 0,.slice none 0 0],.int .i64 3]) w0 R:=by
 have H:=zk h;have hl2:(t.size:Int)≤80:=by have:=ht.1;omega
 have HR:As (∀W,Calls Tryz.prog 231 #[.string t] W fun e w'=>e=.returned (.tuple #[.string ⟨#[]⟩,.bool false])∧Below W.heap.size W w'):=⟨fun W=>Qtl t W ht⟩;clear h ht;refine cmk Tryz.func229 rfl ?_;simp only [Tryz.ntmps229,List.size_toArray,List.length_cons,List.length_nil,Nat.reduceAdd,Nat.reduceSub,Array.replicate_succ,Array.replicate_zero,List.push_toArray,List.append_toArray,List.nil_append,List.cons_append];go_wp2;go_step3;go_wp2_with (go_at_call 231;refine (HR.1 _).m2 fun w1 hb=>?_;have H1:=zk ((Heap.nAt (n:=w.heap.size) H.1 _ rfl).below hb);clear hb;have hlb:=H1.1.lt 0 rfl;have q0:=H1.1.cB3 0 rfl);rw [Exit.noGoto_ret];have HZ:=((H1.1.sAt 0 0 (.string ⟨#[]⟩) rfl).sAt 0 1 (.int .i64 0) rfl).sAt 0 2 (.slice none 0 0) rfl;obtain ⟨r0,r1,r2,rf⟩:=HZ.cB3 0 rfl;exact ⟨_,Qfs r0 r1 r2 _ rfl rfl,rfl,HZ.drop⟩
end Go.Proofs.YtlnghlamnehfjaaGreatDoor.S
namespace Go.Proofs.YtlnghlamnehfjaaGreatDoor.S
open Go.RowKit Go.Maps
def Jrn.add (j:Jrn) (e:Entry):Int×Jrn:=if j.room≤(j.es.length:Int) then (5,j) else (0,{j with es:=j.es++ [e]})
theorem Qxm:(Tryz.prog.info? 9).map (fun i=>(i.zero,i.size,i.bytes))=some (some (.string ⟨#[]⟩),1,16):=by kernel_rfl
theorem Qsp {w:World} {v:Value} {T:TypeId} {n:Nat} {xs:List Value} (h:w.ownsRow 0 T 1 v n xs):v=.slice none 0 0∨∃g cap,v=.slice (some ⟨g,0,none⟩) n cap:=by
 rcases h.2 with ⟨h,_⟩|⟨g,cap,cur,h,_⟩;exact .inl h;exact .inr ⟨g,cap,h⟩
theorem Heap.Qb0 {w0 w:World} {b:Nat} {j:Jrn} {R:List SA} {v:Value} {n:Nat} (hp:j.ok) (hn:n=j.es.length) (h:Heap w0 (.pts b (.cells #[j.room,v,.int .i64 j.sure,.bool j.down] 144)::.slc v 9 1 n (strs (j.es.map Entry.line))::R) w):Heap w0 (.jrn b j::R) w:=by
 subst hn;refine Heap.Vp hp (ls:=j.es.map Entry.line) (v:=v) ⟨[],by simp,fun _=>rfl,by simp,by simp⟩ ?_;rw [List.length_map];exact h
theorem Qbr {w0 w:World} {b:Nat} {j:Jrn} {R:List SA} (h:Heap w0 (.jrn b j::R) w) (hd:j.down=false) (e:Entry) (he:e.ok) (v:Value) (hr:w.ownsRow 0 3 1 v e.n.length (e.n.map (Value.int .i64))):
 CH 137 #[b,.agg #[.string e.kd.str,e.id,v]] w (.int .i64 (j.add e).1) w0 (.jrn b (j.add e).2::R):=by
 have HH:=zk h;have HT:As (∀W,Below w.heap.size w W→Calls Tryz.prog 160 #[.agg #[.string e.kd.str,e.id,v]] W fun en w'=>en=.returned (.tuple #[.string e.line,.int .i64 0])∧Below W.heap.size W w'):=⟨fun W hb=>QAu e.kd e.id v e.n W (h.below hb).tab (QR hr hb) he⟩;have hS:=Qsp hr;obtain ⟨hp,ls,s,hl,h⟩:=h.Yp;obtain ⟨c0,c1,c2,c3,cf⟩:=h.Zh 0 rfl;rw [hd] at c3;have hll:ls=j.es.map Entry.line:=Jrn.Qej hl hd;subst hll;have hlen:(j.es.map Entry.line).length=j.es.length:=by simp
 have H:=zk h;have hss:=h.shp 1 rfl;have hlb0:=h.lt 0 rfl;obtain ⟨i0,hi0,hi1,hi2,hi3⟩:=info_parts Qxm;have HI:=zk (And.intro hi0 (And.intro hi1 (And.intro hi2 hi3)));have HP:=zk hp;have hr1:j.room≤4096:=hp.r1;have hr0:(1:Int)≤j.room:=hp.r0;have HE:=zk he;have HB:As (∀o,Below w.heap.size w (w.alloc o)):=⟨fun o=>(Below.refl _ _).alloc (Nat.le_refl _) _⟩;clear hi0 hi1 hi2 hi3 hp hr hl he;rw [hlen] at *;have hn0:(0:Int)≤(j.es.length:Int):=by omega
 have HD:=zk hd;clear hd;by_cases hroom:j.room≤(j.es.length:Int)
 ·have HO:=zk hroom;have hle:(j.es.length:Int)≤j.room:=HP.1.len;rcases hss with ⟨rfl,hz,_⟩|⟨g,cap,rfl,hz,_⟩;have:(j.es.length:Int)=0:=by omega
  omega
  ·clear h hz;rcases hS with rfl|⟨g',cap',rfl⟩;all_goals
    go_enter Tryz.func137,Tryz.ntmps137;go_wp2_with (go_at_call 160;refine (HT.1 _ (HB.1 _)).m2 fun w1 hb=>?_;have h1:=H.1.below ((HB.1 _).trans (hb.mono (by simp)));clear hb c0 c1 c2 c3 cf;obtain ⟨c0,c1,c2,c3,cf⟩:=h1.Zh 0 rfl;rw [HD.1] at c3;have H1:=zk h1;clear h1);go_quiet (fail);go_wp2;go_ret;refine ⟨by simp [Jrn.add,HO.1],?_⟩;rw [show (j.add e).2=j by simp [Jrn.add,HO.1]];exact Heap.Qb0 HP.1 rfl (H1.1.drewN _)
 ·clear h;have hlt:(j.es.length:Int)<j.room:=by omega
  rcases hss with ⟨rfl,hz,_⟩|⟨g,cap,rfl,hz,_⟩;all_goals
   clear hz;rcases hS with rfl|⟨g',cap',rfl⟩;all_goals
    go_enter Tryz.func137,Tryz.ntmps137;go_wp2_with (go_at_call 160;refine (HT.1 _ (HB.1 _)).m2 fun w1 hb=>?_;have h1:=H.1.below ((HB.1 _).trans (hb.mono (by simp)));clear hb c0 c1 c2 c3 cf;obtain ⟨c0,c1,c2,c3,cf⟩:=h1.Zh 0 rfl;rw [HD.1] at c3;have hlb:=h1.lt 0 rfl;have H1:=zk h1;clear h1);go_quiet (fail);go_wp2_with (at_builtin;refine wla ((H1.1.drewN nq).alloc _) 1 _ 9 1 j.es.length _ rfl rfl _ _ 142 rfl i0 _ 16 Tryz.underlying142 HI.1.1 HI.1.2.1 HI.1.2.2.1 HI.1.2.2.2 rfl (by decide) rfl ⟨w1.heap.size,0,none⟩ 1 1 [.string e.line] rfl rfl (cell_one_new _ _ _) (by simp [Value.oneCell']) (by omega) (by decide) (by omega) ?_;intro g2 cap2 w5 h5 _;clear c0 c1 c2 c3 cf hlb;obtain ⟨c0,c1,c2,c3,cf⟩:=h5.Zh 0 rfl;have hlb:=h5.lt 0 rfl;have H5:=zk h5;clear h5);go_ret;have hn:¬j.room≤(j.es.length:Int):=by omega
    refine ⟨by simp [Jrn.add,hn],?_⟩;rw [show (j.add e).2= {j with es:=j.es++ [e]} by simp [Jrn.add,hn]];have hp:=HP.1;refine Heap.Qb0 (n:=j.es.length+1) (v:=.slice (some ⟨g2,0,none⟩) (j.es.length+1) cap2) ⟨hp.r0,hp.r1,fun x hx=>(List.mem_append.1 hx).elim (hp.es x) (fun h=>by rw [List.mem_singleton.1 h];exact HE.1),by simp;omega,by simp;have:=hp.sure;omega⟩ (by simp) ?_;have:=H5.1.sAt 0 1 (.slice (some ⟨g2,0,none⟩) (j.es.length+1) cap2) rfl;simp only [strs,List.map_append,List.map_cons,List.map_nil] at this⊢;exact this
end Go.Proofs.YtlnghlamnehfjaaGreatDoor.S
namespace Go.Proofs.YtlnghlamnehfjaaGreatDoor.S
open Go.RowKit Go.Maps
attribute [local go_sem] Oper.semAt_some
section
variable {w0 w:World} {A B C D:SA} {l:List SA}
theorem Heap.swap (h:Heap w0 (A::B::l) w):Heap w0 (B::A::l) w:=h.frt 1 rfl
theorem Heap.rmA (h:Heap w0 l w) (i:Nat) (e:l[i]? =some A):Heap w0 (l.eraseIdx i) w:=(h.frt i e).drop
theorem Heap.third (h:Heap w0 (A::B::C::l) w):Heap w0 (C::A::B::l) w:=h.frt 2 rfl
theorem Heap.QCe (h:Heap w0 (A::B::C::l) w):Heap w0 (B::C::A::l) w:=(h.frt 2 rfl).frt 2 rfl
theorem Heap.fourth (h:Heap w0 (A::B::C::D::l) w):Heap w0 (D::A::B::C::l) w:=h.frt 3 rfl
end
theorem Qs1 {w0 w:World} {R:List SA} (h:Heap w0 R w) (i:Nat) (v:Value) (n:Nat) (xs:List Value) (e:R[i]? =some (.slc v 9 1 n xs)) (hx:∀u∈xs,u.oneCell'=true) (hn:n≤1000000):
 Calls Tryz.prog 230 #[v] w fun e w'=>∃v',e=.returned v'∧Heap w0 (.slc v' 9 1 n xs::R) w':=by
 have hlen:=(h.row i e).1;rcases h.shp i e with ⟨rfl,rfl,rfl⟩|⟨g,cap,rfl,h1,h2,hc⟩;refine (Tryz.Tn 0 0 w).mono ?_;rintro e w' ⟨rfl,rfl⟩;exact ⟨_,rfl,h.nRw 9 1⟩;obtain ⟨i0,hi0,hi1,hi2,hi3⟩:=info_parts Qxm;refine (Tryz.DI i0 _ 1 16 hi0 hi1 hi2 hi3 rfl (by decide) (fun _=>by kernel_rfl) g 0 n cap xs w hlen (by unfold maxLen;omega) (by omega) (fun j u hu=>by rw [Nat.zero_add];exact hc j u hu) hx).mono ?_;rintro e w' ⟨v',rfl,hr,_,hb⟩;exact ⟨v',rfl,h.newRow hb hr⟩
theorem Qvk (ls:List ByteArray):∀u∈strs ls,u.oneCell'=true:=by
 intro u hu;obtain ⟨s,_,rfl⟩:=List.mem_map.1 hu;rfl
theorem Jrn.Fp {j:Jrn} {ls:List ByteArray} (hp:j.ok) (h:j.lines ls):ls.length≤4097:=by
 obtain ⟨tl,rfl,_,h1,_⟩:=h;have:=hp.len;have:=hp.r1;simp;omega
theorem Qyc {w0 w:World} {b:Nat} {j:Jrn} {R:List SA} (h:Heap w0 (.jrn b j::R) w):
 Calls Tryz.prog 228 #[b] w fun e w'=>∃ls v,j.lines ls∧e=.returned v∧Heap w0 (.slc v 9 1 ls.length (strs ls)::.jrn b j::R) w':=by
 obtain ⟨hp,ls,v,hl,h⟩:=h.Yp;obtain ⟨c0,c1,c2,c3,cf⟩:=h.Zh 0 rfl;have HC:=zk (Qs1 h 1 v ls.length (strs ls) rfl (Qvk ls) (Nat.le_trans (Jrn.Fp hp hl) (by decide)));have HP:=zk (And.intro hp hl);clear h hp hl c0 c2 c3 cf;go_enter Tryz.func228,Tryz.ntmps228;go_wp2_with (go_at_call 230;refine HC.1.mono ?_;rintro e w' ⟨v',rfl,h'⟩;have H':=zk h';clear h');go_ret;exact ⟨ls,v',HP.1.2,rfl,(Heap.Vp HP.1.1 HP.1.2 H'.1.QCe).swap⟩
theorem Qci {ls:List ByteArray} {k:Nat} {s:ByteArray} (h:ls[k]? =some s):(strs ls)[k]? =some (.string s):=by simp [strs,h]
def Qwt (e:Entry) (v:Value):SA:=.ex fun u=>.when (v=.agg #[.string e.kd.str,e.id,u]) (.slc u 3 1 e.n.length (e.n.map (Value.int .i64)))
theorem Qyh {w0 w:World} {R:List SA} {e:Entry} {u:Value} (h:Heap w0 (.slc u 3 1 e.n.length (e.n.map (Value.int .i64))::R) w):
 Heap w0 (Qwt e (.agg #[.string e.kd.str,e.id,u])::R) (w.alloc (.cells #[.string e.kd.str,e.id,u] 171)):=
 (Heap.Yr (f:=fun u'=>.when (Value.agg #[.string e.kd.str,e.id,u]=.agg #[.string e.kd.str,e.id,u']) (.slc u' 3 1 e.n.length (e.n.map (Value.int .i64)))) u (Heap.QZ rfl h)).alloc _
theorem Uh (w0:World) (bx b:Nat) (j:Jrn):Gives w0 227 #[bx] [.pts bx (.cells #[b] 87),.jrn b j] [.pts bx (.cells #[b] 87),.jrn b j] j.es Qwt:=by
 intro n l J R W hY h;have HY:=zk hY;obtain ⟨d0,df0⟩:=h.cB1 1 rfl;have HL:=zk (Qyc (h.frt 2 rfl));clear h hY;have hdp:Fence.wide.depth=none:=rfl;have hwf:∀f,Fence.wide.fn f=True:=fun _=>rfl;refine callsIn_of_wp Tryz.func227 rfl trivial ?_ rfl;simp only [Tryz.ntmps227,List.size_toArray,List.length_cons,List.length_nil,Nat.reduceAdd,Nat.reduceSub,Array.replicate_succ,Array.replicate_zero,List.push_toArray,List.append_toArray,List.nil_append,List.cons_append]
 gi_wp2_with (gi_at_call 228;refine (callsIn_wide.2 HL.1).mono ?_;rintro e w1 ⟨ls,v',hl,rfl,h'⟩;rcases h'.shp 0 rfl with ⟨rfl,hz, -⟩|⟨g,cap,rfl, -, -, -⟩)
 ·have he:j.es= []:=by
   obtain ⟨tl,e1,_⟩:=hl;rw [e1] at hz;simp at hz;exact hz.1
  gi_wp2
  gi_loopw [4,6,10] (fun p q i wr=>i=.int .i64 0∧As (Heap w0 (J 0::.pts bx (.cells #[b] 87)::.jrn b j::R) wr)) (fun p q i wr=>0)
  case atStart=>exact ⟨rfl,⟨h'.drop.QCe⟩⟩
  case round=>
   obtain ⟨rfl,H1⟩:=hrel
   gi_wp2
   go_end0;refine ⟨⟨_,rfl⟩,?_⟩;rw [he];exact H1.1
 ·have HLS:=zk hl;have HJ:As (Heap w0 (J 0::.slc (.slice (some ⟨g,0,none⟩) ls.length cap) 9 1 ls.length (strs ls)::.jrn b j::.pts bx (.cells #[b] 87)::R) w1):=⟨h'.third⟩;have HN:As (ls.length≤4097):=⟨Jrn.Fp h'.swap.Yp.1 hl⟩;have HK:As (∀e∈j.es,e.ok):=⟨h'.swap.Yp.1.es⟩;clear h' hl d0 df0
  gi_wp2
  gi_loopw [4,6,10] (fun p q i wr=>∃k:Nat,i=.int .i64 k∧As (k≤j.es.length)∧As (Heap w0 (J k::.slc (.slice (some ⟨g,0,none⟩) ls.length cap) 9 1 ls.length (strs ls)::.jrn b j::.pts bx (.cells #[b] 87)::R) wr)) (fun p q i wr=>ls.length-(intOf i).toNat)
  case atStart=>exact ⟨0,rfl,⟨Nat.zero_le _⟩,HJ⟩
  case round=>
   obtain ⟨k,rfl,hk,H1⟩:=hrel;have hlen:j.es.length≤ls.length:=by
    obtain ⟨tl,e1,_⟩:=HLS.1;rw [e1];simp
   by_cases hlt:k<ls.length
   ·have hk0:(k:Int)<(ls.length:Int):=by omega
    have hk1:(0:Int)≤(k:Int):=by omega
    have hk2:(ls.length:Int)≤4097:=by have:=HN.1;omega
    by_cases hes:k<j.es.length
    ·have he:j.es[k]? =some j.es[k]:=List.getElem?_eq_getElem hes;have hls:ls[k]? =some (j.es[k]).line:=by
      obtain ⟨tl,e1,_⟩:=HLS.1;rw [e1,List.getElem?_append_left (by simpa using hes),List.getElem?_map,he];rfl
     have hek:As ((j.es[k]).ok):=⟨HK.1 _ (List.getElem_mem _)⟩;have HES:=zk he;generalize j.es[k]=e at *;have hc:wr.cell? ⟨g,k,none⟩=some (.string e.line):=by
      rcases H1.1.shp 1 rfl with ⟨hv,_⟩|⟨g',cap',hv,_,_,hcs⟩;cases hv;cases hv;exact hcs k _ (Qci hls)
     clear he hls hlen
     gi_wp2_with (gi_at_call 229;refine (callsIn_wide.2 (Qti H1.1 e hek.1)).mono ?_;rintro en w3 ⟨u,rfl,h3⟩;(rcases h3.shp 0 rfl with ⟨rfl,hz, -⟩|⟨g',cap',rfl, -, -, -⟩)<;>(obtain ⟨fn,tmps,assign,body,hy,hR⟩:=HY.1 k e HES.1 _ _ _ (Qyh h3);have HR:=zk hR;clear hR))
     all_goals
      refine HR.1.mono ?_;rintro en W4 ⟨rfl,h4⟩;have H4:=zk h4;clear h4
      gi_wp2
      refine ⟨⟨k+1,rfl,⟨by omega⟩,H4⟩,?_⟩;simp [intOf];omega
    ·have hke:k=j.es.length:=by have:=hk.1;omega
     obtain ⟨t,ht,hls⟩:∃t,Qnf t∧ls[k]? =some t:=by
      obtain ⟨tl,e1,_,_,hT⟩:=HLS.1;have hl2:(j.es.map Entry.line).length=k:=by simp [hke]
      have hg:ls[k]? =tl[0]?:=by rw [e1,List.getElem?_append_right (by omega),hl2,Nat.sub_self]
      cases htl:tl with
      |nil=>rw [htl] at e1;rw [e1] at hlt;simp at hlt;omega
      |cons t r=>exact ⟨t,hT t (by rw [htl];simp),by rw [hg,htl];rfl⟩
     have hc:wr.cell? ⟨g,k,none⟩=some (.string t):=by
      rcases H1.1.shp 1 rfl with ⟨hv,_⟩|⟨g',cap',hv,_,_,hcs⟩;cases hv;cases hv;exact hcs k _ (Qci hls)
     have HT:=zk ht;have HKE:=zk hke;clear hlen hes ht hls hke
     gi_wp2_with (gi_at_call 229;refine (callsIn_wide.2 (Qx9 H1.1 t HT.1)).mono ?_;rintro en w3 ⟨rfl,h3⟩;have H3:=zk h3;clear h3)
     refine bodyPost_ret (results_none rfl _ _ _) rfl ⟨⟨_,rfl⟩,?_⟩;rw [←HKE.1];exact (H3.1.swap.drop.third.swap).alloc _
   ·have hk0:(k:Int)=(ls.length:Int):=by have:=hk.1;omega
    have hke:k=j.es.length:=by have:=hk.1;omega
    have HKE:=zk hke;clear hke hlen
    gi_wp2
    go_end0;refine ⟨⟨_,rfl⟩,?_⟩;rw [←HKE.1];exact H1.1.swap.drop.third.swap
theorem Qdy {w0 w:World} {R:List SA} (h:Heap w0 R w) (b:Nat):Calls Tryz.prog 221 #[b] w fun e w'=>∃bx,e=.returned (.func (.func 227) #[] #[.pointer (some ⟨bx,0,none⟩)])∧Heap w0 (.pts bx (.cells #[b] 87)::R) w':=by
 have H:=zk h;clear h;go_enter Tryz.func221,Tryz.ntmps221;go_wp2;go_ret;exact ⟨_,rfl,Heap.nAt (n:=w.heap.size) H.1 _ rfl⟩
end Go.Proofs.YtlnghlamnehfjaaGreatDoor.S
namespace Go.Proofs.YtlnghlamnehfjaaGreatDoor.S
open Go.RowKit Go.Maps
theorem QCa {P:Prop} (h:P:=by
 go_enter Tryz.func217,Tryz.ntmps217;go_wp2;go_quiet (fail);go_wp2;refine bodyPost_ret (results_none rfl _ _ _) rfl ⟨⟨_,rfl⟩,?_⟩;have h2:=H1.1.drewN nq;exact HF.1 _ _ h2):P:=h
theorem Qre {g n cap:Nat} (h:n≤cap) (m:Nat) (W:World):(Instr.slice 142 (.slice (some ⟨g,0,none⟩) m cap) none (some (.int .i64 (n:Int))) none).run Tryz.prog W=.ok (.slice (some ⟨g,0,none⟩) n cap) W:=by
 have he:Tryz.prog.elem 142=9:=by kernel_rfl
 have ht:Tryz.prog.underlying 142=some (.slice (Tryz.prog.elem 142)):=by rw [he];exact Tryz.underlying142
 have hz:(Go.sizeOf 9).run Tryz.prog W=.ok 1 W:=by kernel_rfl
 rw [run_slice_h W 142 _ _ _ ht .i64 _ (by omega) (by omega),he,hz];simp only [Result.andThen,sliced,Int.toNat_natCast,Nat.sub_zero,Nat.zero_mul,Option.map_some];congr 1;split<;>simp [Addr.add]
theorem Heap.Qww {w0 w:World} {l:List SA} {g n cap size:Nat} {T:TypeId} {xs:List Value} (h:Heap w0 (.slc (.slice (some ⟨g,0,none⟩) n cap) T size n xs::l) w) (m:Nat) (hm:m≤n):Heap w0 (.slc (.slice (some ⟨g,0,none⟩) m cap) T size m (xs.take (m*size))::l) w:=
 h.mono (fun F hF=>by
  obtain ⟨h1,h2,h3⟩:=hF;refine ⟨h1,?_,?_⟩;rw [List.length_take,h2];exact Nat.min_eq_left (Nat.mul_le_mul_right _ hm);rcases h3 with ⟨h3,_⟩|⟨g',cap',cur,e,hb,hg,hn,hc,hs,hx⟩;cases h3;cases e;refine .inr ⟨g,cap,cur,rfl,hb,hg,Nat.le_trans hm hn,hc,hs,?_⟩;rw [←hx,List.take_take,Nat.min_eq_left (Nat.mul_le_mul_right _ hm)])
theorem Heap.neS {w0 w:World} {l:List SA} {b g n cap size m:Nat} {o:Obj} {T:TypeId} {xs:List Value} (h:Heap w0 (.pts b o::.slc (.slice (some ⟨g,0,none⟩) n cap) T size m xs::l) w):b≠g:=by
 obtain ⟨hb,F,hF,F1,F2,h1,hd,ha,G1,G2,g1,g2,hc,_⟩:=h;rintro rfl;exact hd b ((ha.1 b).2 rfl) ((g1 b).2 (.inl ((hc.1 b).2 rfl)))
def Qq8 (s:ByteArray):Prop:=∀c∈s.data.toList,c≠124
theorem DL (a b:ByteArray):(a++b).data.toList=a.data.toList++b.data.toList:=by rw [ByteArray.data_append,Array.toList_append]
theorem Qrq (t:ByteArray):(ZO t).data.toList=t.data.toList++124::(Vj t).data.toList:=by
 unfold ZO;rw [DL,DL,List.append_assoc];rfl
theorem ext_list (a:ByteArray) (n:Nat):(a.extract 0 n).data.toList=a.data.toList.take n:=by
 rw [ByteArray.data_extract,Array.toList_extract,List.extract_eq_take_drop,List.drop_zero,Nat.sub_zero]
theorem Qph (t:ByteArray) (hb:Qq8 t) (ht:t.size≤68) (n:Nat) (hn:n<(ZO t).size):Qnf ((ZO t).extract 0 n):=by
 have hsz:=UU t;have hps:((ZO t).extract 0 n).size=n:=by rw [ByteArray.size_extract];omega
 refine ⟨by omega,fun h3 he=>?_⟩;rw [hps] at h3 he;have h1:=congrArg (fun a:ByteArray=>a.data.toList[n-3]?) he;simp only [Qrq,ext_list] at h1;have hl:(List.take (n-3) (List.take n (t.data.toList++124::(Vj t).data.toList))).length=n-3:=by
  rw [List.length_take,List.length_take,List.length_append,sz];omega
 rw [List.getElem?_append_right (by omega),hl,Nat.sub_self,List.getElem?_cons_zero,List.getElem?_take,if_pos (by omega),List.getElem?_append_left (by rw [sz];omega)] at h1;exact hb 124 (List.mem_of_getElem? h1.symm) rfl
theorem Qw8 (k:Kd):Qq8 k.str:=by
 have:∀c∈k.str.data.toList,c≠124:=by cases k<;>decide
 exact this
theorem Qno (s:ByteArray) (hs:Qq8 s) (l:List Int):Qq8 (ZN s l):=by
 induction l generalizing s with
 |nil=>exact hs
 |cons n l ih=>
  refine ih (s++(⟨#[32]⟩++XW n)) ?_;intro c hc;rw [DL,DL] at hc;rcases List.mem_append.1 hc with hc|hc;exact hs c hc;rcases List.mem_append.1 hc with hc|hc;rw [show c=32 from List.mem_singleton.1 hc];decide;rw [KE] at hc;rcases Qpp n c hc with h|h;rintro rfl;simp at h;rintro rfl;simp at h
theorem Entry.ok.QQ {e:Entry} (h:e.ok) (n:Nat) (hn:n<e.line.size):Qnf (e.line.extract 0 n):=
 Qph _ (Qno _ (Qw8 _) _) h.Qqo n hn
theorem Quw (s:ByteArray) (n:Int) (w:World) (h1:1≤s.size) (hs:s.size≤1000):Calls Tryz.prog 222 #[.string s,.int .i64 n] w fun e w'=>∃k,k<s.size∧e=.returned (.string (s.extract 0 k))∧w=w':=by
 have hs1:(1:Int)≤(s.size:Int):=by omega
 have hs2:(s.size:Int)≤1000:=by omega
 have hm:(max 0 (min n ((s.size:Int)-1))).toNat<s.size:=by omega
 have hm0:(0:Int)≤max 0 (min n ((s.size:Int)-1)):=by omega
 have hm1:max 0 (min n ((s.size:Int)-1))≤(s.size:Int):=by omega
 have HM:=zk hm;clear hm;go_enter Tryz.func222,Tryz.ntmps222;go_wp2;all_goals
  go_ret;exact ⟨_,HM.1,rfl,rfl⟩
def Jrn.keep (j:Jrn) (stay:Int):Int:=j.sure+max 0 (min stay ((j.es.length:Int)-j.sure))
def Jrn.Qj (j:Jrn) (stay:Int):Jrn:= {j with es:=j.es.take (j.keep stay).toNat,down:=true}
theorem Jrn.ok.Qj {j:Jrn} (h:j.ok) (stay:Int):(j.Qj stay).ok:=by
 have h1:=h.sure;have h2:=h.len;refine ⟨h.r0,h.r1,fun e he=>h.es e (List.mem_of_mem_take he),?_,?_⟩
 show ((j.es.take _).length:Int)≤j.room
 rw [List.length_take];omega
 show j.sure≤(j.es.take _).length
 rw [List.length_take];unfold Jrn.keep;omega
theorem Qiz (W:World) (p:Addr) (y x:Value) (t:TypeId) (n:Nat) (hn:n=W.heap.size):∀j u,[x][j]? =some u→((W.setCell p y).alloc (.cells #[x] t)).cell? ((⟨n,0,none⟩:Addr).add j)=some u:=by
 subst hn;have h:=cell_one_new (W.setCell p y) x t;rw [show (W.setCell p y).heap.size=W.heap.size by simp [World.setCell]] at h;exact h
theorem JN {w0 w:World} {b:Nat} {j:Jrn} {R:List SA} (h:Heap w0 (.jrn b j::R) w) (hd:j.down=false) (stay QQ:Int):
 Calls Tryz.prog 217 #[b,stay,QQ] w fun e w'=>(∃v,e=.returned v)∧Heap w0 (.jrn b (j.Qj stay)::R) w':=by
 obtain ⟨hp,ls,s,hl,h⟩:=h.Yp;have hll:ls=j.es.map Entry.line:=Jrn.Qej hl hd;subst hll;have hlen:(j.es.map Entry.line).length=j.es.length:=by simp
 rw [hd] at h;have H1:=zk (h.sAt 0 3 (.bool true) rfl);have hss:=h.shp 1 rfl;have hr1:j.room≤4096:=hp.r1;have hle:=hp.len;have hsu:(j.sure:Int)≤(j.es.length:Int):=by have:=hp.sure;omega
 have hs0:(0:Int)≤(j.sure:Int):=by omega
 have hk0:(j.sure:Int)≤j.keep stay:=by unfold Jrn.keep;omega
 have hk1:j.keep stay≤(j.es.length:Int):=by unfold Jrn.keep;omega
 obtain ⟨K,hKK⟩:∃K:Nat,(j.keep stay).toNat=K:=⟨_,rfl⟩;have hK:(j.sure:Int)+max 0 (min stay ((j.es.length:Int)-j.sure))=(K:Int):=by
  have:j.keep stay=(j.sure:Int)+max 0 (min stay ((j.es.length:Int)-j.sure)):=rfl;omega
 have hkl:K≤j.es.length:=by omega
 have HC:As (j.Qj stay= {j with es:=j.es.take K,down:=true}):=⟨by unfold Jrn.Qj;rw [hKK]⟩;have HP:=zk (hp.Qj stay);rw [HC.1] at HP;have HES:As (∀e∈j.es,e.ok):=⟨hp.es⟩;have hlb:=h.lt 0 rfl;obtain ⟨c0,c1,c2,c3,cf⟩:=h.Zh 0 rfl;have hst:∀i,(hi:i<j.es.length)→(strs (j.es.map Entry.line))[i]? =some (.string (j.es[i]).line):=by
  intro i hi;apply Qci;rw [List.getElem?_map,List.getElem?_eq_getElem hi];rfl
 rw [hlen] at *;clear hp hl hlen hKK;by_cases hlt:K<j.es.length
 ·rcases hss with ⟨rfl,hz, -⟩|⟨g,cap,rfl,hcp, -,hcs⟩;exfalso;omega
  ·have hc:=hcs K _ (hst K hlt);have hsl:=fun W2=>Qre (g:=g) (Nat.le_trans hkl hcp) j.es.length W2;have HEK:As ((j.es[K]).ok):=⟨HES.1 _ (List.getElem_mem _)⟩;generalize j.es[K]=e at *;have hq1:(K:Int)<(j.es.length:Int):=by omega
   have hq0:(0:Int)≤(K:Int):=by omega
   have HPC:As (∀W,Calls Tryz.prog 222 #[.string e.line,QQ] W fun en w'=>∃k,k<e.line.size∧en=.returned (.string (e.line.extract 0 k))∧W=w'):=⟨fun W=>Quw e.line QQ W (by have:e.line.size=_:=UU _;omega) (Nat.le_trans HEK.1.QBq (by decide))⟩;have hgb:=World.block_lt_of_cell? w _ hc;have hne:b≠g:=h.neS;clear h hk0 hk1 hcp hcs hst;obtain ⟨i0,hi0,hi1,hi2,hi3⟩:=info_parts Qxm;have HI:=zk (And.intro hi0 (And.intro hi1 (And.intro hi2 hi3)));have hK4:As (K+1≤4097):=⟨by omega⟩;have HF:As (∀v W tl,tl.length≤1→(∀t∈tl,Qnf t)→Heap w0 (.pts b (.cells #[j.room,v,.int .i64 j.sure,.bool true] 144)::.slc v 9 1 (K+tl.length) (strs ((j.es.take K).map Entry.line++tl))::R) W→Heap w0 (.jrn b (j.Qj stay)::R) W):=⟨by
    intro v W tl h1 h2 h;rw [HC.1];refine Heap.Vp HP.1 (ls:=(j.es.take K).map Entry.line++tl) (v:=v) ⟨tl,rfl,(fun h=>by cases h),h1,h2⟩ ?_;rw [List.length_append,List.length_map,List.length_take,Nat.min_eq_left hkl];exact h⟩
   have hE:(strs (j.es.map Entry.line)).take (K*1)=strs ((j.es.take K).map Entry.line):=by simp [strs,List.map_take]
   have H1c:=(H1.1.swap.Qww K hkl).swap;rw [hE] at H1c;have H2:=zk H1c;clear H1c hE hi0 hi1 hi2 hi3;go_enter Tryz.func217,Tryz.ntmps217;go_wp2;go_quiet (fail);have H2q:=H2.1.drewN nq;have hcq:((w.setCell ⟨b,3,none⟩ (.bool true)).drewN nq).cell? ⟨g,K,none⟩=some (.string e.line):=by
    rw [World.cell?_drewN,World.cell?_setCell_other _ _ _ _ (by simp)];exact hc
   generalize (w.setCell ⟨b,3,none⟩ (.bool true)).drewN nq=W2 at H2q hcq⊢;clear c0 c2 c3 cf hlb hc hgb;obtain ⟨c0,c1,c2,c3,cf⟩:=H2q.Zh 0 rfl;have hlb:=H2q.lt 0 rfl;have H3:=zk (H2q.sAt 0 1 (.slice (some ⟨g,0,none⟩) K cap) rfl);clear H2q;go_wp2_with (first|(go_at_call 222;refine (HPC.1 _).mono ?_;rintro en w' ⟨k,hk,rfl,rfl⟩;have HT:=zk (HEK.1.QQ k hk);clear hk)|(at_builtin;refine wla (H3.1.alloc _) 1 _ 9 1 K _ rfl rfl _ _ 142 rfl i0 _ 16 Tryz.underlying142 HI.1.1 HI.1.2.1 HI.1.2.2.1 HI.1.2.2.2 rfl (by decide) rfl ⟨W2.heap.size,0,none⟩ 1 1 [.string (e.line.extract 0 k)] rfl rfl (Qiz W2 _ _ _ _ _ rfl) (by simp [Value.oneCell']) (by have:=hK4.1;omega) (by decide) (by omega) ?_;intro g2 cap2 w5 h5 _;clear c0 c2 c3 cf hlb;obtain ⟨c0,c1,c2,c3,cf⟩:=h5.Zh 0 rfl;have hlb:=h5.lt 0 rfl;have H5:=zk h5;clear h5));all_goals
    go_end0;refine ⟨⟨_,rfl⟩,?_⟩
   have h6:=H5.1.sAt 0 1 (.slice (some ⟨g2,0,none⟩) (K+1) cap2) rfl;refine HF.1 (.slice (some ⟨g2,0,none⟩) (K+1) cap2) _ [e.line.extract 0 k] (Nat.le_refl _) (fun t ht=>by rw [List.mem_singleton.1 ht];exact HT.1) ?_;simp only [strs,List.map_append,List.map_cons,List.map_nil,List.length_cons,List.length_nil,Nat.zero_add] at h6⊢;exact h6;refine HF.1 (.slice (some ⟨g,0,none⟩) K cap) _ [] (Nat.zero_le _) (by simp) ?_;rw [List.append_nil];exact H3.1
 ·obtain rfl:K=j.es.length:=by omega
  clear h hk0 hk1 hst;have HF:As (∀v W,Heap w0 (.pts b (.cells #[j.room,v,.int .i64 j.sure,.bool true] 144)::.slc v 9 1 j.es.length (strs (j.es.map Entry.line))::R) W→Heap w0 (.jrn b (j.Qj stay)::R) W):=⟨by
   intro v W h;rw [HC.1,List.take_length] at *;refine Heap.Vp HP.1 (ls:=j.es.map Entry.line) (v:=v) ⟨[],by simp,fun h=>rfl,by simp,by simp⟩ ?_;rw [List.length_map];exact h⟩
  rcases hss with ⟨rfl,hz, -⟩|⟨g,cap,rfl, -, -, -⟩;have hz2:(j.es.length:Int)=0:=by omega
  have HZ:=zk hz;clear hz;exact QCa;exact QCa
end Go.Proofs.YtlnghlamnehfjaaGreatDoor.S
