/- Contracts and plain laws of the program, part N15. -/
import Derived.Test.YtlnghlamnehfjaaGreatDoorN13
import Derived.Test.YtlnghlamnehfjaaGreatDoorN14
import Derived.WalkMore
import Derived.RangeFuncOwn
import Derived.Lib.AtoiErrMem
import Derived.StillTailTactics
import Derived.Deep.QuietTactic
import Derived.BigQuiet
set_option linter.unusedVariables false
set_option linter.unusedSimpArgs false
set_option maxRecDepth 100000
set_option maxHeartbeats 64000000
namespace Go.Proofs.YtlnghlamnehfjaaGreatDoor.S
open Go.RowKit Go.Maps
attribute [local go_sem] Oper.semAt_some
theorem splitseq_ok {w0 w:World} {R:List SA} (h:Heap w0 R w) (s:ByteArray):Calls Tryz.prog 232 #[.string s,.string ⟨#[32]⟩] w fun e w'=>∃b0 b1 b2,
 e=.returned (.func (.func 237) #[] #[.pointer (some ⟨b1,0,none⟩),.pointer (some ⟨b0,0,none⟩),.pointer (some ⟨b2,0,none⟩)])∧
 Heap w0 (.pts b0 (.cells #[.string s] 9)::.pts b1 (.cells #[.string ⟨#[32]⟩] 9)::.pts b2 (.cells #[.int .i64 0] 3)::R) w':=by
 have H:=zk h;clear h;have h234:As (Calls Tryz.prog 234 #[.string s,.string ⟨#[32]⟩,.int .i64 0] w fun e w'=>∃b0 b1 b2,
  e=.returned (.func (.func 237) #[] #[.pointer (some ⟨b1,0,none⟩),.pointer (some ⟨b0,0,none⟩),.pointer (some ⟨b2,0,none⟩)])∧
  Heap w0 (.pts b0 (.cells #[.string s] 9)::.pts b1 (.cells #[.string ⟨#[32]⟩] 9)::.pts b2 (.cells #[.int .i64 0] 3)::R) w'):=by
  refine ⟨?_⟩;go_enter Tryz.func234,Tryz.ntmps234;go_wp2;go_ret;refine ⟨w.heap.size,w.heap.size+1,w.heap.size+1+1,rfl,?_⟩;have:=Heap.nAt (n:=w.heap.size+1+1) (Heap.nAt (n:=w.heap.size+1) (Heap.nAt (n:=w.heap.size) H.out (.cells #[.string s] 9) rfl) (.cells #[.string ⟨#[32]⟩] 9) (by simp)) (.cells #[.int .i64 0] 3) (by simp);exact (this.frt 1 rfl).frt 2 rfl
 go_enter Tryz.func232,Tryz.ntmps232;go_wp2_with (go_at_call 234;refine h234.out.mono ?_;rintro e w' ⟨b0,b1,b2,rfl,h⟩;have H':=zk h;clear h);go_ret;exact ⟨b0,b1,b2,rfl,H'.out⟩
theorem body_jn (s:ByteArray) (l:List Int):bodyS s l=jn (s::l.map itoaS):=by
 induction l generalizing s with
 |nil=>rfl
 |cons n l ih=>
  show bodyS (s++(⟨#[32]⟩++itoaS n)) l=_
  rw [ih];cases l with
  |nil=>rfl
  |cons m l=>
   show (s++(⟨#[32]⟩++itoaS n))++(⟨#[32]⟩++jn (itoaS m::l.map itoaS))=s++(⟨#[32]⟩++(itoaS n++(⟨#[32]⟩++jn (itoaS m::l.map itoaS))))
   simp only [ByteArray.append_assoc]
theorem noblank_itoa (n:Int):NoBlank (itoaS n):=by
 intro c hc;rw [itoaS_list] at hc;rcases itoa_ch n c hc with h|h
 ·rintro rfl;simp at h
 ·rintro rfl;simp at h
theorem noblank_kd (k:Kd):NoBlank k.str:=by
 have:∀c∈k.str.data.toList,c≠32:=by cases k<;>decide
 exact this
def words (e:Entry):List ByteArray:=e.kd.str::(e.id::e.n).map itoaS
def parseJ (be bp:Nat) (e:Entry) (k:Nat):SA:=.ex fun v=>
 .star (.pts be (.cells #[.string (if k=0 then ByteArray.empty else e.kd.str),.int .i64 (if k<2 then 0 else e.id),v] 171)) (.star (.pts bp (.cells #[.int .i64 k] 3)) (.slc v 3 1 (e.n.take (k-2)).length ((e.n.take (k-2)).map (Value.int .i64))))
def Parsed (w0:World) (R:List SA) (e:Entry) (en:Ending) (w':World):Prop:=∃v,en=.returned (.tuple #[.agg #[.string e.kd.str,.int .i64 e.id,v],.int .i64 0])∧Heap w0 (.slc v 3 1 e.n.length (e.n.map (Value.int .i64))::R) w'
theorem parse_open {w0 w:World} {X:List SA} {be bp k:Nat} {e:Entry} {x:ByteArray} {v:Value} (h:Heap w0 (.when (v=.string x) .emp::parseJ be bp e k::X) w):v=.string x∧∃u,
 Heap w0 (.pts be (.cells #[.string (if k=0 then ByteArray.empty else e.kd.str),.int .i64 (if k<2 then 0 else e.id),u] 171)::.pts bp (.cells #[.int .i64 k] 3)::.slc u 3 1 (e.n.take (k-2)).length ((e.n.take (k-2)).map (Value.int .i64))::X) w:=by
 obtain ⟨hv,h⟩:=h.unwhen;obtain ⟨u,h⟩:=(h.drop).unex;exact ⟨hv,u,((h.unstar.frt 1 rfl).unstar.frt 2 rfl)⟩
theorem parse_shut {w0 w:World} {X:List SA} {be bp k:Nat} {e:Entry} {u:Value} (h:Heap w0 (.pts be (.cells #[.string (if k=0 then ByteArray.empty else e.kd.str),.int .i64 (if k<2 then 0 else e.id),u] 171)::.pts bp (.cells #[.int .i64 k] 3)::.slc u 3 1 (e.n.take (k-2)).length ((e.n.take (k-2)).map (Value.int .i64))::X) w):
 Heap w0 (parseJ be bp e k::X) w:=by
 refine Heap.reex u (Heap.restar ?_);exact (Heap.restar (h.frt 1 rfl |>.frt 2 rfl |>.frt 1 rfl)).frt 1 rfl
theorem atoi_ok {w0 w:World} {R:List SA} (h:Heap w0 R w) (n:Int) (hn:numOk n):Calls Tryz.prog 233 #[.string (itoaS n)] w fun e w'=>e=.returned (.tuple #[.int .i64 n,.nilIface])∧Heap w0 R w':=by
 refine (Tryz.strconv_Atoi (itoaS n) n (Nat.le_trans (itoaS_size n hn) (by decide)) (by rw [itoaS_list];exact atoi_itoa n) w).mono ?_;rintro e w' ⟨rfl,t,rfl⟩;exact ⟨rfl,h.below (Lib.bytesWorld_below _ _ _)⟩
theorem itoa_heap {w0 w:World} {R:List SA} (h:Heap w0 R w) (n:Int) (hn:numOk n):Calls Tryz.prog 177 #[.int .i64 n] w fun e w'=>e=.returned (.string (itoaS n))∧Heap w0 R w':=by
 refine (itoa_ok n w h.tab hn).mono ?_;rintro e w' ⟨rfl,hb⟩;exact ⟨rfl,h.below hb⟩
theorem parse_end {w0 w:World} {A B D:SA} {r n:Nat} {k u:Value} {i:Int} {xs:List Value} {R:List SA} (h:Heap w0 (A::B::.slc u 3 1 n xs::D::.pts r (.cells #[.string ⟨#[]⟩,.int .i64 0,.slice none 0 0] 171)::R) w):
 Heap w0 (A::B::.slc u 3 1 n xs::D::.pts r (.cells #[k,.int .i64 i,u] 171)::R) (((w.setCell ⟨r,0,none⟩ k).setCell ⟨r,1,none⟩ (.int .i64 i)).setCell ⟨r,2,none⟩ u):=
 ((h.sAt 4 0 k rfl).sAt 4 1 (.int .i64 i) rfl).sAt 4 2 u rfl
theorem parse_res {W:World} {b:Nat} {u:Value} {k:ByteArray} {i x:Int} (r0:W.cell? ⟨b,0,none⟩=some (.string k)) (r1:W.cell? ⟨b,1,none⟩=some (.int .i64 i)) (r2:W.cell? ⟨b,2,none⟩=some u) (tmps:Array Value)
 (h2:tmps[2]?.getD undef=.pointer (some ⟨b,0,none⟩)) (h3:tmps[3]?.getD undef=.int .i64 x):(results Tryz.f229 tmps).run Tryz.prog W=.ok (.tuple #[.agg #[.string k,.int .i64 i,u],.int .i64 x]) W:=by
 simp [results,Tryz.results229,go_sem,r0,r1,r2,h2,h3]
set_option maxHeartbeats 2000000 in
theorem parse_yes {w0 w:World} {R:List SA} (h:Heap w0 R w) (e:Entry) (he:e.ok):Calls Tryz.prog 229 #[.string e.line] w (Parsed w0 R e):=by
 have H:=zk h;have HE:=zk he;have hl:=he.lsize;have hbs:=he.bsize;have hdp:Fence.wide.depth=none:=rfl;have hwf:∀f,Fence.wide.fn f=True:=fun _=>rfl;have hl2:(e.line.size:Int)≤71:=by omega
 have HR:As (∀W,Calls Tryz.prog 231 #[.string e.line] W fun en w'=>en=.returned (.tuple #[.string (bodyS e.kd.str (e.id::e.n)),.bool true])∧Below W.heap.size W w'):=⟨fun W=>read_yes (bodyS e.kd.str (e.id::e.n)) W (by omega)⟩;generalize e.line=ln at *;clear h he hbs;refine cmk Tryz.func229 rfl ?_;simp only [Tryz.ntmps229,List.size_toArray,List.length_cons,List.length_nil,Nat.reduceAdd,Nat.reduceSub,Array.replicate_succ,Array.replicate_zero,List.push_toArray,List.append_toArray,List.nil_append,List.cons_append];go_wp2;go_step3;go_wp2_with (go_at_call 231;refine (HR.out _).mono ?_;rintro en w1 ⟨rfl,hb⟩;have H1:=zk ((Heap.nAt (n:=w.heap.size) H.out _ rfl).below hb);clear hb);go_step3;go_wp2_with (go_at_call 232;refine (splitseq_ok (Heap.nAt (n:=w1.heap.size+1) (Heap.nAt (n:=w1.heap.size) H1.out _ rfl) _ (by simp)) _).mono ?_;rintro en w2 ⟨b0,b1,b2,rfl,h⟩;have H2:=zk h;clear h);have hsz:(jn (words e)).size≤1000:=by
  have:=HE.out.bsize;rw [body_jn] at this;exact Nat.le_trans this (by decide)
 have hwd:∀y∈words e,NoBlank y:=by
  intro y hy;rcases List.mem_cons.1 hy with rfl|hy
  ·exact noblank_kd _
  ·obtain ⟨m,_,rfl⟩:=List.mem_map.1 hy;exact noblank_itoa m
 rw [body_jn] at H2;refine wp_range1 rfl (enters_of Tryz.func237 (by kernel_rfl) rfl) rfl _ [] (.pts w.heap.size (.cells #[.string {data:= #[]},.int .i64 0,.slice none 0 0] 171)::R) (words e) _ (split_gives w0 b0 b1 b2 _ _ hwd hsz) (parseJ w1.heap.size (w1.heap.size+1) e) ?h0 [8] ?assign ?body ?done
 case h0=>
  refine parse_shut (u:=.slice none 0 0) (k:=0) ?_;exact (((((H2.out.frt 3 rfl).frt 4 rfl).nRw 3 1).frt 1 rfl).frt 2 rfl).frt 1 rfl
 case assign=>
  intro l v W K hK;simp [roundAct] at hK;simp only [roundAct]
  gi_wp2
  exact hK
 case body=>
  intro l k x v X W hx h;simp only [roundAct];obtain ⟨hv,u,h2⟩:=parse_open h;clear h;subst hv;have h:=h2;clear h2;rcases k with _|_|m
  ·obtain rfl:x=e.kd.str:=by simpa [words] using hx.symm
   simp only [if_true,Nat.zero_lt_two] at h;obtain ⟨c0,c1,c2,cf⟩:=h.cB3 0 rfl;obtain ⟨p0,pf⟩:=h.cB1 1 rfl;have hlb:=h.lt 0 rfl;have hne:=h.ne 0 1 (by decide) rfl rfl;have HH:=zk h;clear h
   gi_wp2
   refine parse_shut (u:=u) ?_;exact (HH.out.sAt 0 0 _ rfl).sAt 1 0 _ rfl
  ·obtain rfl:x=itoaS e.id:=by simpa [words] using hx.symm
   simp only [Nat.zero_add,Nat.one_ne_zero,if_false,Nat.one_lt_two,if_true] at h;obtain ⟨c0,c1,c2,cf⟩:=h.cB3 0 rfl;obtain ⟨p0,pf⟩:=h.cB1 1 rfl;have HH:=zk h;have hid:As (numOk e.id):=⟨HE.out.nums _ (by simp)⟩;clear h c0 c1 c2 cf
   gi_wp2_with (first|(gi_at_call 233;refine (CallsIn.inRound l (callsIn_wide.2 (atoi_ok HH.out e.id hid.out))).mono ?_;rintro en w3 ⟨rfl,h3⟩;have H3:=zk h3;clear h3)|(gi_at_call 177;refine (CallsIn.inRound l (callsIn_wide.2 (itoa_heap H3.out e.id hid.out))).mono ?_;rintro en w4 ⟨rfl,h4⟩;obtain ⟨c0,c1,c2,cf⟩:=h4.cB3 0 rfl;obtain ⟨p0,pf⟩:=h4.cB1 1 rfl;have hlb:=h4.lt 0 rfl;have hne:=h4.ne 0 1 (by decide) rfl rfl;have H4:=zk h4;clear h4))
   refine parse_shut (u:=u) ?_;exact (H4.out.sAt 0 1 _ rfl).sAt 1 0 _ rfl
  ·obtain ⟨n,hn,rfl⟩:∃n,e.n[m]? =some n∧x=itoaS n:=by
    have:((e.id::e.n).map itoaS)[m+1]? =some x:=hx;rw [List.map_cons,List.getElem?_cons_succ,List.getElem?_map] at this;cases hh:e.n[m]? with
    |none=>rw [hh] at this;cases this
    |some n=>rw [hh] at this;exact ⟨n,rfl,(Option.some.inj this).symm⟩
   have e3:¬m+1+1=0:=by omega
   have e4:¬m+1+1<2:=by omega
   have e5:m+1+1-2=m:=by omega
   have hml:m<e.n.length:=(List.getElem?_eq_some_iff.1 hn).1;have hlen:=HE.out.len;have e6:(e.n.take m).length=m:=by rw [List.length_take];omega
   have e7:e.n.take (m+1)=e.n.take m++ [n]:=by rw [List.take_add_one,hn];rfl
   have e8:(e.n.take (m+1)).length=m+1:=by rw [List.length_take];omega
   rw [e5,e6,if_neg e3,if_neg e4] at h;have hS:=h.shp 2 rfl;have HH:=zk h;have hid:As (numOk n):=⟨HE.out.nums _ (List.mem_cons_of_mem _ (List.mem_of_getElem? hn))⟩;have HN:As (m+1≤1000):=⟨by omega⟩;have hm2:(2:Int)≤((m+1+1:Nat):Int):=by omega
   have hm3:((m+1+1:Nat):Int)≤1000:=by omega
   have HF:As (∀(g cap:Nat) (W:World),Heap w0 (.pts w1.heap.size (.cells #[.string e.kd.str,.int .i64 e.id,.slice (some ⟨g,0,none⟩) (m+1) cap] 171)::.pts (w1.heap.size+1) (.cells #[.int .i64 (((m+1+1:Nat):Int)+1)] 3)::.slc (.slice (some ⟨g,0,none⟩) (m+1) cap) 3 1 (m+1) ((e.n.take m).map (Value.int .i64)++ [.int .i64 n])::X) W→Heap w0 (parseJ w1.heap.size (w1.heap.size+1) e (m+1+1+1)::X) W):=⟨by
    intro g cap W h;have f3:¬m+1+1+1=0:=by omega
    have f4:¬m+1+1+1<2:=by omega
    have f5:m+1+1+1-2=m+1:=by omega
    refine parse_shut (u:=.slice (some ⟨g,0,none⟩) (m+1) cap) ?_;rw [f5,e8,if_neg f3,if_neg f4,e7,List.map_append];exact h⟩
   generalize ((m+1+1:Nat):Int)=kk at *;obtain ⟨i0,hi0,hi1,hi2,hi3⟩:=info_parts info3;have HI:=zk (And.intro hi0 (And.intro hi1 (And.intro hi2 hi3)));clear hi0 hi1 hi2 hi3;obtain ⟨p0,pf⟩:=h.cB1 1 rfl;clear h e3 e4 e5 e6 e7 e8 hml hlen hn hx;rcases hS with ⟨rfl,hm0,hm1⟩|⟨g,cap,rfl,hm0,hm1⟩;all_goals
    clear hm0 hm1
    gi_wp2_with (first|(gi_at_call 233;refine (CallsIn.inRound l (callsIn_wide.2 (atoi_ok HH.out n hid.out))).mono ?_;rintro en w3 ⟨rfl,h3⟩;have H3:=zk h3;clear h3)|(gi_at_call 177;refine (CallsIn.inRound l (callsIn_wide.2 (itoa_heap H3.out n hid.out))).mono ?_;rintro en w4 ⟨rfl,h4⟩;obtain ⟨c0,c1,c2,cf⟩:=h4.cB3 0 rfl;obtain ⟨p0,pf⟩:=h4.cB1 1 rfl;have hlb:=h4.lt 0 rfl;have hne:=h4.ne 0 1 (by decide) rfl rfl;have H4:=zk h4;clear h4)|(gi_at_builtin;refine wpListIn_app (H4.out.alloc _) 2 _ 3 1 m _ rfl rfl _ _ 53 rfl i0 _ 8 Tryz.underlying53 HI.out.1 HI.out.2.1 HI.out.2.2.1 HI.out.2.2.2 rfl (by decide) rfl ⟨w4.heap.size,0,none⟩ 1 1 [.int .i64 n] rfl rfl (cell_one_new _ _ _) (by simp [Value.oneCell']) (by have:=HN.out;omega) (by decide) (by omega) ?_;intro g2 cap2 w5 h5 _;clear c0 c1 c2 cf p0 pf hlb;obtain ⟨c0,c1,c2,cf⟩:=h5.cB3 0 rfl;obtain ⟨p0,pf⟩:=h5.cB1 1 rfl;have hlb:=h5.lt 0 rfl;have H5:=zk h5;clear h5))
    exact HF.out g2 cap2 _ ((H5.out.sAt 0 2 _ rfl).sAt 1 0 _ rfl)
 case done=>
  intro D W h;have h:Heap w0 (parseJ w1.heap.size (w1.heap.size+1) e (e.n.length+2)::.pts D (.deferred (some []))::.pts w.heap.size (.cells #[.string {data:= #[]},.int .i64 0,.slice none 0 0] 171)::R) W:=by
   have e1:(words e).length=e.n.length+2:=by simp [words]
   rw [e1] at h;exact h
  obtain ⟨-,u,h2⟩:=parse_open (x:=ByteArray.empty) (Heap.rewhen rfl h.addemp);clear h;have e2:e.n.length+2-2=e.n.length:=by omega
  have e3:¬e.n.length+2=0:=by omega
  have e4:¬e.n.length+2<2:=by omega
  rw [e2,List.take_length,if_neg e3,if_neg e4] at h2;obtain ⟨c0,c1,c2,cf⟩:=h2.cB3 0 rfl;obtain ⟨p0,pf⟩:=h2.cB1 1 rfl;obtain ⟨q0,q1,q2,qf⟩:=h2.cB3 4 rfl;have hlb:=h2.lt 4 rfl;have hDn:=h2.ne 3 4 (by decide) rfl rfl;have hK:=h2.at 3 rfl;have H3:=zk h2;have HM:As (Calls Tryz.prog 176 #[.agg #[.string e.kd.str,.int .i64 e.id,u]] W fun en w'=>en=.returned (.bool true)∧Below W.heap.size W w'):=⟨emay_ok e.kd e.id u e.n W (h2.row 2 rfl) HE.out⟩;have hlen:(2:Int)≤((e.n.length+2:Nat):Int):=by omega
  have hS:=h2.shp 2 rfl;clear h2;generalize ((e.n.length+2:Nat):Int)=kk at *;rcases hS with ⟨rfl,hm0,hm1⟩|⟨g,cap,rfl,hm0,hm1⟩;all_goals
   clear hm0 hm1;go_wp2_with (go_at_call 176;refine HM.out.mono ?_;rintro en w3 ⟨rfl,hb⟩;have h3:=H3.out.below hb;clear c0 c1 c2 cf p0 pf q0 q1 q2 qf hlb hK;obtain ⟨c0,c1,c2,cf⟩:=h3.cB3 0 rfl;obtain ⟨p0,pf⟩:=h3.cB1 1 rfl;obtain ⟨q0,q1,q2,qf⟩:=h3.cB3 4 rfl;have hlb:=h3.lt 4 rfl;have hK:=h3.at 3 rfl;have H4:=zk h3;clear h3 hb);rw [Exit.noGoto_ret];have HZ:=parse_end (k:=.string e.kd.str) (i:=e.id) H4.out;refine ⟨by simp,.inl ⟨_,_,rfl,run_takeDeferred (HZ.at 3 rfl),?_⟩⟩;have HY:=HZ.putAt 3 rfl (.deferred none);obtain ⟨r0,r1,r2,rf⟩:=HY.cB3 4 rfl;exact ⟨_,parse_res r0 r1 r2 _ rfl rfl,_,rfl,((HY.drop.drop.frt 1 rfl).drop.frt 1 rfl).drop⟩
theorem read_torn (t:ByteArray) (w:World) (h:Torn t):Calls Tryz.prog 231 #[.string t] w fun e w'=>e=.returned (.tuple #[.string ⟨#[]⟩,.bool false])∧Below w.heap.size w w':=by
 by_cases h3:t.size<3
 ·exact read_short t w h3
 ·exact read_no t w (by omega) (Nat.le_trans h.1 (by decide)) (h.2 (by omega))
theorem parse_no {w0 w:World} {R:List SA} (h:Heap w0 R w) (t:ByteArray) (ht:Torn t):
 Calls Tryz.prog 229 #[.string t] w fun en w'=>en=.returned (.tuple #[.agg #[.string ⟨#[]⟩,.int .i64 0,.slice none 0 0],.int .i64 3])∧Heap w0 R w':=by
 have H:=zk h;have hl2:(t.size:Int)≤80:=by have:=ht.1;omega
 have HR:As (∀W,Calls Tryz.prog 231 #[.string t] W fun e w'=>e=.returned (.tuple #[.string ⟨#[]⟩,.bool false])∧Below W.heap.size W w'):=⟨fun W=>read_torn t W ht⟩;clear h ht;refine cmk Tryz.func229 rfl ?_;simp only [Tryz.ntmps229,List.size_toArray,List.length_cons,List.length_nil,Nat.reduceAdd,Nat.reduceSub,Array.replicate_succ,Array.replicate_zero,List.push_toArray,List.append_toArray,List.nil_append,List.cons_append];go_wp2;go_step3;go_wp2_with (go_at_call 231;refine (HR.out _).mono ?_;rintro en w1 ⟨rfl,hb⟩;have H1:=zk ((Heap.nAt (n:=w.heap.size) H.out _ rfl).below hb);clear hb;have hlb:=H1.out.lt 0 rfl;obtain ⟨q0,q1,q2,qf⟩:=H1.out.cB3 0 rfl);rw [Exit.noGoto_ret];have HZ:=((H1.out.sAt 0 0 (.string ⟨#[]⟩) rfl).sAt 0 1 (.int .i64 0) rfl).sAt 0 2 (.slice none 0 0) rfl;obtain ⟨r0,r1,r2,rf⟩:=HZ.cB3 0 rfl;exact ⟨_,parse_res r0 r1 r2 _ rfl rfl,rfl,HZ.drop⟩
end Go.Proofs.YtlnghlamnehfjaaGreatDoor.S
namespace Go.Proofs.YtlnghlamnehfjaaGreatDoor.S
open Go.RowKit Go.Maps
def Jrn.add (j:Jrn) (e:Entry):Int×Jrn:=if j.room≤(j.es.length:Int) then (5,j) else (0,{j with es:=j.es++ [e]})
theorem info9:(Tryz.prog.info? 9).map (fun i=>(i.zero,i.size,i.bytes))=some (some (.string ⟨#[]⟩),1,16):=by kernel_rfl
theorem row_shape {w:World} {v:Value} {T:TypeId} {n:Nat} {xs:List Value} (h:w.ownsRow 0 T 1 v n xs):v=.slice none 0 0∨∃g cap,v=.slice (some ⟨g,0,none⟩) n cap:=by
 rcases h.2 with ⟨h,_⟩|⟨g,cap,cur,h,_⟩
 ·exact .inl h
 ·exact .inr ⟨g,cap,h⟩
theorem Heap.shut_up {w0 w:World} {b:Nat} {j:Jrn} {R:List SA} {v:Value} {n:Nat} (hp:j.ok) (hn:n=j.es.length) (h:Heap w0 (.pts b (.cells #[.int .i64 j.room,v,.int .i64 j.sure,.bool j.down] 144)::.slc v 9 1 n (strs (j.es.map Entry.line))::R) w):Heap w0 (.jrn b j::R) w:=by
 subst hn;refine Heap.shut_jrn hp (ls:=j.es.map Entry.line) (v:=v) ⟨[],by simp,fun _=>rfl,by simp,by simp⟩ ?_;rw [List.length_map];exact h
set_option maxHeartbeats 2000000 in
theorem jadd_ok {w0 w:World} {b:Nat} {j:Jrn} {R:List SA} (h:Heap w0 (.jrn b j::R) w) (hd:j.down=false) (e:Entry) (he:e.ok) (v:Value) (hr:w.ownsRow 0 3 1 v e.n.length (e.n.map (Value.int .i64))):
 Calls Tryz.prog 137 #[.pointer (some ⟨b,0,none⟩),.agg #[.string e.kd.str,.int .i64 e.id,v]] w fun en w'=>en=.returned (.int .i64 (j.add e).1)∧Heap w0 (.jrn b (j.add e).2::R) w':=by
 have HH:=zk h;have HT:As (∀W,Below w.heap.size w W→Calls Tryz.prog 160 #[.agg #[.string e.kd.str,.int .i64 e.id,v]] W fun en w'=>en=.returned (.tuple #[.string e.line,.int .i64 0])∧Below W.heap.size W w'):=⟨fun W hb=>line_ok e.kd e.id v e.n W (h.below hb).tab (row_below hr hb) he⟩;have hS:=row_shape hr;obtain ⟨hp,ls,s,hl,h⟩:=h.open_jrn;obtain ⟨c0,c1,c2,c3,cf⟩:=h.cells4 0 rfl;rw [hd] at c3;have hll:ls=j.es.map Entry.line:=Jrn.lines_up hl hd;subst hll;have hlen:(j.es.map Entry.line).length=j.es.length:=by simp
 have H:=zk h;have hss:=h.shp 1 rfl;have hlb0:=h.lt 0 rfl;obtain ⟨i0,hi0,hi1,hi2,hi3⟩:=info_parts info9;have HI:=zk (And.intro hi0 (And.intro hi1 (And.intro hi2 hi3)));have HP:=zk hp;have hr1:j.room≤4096:=hp.r1;have hr0:(1:Int)≤j.room:=hp.r0;have HE:=zk he;have HB:As (∀o,Below w.heap.size w (w.alloc o)):=⟨fun o=>(Below.refl _ _).alloc (Nat.le_refl _) _⟩;clear hi0 hi1 hi2 hi3 hp hr hl he;rw [hlen] at *;have hn0:(0:Int)≤(j.es.length:Int):=by omega
 have HD:=zk hd;clear hd;by_cases hroom:j.room≤(j.es.length:Int)
 ·have HO:=zk hroom;have hle:(j.es.length:Int)≤j.room:=HP.out.len;rcases hss with ⟨rfl,hz,_⟩|⟨g,cap,rfl,hz,_⟩
  ·have:(j.es.length:Int)=0:=by omega
   omega
  ·clear h hz;rcases hS with rfl|⟨g',cap',rfl⟩;all_goals
    go_enter Tryz.func137,Tryz.ntmps137;go_wp2_with (go_at_call 160;refine (HT.out _ (HB.out _)).mono ?_;rintro en w1 ⟨rfl,hb⟩;have h1:=H.out.below ((HB.out _).trans (hb.mono (by simp)));clear hb c0 c1 c2 c3 cf;obtain ⟨c0,c1,c2,c3,cf⟩:=h1.cells4 0 rfl;rw [HD.out] at c3;have H1:=zk h1;clear h1);go_quiet (fail);go_wp2;go_ret;refine ⟨by simp [Jrn.add,HO.out],?_⟩;rw [show (j.add e).2=j by simp [Jrn.add,HO.out]];exact Heap.shut_up HP.out rfl (H1.out.drewN _)
 ·clear h;have hlt:(j.es.length:Int)<j.room:=by omega
  rcases hss with ⟨rfl,hz,_⟩|⟨g,cap,rfl,hz,_⟩;all_goals
   clear hz;rcases hS with rfl|⟨g',cap',rfl⟩;all_goals
    go_enter Tryz.func137,Tryz.ntmps137;go_wp2_with (go_at_call 160;refine (HT.out _ (HB.out _)).mono ?_;rintro en w1 ⟨rfl,hb⟩;have h1:=H.out.below ((HB.out _).trans (hb.mono (by simp)));clear hb c0 c1 c2 c3 cf;obtain ⟨c0,c1,c2,c3,cf⟩:=h1.cells4 0 rfl;rw [HD.out] at c3;have hlb:=h1.lt 0 rfl;have H1:=zk h1;clear h1);go_quiet (fail);go_wp2_with (at_builtin;refine wla ((H1.out.drewN nq).alloc _) 1 _ 9 1 j.es.length _ rfl rfl _ _ 142 rfl i0 _ 16 Tryz.underlying142 HI.out.1 HI.out.2.1 HI.out.2.2.1 HI.out.2.2.2 rfl (by decide) rfl ⟨w1.heap.size,0,none⟩ 1 1 [.string e.line] rfl rfl (cell_one_new _ _ _) (by simp [Value.oneCell']) (by omega) (by decide) (by omega) ?_;intro g2 cap2 w5 h5 _;clear c0 c1 c2 c3 cf hlb;obtain ⟨c0,c1,c2,c3,cf⟩:=h5.cells4 0 rfl;have hlb:=h5.lt 0 rfl;have H5:=zk h5;clear h5);go_ret;have hn:¬j.room≤(j.es.length:Int):=by omega
    refine ⟨by simp [Jrn.add,hn],?_⟩;rw [show (j.add e).2= {j with es:=j.es++ [e]} by simp [Jrn.add,hn]];have hp:=HP.out;refine Heap.shut_up (n:=j.es.length+1) (v:=.slice (some ⟨g2,0,none⟩) (j.es.length+1) cap2) ⟨hp.r0,hp.r1,fun x hx=>(List.mem_append.1 hx).elim (hp.es x) (fun h=>by rw [List.mem_singleton.1 h];exact HE.out),by simp;omega,by simp;have:=hp.sure;omega⟩ (by simp) ?_;have:=H5.out.sAt 0 1 (.slice (some ⟨g2,0,none⟩) (j.es.length+1) cap2) rfl;simp only [strs,List.map_append,List.map_cons,List.map_nil] at this⊢;exact this
end Go.Proofs.YtlnghlamnehfjaaGreatDoor.S
namespace Go.Proofs.YtlnghlamnehfjaaGreatDoor.S
open Go.RowKit Go.Maps
attribute [local go_sem] Oper.semAt_some
section
variable {w0 w:World} {A B C D:SA} {l:List SA}
theorem Heap.swap (h:Heap w0 (A::B::l) w):Heap w0 (B::A::l) w:=h.frt 1 rfl
theorem Heap.rmA (h:Heap w0 l w) (i:Nat) (e:l[i]? =some A):Heap w0 (l.eraseIdx i) w:=(h.frt i e).drop
theorem Heap.third (h:Heap w0 (A::B::C::l) w):Heap w0 (C::A::B::l) w:=h.frt 2 rfl
theorem Heap.down3 (h:Heap w0 (A::B::C::l) w):Heap w0 (B::C::A::l) w:=(h.frt 2 rfl).frt 2 rfl
theorem Heap.fourth (h:Heap w0 (A::B::C::D::l) w):Heap w0 (D::A::B::C::l) w:=h.frt 3 rfl
end
theorem clone_str {w0 w:World} {R:List SA} (h:Heap w0 R w) (i:Nat) (v:Value) (n:Nat) (xs:List Value) (e:R[i]? =some (.slc v 9 1 n xs)) (hx:∀u∈xs,u.oneCell'=true) (hn:n≤1000000):
 Calls Tryz.prog 230 #[v] w fun e w'=>∃v',e=.returned v'∧Heap w0 (.slc v' 9 1 n xs::R) w':=by
 have hlen:=(h.row i e).1;rcases h.shp i e with ⟨rfl,rfl,rfl⟩|⟨g,cap,rfl,h1,h2,hc⟩
 ·refine (Tryz.slices_Clone_nil_f230 0 0 w).mono ?_;rintro e w' ⟨rfl,rfl⟩;exact ⟨_,rfl,h.nRw 9 1⟩
 ·obtain ⟨i0,hi0,hi1,hi2,hi3⟩:=info_parts info9;refine (Tryz.slices_Clone_f230 i0 _ 1 16 hi0 hi1 hi2 hi3 rfl (by decide) (fun _=>by kernel_rfl) g 0 n cap xs w hlen (by unfold maxLen;omega) (by omega) (fun j u hu=>by rw [Nat.zero_add];exact hc j u hu) hx).mono ?_;rintro e w' ⟨v',rfl,hr,_,hb⟩;exact ⟨v',rfl,h.newRow hb hr⟩
theorem strs_one (ls:List ByteArray):∀u∈strs ls,u.oneCell'=true:=by
 intro u hu;obtain ⟨s,_,rfl⟩:=List.mem_map.1 hu;rfl
theorem Jrn.lines_len {j:Jrn} {ls:List ByteArray} (hp:j.ok) (h:j.lines ls):ls.length≤4097:=by
 obtain ⟨tl,rfl,_,h1,_⟩:=h;have:=hp.len;have:=hp.r1;simp;omega
theorem lines_ok {w0 w:World} {b:Nat} {j:Jrn} {R:List SA} (h:Heap w0 (.jrn b j::R) w):
 Calls Tryz.prog 228 #[.pointer (some ⟨b,0,none⟩)] w fun e w'=>∃ls v,j.lines ls∧e=.returned v∧Heap w0 (.slc v 9 1 ls.length (strs ls)::.jrn b j::R) w':=by
 obtain ⟨hp,ls,v,hl,h⟩:=h.open_jrn;obtain ⟨c0,c1,c2,c3,cf⟩:=h.cells4 0 rfl;have HC:=zk (clone_str h 1 v ls.length (strs ls) rfl (strs_one ls) (Nat.le_trans (Jrn.lines_len hp hl) (by decide)));have HP:=zk (And.intro hp hl);clear h hp hl c0 c2 c3 cf;go_enter Tryz.func228,Tryz.ntmps228;go_wp2_with (go_at_call 230;refine HC.out.mono ?_;rintro e w' ⟨v',rfl,h'⟩;have H':=zk h';clear h');go_ret;exact ⟨ls,v',HP.out.2,rfl,(Heap.shut_jrn HP.out.1 HP.out.2 H'.out.down3).swap⟩
theorem strs_get {ls:List ByteArray} {k:Nat} {s:ByteArray} (h:ls[k]? =some s):(strs ls)[k]? =some (.string s):=by simp [strs,h]
def giveE (e:Entry) (v:Value):SA:=.ex fun u=>.when (v=.agg #[.string e.kd.str,.int .i64 e.id,u]) (.slc u 3 1 e.n.length (e.n.map (Value.int .i64)))
theorem give_box {w0 w:World} {R:List SA} {e:Entry} {u:Value} (h:Heap w0 (.slc u 3 1 e.n.length (e.n.map (Value.int .i64))::R) w):
 Heap w0 (giveE e (.agg #[.string e.kd.str,.int .i64 e.id,u])::R) (w.alloc (.cells #[.string e.kd.str,.int .i64 e.id,u] 171)):=
 (Heap.reex (f:=fun u'=>.when (Value.agg #[.string e.kd.str,.int .i64 e.id,u]=.agg #[.string e.kd.str,.int .i64 e.id,u']) (.slc u' 3 1 e.n.length (e.n.map (Value.int .i64)))) u (Heap.rewhen rfl h)).alloc _
set_option maxHeartbeats 2000000 in
theorem all_gives (w0:World) (bx b:Nat) (j:Jrn):Gives w0 227 #[.pointer (some ⟨bx,0,none⟩)] [.pts bx (.cells #[.pointer (some ⟨b,0,none⟩)] 87),.jrn b j] [.pts bx (.cells #[.pointer (some ⟨b,0,none⟩)] 87),.jrn b j] j.es giveE:=by
 intro n l J R W hY h;have HY:=zk hY;obtain ⟨d0,df0⟩:=h.cB1 1 rfl;have HL:=zk (lines_ok (h.frt 2 rfl));clear h hY;have hdp:Fence.wide.depth=none:=rfl;have hwf:∀f,Fence.wide.fn f=True:=fun _=>rfl;refine callsIn_of_wp Tryz.func227 rfl trivial ?_ rfl;simp only [Tryz.ntmps227,List.size_toArray,List.length_cons,List.length_nil,Nat.reduceAdd,Nat.reduceSub,Array.replicate_succ,Array.replicate_zero,List.push_toArray,List.append_toArray,List.nil_append,List.cons_append]
 gi_wp2_with (gi_at_call 228;refine (callsIn_wide.2 HL.out).mono ?_;rintro e w1 ⟨ls,v',hl,rfl,h'⟩;rcases h'.shp 0 rfl with ⟨rfl,hz, -⟩|⟨g,cap,rfl, -, -, -⟩)
 ·have he:j.es= []:=by
   obtain ⟨tl,e1,_⟩:=hl;rw [e1] at hz;simp at hz;exact hz.1
  gi_wp2
  gi_loopw [4,6,10] (fun p q i wr=>i=.int .i64 0∧As (Heap w0 (J 0::.pts bx (.cells #[.pointer (some ⟨b,0,none⟩)] 87)::.jrn b j::R) wr)) (fun p q i wr=>0)
  case atStart=>exact ⟨rfl,⟨h'.drop.down3⟩⟩
  case round=>
   obtain ⟨rfl,H1⟩:=hrel
   gi_wp2
   go_end0;refine ⟨⟨_,rfl⟩,?_⟩;rw [he];exact H1.out
 ·have HLS:=zk hl;have HJ:As (Heap w0 (J 0::.slc (.slice (some ⟨g,0,none⟩) ls.length cap) 9 1 ls.length (strs ls)::.jrn b j::.pts bx (.cells #[.pointer (some ⟨b,0,none⟩)] 87)::R) w1):=⟨h'.third⟩;have HN:As (ls.length≤4097):=⟨Jrn.lines_len h'.swap.open_jrn.1 hl⟩;have HK:As (∀e∈j.es,e.ok):=⟨h'.swap.open_jrn.1.es⟩;clear h' hl d0 df0
  gi_wp2
  gi_loopw [4,6,10] (fun p q i wr=>∃k:Nat,i=.int .i64 k∧As (k≤j.es.length)∧As (Heap w0 (J k::.slc (.slice (some ⟨g,0,none⟩) ls.length cap) 9 1 ls.length (strs ls)::.jrn b j::.pts bx (.cells #[.pointer (some ⟨b,0,none⟩)] 87)::R) wr)) (fun p q i wr=>ls.length-(intOf i).toNat)
  case atStart=>exact ⟨0,rfl,⟨Nat.zero_le _⟩,HJ⟩
  case round=>
   obtain ⟨k,rfl,hk,H1⟩:=hrel;have hlen:j.es.length≤ls.length:=by
    obtain ⟨tl,e1,_⟩:=HLS.out;rw [e1];simp
   by_cases hlt:k<ls.length
   ·have hk0:(k:Int)<(ls.length:Int):=by omega
    have hk1:(0:Int)≤(k:Int):=by omega
    have hk2:(ls.length:Int)≤4097:=by have:=HN.out;omega
    by_cases hes:k<j.es.length
    ·have he:j.es[k]? =some j.es[k]:=List.getElem?_eq_getElem hes;have hls:ls[k]? =some (j.es[k]).line:=by
      obtain ⟨tl,e1,_⟩:=HLS.out;rw [e1,List.getElem?_append_left (by simpa using hes),List.getElem?_map,he];rfl
     have hek:As ((j.es[k]).ok):=⟨HK.out _ (List.getElem_mem _)⟩;have HES:=zk he;generalize j.es[k]=e at *;have hc:wr.cell? ⟨g,k,none⟩=some (.string e.line):=by
      rcases H1.out.shp 1 rfl with ⟨hv,_⟩|⟨g',cap',hv,_,_,hcs⟩
      ·cases hv
      ·cases hv;exact hcs k _ (strs_get hls)
     clear he hls hlen
     gi_wp2_with (gi_at_call 229;refine (callsIn_wide.2 (parse_yes H1.out e hek.out)).mono ?_;rintro en w3 ⟨u,rfl,h3⟩;(rcases h3.shp 0 rfl with ⟨rfl,hz, -⟩|⟨g',cap',rfl, -, -, -⟩)<;>(obtain ⟨fn,tmps,assign,body,hy,hR⟩:=HY.out k e HES.out _ _ _ (give_box h3);have HR:=zk hR;clear hR))
     all_goals
      refine HR.out.mono ?_;rintro en W4 ⟨rfl,h4⟩;have H4:=zk h4;clear h4
      gi_wp2
      refine ⟨⟨k+1,rfl,⟨by omega⟩,H4⟩,?_⟩;simp [intOf];omega
    ·have hke:k=j.es.length:=by have:=hk.out;omega
     obtain ⟨t,ht,hls⟩:∃t,Torn t∧ls[k]? =some t:=by
      obtain ⟨tl,e1,_,_,hT⟩:=HLS.out;have hl2:(j.es.map Entry.line).length=k:=by simp [hke]
      have hg:ls[k]? =tl[0]?:=by rw [e1,List.getElem?_append_right (by omega),hl2,Nat.sub_self]
      cases htl:tl with
      |nil=>rw [htl] at e1;rw [e1] at hlt;simp at hlt;omega
      |cons t r=>exact ⟨t,hT t (by rw [htl];simp),by rw [hg,htl];rfl⟩
     have hc:wr.cell? ⟨g,k,none⟩=some (.string t):=by
      rcases H1.out.shp 1 rfl with ⟨hv,_⟩|⟨g',cap',hv,_,_,hcs⟩
      ·cases hv
      ·cases hv;exact hcs k _ (strs_get hls)
     have HT:=zk ht;have HKE:=zk hke;clear hlen hes ht hls hke
     gi_wp2_with (gi_at_call 229;refine (callsIn_wide.2 (parse_no H1.out t HT.out)).mono ?_;rintro en w3 ⟨rfl,h3⟩;have H3:=zk h3;clear h3)
     refine bodyPost_ret (results_none rfl _ _ _) rfl ⟨⟨_,rfl⟩,?_⟩;rw [←HKE.out];exact (H3.out.swap.drop.third.swap).alloc _
   ·have hk0:(k:Int)=(ls.length:Int):=by have:=hk.out;omega
    have hke:k=j.es.length:=by have:=hk.out;omega
    have HKE:=zk hke;clear hke hlen
    gi_wp2
    go_end0;refine ⟨⟨_,rfl⟩,?_⟩;rw [←HKE.out];exact H1.out.swap.drop.third.swap
theorem all_ok {w0 w:World} {R:List SA} (h:Heap w0 R w) (b:Nat):Calls Tryz.prog 221 #[.pointer (some ⟨b,0,none⟩)] w fun e w'=>∃bx,e=.returned (.func (.func 227) #[] #[.pointer (some ⟨bx,0,none⟩)])∧Heap w0 (.pts bx (.cells #[.pointer (some ⟨b,0,none⟩)] 87)::R) w':=by
 have H:=zk h;clear h;go_enter Tryz.func221,Tryz.ntmps221;go_wp2;go_ret;exact ⟨_,rfl,Heap.nAt (n:=w.heap.size) H.out _ rfl⟩
end Go.Proofs.YtlnghlamnehfjaaGreatDoor.S
namespace Go.Proofs.YtlnghlamnehfjaaGreatDoor.S
open Go.RowKit Go.Maps
theorem zCrs1 {P:Prop} (h:P:=by
 go_enter Tryz.func217,Tryz.ntmps217;go_wp2;go_quiet (fail);go_wp2;refine bodyPost_ret (results_none rfl _ _ _) rfl ⟨⟨_,rfl⟩,?_⟩;have h2:=H1.out.drewN nq;exact HF.out _ _ h2):P:=h
theorem run_cut {g n cap:Nat} (h:n≤cap) (m:Nat) (W:World):(Instr.slice 142 (.slice (some ⟨g,0,none⟩) m cap) none (some (.int .i64 (n:Int))) none).run Tryz.prog W=.ok (.slice (some ⟨g,0,none⟩) n cap) W:=by
 have he:Tryz.prog.elem 142=9:=by kernel_rfl
 have ht:Tryz.prog.underlying 142=some (.slice (Tryz.prog.elem 142)):=by rw [he];exact Tryz.underlying142
 have hz:(Go.sizeOf 9).run Tryz.prog W=.ok 1 W:=by kernel_rfl
 rw [run_slice_h W 142 _ _ _ ht .i64 _ (by omega) (by omega),he,hz];simp only [Result.andThen,sliced,Int.toNat_natCast,Nat.sub_zero,Nat.zero_mul,Option.map_some];congr 1;split<;>simp [Addr.add]
theorem Heap.cutRow {w0 w:World} {l:List SA} {g n cap size:Nat} {T:TypeId} {xs:List Value} (h:Heap w0 (.slc (.slice (some ⟨g,0,none⟩) n cap) T size n xs::l) w) (m:Nat) (hm:m≤n):Heap w0 (.slc (.slice (some ⟨g,0,none⟩) m cap) T size m (xs.take (m*size))::l) w:=
 h.mono (fun F hF=>by
  obtain ⟨h1,h2,h3⟩:=hF;refine ⟨h1,?_,?_⟩
  ·rw [List.length_take,h2];exact Nat.min_eq_left (Nat.mul_le_mul_right _ hm)
  ·rcases h3 with ⟨h3,_⟩|⟨g',cap',cur,e,hb,hg,hn,hc,hs,hx⟩
   ·cases h3
   ·cases e;refine .inr ⟨g,cap,cur,rfl,hb,hg,Nat.le_trans hm hn,hc,hs,?_⟩;rw [←hx,List.take_take,Nat.min_eq_left (Nat.mul_le_mul_right _ hm)])
theorem Heap.neS {w0 w:World} {l:List SA} {b g n cap size m:Nat} {o:Obj} {T:TypeId} {xs:List Value} (h:Heap w0 (.pts b o::.slc (.slice (some ⟨g,0,none⟩) n cap) T size m xs::l) w):b≠g:=by
 obtain ⟨hb,F,hF,F1,F2,h1,hd,ha,G1,G2,g1,g2,hc,_⟩:=h;rintro rfl;exact hd b ((ha.1 b).2 rfl) ((g1 b).2 (.inl ((hc.1 b).2 rfl)))
def NoBar (s:ByteArray):Prop:=∀c∈s.data.toList,c≠124
theorem app_list (a b:ByteArray):(a++b).data.toList=a.data.toList++b.data.toList:=by rw [ByteArray.data_append,Array.toList_append]
theorem sign_list (t:ByteArray):(signS t).data.toList=t.data.toList++124::(lettersS t).data.toList:=by
 unfold signS;rw [app_list,app_list,List.append_assoc];rfl
theorem ext_list (a:ByteArray) (n:Nat):(a.extract 0 n).data.toList=a.data.toList.take n:=by
 rw [ByteArray.data_extract,Array.toList_extract,List.extract_eq_take_drop,List.drop_zero,Nat.sub_zero]
theorem torn_piece (t:ByteArray) (hb:NoBar t) (ht:t.size≤68) (n:Nat) (hn:n<(signS t).size):Torn ((signS t).extract 0 n):=by
 have hsz:=signS_size t;have hps:((signS t).extract 0 n).size=n:=by rw [ByteArray.size_extract];omega
 refine ⟨by omega,fun h3 he=>?_⟩;rw [hps] at h3 he;have h1:=congrArg (fun a:ByteArray=>a.data.toList[n-3]?) he;simp only [sign_list,ext_list] at h1;have hl:(List.take (n-3) (List.take n (t.data.toList++124::(lettersS t).data.toList))).length=n-3:=by
  rw [List.length_take,List.length_take,List.length_append,sz];omega
 rw [List.getElem?_append_right (by omega),hl,Nat.sub_self,List.getElem?_cons_zero,List.getElem?_take,if_pos (by omega),List.getElem?_append_left (by rw [sz];omega)] at h1;exact hb 124 (List.mem_of_getElem? h1.symm) rfl
theorem nobar_kd (k:Kd):NoBar k.str:=by
 have:∀c∈k.str.data.toList,c≠124:=by cases k<;>decide
 exact this
theorem nobar_body (s:ByteArray) (hs:NoBar s) (l:List Int):NoBar (bodyS s l):=by
 induction l generalizing s with
 |nil=>exact hs
 |cons n l ih=>
  refine ih (s++(⟨#[32]⟩++itoaS n)) ?_;intro c hc;rw [app_list,app_list] at hc;rcases List.mem_append.1 hc with hc|hc
  ·exact hs c hc
  ·rcases List.mem_append.1 hc with hc|hc
   ·rw [show c=32 from List.mem_singleton.1 hc];decide
   ·rw [itoaS_list] at hc;rcases itoa_ch n c hc with h|h
    ·rintro rfl;simp at h
    ·rintro rfl;simp at h
theorem Entry.ok.torn {e:Entry} (h:e.ok) (n:Nat) (hn:n<e.line.size):Torn (e.line.extract 0 n):=
 torn_piece _ (nobar_body _ (nobar_kd _) _) h.bsize n hn
theorem piece_ok (s:ByteArray) (n:Int) (w:World) (h1:1≤s.size) (hs:s.size≤1000):Calls Tryz.prog 222 #[.string s,.int .i64 n] w fun e w'=>∃k,k<s.size∧e=.returned (.string (s.extract 0 k))∧w=w':=by
 have hs1:(1:Int)≤(s.size:Int):=by omega
 have hs2:(s.size:Int)≤1000:=by omega
 have hm:(max 0 (min n ((s.size:Int)-1))).toNat<s.size:=by omega
 have hm0:(0:Int)≤max 0 (min n ((s.size:Int)-1)):=by omega
 have hm1:max 0 (min n ((s.size:Int)-1))≤(s.size:Int):=by omega
 have HM:=zk hm;clear hm;go_enter Tryz.func222,Tryz.ntmps222;go_wp2;all_goals
  go_ret;exact ⟨_,HM.out,rfl,rfl⟩
def Jrn.keep (j:Jrn) (stay:Int):Int:=j.sure+max 0 (min stay ((j.es.length:Int)-j.sure))
def Jrn.crash (j:Jrn) (stay:Int):Jrn:= {j with es:=j.es.take (j.keep stay).toNat,down:=true}
theorem Jrn.ok.crash {j:Jrn} (h:j.ok) (stay:Int):(j.crash stay).ok:=by
 have h1:=h.sure;have h2:=h.len;refine ⟨h.r0,h.r1,fun e he=>h.es e (List.mem_of_mem_take he),?_,?_⟩
 ·show ((j.es.take _).length:Int)≤j.room
  rw [List.length_take];omega
 ·show j.sure≤(j.es.take _).length
  rw [List.length_take];unfold Jrn.keep;omega
theorem cell_one_set (W:World) (p:Addr) (y x:Value) (t:TypeId) (n:Nat) (hn:n=W.heap.size):∀j u,[x][j]? =some u→((W.setCell p y).alloc (.cells #[x] t)).cell? ((⟨n,0,none⟩:Addr).add j)=some u:=by
 subst hn;have h:=cell_one_new (W.setCell p y) x t;rw [show (W.setCell p y).heap.size=W.heap.size by simp [World.setCell]] at h;exact h
set_option maxHeartbeats 2000000 in
theorem jcrash_ok {w0 w:World} {b:Nat} {j:Jrn} {R:List SA} (h:Heap w0 (.jrn b j::R) w) (hd:j.down=false) (stay torn:Int):
 Calls Tryz.prog 217 #[.pointer (some ⟨b,0,none⟩),.int .i64 stay,.int .i64 torn] w fun e w'=>(∃v,e=.returned v)∧Heap w0 (.jrn b (j.crash stay)::R) w':=by
 obtain ⟨hp,ls,s,hl,h⟩:=h.open_jrn;have hll:ls=j.es.map Entry.line:=Jrn.lines_up hl hd;subst hll;have hlen:(j.es.map Entry.line).length=j.es.length:=by simp
 rw [hd] at h;have H1:=zk (h.sAt 0 3 (.bool true) rfl);have hss:=h.shp 1 rfl;have hr1:j.room≤4096:=hp.r1;have hle:=hp.len;have hsu:(j.sure:Int)≤(j.es.length:Int):=by have:=hp.sure;omega
 have hs0:(0:Int)≤(j.sure:Int):=by omega
 have hk0:(j.sure:Int)≤j.keep stay:=by unfold Jrn.keep;omega
 have hk1:j.keep stay≤(j.es.length:Int):=by unfold Jrn.keep;omega
 obtain ⟨K,hKK⟩:∃K:Nat,(j.keep stay).toNat=K:=⟨_,rfl⟩;have hK:(j.sure:Int)+max 0 (min stay ((j.es.length:Int)-j.sure))=(K:Int):=by
  have:j.keep stay=(j.sure:Int)+max 0 (min stay ((j.es.length:Int)-j.sure)):=rfl;omega
 have hkl:K≤j.es.length:=by omega
 have HC:As (j.crash stay= {j with es:=j.es.take K,down:=true}):=⟨by unfold Jrn.crash;rw [hKK]⟩;have HP:=zk (hp.crash stay);rw [HC.out] at HP;have HES:As (∀e∈j.es,e.ok):=⟨hp.es⟩;have hlb:=h.lt 0 rfl;obtain ⟨c0,c1,c2,c3,cf⟩:=h.cells4 0 rfl;have hst:∀i,(hi:i<j.es.length)→(strs (j.es.map Entry.line))[i]? =some (.string (j.es[i]).line):=by
  intro i hi;apply strs_get;rw [List.getElem?_map,List.getElem?_eq_getElem hi];rfl
 rw [hlen] at *;clear hp hl hlen hKK;by_cases hlt:K<j.es.length
 ·rcases hss with ⟨rfl,hz, -⟩|⟨g,cap,rfl,hcp, -,hcs⟩
  ·exfalso;omega
  ·have hc:=hcs K _ (hst K hlt);have hsl:=fun W2=>run_cut (g:=g) (Nat.le_trans hkl hcp) j.es.length W2;have HEK:As ((j.es[K]).ok):=⟨HES.out _ (List.getElem_mem _)⟩;generalize j.es[K]=e at *;have hq1:(K:Int)<(j.es.length:Int):=by omega
   have hq0:(0:Int)≤(K:Int):=by omega
   have HPC:As (∀W,Calls Tryz.prog 222 #[.string e.line,.int .i64 torn] W fun en w'=>∃k,k<e.line.size∧en=.returned (.string (e.line.extract 0 k))∧W=w'):=⟨fun W=>piece_ok e.line torn W (by have:e.line.size=_:=signS_size _;omega) (Nat.le_trans HEK.out.lsize (by decide))⟩;have hgb:=World.block_lt_of_cell? w _ hc;have hne:b≠g:=h.neS;clear h hk0 hk1 hcp hcs hst;obtain ⟨i0,hi0,hi1,hi2,hi3⟩:=info_parts info9;have HI:=zk (And.intro hi0 (And.intro hi1 (And.intro hi2 hi3)));have hK4:As (K+1≤4097):=⟨by omega⟩;have HF:As (∀v W tl,tl.length≤1→(∀t∈tl,Torn t)→Heap w0 (.pts b (.cells #[.int .i64 j.room,v,.int .i64 j.sure,.bool true] 144)::.slc v 9 1 (K+tl.length) (strs ((j.es.take K).map Entry.line++tl))::R) W→Heap w0 (.jrn b (j.crash stay)::R) W):=⟨by
    intro v W tl h1 h2 h;rw [HC.out];refine Heap.shut_jrn HP.out (ls:=(j.es.take K).map Entry.line++tl) (v:=v) ⟨tl,rfl,(fun h=>by cases h),h1,h2⟩ ?_;rw [List.length_append,List.length_map,List.length_take,Nat.min_eq_left hkl];exact h⟩
   have hE:(strs (j.es.map Entry.line)).take (K*1)=strs ((j.es.take K).map Entry.line):=by simp [strs,List.map_take]
   have H1c:=(H1.out.swap.cutRow K hkl).swap;rw [hE] at H1c;have H2:=zk H1c;clear H1c hE hi0 hi1 hi2 hi3;go_enter Tryz.func217,Tryz.ntmps217;go_wp2;go_quiet (fail);have H2q:=H2.out.drewN nq;have hcq:((w.setCell ⟨b,3,none⟩ (.bool true)).drewN nq).cell? ⟨g,K,none⟩=some (.string e.line):=by
    rw [World.cell?_drewN,World.cell?_setCell_other _ _ _ _ (by simp)];exact hc
   generalize (w.setCell ⟨b,3,none⟩ (.bool true)).drewN nq=W2 at H2q hcq⊢;clear c0 c2 c3 cf hlb hc hgb;obtain ⟨c0,c1,c2,c3,cf⟩:=H2q.cells4 0 rfl;have hlb:=H2q.lt 0 rfl;have H3:=zk (H2q.sAt 0 1 (.slice (some ⟨g,0,none⟩) K cap) rfl);clear H2q;go_wp2_with (first|(go_at_call 222;refine (HPC.out _).mono ?_;rintro en w' ⟨k,hk,rfl,rfl⟩;have HT:=zk (HEK.out.torn k hk);clear hk)|(at_builtin;refine wla (H3.out.alloc _) 1 _ 9 1 K _ rfl rfl _ _ 142 rfl i0 _ 16 Tryz.underlying142 HI.out.1 HI.out.2.1 HI.out.2.2.1 HI.out.2.2.2 rfl (by decide) rfl ⟨W2.heap.size,0,none⟩ 1 1 [.string (e.line.extract 0 k)] rfl rfl (cell_one_set W2 _ _ _ _ _ rfl) (by simp [Value.oneCell']) (by have:=hK4.out;omega) (by decide) (by omega) ?_;intro g2 cap2 w5 h5 _;clear c0 c2 c3 cf hlb;obtain ⟨c0,c1,c2,c3,cf⟩:=h5.cells4 0 rfl;have hlb:=h5.lt 0 rfl;have H5:=zk h5;clear h5));all_goals
    go_end0;refine ⟨⟨_,rfl⟩,?_⟩
   ·have h6:=H5.out.sAt 0 1 (.slice (some ⟨g2,0,none⟩) (K+1) cap2) rfl;refine HF.out (.slice (some ⟨g2,0,none⟩) (K+1) cap2) _ [e.line.extract 0 k] (Nat.le_refl _) (fun t ht=>by rw [List.mem_singleton.1 ht];exact HT.out) ?_;simp only [strs,List.map_append,List.map_cons,List.map_nil,List.length_cons,List.length_nil,Nat.zero_add] at h6⊢;exact h6
   ·refine HF.out (.slice (some ⟨g,0,none⟩) K cap) _ [] (Nat.zero_le _) (by simp) ?_;rw [List.append_nil];exact H3.out
 ·obtain rfl:K=j.es.length:=by omega
  clear h hk0 hk1 hst;have HF:As (∀v W,Heap w0 (.pts b (.cells #[.int .i64 j.room,v,.int .i64 j.sure,.bool true] 144)::.slc v 9 1 j.es.length (strs (j.es.map Entry.line))::R) W→Heap w0 (.jrn b (j.crash stay)::R) W):=⟨by
   intro v W h;rw [HC.out,List.take_length] at *;refine Heap.shut_jrn HP.out (ls:=j.es.map Entry.line) (v:=v) ⟨[],by simp,fun h=>rfl,by simp,by simp⟩ ?_;rw [List.length_map];exact h⟩
  rcases hss with ⟨rfl,hz, -⟩|⟨g,cap,rfl, -, -, -⟩
  ·have hz2:(j.es.length:Int)=0:=by omega
   have HZ:=zk hz;clear hz;exact zCrs1
  ·exact zCrs1
end Go.Proofs.YtlnghlamnehfjaaGreatDoor.S
