/- Contracts and plain laws of the program, part N43. -/
import Derived.Test.YtlnghlamnehfjaaGreatDoorN10
import Derived.Test.YtlnghlamnehfjaaGreatDoorN19
import Derived.Test.YtlnghlamnehfjaaGreatDoorN20
import Derived.Test.YtlnghlamnehfjaaGreatDoorN23
import Derived.Test.YtlnghlamnehfjaaGreatDoorN24
import Derived.Test.YtlnghlamnehfjaaGreatDoorN29
import Derived.Test.YtlnghlamnehfjaaGreatDoorN34
import Derived.Test.YtlnghlamnehfjaaGreatDoorN35
import Derived.Test.YtlnghlamnehfjaaGreatDoorN39
import Derived.Test.YtlnghlamnehfjaaGreatDoorN41
set_option linter.unusedVariables false
set_option linter.unusedSimpArgs false
set_option maxRecDepth 100000
set_option maxHeartbeats 64000000
namespace Go.Proofs.YtlnghlamnehfjaaGreatDoor.S
open Go.RowKit Go.Maps
structure Harb where
 c:Chief
 k0:Keeper
 k1:Keeper
 s:Shipper
 v0:Service
 v1:Service
 v2:Service
 p:Post
structure HA where
 b:Nat
 bd:Nat
 bc:Nat
 k0:Nat
 k1:Nat
 bs:Nat
 v0:Nat
 v1:Nat
 v2:Nat
 bp:Nat
 bt:Nat
 bf:Nat
 br:Nat
def acells (l:List (Int×Int)):List Value:=l.flatMap fun s=> [.int .i64 s.1,.int .i64 s.2]
def actsAll:List (Int×Int):= [(2,0),(2,1),(2,2),(5,0),(5,1),(5,2),(16,0),(13,0),(14,0)]
structure ActsOk (l:List (Int×Int)):Prop where
 nd:l.Nodup
 all:∀a∈l,a∈actsAll
def SA.trace (b:Nat):SA:=.ex fun x:(Int→Value)×IM (List (Int×Int))=>.when (∀p∈x.2,ActsOk p.2) (.book b x.1 (fun k l=>.slc (x.1 k) 193 2 l.length (acells l)) x.2)
def SA.marks (b:Nat):SA:=.ex fun m:IM Int=>.when (KeysOk m) (.map b (mval (Value.int .i64) m))
abbrev Harb.on (q:HA) (H:Harb) (R:List SA):List SA:=
 .pts q.b (.cells #[.pointer (some ⟨q.bd,0,none⟩),.pointer (some ⟨q.k0,0,none⟩),.pointer (some ⟨q.k1,0,none⟩),.pointer (some ⟨q.bs,0,none⟩),.pointer (some ⟨q.v0,0,none⟩),.pointer (some ⟨q.v1,0,none⟩),.pointer (some ⟨q.v2,0,none⟩),.pointer (some ⟨q.bp,0,none⟩),.map (some q.bt),.map (some q.bf)] 69)::
 .pts q.bd (.cells #[.pointer (some ⟨q.bc,0,none⟩),.map (some q.br)] 72)::
 .chief q.bc H.c::.keeper q.k0 H.k0::.keeper q.k1 H.k1::.shipper q.bs H.s::.service q.v0 H.v0::.service q.v1 H.v1::.service q.v2 H.v2::.post q.bp H.p::.trace q.bt::.marks q.bf::.marks q.br::R
section
variable {w0 w:World} {q:HA} {H:Harb} {R:List SA}
theorem desk_ok (h:Heap w0 (H.on q R) w):
 Calls Tryz.prog 11 #[.pointer (some ⟨q.b,0,none⟩)] w fun e w'=>e=.returned (.pointer (some ⟨q.bd,0,none⟩))∧w=w':=by
 have c0:=h.cell 0 0 rfl rfl;have hlb:=h.lt 0 rfl;go_enter Tryz.func11,Tryz.ntmps11;go_wp2_with (fail);go_ret;exact ⟨rfl,rfl⟩
theorem hpost_ok (h:Heap w0 (H.on q R) w):
 Calls Tryz.prog 14 #[.pointer (some ⟨q.b,0,none⟩)] w fun e w'=>e=.returned (.pointer (some ⟨q.bp,0,none⟩))∧w=w':=by
 have c0:=h.cell 0 7 rfl rfl;have hlb:=h.lt 0 rfl;go_enter Tryz.func14,Tryz.ntmps14;go_wp2_with (fail);go_ret;exact ⟨rfl,rfl⟩
theorem dchief_ok (h:Heap w0 (H.on q R) w):
 Calls Tryz.prog 29 #[.pointer (some ⟨q.bd,0,none⟩)] w fun e w'=>e=.returned (.pointer (some ⟨q.bc,0,none⟩))∧w=w':=by
 have c0:=h.cell 1 0 rfl rfl;have hlb:=h.lt 1 rfl;go_enter Tryz.func29,Tryz.ntmps29;go_wp2_with (fail);go_ret;exact ⟨rfl,rfl⟩
theorem hchief_ok (h:Heap w0 (H.on q R) w):
 Calls Tryz.prog 52 #[.pointer (some ⟨q.b,0,none⟩)] w fun e w'=>e=.returned (.pointer (some ⟨q.bc,0,none⟩))∧w=w':=by
 have H1:=zk h;go_enter Tryz.func52,Tryz.ntmps52;go_wp2_with (first
  |(go_at_call 11;refine (desk_ok H1.out).mono ?_;rintro e w' ⟨rfl,rfl⟩)
  |(go_at_call 29;refine (dchief_ok H1.out).mono ?_;rintro e w' ⟨rfl,rfl⟩))
 go_ret;exact ⟨rfl,rfl⟩
def HA.kp (q:HA) (i:Int):Nat:=if i=1 then q.k0 else q.k1
theorem hkeeper_ok (h:Heap w0 (H.on q R) w) (i:Int) (hi:i=1∨i=2):
 Calls Tryz.prog 16 #[.pointer (some ⟨q.b,0,none⟩),.int .i64 i] w fun e w'=>e=.returned (.pointer (some ⟨q.kp i,0,none⟩))∧w=w':=by
 have c1:=h.cell 0 1 rfl rfl;have c2:=h.cell 0 2 rfl rfl;have hlb:=h.lt 0 rfl;unfold HA.kp;rcases hi with rfl|rfl;all_goals
  go_enter Tryz.func16,Tryz.ntmps16;go_wp2_with (fail);go_ret;exact ⟨rfl,rfl⟩
def HA.sv (q:HA) (i:Int):Nat:=if i=4 then q.v0 else if i=5 then q.v1 else q.v2
theorem hservice_ok (h:Heap w0 (H.on q R) w) (i:Int) (hi:i=4∨i=5∨i=6):
 Calls Tryz.prog 79 #[.pointer (some ⟨q.b,0,none⟩),.int .i64 i] w fun e w'=>e=.returned (.pointer (some ⟨q.sv i,0,none⟩))∧w=w':=by
 have c1:=h.cell 0 4 rfl rfl;have c2:=h.cell 0 5 rfl rfl;have c3:=h.cell 0 6 rfl rfl;have hlb:=h.lt 0 rfl;unfold HA.sv;rcases hi with rfl|rfl|rfl;all_goals
  go_enter Tryz.func79,Tryz.ntmps79;go_wp2_with (fail);go_ret;exact ⟨rfl,rfl⟩
end
theorem zHb21 {P:Prop} (h:P:=by
 go_wp2_with (fail);refine wro0 [(0,.s),(1,.f),(2,.f),(3,.f),(4,.s),(5,.f)] ?_;repeat (first
  |(refine vg rfl rfl ?_;apply ex2;intro w' hw';go_simp;rfl;go_simp)
  |(refine vs_ rfl (fun K hK=>?_);go_simp;refine hK _ ?_;clear hK K))
 refine vn ?_;go_simp;go_wp2_with (fail);go_roundg (l.length-(k+1))
 case measure=>have:=HG.out;omega
 case rel=>
  refine ⟨k+1,by go_num,by omega,⟨by omega⟩,⟨fun j hj h=>?_⟩,⟨HR.out.drew⟩⟩;rcases Nat.lt_succ_iff_lt_or_eq.1 h with h|rfl
  ·exact HN.out j hj h
  ·rw [HX.out];intro e;cases e;exact HNE.out rfl):P:=h
theorem acells_get:∀(l:List (Int×Int)) (k:Nat) (hk:k<l.length),(acells l)[k*2+0]? =some (.int .i64 l[k].1)∧(acells l)[k*2+1]? =some (.int .i64 l[k].2)
 |p::l,0,_=>⟨rfl,rfl⟩
 |p::l,k+1,hk=>by
  have ih:=acells_get l k (by simpa using hk);have e:∀j,(acells (p::l))[(k+1)*2+j]? =(acells l)[k*2+j]?:=fun j=>by
   show ([.int .i64 p.1,.int .i64 p.2]++acells l)[(k+1)*2+j]? =_
   rw [List.getElem?_append_right (by simp;omega)];congr 1;simp;omega
  rw [e,e];simpa using ih
def afind (l:List (Int×Int)) (a:Int×Int):Int:=match l.findIdx? (· ==a) with|some k=>k|none=> -1
theorem aindex_ok {w0 w:World} {R:List SA} {v:Value} (l:List (Int×Int)) (a1 a2:Int) (h:Heap w0 (.slc v 193 2 l.length (acells l)::R) w) (hlen:l.length≤1000):
 Calls Tryz.prog 145 #[v,.agg #[.int .i64 a1,.int .i64 a2]] w fun e w'=>e=.returned (.int .i64 (afind l (a1,a2)))∧Heap w0 (.slc v 193 2 l.length (acells l)::R) w':=by
 obtain ⟨av,cv,rfl⟩:=vS2 (h.row 0 rfl);have HB:=zk (h.new (.cells #[.int .i64 a1,.int .i64 a2] 193));clear h;go_enter Tryz.func145,Tryz.ntmps145;go_wp2_with (fail);generalize w.alloc (.cells #[.int .i64 a1,.int .i64 a2] 193)=w1 at *;generalize w.heap.size=bx at *;have HC:As (∀W,Heap w0 (.pts bx (.cells #[.int .i64 a1,.int .i64 a2] 193)::.slc (.slice av l.length cv) 193 2 l.length (acells l)::R) W→∀j,(hj:j<l.length)→∃g,av=some ⟨g,0,none⟩∧W.cell? ⟨g,j*2,none⟩=some (.int .i64 l[j].1)∧W.cell? ⟨g,j*2+1,none⟩=some (.int .i64 l[j].2)):=⟨fun W h j hj=>by
  rcases h.shp 1 rfl with ⟨-,hz, -⟩|⟨g,cap',hv, -, -,hcel⟩
  ·omega
  cases hv;have:=acells_get l j hj;exact ⟨g,rfl,hcel (j*2+0) _ this.1,hcel (j*2+1) _ this.2⟩⟩
 go_loopg [5,8] l.length (fun gk p u wr=>∃k:Nat,u=.int .i64 k∧k≤l.length∧As (gk+k=l.length)∧As (∀j (hj:j<l.length),j<k→l[j]≠(a1,a2))∧As (Heap w0 (.pts bx (.cells #[.int .i64 a1,.int .i64 a2] 193)::.slc (.slice av l.length cv) 193 2 l.length (acells l)::R) wr))
 case atStart=>exact ⟨0,rfl,Nat.zero_le _,⟨rfl⟩,⟨by omega⟩,⟨HB.out⟩⟩
 case round=>
  obtain ⟨k,rfl,hk,HG,HN,HR⟩:=hrel;obtain ⟨x0,x1,xf⟩:=HR.out.cB2 0 rfl;have hlx:=HR.out.lt 0 rfl;clear HB;by_cases hlt:k<l.length
  ·have hk1:(k:Int)<(l.length:Int):=by omega
   obtain ⟨g,rfl,hc1,hc2⟩:=HC.out _ HR.out k hlt;have hgs:=World.block_lt_of_cell? wr _ hc1;obtain ⟨⟨b1,b2⟩,hx⟩:∃x,l[k]=x:=⟨_,rfl⟩;rw [hx] at hc1 hc2;simp only at hc1 hc2;have HX:=zk hx;clear hx;by_cases e1:a1=b1
   ·subst e1;by_cases e2:a2=b2
    ·subst e2;go_wp2_with (fail);refine wro0 [(0,.s),(1,.f),(2,.f),(3,.f),(4,.s),(5,.f)] ?_;repeat (first
      |(refine vg rfl rfl ?_;apply ex2;intro w' hw';go_simp;rfl;go_simp)
      |(refine vs_ rfl (fun K hK=>?_);go_simp;refine hK _ ?_;clear hK K))
     refine vn ?_;go_simp;go_wp2_with (fail);go_ret;have:l.findIdx? (fun y=>y==(a1,a2))=some k:=by
      rw [List.findIdx?_eq_some_iff_getElem];exact ⟨hlt,by rw [HX.out];simp,fun j hj=>by simpa using HN.out j (by omega) hj⟩
     exact ⟨by simp [afind,this],HR.out.drew.drop⟩
    ·have HNE:=zk e2;have hb2:(a2==b2)=false:=by simpa using e2
     clear e2;exact zHb21
   ·have HNE:=zk e1;have hb1:(a1==b1)=false:=by simpa using e1
    clear e1;exact zHb21
  ·go_wp2_with (fail);go_ret;have:l.findIdx? (fun y=>y==(a1,a2))=none:=by
    rw [List.findIdx?_eq_none_iff];intro x hx;obtain ⟨j,hj,rfl⟩:=List.getElem_of_mem hx;simpa using HN.out j hj (by omega)
   exact ⟨by simp [afind,this],HR.out.drop⟩
theorem acontains_ok {w0 w:World} {R:List SA} {v:Value} (l:List (Int×Int)) (a1 a2:Int) (h:Heap w0 (.slc v 193 2 l.length (acells l)::R) w) (hlen:l.length≤1000):
 Calls Tryz.prog 120 #[v,.agg #[.int .i64 a1,.int .i64 a2]] w fun e w'=>e=.returned (.bool (l.contains (a1,a2)))∧Heap w0 (.slc v 193 2 l.length (acells l)::R) w':=by
 have HB:=zk ((h.new (.cells #[.int .i64 a1,.int .i64 a2] 193)).frt 1 rfl);obtain ⟨x0,x1,xf⟩:=HB.out.cB2 1 rfl;have hlx:=HB.out.lt 1 rfl;have HL:=zk hlen;have HF:As (decide (0≤afind l (a1,a2))=l.contains (a1,a2)):=⟨by
  unfold afind;cases hf:l.findIdx? (· ==(a1,a2)) with
  |none=>
   have:=List.findIdx?_eq_none_iff.1 hf;have h2:l.contains (a1,a2)=false:=by
    rw [List.contains_eq_any_beq,List.any_eq_false];intro x hx;have:=this x hx;simp only [beq_eq_false_iff_ne,ne_eq] at this;simp only [beq_iff_eq];exact fun e=>this e.symm
   rw [h2];rfl
  |some k=>
   obtain ⟨hk,h1, -⟩:=List.findIdx?_eq_some_iff_getElem.1 hf;have h2:l.contains (a1,a2)=true:=by
    rw [List.contains_iff_mem];have:l[k]=(a1,a2):=by simpa using h1
    exact this▸List.getElem_mem hk
   rw [h2];simp⟩
 clear h hlen;generalize hfd:afind l (a1,a2)=fd at *;go_enter Tryz.func120,Tryz.ntmps120;go_wp2_with (go_at_call 145;refine (aindex_ok l a1 a2 HB.out HL.out).mono ?_;rintro e w' ⟨rfl,h1⟩;rw [hfd];have H1:=zk h1;clear h1);go_ret;exact ⟨by rw [←HF.out];rfl,H1.out.frt 1 rfl |>.drop⟩
theorem zero195:∀w,(zeroValue 195).run Tryz.prog w=.ok (.slice none 0 0) w:=fun _=>by kernel_rfl
theorem info193:(Tryz.prog.info? 193).map (fun i=>(i.zero,i.size,i.bytes))=some (some (.agg #[.int .i64 0,.int .i64 0]),2,16):=by kernel_rfl
theorem nodup_len {α:Type} [DecidableEq α]:∀(l m:List α),l.Nodup→(∀a∈l,a∈m)→l.length≤m.length
 | [],m,_,_=>Nat.zero_le _
 |a::l,m,hn,hs=>by
  have ha:=hs a (by simp);have hn2:=List.nodup_cons.1 hn;have:=nodup_len l (m.erase a) hn2.2 (fun b hb=>(List.mem_erase_of_ne (by rintro rfl;exact hn2.1 hb)).2 (hs b (by simp [hb])));rw [List.length_erase_of_mem ha] at this;have:=List.length_pos_of_mem ha;simp only [List.length_cons];omega
theorem ActsOk.len {l:List (Int×Int)} (h:ActsOk l):l.length≤9:=nodup_len l actsAll h.nd h.all
abbrev tgive (V:Int→Value):Int→List (Int×Int)→SA:=fun k l=>.slc (V k) 193 2 l.length (acells l)
theorem Heap.trace_shut {w0 w:World} {R:List SA} {bt:Nat} {V:Int→Value} {tr:IM (List (Int×Int))} {id:Int} {l:List (Int×Int)} {v:Value} (hk:KeysOk tr) (ha:∀p∈tr,ActsOk p.2) (h0:1≤id) (h1:id≤999) (hl:ActsOk l)
 (h:Heap w0 (.slc v 193 2 l.length (acells l)::.map bt (mput (mkeys V tr) id v)::bks (tgive V) (mdel tr id)::R) w):Heap w0 (.trace bt::R) w:=by
 refine Heap.reex (f:=fun x:(Int→Value)×IM (List (Int×Int))=>.when (∀p∈x.2,ActsOk p.2) (.book bt x.1 (fun k l=>.slc (x.1 k) 193 2 l.length (acells l)) x.2)) ((fun k=>if k=id then v else V k),mput tr id l) ?_;refine Heap.rewhen (fun p hp=>?_) ?_
 ·rcases mem_mput hp with rfl|hp
  ·exact hl
  ·exact ha p hp
 ·refine Heap.book_put (val:=V) (val':=fun k=>if k=id then v else V k) (give:=tgive V) (give':=tgive fun k=>if k=id then v else V k) (x:=l) hk h0 h1 (fun k hk=>by simp only [if_neg hk]) (fun k y hk=>by simp only [tgive,if_neg hk]) ?_;simp only [tgive,if_true];exact h.frt 1 rfl
theorem Heap.trace_open {w0 w:World} {R:List SA} {bt:Nat} (id:Int) (h:Heap w0 (.trace bt::R) w):∃(V:Int→Value) (tr:IM (List (Int×Int))) (l:List (Int×Int)) (v:Value),KeysOk tr∧(∀p∈tr,ActsOk p.2)∧ActsOk l∧(mget (mkeys V tr) id).getD (.slice none 0 0)=v∧
 (∀W L,Heap w0 (.slc v 193 2 l.length (acells l)::.map bt (mkeys V tr)::bks (tgive V) (mdel tr id)::L) W→Heap w0 (.trace bt::L) W)∧Heap w0 (.slc v 193 2 l.length (acells l)::.map bt (mkeys V tr)::bks (tgive V) (mdel tr id)::R) w:=by
 obtain ⟨⟨V,tr⟩,h⟩:=h.unex;obtain ⟨ha,h⟩:=h.unwhen;simp only at ha h;have hsh:∀W L,Heap w0 (.book bt V (tgive V) tr::L) W→Heap w0 (.trace bt::L) W:=fun W L h=>Heap.reex (f:=fun x:(Int→Value)×IM (List (Int×Int))=>.when (∀p∈x.2,ActsOk p.2) (.book bt x.1 (fun k l=>.slc (x.1 k) 193 2 l.length (acells l)) x.2)) (V,tr) (Heap.rewhen ha h);cases hm:mget tr id with
 |none=>
  obtain ⟨hk,h⟩:=h.open_book;refine ⟨V,tr,[],.slice none 0 0,hk,ha,⟨List.nodup_nil,by simp⟩,by rw [mget_mkeys,hm];rfl,fun W L h=>?_,?_⟩
  ·rw [mdel_none hm] at h;exact hsh _ _ (Heap.shut_book hk h.drop)
  ·rw [mdel_none hm];exact h.nRw 193 2
 |some l=>
  have hk:=h.open_book.1;have h2:=(h.book_at hm).2;refine ⟨V,tr,l,V id,hk,ha,ha _ (mget_mem hm),by rw [mget_mkeys,hm];rfl,fun W L h=>?_,?_⟩
  ·exact hsh _ _ (Heap.book_same (give:=tgive V) hk hm (h.frt 1 rfl))
  ·exact h2.frt 1 rfl
theorem happens1_ok {w0 w:World} {q:HA} {R:List SA} {a0 a1 a2 a3 a4 a5 a6 a7 a9:Value} (h:Heap w0 (.trace q.bt::.pts q.b (.cells #[a0,a1,a2,a3,a4,a5,a6,a7,.map (some q.bt),a9] 69)::R) w) (id k n:Int) (h0:1≤id) (h1:id≤999) (ha:(k,n)∈actsAll):
 Calls Tryz.prog 85 #[.pointer (some ⟨q.b,0,none⟩),.int .i64 id,.int .i64 k,.int .i64 n] w fun e w'=>e=.returned (.tuple #[])∧Heap w0 (.trace q.bt::.pts q.b (.cells #[a0,a1,a2,a3,a4,a5,a6,a7,.map (some q.bt),a9] 69)::R) w':=by
 obtain ⟨V,tr,l,v,hk,htr,hl,hlv,hsame,h⟩:=h.trace_open id;have HS:=zk hsame;have HP:As (∀v' W L,(k,n)∉l→Heap w0 (.slc v' 193 2 (l.length+1) (acells l++ [.int .i64 k,.int .i64 n])::.map q.bt (mput (mkeys V tr) id v')::bks (tgive V) (mdel tr id)::L) W→Heap w0 (.trace q.bt::L) W):=⟨fun v' W L hn h=>by
  refine Heap.trace_shut (V:=V) (v:=v') (l:=l++ [(k,n)]) hk htr h0 h1 ⟨?_,?_⟩ ?_
  ·rw [List.nodup_append];exact ⟨hl.nd,by simp,fun a ha b hb=>by rw [List.mem_singleton.1 hb];exact fun e=>hn (e▸ha)⟩
  ·intro a h;rcases List.mem_append.1 h with h|h
   ·exact hl.all a h
   ·rw [List.mem_singleton.1 h];exact ha
  ·rw [List.length_append,show acells (l++ [(k,n)])=acells l++ [.int .i64 k,.int .i64 n] by simp [acells]];exact h⟩
 have HLN:As (l.length≤9):=⟨hl.len⟩;have hmn:As ((mkeys V tr).length<1000000):=⟨by have:=hk.len;simp [mkeys];omega⟩;have hlk:∀W L,Heap w0 (.slc v 193 2 l.length (acells l)::.map q.bt (mkeys V tr)::L) W→(Instr.lookup 66 (.map (some q.bt)) (.int .i64 id) false).run Tryz.prog W=.ok v W:=fun W L h=>by
  rw [run_look (h.owns 1 rfl) false Tryz.underlying66 (zero195 W) (by omega) (by omega),←hlv];rfl
 have HLK:=zk hlk;have HLK2:As (∀W L x,Heap w0 (.pts x (.cells #[.int .i64 k,.int .i64 n] 193)::.slc v 193 2 l.length (acells l)::.map q.bt (mkeys V tr)::L) W→(Instr.lookup 66 (.map (some q.bt)) (.int .i64 id) false).run Tryz.prog W=.ok v W):=⟨fun W L x h=>hlk _ _ h.drop⟩;have HLK3:As (∀W L x y sl T,Heap w0 (x::.slc sl T 2 (l.length+1) (acells l++ [.int .i64 k,.int .i64 n])::y::.map q.bt (mkeys V tr)::L) W→(Instr.lookup 66 (.map (some q.bt)) (.int .i64 id) false).run Tryz.prog W=.ok v W):=⟨fun W L x y sl T h=>by
  rw [run_look (h.owns 3 rfl) false Tryz.underlying66 (zero195 W) (by omega) (by omega),←hlv];rfl⟩
 obtain ⟨av,cv,rfl⟩:=vS2 (h.row 0 rfl);have H1:=zk (h.new (.cells #[.int .i64 k,.int .i64 n] 193));obtain ⟨i0,hj0,hj1,hj2,hj3⟩:=info_parts info193;have HI:=zk (And.intro hj0 (And.intro hj1 (And.intro hj2 hj3)));clear h hsame hlk hj0 hj1 hj2 hj3 hk htr hl hlv ha;go_enter Tryz.func85,Tryz.ntmps85;go_wp2_with (fail);generalize w.alloc (.cells #[.int .i64 k,.int .i64 n] 193)=W1 at *;generalize w.heap.size=pe at *;obtain ⟨x0,x1,xf⟩:=H1.out.cB2 0 rfl;have c8:=H1.out.cell 4 8 rfl rfl;have hlb:=H1.out.lt 4 rfl;have hlx:=H1.out.lt 0 rfl;have hlk:=HLK2.out _ _ _ H1.out;have hlk2:=HLK2.out _ _ _ H1.out.drew;cases hct:l.contains (k,n)
 ·have HNM:As ((k,n)∉l):=⟨fun h=>by rw [List.contains_iff_mem.2 h] at hct;cases hct⟩;refine wro0 [(0,.f),(1,.f),(2,.f),(3,.s),(4,.f),(5,.s),(6,.s),(7,.e),(8,.f)] ?_;repeat (first
   |(refine vg rfl rfl ?_;apply ex2;intro w' hw';go_simp;rfl;go_simp)
   |(refine vs_ rfl (fun K hK=>?_);go_simp;refine hK _ ?_;clear hK K)
   |(refine ve rfl rfl ?_;go_wp2_with (go_at_call 120;refine (acontains_ok l k n (H1.out.drew.frt 1 rfl) (by have:=HLN.out;omega)).mono ?_;rintro e w2 ⟨rfl,h2⟩;rw [hct];have H2:=zk h2;clear h2);refine ⟨trivial,?_⟩;go_simp))
  refine vn ?_;go_simp;clear x0 x1 xf c8 hlb hlx hlk hlk2 hct H1;obtain ⟨x0,x1,xf⟩:=H2.out.cB2 1 rfl;have c8:=H2.out.cell 4 8 rfl rfl;have hlb:=H2.out.lt 4 rfl;have hlx:=H2.out.lt 1 rfl;have hlk:=HLK.out _ _ (H2.out.drew.sel (p:= [_,_,_]) [0,2,1] 3 rfl (by decide));go_wp2_with (fail);refine wrx (fun W=>W.cell? ⟨q.b,8,none⟩=some (.map (some q.bt))∧(Instr.lookup 66 (.map (some q.bt)) (.int .i64 id) false).run Tryz.prog W=.ok (.slice av l.length cv) W∧W.cell? ⟨pe,0,none⟩=some (.int .i64 k)∧W.cell? ⟨pe,1,none⟩=some (.int .i64 n)) [14] (.op 0 .f (.op 1 .f (.op 2 .f (.op 3 .f (.op 4 .f (.op 5 .f (.op 6 .f (.op 7 .f (.op 8 .f (.op 9 .f (.op 10 .f (.op 11 .f (.op 12 .e (.op 13 .e (.op 14 .e .nil))))))))))))))) (by kernel_rfl) (by kernel_rfl) ⟨c8,hlk,x0,x1⟩ ?_;iterate 12
   first
    |(refine vxp rfl rfl ?_;apply ex2;intro w';go_simp;rfl;go_simp)
    |(refine vxg (by kernel_rfl) rfl rfl ?_;apply ex2;intro w' hw';obtain ⟨q1,q2,q3,q4⟩:=hw';go_simp;rfl;go_simp)
  refine vxe rfl rfl rfl ?_;go_wp2_with (fail);have H3:=zk (H2.out.new (.cells #[.int .i64 k,.int .i64 n] 193)).drew;refine ⟨⟨H3.out.cell 5 8 rfl rfl,HLK.out _ _ (H3.out.sel (p:= [_,_,_,_]) [1,3,0,2] 4 rfl (by decide)),H3.out.cell 2 0 rfl rfl,H3.out.cell 2 1 rfl rfl⟩,?_⟩;go_simp;refine vxe rfl rfl rfl ?_;refine wla H3.out 1 _ 193 2 l.length _ rfl rfl _ _ 195 rfl _ _ 16 Tryz.underlying195 HI.out.1 HI.out.2.1 HI.out.2.2.1 HI.out.2.2.2 rfl (by decide) rfl ⟨w2.heap.size,0,none⟩ 1 1 [.int .i64 k,.int .i64 n] rfl rfl (fun j u hu=>by rw [addr_add];exact H3.out.cell 0 j rfl (by simpa using hu)) (by simp [Value.oneCell']) (by have:=HLN.out;omega) (by decide) (by omega) ?_;intro g2 cap2 w5 h5 _;have H4:=zk h5;clear h5;go_wp2_with (fail);refine ⟨⟨H4.out.cell 5 8 rfl rfl,HLK3.out _ _ _ _ _ _ H4.out,H4.out.cell 2 0 rfl rfl,H4.out.cell 2 1 rfl rfl⟩,?_⟩;go_simp;refine vxx rfl rfl rfl ?_;refine wlp H4.out 3 q.bt _ rfl rfl _ _ _ 66 195 rfl Tryz.underlying66 rfl id rfl _ rfl (by omega) (by omega) hmn.out ?_;intro w6 h6 _;have H5:=zk h6;clear h6;go_wp2_with (fail);refine ⟨trivial,?_⟩;go_simp;refine vtn ?_;go_simp;go_wp2_with (fail);go_end0;refine ⟨rfl,?_⟩;exact HP.out _ _ _ HNM.out (H5.out.sel (p:= [_,_,_,_,_,_]) [1,3,4,5] 6 rfl (by decide))
 ·skip;refine wro0 [(0,.f),(1,.f),(2,.f),(3,.s),(4,.f),(5,.s),(6,.s),(7,.e),(8,.f)] ?_;repeat (first
   |(refine vg rfl rfl ?_;apply ex2;intro w' hw';go_simp;rfl;go_simp)
   |(refine vs_ rfl (fun K hK=>?_);go_simp;refine hK _ ?_;clear hK K)
   |(refine ve rfl rfl ?_;go_wp2_with (go_at_call 120;refine (acontains_ok l k n (H1.out.drew.frt 1 rfl) (by have:=HLN.out;omega)).mono ?_;rintro e w2 ⟨rfl,h2⟩;rw [hct];have H2:=zk h2;clear h2);refine ⟨trivial,?_⟩;go_simp))
  refine vn ?_;go_simp;go_wp2_with (fail);go_end0;refine ⟨rfl,?_⟩;exact HS.out _ _ (H2.out.sel (p:= [_,_,_,_,_]) [0,2,3,4] 5 rfl (by decide))
section
variable {w0 w:World} {q:HA} {H:Harb} {R:List SA}
theorem happens_ok (h:Heap w0 (H.on q R) w) (id k n:Int) (h0:1≤id) (h1:id≤999) (ha:(k,n)∈actsAll):
 Calls Tryz.prog 85 #[.pointer (some ⟨q.b,0,none⟩),.int .i64 id,.int .i64 k,.int .i64 n] w fun e w'=>e=.returned (.tuple #[])∧Heap w0 (H.on q R) w':=by
 have h2:=h.sel (p:= [_,_,_,_,_,_,_,_,_,_,_,_,_]) [10,0,1,2,3,4,5,6,7,8,9,11,12] 13 rfl (by decide);refine (happens1_ok h2 id k n h0 h1 ha).mono ?_;rintro e w' ⟨rfl,h3⟩;exact ⟨rfl,h3.sel (p:= [_,_,_,_,_,_,_,_,_,_,_,_,_]) [1,2,3,4,5,6,7,8,9,10,0,11,12] 13 rfl (by decide)⟩
def HA.node (q:HA) (i:Int):Value:=
 if i=0 then .iface 70 (.pointer (some ⟨q.bc,0,none⟩)) else
 if i=1 then .iface 40 (.pointer (some ⟨q.k0,0,none⟩)) else
 if i=2 then .iface 40 (.pointer (some ⟨q.k1,0,none⟩)) else
 if i=3 then .iface 63 (.pointer (some ⟨q.bs,0,none⟩)) else
 if i=4 then .iface 64 (.pointer (some ⟨q.v0,0,none⟩)) else
 if i=5 then .iface 64 (.pointer (some ⟨q.v1,0,none⟩)) else
 if i=6 then .iface 64 (.pointer (some ⟨q.v2,0,none⟩)) else .nilIface
theorem node_ok (h:Heap w0 (H.on q R) w) (i:Int) (hi:i=0∨i=1∨i=2∨i=3∨i=4∨i=5∨i=6):
 Calls Tryz.prog 48 #[.pointer (some ⟨q.b,0,none⟩),.int .i64 i] w fun e w'=>e=.returned (q.node i)∧w=w':=by
 have HH:=zk h;have c3:=h.cell 0 3 rfl rfl;have hlb:=h.lt 0 rfl;clear h;unfold HA.node;rcases hi with rfl|rfl|rfl|rfl|rfl|rfl|rfl;all_goals
  go_enter Tryz.func48,Tryz.ntmps48;go_wp2_with (first
   |(go_at_call 52;refine (hchief_ok HH.out).mono ?_;rintro e w' ⟨rfl,rfl⟩)
   |(go_at_call 16;refine (hkeeper_ok HH.out _ (by omega)).mono ?_;rintro e w' ⟨rfl,rfl⟩)
   |(go_at_call 79;refine (hservice_ok HH.out _ (by omega)).mono ?_;rintro e w' ⟨rfl,rfl⟩))
  go_ret;exact ⟨rfl,rfl⟩
theorem meth_Down70 (v:Value) (W:World):(method 463 70 v "Down").run Tryz.prog W=.ok (97,v) W:=by kernel_rfl
theorem meth_Down40 (v:Value) (W:World):(method 463 40 v "Down").run Tryz.prog W=.ok (19,v) W:=by kernel_rfl
theorem meth_Down63 (v:Value) (W:World):(method 463 63 v "Down").run Tryz.prog W=.ok (259,v) W:=by kernel_rfl
theorem meth_Down64 (v:Value) (W:World):(method 463 64 v "Down").run Tryz.prog W=.ok (266,v) W:=by kernel_rfl
theorem meth_Crash70 (v:Value) (W:World):(method 463 70 v "Crash").run Tryz.prog W=.ok (277,v) W:=by kernel_rfl
theorem meth_Crash40 (v:Value) (W:World):(method 463 40 v "Crash").run Tryz.prog W=.ok (214,v) W:=by kernel_rfl
theorem meth_Crash63 (v:Value) (W:World):(method 463 63 v "Crash").run Tryz.prog W=.ok (258,v) W:=by kernel_rfl
theorem meth_Crash64 (v:Value) (W:World):(method 463 64 v "Crash").run Tryz.prog W=.ok (265,v) W:=by kernel_rfl
theorem meth_Start70 (v:Value) (W:World):(method 463 70 v "Start").run Tryz.prog W=.ok (279,v) W:=by kernel_rfl
theorem meth_Start40 (v:Value) (W:World):(method 463 40 v "Start").run Tryz.prog W=.ok (216,v) W:=by kernel_rfl
theorem meth_Start63 (v:Value) (W:World):(method 463 63 v "Start").run Tryz.prog W=.ok (261,v) W:=by kernel_rfl
theorem meth_Start64 (v:Value) (W:World):(method 463 64 v "Start").run Tryz.prog W=.ok (268,v) W:=by kernel_rfl
theorem meth_Handle70 (v:Value) (W:World):(method 463 70 v "Handle").run Tryz.prog W=.ok (278,v) W:=by kernel_rfl
theorem meth_Handle40 (v:Value) (W:World):(method 463 40 v "Handle").run Tryz.prog W=.ok (215,v) W:=by kernel_rfl
theorem meth_Handle63 (v:Value) (W:World):(method 463 63 v "Handle").run Tryz.prog W=.ok (260,v) W:=by kernel_rfl
theorem meth_Handle64 (v:Value) (W:World):(method 463 64 v "Handle").run Tryz.prog W=.ok (267,v) W:=by kernel_rfl
end
def Harb.isDown (H:Harb) (i:Int):Bool:=
 if i=0 then H.c.j.down else if i=1 then H.k0.j.down else if i=2 then H.k1.j.down else if i=3 then H.s.j.down else
 if i=4 then H.v0.j.down else if i=5 then H.v1.j.down else H.v2.j.down
def Harb.anyDown (H:Harb):Bool:=H.c.j.down||H.k0.j.down||H.k1.j.down||H.s.j.down||H.v0.j.down||H.v1.j.down||H.v2.j.down
theorem anyDown_some {H:Harb} {i:Nat} (hi:i<7) (h:H.isDown i=true):H.anyDown=true:=by
 obtain rfl|rfl|rfl|rfl|rfl|rfl|rfl:i=0∨i=1∨i=2∨i=3∨i=4∨i=5∨i=6:=by omega
 all_goals
  simp [Harb.isDown] at h;simp [Harb.anyDown,h]
theorem anyDown_none {H:Harb} (h:∀i:Nat,i<7→H.isDown i=false):H.anyDown=false:=by
 have h0:=h 0 (by omega);have h1:=h 1 (by omega);have h2:=h 2 (by omega);have h3:=h 3 (by omega);have h4:=h 4 (by omega);have h5:=h 5 (by omega);have h6:=h 6 (by omega);simp [Harb.isDown] at h0 h1 h2 h3 h4 h5 h6;simp [Harb.anyDown,h0,h1,h2,h3,h4,h5,h6]
section
variable {w0 w:World} {q:HA} {H:Harb} {R:List SA}
theorem down_ok (h:Heap w0 (H.on q R) w):
 Calls Tryz.prog 46 #[.pointer (some ⟨q.b,0,none⟩)] w fun e w'=>e=.returned (.bool H.anyDown)∧w=w':=by
 have HH:=zk h;clear h;go_enter Tryz.func46,Tryz.ntmps46;go_wp2_with (fail)
 go_loopg [3,4] 7 (fun gk p u wr=>∃k:Nat,u=.int .i64 k∧k≤7∧As (gk+k=7)∧As (∀j:Nat,j<k→H.isDown j=false)∧wr=w)
 case atStart=>exact ⟨0,rfl,Nat.zero_le _,⟨rfl⟩,⟨by omega⟩,rfl⟩
 case round=>
  obtain ⟨k,rfl,hk,HG,HN,rfl⟩:=hrel;by_cases hlt:k<7
  ·have hcase:k=0∨k=1∨k=2∨k=3∨k=4∨k=5∨k=6:=by omega
   rcases hcase with rfl|rfl|rfl|rfl|rfl|rfl|rfl
   ·have HM1:=meth_Down70;cases hd:H.c.j.down
    ·go_wp2_with (first
      |(go_at_call 48;refine (node_ok HH.out _ (by omega)).mono ?_;rintro e w' ⟨rfl,rfl⟩;simp only [HA.node,Int.reduceEq,if_true,if_false])
      |(go_at_call 97;refine (cdown_ok (HH.out.frt 2 rfl)).mono ?_;rintro e w' ⟨rfl,rfl⟩;rw [hd]))
     go_roundg (7-(0+1))
     case measure=>have:=HG.out;omega
     case rel=>
      refine ⟨0+1,by go_num,by omega,⟨by omega⟩,⟨fun j hj=>?_⟩,rfl⟩;rcases Nat.lt_succ_iff_lt_or_eq.1 hj with h|rfl
      ·exact HN.out j h
      ·simpa [Harb.isDown] using hd
    ·go_wp2_with (first
      |(go_at_call 48;refine (node_ok HH.out _ (by omega)).mono ?_;rintro e w' ⟨rfl,rfl⟩;simp only [HA.node,Int.reduceEq,if_true,if_false])
      |(go_at_call 97;refine (cdown_ok (HH.out.frt 2 rfl)).mono ?_;rintro e w' ⟨rfl,rfl⟩;rw [hd]))
     go_ret;exact ⟨by rw [anyDown_some (i:=0) (by omega) (by simpa [Harb.isDown] using hd)];rfl,rfl⟩
   ·have HM1:=meth_Down40;cases hd:H.k0.j.down
    ·go_wp2_with (first
      |(go_at_call 48;refine (node_ok HH.out _ (by omega)).mono ?_;rintro e w' ⟨rfl,rfl⟩;simp only [HA.node,Int.reduceEq,if_true,if_false])
      |(go_at_call 19;refine (kdown_ok (HH.out.frt 3 rfl)).mono ?_;rintro e w' ⟨rfl,rfl⟩;rw [hd]))
     go_roundg (7-(1+1))
     case measure=>have:=HG.out;omega
     case rel=>
      refine ⟨1+1,by go_num,by omega,⟨by omega⟩,⟨fun j hj=>?_⟩,rfl⟩;rcases Nat.lt_succ_iff_lt_or_eq.1 hj with h|rfl
      ·exact HN.out j h
      ·simpa [Harb.isDown] using hd
    ·go_wp2_with (first
      |(go_at_call 48;refine (node_ok HH.out _ (by omega)).mono ?_;rintro e w' ⟨rfl,rfl⟩;simp only [HA.node,Int.reduceEq,if_true,if_false])
      |(go_at_call 19;refine (kdown_ok (HH.out.frt 3 rfl)).mono ?_;rintro e w' ⟨rfl,rfl⟩;rw [hd]))
     go_ret;exact ⟨by rw [anyDown_some (i:=1) (by omega) (by simpa [Harb.isDown] using hd)];rfl,rfl⟩
   ·have HM1:=meth_Down40;cases hd:H.k1.j.down
    ·go_wp2_with (first
      |(go_at_call 48;refine (node_ok HH.out _ (by omega)).mono ?_;rintro e w' ⟨rfl,rfl⟩;simp only [HA.node,Int.reduceEq,if_true,if_false])
      |(go_at_call 19;refine (kdown_ok (HH.out.frt 4 rfl)).mono ?_;rintro e w' ⟨rfl,rfl⟩;rw [hd]))
     go_roundg (7-(2+1))
     case measure=>have:=HG.out;omega
     case rel=>
      refine ⟨2+1,by go_num,by omega,⟨by omega⟩,⟨fun j hj=>?_⟩,rfl⟩;rcases Nat.lt_succ_iff_lt_or_eq.1 hj with h|rfl
      ·exact HN.out j h
      ·simpa [Harb.isDown] using hd
    ·go_wp2_with (first
      |(go_at_call 48;refine (node_ok HH.out _ (by omega)).mono ?_;rintro e w' ⟨rfl,rfl⟩;simp only [HA.node,Int.reduceEq,if_true,if_false])
      |(go_at_call 19;refine (kdown_ok (HH.out.frt 4 rfl)).mono ?_;rintro e w' ⟨rfl,rfl⟩;rw [hd]))
     go_ret;exact ⟨by rw [anyDown_some (i:=2) (by omega) (by simpa [Harb.isDown] using hd)];rfl,rfl⟩
   ·have HM1:=meth_Down63;cases hd:H.s.j.down
    ·go_wp2_with (first
      |(go_at_call 48;refine (node_ok HH.out _ (by omega)).mono ?_;rintro e w' ⟨rfl,rfl⟩;simp only [HA.node,Int.reduceEq,if_true,if_false])
      |(go_at_call 259;refine (hdown_ok (HH.out.frt 5 rfl)).mono ?_;rintro e w' ⟨rfl,rfl⟩;rw [hd]))
     go_roundg (7-(3+1))
     case measure=>have:=HG.out;omega
     case rel=>
      refine ⟨3+1,by go_num,by omega,⟨by omega⟩,⟨fun j hj=>?_⟩,rfl⟩;rcases Nat.lt_succ_iff_lt_or_eq.1 hj with h|rfl
      ·exact HN.out j h
      ·simpa [Harb.isDown] using hd
    ·go_wp2_with (first
      |(go_at_call 48;refine (node_ok HH.out _ (by omega)).mono ?_;rintro e w' ⟨rfl,rfl⟩;simp only [HA.node,Int.reduceEq,if_true,if_false])
      |(go_at_call 259;refine (hdown_ok (HH.out.frt 5 rfl)).mono ?_;rintro e w' ⟨rfl,rfl⟩;rw [hd]))
     go_ret;exact ⟨by rw [anyDown_some (i:=3) (by omega) (by simpa [Harb.isDown] using hd)];rfl,rfl⟩
   ·have HM1:=meth_Down64;cases hd:H.v0.j.down
    ·go_wp2_with (first
      |(go_at_call 48;refine (node_ok HH.out _ (by omega)).mono ?_;rintro e w' ⟨rfl,rfl⟩;simp only [HA.node,Int.reduceEq,if_true,if_false])
      |(go_at_call 266;refine (vdown_ok (HH.out.frt 6 rfl)).mono ?_;rintro e w' ⟨rfl,rfl⟩;rw [hd]))
     go_roundg (7-(4+1))
     case measure=>have:=HG.out;omega
     case rel=>
      refine ⟨4+1,by go_num,by omega,⟨by omega⟩,⟨fun j hj=>?_⟩,rfl⟩;rcases Nat.lt_succ_iff_lt_or_eq.1 hj with h|rfl
      ·exact HN.out j h
      ·simpa [Harb.isDown] using hd
    ·go_wp2_with (first
      |(go_at_call 48;refine (node_ok HH.out _ (by omega)).mono ?_;rintro e w' ⟨rfl,rfl⟩;simp only [HA.node,Int.reduceEq,if_true,if_false])
      |(go_at_call 266;refine (vdown_ok (HH.out.frt 6 rfl)).mono ?_;rintro e w' ⟨rfl,rfl⟩;rw [hd]))
     go_ret;exact ⟨by rw [anyDown_some (i:=4) (by omega) (by simpa [Harb.isDown] using hd)];rfl,rfl⟩
   ·have HM1:=meth_Down64;cases hd:H.v1.j.down
    ·go_wp2_with (first
      |(go_at_call 48;refine (node_ok HH.out _ (by omega)).mono ?_;rintro e w' ⟨rfl,rfl⟩;simp only [HA.node,Int.reduceEq,if_true,if_false])
      |(go_at_call 266;refine (vdown_ok (HH.out.frt 7 rfl)).mono ?_;rintro e w' ⟨rfl,rfl⟩;rw [hd]))
     go_roundg (7-(5+1))
     case measure=>have:=HG.out;omega
     case rel=>
      refine ⟨5+1,by go_num,by omega,⟨by omega⟩,⟨fun j hj=>?_⟩,rfl⟩;rcases Nat.lt_succ_iff_lt_or_eq.1 hj with h|rfl
      ·exact HN.out j h
      ·simpa [Harb.isDown] using hd
    ·go_wp2_with (first
      |(go_at_call 48;refine (node_ok HH.out _ (by omega)).mono ?_;rintro e w' ⟨rfl,rfl⟩;simp only [HA.node,Int.reduceEq,if_true,if_false])
      |(go_at_call 266;refine (vdown_ok (HH.out.frt 7 rfl)).mono ?_;rintro e w' ⟨rfl,rfl⟩;rw [hd]))
     go_ret;exact ⟨by rw [anyDown_some (i:=5) (by omega) (by simpa [Harb.isDown] using hd)];rfl,rfl⟩
   ·have HM1:=meth_Down64;cases hd:H.v2.j.down
    ·go_wp2_with (first
      |(go_at_call 48;refine (node_ok HH.out _ (by omega)).mono ?_;rintro e w' ⟨rfl,rfl⟩;simp only [HA.node,Int.reduceEq,if_true,if_false])
      |(go_at_call 266;refine (vdown_ok (HH.out.frt 8 rfl)).mono ?_;rintro e w' ⟨rfl,rfl⟩;rw [hd]))
     go_roundg (7-(6+1))
     case measure=>have:=HG.out;omega
     case rel=>
      refine ⟨6+1,by go_num,by omega,⟨by omega⟩,⟨fun j hj=>?_⟩,rfl⟩;rcases Nat.lt_succ_iff_lt_or_eq.1 hj with h|rfl
      ·exact HN.out j h
      ·simpa [Harb.isDown] using hd
    ·go_wp2_with (first
      |(go_at_call 48;refine (node_ok HH.out _ (by omega)).mono ?_;rintro e w' ⟨rfl,rfl⟩;simp only [HA.node,Int.reduceEq,if_true,if_false])
      |(go_at_call 266;refine (vdown_ok (HH.out.frt 8 rfl)).mono ?_;rintro e w' ⟨rfl,rfl⟩;rw [hd]))
     go_ret;exact ⟨by rw [anyDown_some (i:=6) (by omega) (by simpa [Harb.isDown] using hd)];rfl,rfl⟩
  ·go_wp2;go_ret;exact ⟨by rw [anyDown_none fun i hi=>HN.out i (by omega)];rfl,rfl⟩
end
theorem hin_ok (v n:Int) (w:World):Calls Tryz.prog 71 #[.int .i64 v,.int .i64 n] w fun e w'=>e=.returned (.bool (decide (1≤v)&&decide (v≤n)))∧w=w':=by
 by_cases h1:1≤v
 ·by_cases h2:v≤n
  ·go_enter Tryz.func71,Tryz.ntmps71;go_wp2_with (fail);go_ret;exact ⟨by simp [h1,h2],rfl⟩
  ·go_enter Tryz.func71,Tryz.ntmps71;go_wp2_with (fail);go_ret;exact ⟨by simp [h1,h2],rfl⟩
 ·go_enter Tryz.func71,Tryz.ntmps71;go_wp2_with (fail);go_ret;exact ⟨by simp [h1];omega,rfl⟩
def tid (x:Int):Int:=1+((x%18446744073709551616).toNat%6:Nat)
theorem tid_in (x:Int):1≤tid x∧tid x≤6:=by unfold tid;omega
theorem id_ok (x:Int) (w:World):Calls Tryz.prog 45 #[.int .i64 x] w fun e w'=>e=.returned (.int .i64 (tid x))∧w=w':=by
 go_enter Tryz.func45,Tryz.ntmps45;go_wp2_with (fail);go_ret;refine ⟨?_,rfl⟩;have e:(IntKind.u64.wrap x).tmod 6=(((x%18446744073709551616).toNat%6:Nat):Int):=by
  rw [IntKind.wrap_u64,Int.tmod_eq_emod_of_nonneg (by omega)];omega
 show Ending.returned (.int .i64 (wrap64 (1+wrap64 ((IntKind.u64.wrap x).tmod 6))))=_
 rw [e];have h2:((x%18446744073709551616).toNat%6:Nat)<6:=Nat.mod_lt _ (by omega);unfold tid;generalize (x%18446744073709551616).toNat%6=k at *;have h3:wrap64 (k:Int)=k:=by unfold wrap64;omega
 have h4:wrap64 (1+(k:Int))=1+k:=by unfold wrap64;omega
 rw [h3,h4]
end Go.Proofs.YtlnghlamnehfjaaGreatDoor.S
