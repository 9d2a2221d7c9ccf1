/- Part Q09. -/
import Derived.Test.YtlnghlamnehfjaaGreatDoorQ07
import Derived.Test.YtlnghlamnehfjaaGreatDoorQ08
set_option linter.unusedVariables false
set_option linter.unusedSimpArgs false
set_option maxRecDepth 100000
set_option maxHeartbeats 64000000
namespace Go.Proofs.YtlnghlamnehfjaaGreatDoor.S
open Go.RowKit Go.Maps
structure Facts where
 done:List Bool
 undone:List Bool
 asked:Bool
 yes:Bool
 turned:Bool
 ack0:Bool
 ack1:Bool
 shipped:Bool
 dam0:Bool
 dam1:Bool
 accepted:Bool
structure Od.ok (o:Od):Prop where
 id0:1≤o.id
 id1:o.id≤999
 item0:0≤o.item
 item1:o.item≤7
 client0:0≤o.client
 client1:o.client≤7
 qty0:0<o.qty
 qty1:o.qty≤1000000000
 price0:0<o.price
 price1:o.price≤1000000000
 len:o.steps.length≤3
 svc:∀p∈o.steps,4≤p.svc∧p.svc≤6∧0<p.n∧p.n≤1000000000
 dist:(o.steps.map Sp.svc).Nodup
def Yz (l:List Bool):Bool:=Xg l.reverse
def Facts.decided (f:Facts):Bool:=f.yes||f.turned
def Facts.may (f:Facts) (n:Nat):Bool:=
 if decide (f.done.length=n)=false then false else
 if decide (f.undone.length=n)=false then false else
 if (f.yes&&f.turned)=true then false else
 if (f.yes&&(f.done.contains false||f.undone.contains true|| !f.asked))=true then false else
 if ((f.undone.contains true&& !f.turned)||(f.shipped&& !f.yes))=true then false else
 if ((f.ack0||f.ack1||(f.dam0||f.dam1))&& !f.yes&& !f.turned)=true then false else
 (Xg f.done||f.turned)&&Yz f.undone
def Facts.ends (f:Facts):Int:=
 if (f.turned&&(f.ack0&&f.ack1)&& !f.undone.contains false)=true then 6 else
 if f.turned=true then 4 else
 if (f.yes&&(f.ack0&&f.ack1)&&f.shipped)=true then 5 else
 if f.yes=true then 3 else
 if f.asked=true then 2 else 1
def Facts.state (f:Facts) (n:Nat):Int:=
 if f.may n=false then 0 else if ((f.dam0||f.dam1)&& !f.accepted)=true then 7 else f.ends
def Facts.over (f:Facts) (n:Nat):Bool:=f.may n&&(decide (f.ends=5)||decide (f.ends=6))
def QO (kind to:Int) (o:Od):Msg:=⟨kind,0,to,o.id,0,0,0⟩
def Qu (kind:Int) (o:Od) (f:Facts):List Msg:=
 (if f.ack0=true then [] else [QO kind 1 o])++(if f.ack1=true then [] else [QO kind 2 o])
def QF (l:List Bool):Int:=match l.reverse.findIdx? (fun b=>!b) with
 |none=> -1
 |some i=>(l.length:Int)-1-i
def XX (o:Od) (f:Facts):List Msg:=match f.undone.reverse.findIdx? (fun b=>!b) with
 |none=> []
 |some i=>match o.steps[f.undone.length-1-i]? with
  |none=> []
  |some s=> [⟨4,0,s.svc,o.id,((f.undone.length-1-i:Nat):Int),0,0⟩]
def QW (o:Od) (f:Facts):List Msg:=match f.done.findIdx? (fun b=>!b) with
 |some i=>match o.steps[i]? with
  |some s=> [⟨1,0,s.svc,o.id,(i:Int),s.n,0⟩]
  |none=> []
 |none=> [⟨6,0,1,o.id,0,o.item,o.qty⟩,⟨6,0,2,o.id,0,o.client,o.price⟩]
def Xa (o:Od) (f:Facts):List Msg:=
 if f.may o.steps.length=false then [] else
 if f.turned=true then Qu 10 o f++XX o f else
 if (f.yes&&f.shipped)=true then Qu 9 o f else
 if f.yes=true then Qu 9 o f++ [⟨15,0,3,o.id,0,o.item,o.qty⟩] else QW o f
theorem Qe1 {l:List Sp} (hd:(l.map Sp.svc).Nodup) {k:Nat} (hk:k<l.length):Kb l l[k].svc=(k:Int):=by
 have:l.findIdx? (fun p=>decide (p.svc=l[k].svc))=some k:=by
  rw [List.findIdx?_eq_some_iff_getElem];refine ⟨hk,by simp,fun j hj=>?_⟩;have h1:=(List.pairwise_iff_getElem.1 hd) j k (by simp;omega) (by simpa using hk) hj;simpa using h1
 unfold Kb;rw [this]
theorem Qrc (o:Od) (v:Value) (w:World) (hok:o.ok) (hr:w.ownsRow 0 131 2 v o.steps.length (Qs o.steps)):
 Calls Tryz.prog 93 #[o.val v] w fun e w'=>e=.returned (.bool true)∧Below w.heap.size w w':=by
 have hs:(v=.slice none 0 0∧o.steps.length=0)∨∃g cap,v=.slice (some ⟨g,0,none⟩) o.steps.length cap∧∀(j:Nat) u,(Qs o.steps)[j]? =some u→w.cell? ⟨g,j,none⟩=some u:=by
  rcases hr.2 with ⟨h,h'⟩|⟨g,cap,cur,h,_⟩;exact .inl ⟨h,h'⟩;refine .inr ⟨g,cap,h,fun j u hu=>?_⟩;have:=hr.cells (g:=g) (by rw [h];rfl) j u hu
  rwa [show (⟨g,0,none⟩:Addr).add j=⟨g,j,none⟩ by unfold Addr.add;split<;>simp_all] at this
 have HAT:As (∀W s,Below w.heap.size w W→Calls Tryz.prog 127 #[o.val v,.int .i64 s] W fun e w'=>e=.returned (.int .i64 (Kb o.steps s))∧Below W.heap.size W w'):=⟨fun W s hb=>QE0 o v s W (QR hr hb) (by have:=hok.len;omega)⟩;have HIN:=zk QEh;have HSM:=zk Qy3;have HOK:=zk hok;have hl3:(o.steps.length:Int)≤3:=by have:=hok.len;omega
 have hid0:=hok.id0;have hid1:=hok.id1;have hit0:=hok.item0;have hit1:=hok.item1;have hcl0:=hok.client0;have hcl1:=hok.client1;have hq:Ff o.qty=true:=by have:=hok.qty0;have:=hok.qty1;simp [Ff,may];omega
 have hp:Ff o.price=true:=by have:=hok.price0;have:=hok.price1;simp [Ff,may];omega
 have hi1:oin o.id 1 999=true:=by simp [oin];omega
 have hi2:oin o.item 0 7=true:=by simp [oin];omega
 have hi3:oin o.client 0 7=true:=by simp [oin];omega
 unfold Od.val at HAT⊢;clear hok hr;rcases hs with ⟨rfl,hn⟩|⟨g,cap,rfl,hX⟩
 ·have hn2:(o.steps.length:Int)=0:=by omega
  go_enter Tryz.func93,Tryz.ntmps93;go_wp2
  go_loopg [3,4,8] 0 (fun gk p q i wr=>i=.int .i64 0∧wr=w.alloc (.cells #[o.id,o.item,o.qty,o.client,o.price,.slice none 0 0] 32))
  case atStart=>exact ⟨rfl,rfl⟩
  case round=>
   obtain ⟨rfl,rfl⟩:=hrel;go_wp2_with (first|(go_at_call 125;refine (HIN.1 _ _ _ _).m0 ?_)|(go_at_call 126;refine (HSM.1 _ _).m0 ?_));go_ret;exact ⟨rfl,(Below.refl _ _).alloc (Nat.le_refl _) _⟩
 ·have HX:=zk hX;have hB0:Below (w.heap.size+1) (w.alloc (.cells #[o.id,o.item,o.qty,o.client,o.price,.slice (some ⟨g,0,none⟩) o.steps.length cap] 32)) (w.alloc (.cells #[o.id,o.item,o.qty,o.client,o.price,.slice (some ⟨g,0,none⟩) o.steps.length cap] 32)):=Below.refl _ _;generalize hW0:w.alloc (.cells #[o.id,o.item,o.qty,o.client,o.price,.slice (some ⟨g,0,none⟩) o.steps.length cap] 32)=W0 at hB0;have HC:As (∀W,Below (w.heap.size+1) W0 W→W.cell? ⟨w.heap.size,0,none⟩=some (.int .i64 o.id)∧W.cell? ⟨w.heap.size,1,none⟩=some (.int .i64 o.item)∧W.cell? ⟨w.heap.size,2,none⟩=some (.int .i64 o.qty)∧W.cell? ⟨w.heap.size,3,none⟩=some (.int .i64 o.client)∧W.cell? ⟨w.heap.size,4,none⟩=some (.int .i64 o.price)∧W.cell? ⟨w.heap.size,5,none⟩=some (.slice (some ⟨g,0,none⟩) o.steps.length cap)∧w.heap.size<W.heap.size∧Below w.heap.size w W):=⟨fun W h=>by
   have e:∀j:Nat,W.cell? ⟨w.heap.size,j,none⟩=W0.cell? ⟨w.heap.size,j,none⟩:=fun j=>h.cell (p:=⟨w.heap.size,j,none⟩) (by simp);have hs:=h.size;have hs0:W0.heap.size=w.heap.size+1:=by rw [←hW0];simp
   have hb:Below w.heap.size w W:=((Below.refl _ w).alloc (Nat.le_refl _) (.cells #[o.id,o.item,o.qty,o.client,o.price,.slice (some ⟨g,0,none⟩) o.steps.length cap] 32)).trans (hW0▸h.mono (by omega));have hn:∀(j:Nat) v,(#[Value.int .i64 o.id,o.item,o.qty,o.client,o.price,.slice (some ⟨g,0,none⟩) o.steps.length cap])[j]? =some v→W0.cell? ⟨w.heap.size,j,none⟩=some v:=by
    intro j v hv;rw [←hW0];simp only [World.cell?,heap_alloc_new];exact hv
   exact ⟨(e 0).trans (hn 0 _ rfl),(e 1).trans (hn 1 _ rfl),(e 2).trans (hn 2 _ rfl),(e 3).trans (hn 3 _ rfl),(e 4).trans (hn 4 _ rfl),(e 5).trans (hn 5 _ rfl),by omega,hb⟩⟩
  have HB0:=zk hB0;clear hX hB0;obtain ⟨d0,d1,d2,d3,d4,d5,dl, -⟩:=HC.1 W0 HB0.1;go_enter Tryz.func93,Tryz.ntmps93;go_wp2
  go_loopg [3,4,8] o.steps.length (fun gk p q i wr=>∃k:Nat,i=.int .i64 k∧k≤o.steps.length∧As (gk+k=o.steps.length)∧As (Below (w.heap.size+1) W0 wr))
  case atStart=>exact ⟨0,rfl,Nat.zero_le _,⟨rfl⟩,HB0⟩
  case round=>
   obtain ⟨k,rfl,hk,HG,HB⟩:=hrel;obtain ⟨c0,c1,c2,c3,c4,c5,hlb,hbb⟩:=HC.1 wr HB.1;have HBB:=zk hbb;have HLE:As (w.heap.size+1≤wr.heap.size):=⟨hlb⟩;by_cases hlt:k<o.steps.length
   ·have hgb:g<w.heap.size:=World.block_lt_of_cell? w _ (HX.1 (k*2+0) _ (Xb o.steps k 0 hlt (by omega)));have x0:wr.cell? ⟨g,k*2,none⟩=some (.int .i64 o.steps[k].svc):=(hbb.cell (p:=⟨g,k*2,none⟩) hgb).trans (HX.1 (k*2+0) _ (Xb o.steps k 0 hlt (by omega)));have x1:wr.cell? ⟨g,k*2+1,none⟩=some (.int .i64 o.steps[k].n):=(hbb.cell (p:=⟨g,k*2+1,none⟩) hgb).trans (HX.1 (k*2+1) _ (Xb o.steps k 1 hlt (by omega)));have HS:=zk (Qe1 HOK.1.dist hlt);obtain ⟨s0,s1,n0,n1⟩:=HOK.1.svc _ (List.getElem_mem hlt);have hin:oin o.steps[k].svc 4 6=true:=by simp [oin];omega
    have hsm:Ff o.steps[k].n=true:=by simp [Ff,may];omega
    generalize o.steps[k]=p at *;have hk1:(k:Int)<(o.steps.length:Int):=by omega
    clear hgb hbb s0 s1 n0 n1;go_wp2_with (first|(go_at_call 125;refine (HIN.1 _ _ _ _).m0 ?_)|(go_at_call 126;refine (HSM.1 _ _).m0 ?_)|(go_at_call 127;refine (HAT.1 _ _ (HBB.1.alloc HBB.1.size _)).m2 fun w1 hb=>?_;rw [HS.1];have HB1:=zk ((HB.1.alloc HLE.1 _).trans (hb.mono (by simp;have:=HLE.1;omega)));clear hb));go_roundg (o.steps.length-(k+1))
    case measure=>have:=HG.1;omega
    case rel=>exact ⟨k+1,by go_num,by omega,⟨by omega⟩,HB1⟩
   ·obtain rfl:k=o.steps.length:=by omega
    clear hbb;go_wp2_with (first|(go_at_call 125;refine (HIN.1 _ _ _ _).m0 ?_)|(go_at_call 126;refine (HSM.1 _ _).m0 ?_));go_ret;exact ⟨rfl,HBB.1⟩
def Facts.cells (f:Facts) (vd vu:Value):Array Value:= #[vd,vu,.bool f.asked,.bool f.yes,.bool f.turned,.bool f.ack0,.bool f.ack1,.bool f.shipped,.bool f.dam0,.bool f.dam1,.bool f.accepted]
def Facts.val (f:Facts) (vd vu:Value):Value:=.agg #[vd,vu,.bool f.asked,.bool f.yes,.bool f.turned,.bool f.ack0,.bool f.ack1,.bool f.shipped,.bool f.dam0,.bool f.dam1,.bool f.accepted]
theorem Qg0 (a b:Bool) (w:World):Calls Tryz.prog 86 #[.agg #[.bool a,.bool b]] w fun e w'=>e=.returned (.bool (a||b))∧Below w.heap.size w w':=by
 cases a<;>cases b
 all_goals
  go_enter Tryz.func86,Tryz.ntmps86;go_wp2;go_ret;exact ⟨rfl,(Below.refl _ _).alloc (Nat.le_refl _) _⟩
theorem QAn (a b:Bool) (w:World):Calls Tryz.prog 91 #[.agg #[.bool a,.bool b]] w fun e w'=>e=.returned (.bool (a&&b))∧Below w.heap.size w w':=by
 cases a<;>cases b
 all_goals
  go_enter Tryz.func91,Tryz.ntmps91;go_wp2;go_ret;exact ⟨rfl,(Below.refl _ _).alloc (Nat.le_refl _) _⟩
theorem Qh3 {w:World} {k:Nat} {T:TypeId} {v:Value} {n:Nat} {xs:List Value} (hr:w.ownsRow k T 1 v n xs):∃a cap,v=.slice a n cap:=by
 rcases hr.2 with ⟨h,h'⟩|⟨g,cap,cur,h,_⟩;exact ⟨none,0,by rw [h,h']⟩;exact ⟨_,cap,h⟩
theorem Qzp (f:Facts) (vd vu:Value) (w:World) (hg:Good w) (hu:w.ownsRow 0 4 1 vu f.undone.length (bools f.undone)) (hl:f.undone.length≤1000):
 Calls Tryz.prog 59 #[f.val vd vu] w fun e w'=>e=.returned (.int .i64 f.ends)∧Below w.heap.size w w':=by
 have H0:=zk (Heap.new (Heap.start hg) (.cells (f.cells vd vu) 80));have HC:As (∀W,Below w.heap.size w W→CE 92 #[vu,.bool false] W (.bool (f.undone.contains false))):=⟨fun W hb=>UA f.undone vu false W (QR hu hb) hl⟩;have HB:=zk QAn;clear hu hl;obtain ⟨done,undone,asked,yes,turned,a0,a1,sh,d0,d1,acc⟩:=f;simp only [Facts.cells,Facts.val,Facts.ends] at *;generalize undone.contains false=uc at *;cases turned with
 |true=>
  cases a0 with
  |false=>
   go_enter Tryz.func59,Tryz.ntmps59;go_wp2_with (first|(go_at_call 91;refine (HB.1 _ _ _).m2 fun w1 hb=>?_;have h1:=H0.1.below hb;have c0:=h1.cA1 0 rfl;have H1:=zk h1;clear h1 hb)|(go_at_call 92;refine (HC.1 _ H1.1.bel).m0 ?_));go_ret;exact ⟨rfl,H1.1.bel⟩
  |true=>
   cases a1 with
   |false=>
    go_enter Tryz.func59,Tryz.ntmps59;go_wp2_with (first|(go_at_call 91;refine (HB.1 _ _ _).m2 fun w1 hb=>?_;have h1:=H0.1.below hb;have c0:=h1.cA1 0 rfl;have H1:=zk h1;clear h1 hb)|(go_at_call 92;refine (HC.1 _ H1.1.bel).m0 ?_));go_ret;exact ⟨rfl,H1.1.bel⟩
   |true=>
    cases uc with
    |false=>
     go_enter Tryz.func59,Tryz.ntmps59;go_wp2_with (first|(go_at_call 91;refine (HB.1 _ _ _).m2 fun w1 hb=>?_;have h1:=H0.1.below hb;have c0:=h1.cA1 0 rfl;have H1:=zk h1;clear h1 hb)|(go_at_call 92;refine (HC.1 _ H1.1.bel).m0 ?_));go_ret;exact ⟨rfl,H1.1.bel⟩
    |true=>
     go_enter Tryz.func59,Tryz.ntmps59;go_wp2_with (first|(go_at_call 91;refine (HB.1 _ _ _).m2 fun w1 hb=>?_;have h1:=H0.1.below hb;have c0:=h1.cA1 0 rfl;have H1:=zk h1;clear h1 hb)|(go_at_call 92;refine (HC.1 _ H1.1.bel).m0 ?_));go_ret;exact ⟨rfl,H1.1.bel⟩
 |false=>
  cases yes with
  |true=>
   cases a0 with
   |false=>
    all_goals
     go_enter Tryz.func59,Tryz.ntmps59;go_wp2_with (first|(go_at_call 91;refine (HB.1 _ _ _).m2 fun w1 hb=>?_;have h1:=H0.1.below hb;have c0:=h1.cA1 0 rfl;have H1:=zk h1;clear h1 hb)|(go_at_call 92;refine (HC.1 _ H1.1.bel).m0 ?_));go_ret;exact ⟨rfl,H1.1.bel⟩
   |true=>
    cases a1 with
    |false=>
     all_goals
      go_enter Tryz.func59,Tryz.ntmps59;go_wp2_with (first|(go_at_call 91;refine (HB.1 _ _ _).m2 fun w1 hb=>?_;have h1:=H0.1.below hb;have c0:=h1.cA1 0 rfl;have H1:=zk h1;clear h1 hb)|(go_at_call 92;refine (HC.1 _ H1.1.bel).m0 ?_));go_ret;exact ⟨rfl,H1.1.bel⟩
    |true=>
     cases sh with
     |false=>
      go_enter Tryz.func59,Tryz.ntmps59;go_wp2_with (first|(go_at_call 91;refine (HB.1 _ _ _).m2 fun w1 hb=>?_;have h1:=H0.1.below hb;have c0:=h1.cA1 0 rfl;have H1:=zk h1;clear h1 hb)|(go_at_call 92;refine (HC.1 _ H1.1.bel).m0 ?_));go_ret;exact ⟨rfl,H1.1.bel⟩
     |true=>
      go_enter Tryz.func59,Tryz.ntmps59;go_wp2_with (first|(go_at_call 91;refine (HB.1 _ _ _).m2 fun w1 hb=>?_;have h1:=H0.1.below hb;have c0:=h1.cA1 0 rfl;have H1:=zk h1;clear h1 hb)|(go_at_call 92;refine (HC.1 _ H1.1.bel).m0 ?_));go_ret;exact ⟨rfl,H1.1.bel⟩
  |false=>
   cases asked with
   |true=>
    go_enter Tryz.func59,Tryz.ntmps59;go_wp2_with (first|(go_at_call 91;refine (HB.1 _ _ _).m2 fun w1 hb=>?_;have h1:=H0.1.below hb;have c0:=h1.cA1 0 rfl;have H1:=zk h1;clear h1 hb)|(go_at_call 92;refine (HC.1 _ H1.1.bel).m0 ?_));go_ret;exact ⟨rfl,H0.1.bel⟩
   |false=>
    go_enter Tryz.func59,Tryz.ntmps59;go_wp2_with (first|(go_at_call 91;refine (HB.1 _ _ _).m2 fun w1 hb=>?_;have h1:=H0.1.below hb;have c0:=h1.cA1 0 rfl;have H1:=zk h1;clear h1 hb)|(go_at_call 92;refine (HC.1 _ H1.1.bel).m0 ?_));go_ret;exact ⟨rfl,H0.1.bel⟩
def SA.XA (b:Nat) (l:List Pc):SA:=.when (l.length≤5000) (.ex fun v=>.star (.pts b (.cells #[v] 182)) (.slc v 191 3 l.length (ZL l)))
section
variable {w0 w:World} {b:Nat} {l:List Pc} {R:List SA}
theorem Heap.ZX (h:Heap w0 (.XA b l::R) w):l.length≤5000∧∃v,Heap w0 (.pts b (.cells #[v] 182)::.slc v 191 3 l.length (ZL l)::R) w:=by
 obtain ⟨hp,h⟩:=h.QT;obtain ⟨v,h⟩:=h.YL;exact ⟨hp,v,h.XF⟩
theorem Heap.Dr {v:Value} (hp:l.length≤5000) (h:Heap w0 (.pts b (.cells #[v] 182)::.slc v 191 3 l.length (ZL l)::R) w):Heap w0 (.XA b l::R) w:=
 Heap.QZ hp (Heap.Yr (f:=fun v=>.star (.pts b (.cells #[v] 182)) (.slc v 191 3 l.length (ZL l))) v h.Xx)
end
theorem TN {w0 w:World} {R:List SA} (h:Heap w0 R w):Calls Tryz.prog 74 #[] w fun e w'=>∃b,e=.returned (.pointer (some ⟨b,0,none⟩))∧Heap w0 (.XA b []::R) w':=by
 have H:=zk h;clear h;go_enter Tryz.func74,Tryz.ntmps74;go_wp2;go_ret;exact ⟨_,rfl,Heap.Dr (l:= []) (v:=.slice none 0 0) (by simp) (((Heap.nAt (n:=w.heap.size) H.1 (.cells #[.slice none 0 0] 182) rfl).nRw 191 3).frt 1 rfl)⟩
theorem Qhb {w0 w:World} {b:Nat} {l:List Pc} {R:List SA} (h:Heap w0 (.XA b l::R) w) (id:Int):
 Calls Tryz.prog 119 #[b,id] w fun e w'=>e=.returned (.int .i64 (ZQ l id))∧Below w.heap.size w w':=by
 obtain ⟨hp,v,h⟩:=h.ZX;obtain ⟨c0,cf⟩:=h.cB1 0 rfl;have hlb:=h.lt 0 rfl;have HB:As (Below w.heap.size w (w.alloc (.cells #[id] 3))):=⟨(Below.refl _ _).alloc (Nat.le_refl _) _⟩;have HI:=zk (Qls l v w.heap.size id (w.alloc (.cells #[id] 3)) (h.alloc (.cells #[id] 3) |>.row 1 rfl) ((Heap.nAt (n:=w.heap.size) h (.cells #[id] 3) rfl).cell 0 0 rfl rfl) (by simp) (by omega));have hs:=h.shp 1 rfl;clear h hp;rcases hs with ⟨rfl,hz,hz2⟩|⟨g,cap,rfl,hz,hz2⟩;all_goals
  clear hz hz2;go_enter Tryz.func119,Tryz.ntmps119;go_wp2_with (go_at_call 143;refine HI.1.m2 fun w1 hb=>?_;have HB1:=zk (HB.1.trans (hb.mono HB.1.size));clear hb);go_ret;exact ⟨rfl,HB1.1⟩
def VU (l:List Pc) (id:Int):Bool:=decide (0≤ZQ l id)
theorem Qdl {w0 w:World} {b:Nat} {l:List Pc} {R:List SA} (h:Heap w0 (.XA b l::R) w) (id:Int):
 Calls Tryz.prog 84 #[b,id] w fun e w'=>(∃x y:Int,e=.returned (.tuple #[.int .i64 x,.int .i64 y,.bool (VU l id)]))∧Heap w0 (.XA b l::R) w':=by
 have HF:=zk (Qhb h id);have HH:=zk h;have hfi:ZQ l id= -1∨∃k:Nat,k<l.length∧ZQ l id=(k:Int):=by
  unfold ZQ;split;rename_i i hi;exact .inr ⟨i,(List.findIdx?_eq_some_iff_getElem.1 hi).1,rfl⟩;exact .inl rfl
 rcases hfi with hf|⟨k,hk,hf⟩
 ·have HP:As (VU l id=false):=⟨by unfold VU;rw [hf];rfl⟩;rw [hf] at HF;clear h hf;go_enter Tryz.func84,Tryz.ntmps84;go_wp2_with (go_at_call 119;refine HF.1.m2 fun w1 hb=>?_;have H1:=zk (HH.1.below hb);clear hb);refine bodyPost_ret (v:=.tuple #[.int .i64 0,.int .i64 0,.bool false]) (by simp [results,Tryz.results84,go_sem]) rfl ⟨?_,H1.1⟩;rw [HP.1];exact ⟨0,0,rfl⟩
 ·have HP:As (VU l id=true):=⟨by unfold VU;rw [hf];simp⟩;rw [hf] at HF;have hlen:(l.length:Int)≤5000:=by have:=h.ZX.1;omega
  have hk1:(k:Int)<(l.length:Int):=by omega
  have hk0:(0:Int)≤(k:Int):=by omega
  have HK:=zk hk;clear h hf hk;go_enter Tryz.func84,Tryz.ntmps84;go_wp2_with (go_at_call 119;refine HF.1.m2 fun w1 hb=>?_;have h1:=HH.1.below hb;have H1:=zk h1;obtain ⟨hp,v,h1⟩:=h1.ZX;obtain ⟨c0,cf⟩:=h1.cB1 0 rfl;rcases h1.shp 1 rfl with ⟨rfl,hz, -⟩|⟨g,cap,rfl, -, -,hx⟩);have x1:w1.cell? ⟨g,k*3+1,none⟩=some (.int .i64 (l[k]'HK.1).item):=hx (k*3+1) _ (YS l k 1 HK.1 (by omega));have x2:w1.cell? ⟨g,k*3+2,none⟩=some (.int .i64 (l[k]'HK.1).qty):=hx (k*3+2) _ (YS l k 2 HK.1 (by omega));generalize (l[k]'HK.1).item=p1 at *;generalize (l[k]'HK.1).qty=p2 at *;clear hx h1;go_wp2_with fail;go_quiet (fail);go_wp2;refine bodyPost_ret (v:=.tuple #[.int .i64 p1,.int .i64 p2,.bool true]) (by simp [results,Tryz.results84,go_sem]) rfl ⟨?_,H1.1.drewN nq⟩;rw [HP.1];exact ⟨_,_,rfl⟩
end Go.Proofs.YtlnghlamnehfjaaGreatDoor.S
