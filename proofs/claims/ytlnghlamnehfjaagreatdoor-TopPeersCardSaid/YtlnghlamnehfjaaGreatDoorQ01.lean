/- Part Q01. -/
import Derived.Test.YtlnghlamnehfjaaGreatDoorRows
import Derived.WalkKit
import Derived.WalkSpells
import Derived.WalkLawsBesides
import Derived.Deep.Draws
import Derived.Maps.AppendAt
import Derived.Maps.OwnSet
import Derived.Lib.LaidTab
import Derived.Lib.ItoaMem
set_option linter.unusedVariables false
set_option linter.unusedSimpArgs false
set_option maxRecDepth 100000
set_option maxHeartbeats 64000000
namespace Go.Proofs.YtlnghlamnehfjaaGreatDoor.S
open Go.RowKit
theorem YK {α:Type _}:∀{l:List α} {i:Nat} (h:i<l.length),(l[i]::l.eraseIdx i).Perm l
 |_::_,0,_=>List.Perm.refl _
 |a::l,i+1,h=>(List.Perm.swap a _ _).trans ((YK (l:=l) (i:=i) (by simpa using h)).cons a)
structure As (p:Prop):Prop where
 out:p
inductive Tg:Nat→Prop
 |mk (n:Nat):Tg n
instance:Coe Int Value:=⟨fun n=>.int .i64 n⟩
instance:Coe Nat Value:=⟨fun b=>.pointer (some ⟨b,0,none⟩)⟩
theorem _root_.Go.Calls.m0 {P:Program} {n:Nat} {args:Array Value} {w:World} {r:Ending} {Q:Ending→World→Prop} (h:Calls P n args w fun e w'=>e=r∧w=w') (k:Q r w):Calls P n args w Q:=h.mono fun e w' hh=>by rw [hh.1,←hh.2];exact k
theorem _root_.Go.Calls.m2 {P:Program} {n:Nat} {args:Array Value} {w:World} {r:Ending} {B:World→Prop} {Q:Ending→World→Prop} (h:Calls P n args w fun e w'=>e=r∧B w') (k:∀w',B w'→Q r w'):Calls P n args w Q:=h.mono fun e w' hh=>by rw [hh.1];exact k w' hh.2
theorem _root_.Go.Calls.m1 {P:Program} {n:Nat} {args:Array Value} {w:World} {r:Ending} {B:World→Prop} {Q:Ending→World→Prop} (h:Calls P n args w fun e w'=>e=r∧B w') (k:∀w',As (B w')→Q r w'):Calls P n args w Q:=h.m2 fun w' b=>k w' ⟨b⟩
abbrev CE (n:Nat) (args:Array Value) (w:World) (x:Value):Prop:=Calls Tryz.prog n args w fun e w'=>e=.returned x∧w=w'
theorem zk {p:Prop} (h:p):As p:=⟨h⟩
structure SA where
 holds:(Nat→Prop)→World→Prop
 here:∀{F w k},holds F w→F k→k<w.heap.size
 loc:∀{F:Nat→Prop} {w w':World},holds F w→(∀k,F k→w'.heap[k]? =w.heap[k]?)→holds F w'
def SA.emp:SA where
 holds F _:=∀k,¬F k
 here h hk:=(h _ hk).elim
 loc h _:=h
def SA.pts (b:Nat) (o:Obj):SA where
 holds F w:=(∀k,F k↔k=b)∧w.heap[b]? =some o
 here h hk:=by obtain rfl:=(h.1 _).1 hk;exact (Array.getElem?_eq_some_iff.1 h.2).1
 loc h e:=⟨h.1,(e _ ((h.1 _).2 rfl)).trans h.2⟩
def SA.star (A B:SA):SA where
 holds F w:=∃F1 F2:Nat→Prop,(∀k,F k↔F1 k∨F2 k)∧(∀k,F1 k→¬F2 k)∧A.holds F1 w∧B.holds F2 w
 here h hk:=by
  obtain ⟨F1,F2,h1,_,ha,hb⟩:=h;rcases (h1 _).1 hk with h|h;exact A.here ha h;exact B.here hb h
 loc h e:=by
  obtain ⟨F1,F2,h1,h2,ha,hb⟩:=h;exact ⟨F1,F2,h1,h2,A.loc ha (fun k hk=>e k ((h1 k).2 (.inl hk))),B.loc hb (fun k hk=>e k ((h1 k).2 (.inr hk)))⟩
def SA.ex {ι:Type} (f:ι→SA):SA where
 holds F w:=∃i,(f i).holds F w
 here h hk:=by obtain ⟨i,h⟩:=h;exact (f i).here h hk
 loc h e:=by obtain ⟨i,h⟩:=h;exact ⟨i,(f i).loc h e⟩
def SA.when (p:Prop) (A:SA):SA where
 holds F w:=p∧A.holds F w
 here h hk:=A.here h.2 hk
 loc h e:=⟨h.1,A.loc h.2 e⟩
def SA.all:List SA→SA
 | []=>.emp
 |a::l=>a.star (SA.all l)
def Good (w:World):Prop:=Lib.TabIs Tryz.prog w "internal/strconv.uint64pow10" .u64 Lib.pow10Tab
def Heap (w0:World) (l:List SA) (w:World):Prop:=
 (Good w0∧Below w0.heap.size w0 w)∧∃F:Nat→Prop,(∀k,F k→w0.heap.size≤k)∧(SA.all l).holds F w
abbrev CH (n:Nat) (args:Array Value) (w:World) (x:Value) (w0:World) (l:List SA):Prop:=Calls Tryz.prog n args w fun e w'=>e=.returned x∧Heap w0 l w'
section
variable {w0 w w':World} {l l' R:List SA} {A B:SA} {b b':Nat} {o o':Obj}
theorem SA.Qkn (h:l.Perm l'):∀{F:Nat→Prop},(SA.all l).holds F w→(SA.all l').holds F w:=by
 induction h with
 |nil=>exact fun h=>h
 |cons a _ ih=>
  rintro F ⟨F1,F2,h1,h2,ha,hb⟩;exact ⟨F1,F2,h1,h2,ha,ih hb⟩
 |swap a c t=>
  rintro F ⟨F1,F2,h1,h2,ha,⟨G1,G2,g1,g2,hb,hc⟩⟩;refine ⟨G1,fun k=>F1 k∨G2 k,fun k=>?_,fun k hk=>?_,hb,F1,G2,fun _=>Iff.rfl,fun k hk hg=>h2 k hk ((g1 k).2 (.inr hg)),ha,hc⟩;rw [h1 k,g1 k];constructor;rintro (h|h|h);exact .inr (.inl h);exact .inl h;exact .inr (.inr h);rintro (h|h|h);exact .inr (.inl h);exact .inl h;exact .inr (.inr h);rintro (h|h);exact h2 k h ((g1 k).2 (.inl hk));exact g2 k hk h
 |trans _ _ ih1 ih2=>exact fun h=>ih2 (ih1 h)
theorem Heap.perm (h:Heap w0 l w) (p:l.Perm l'):Heap w0 l' w:=by
 obtain ⟨hb,F,hF,h⟩:=h;exact ⟨hb,F,hF,SA.Qkn p h⟩
theorem Heap.frt (h:Heap w0 l w) (i:Nat) (e:l[i]? =some A):Heap w0 (A::l.eraseIdx i) w:=by
 obtain ⟨hi,rfl⟩:=List.getElem?_eq_some_iff.1 e;exact h.perm (YK hi).symm
theorem Heap.imp (h:Heap w0 l w) (f:Heap w0 l w→Heap w0 l' w):Heap w0 l' w:=f h
theorem Heap.bel (h:Heap w0 l w):Below w0.heap.size w0 w:=h.1.2
theorem Heap.good (h:Heap w0 l w):Good w0:=h.1.1
theorem Heap.size (h:Heap w0 l w):w0.heap.size≤w.heap.size:=h.1.2.size
theorem Heap.nil (hg:Good w0) (h:Below w0.heap.size w0 w):Heap w0 [] w:=⟨⟨hg,h⟩,fun _=>False,fun _ hk=>hk.elim,fun _ hk=>hk⟩
theorem Heap.start {w:World} (hg:Good w):Heap w [] w:=Heap.nil hg (Below.refl _ _)
theorem Heap.drop (h:Heap w0 (A::l) w):Heap w0 l w:=by
 obtain ⟨hb,F,hF,F1,F2,h1,h2,ha,hl⟩:=h;exact ⟨hb,F2,fun k hk=>hF k ((h1 k).2 (.inr hk)),hl⟩
theorem Heap.mono (h:Heap w0 (A::l) w) (f:∀F,A.holds F w→B.holds F w):Heap w0 (B::l) w:=by
 obtain ⟨hb,F,hF,F1,F2,h1,h2,ha,hl⟩:=h;exact ⟨hb,F,hF,F1,F2,h1,h2,f _ ha,hl⟩
theorem Heap.XF (h:Heap w0 (A.star B::l) w):Heap w0 (A::B::l) w:=by
 obtain ⟨hb,F,hF,F1,F2,h1,h2,⟨G1,G2,g1,g2,ha,hc⟩,hl⟩:=h;refine ⟨hb,F,hF,G1,fun k=>G2 k∨F2 k,fun k=>?_,fun k hk=>?_,ha,G2,F2,fun _=>Iff.rfl,fun k hk hf=>h2 k ((g1 k).2 (.inr hk)) hf,hc,hl⟩;rw [h1 k,g1 k,or_assoc];rintro (h|h);exact g2 k hk h;exact h2 k ((g1 k).2 (.inl hk)) h
theorem Heap.Xx (h:Heap w0 (A::B::l) w):Heap w0 (A.star B::l) w:=by
 obtain ⟨hb,F,hF,G1,F',h1,h2,ha,G2,F2,g1,g2,hc,hl⟩:=h;refine ⟨hb,F,hF,fun k=>G1 k∨G2 k,F2,fun k=>?_,fun k hk hf=>?_,⟨G1,G2,fun _=>Iff.rfl,fun k hk hg=>h2 k hk ((g1 k).2 (.inl hg)),ha,hc⟩,hl⟩;rw [h1 k,g1 k,or_assoc];rcases hk with hk|hk;exact h2 k hk ((g1 k).2 (.inr hf));exact g2 k hk hf
theorem Heap.YL {ι:Type} {f:ι→SA} (h:Heap w0 (SA.ex f::l) w):∃i,Heap w0 (f i::l) w:=by
 obtain ⟨hb,F,hF,F1,F2,h1,h2,⟨i,ha⟩,hl⟩:=h;exact ⟨i,hb,F,hF,F1,F2,h1,h2,ha,hl⟩
theorem Heap.Yr {ι:Type} {f:ι→SA} (i:ι) (h:Heap w0 (f i::l) w):Heap w0 (SA.ex f::l) w:=h.mono (fun _ ha=>⟨i,ha⟩)
theorem Heap.QT {p:Prop} (h:Heap w0 (SA.when p A::l) w):p∧Heap w0 (A::l) w:=by
 obtain ⟨hb,F,hF,F1,F2,h1,h2,⟨hp,ha⟩,hl⟩:=h;exact ⟨hp,hb,F,hF,F1,F2,h1,h2,ha,hl⟩
theorem Heap.QZ {p:Prop} (hp:p) (h:Heap w0 (A::l) w):Heap w0 (SA.when p A::l) w:=h.mono (fun _ ha=>⟨hp,ha⟩)
theorem SA.emp_iff {F:Nat→Prop}:SA.emp.holds F w↔∀k,¬F k:=Iff.rfl
theorem Heap.ZM (h:Heap w0 l w):Heap w0 (SA.emp::l) w:=by
 obtain ⟨hb,F,hF,hl⟩:=h;exact ⟨hb,F,hF,fun _=>False,F,fun k=>by simp,fun _ hk=>hk.elim,fun _ hk=>hk,hl⟩
theorem Heap.get (h:Heap w0 (.pts b o::l) w):w.heap[b]? =some o:=by
 obtain ⟨hb,F,hF,F1,F2,h1,h2,ha,hl⟩:=h;exact ha.2
theorem Heap.at (h:Heap w0 l w) (i:Nat) (e:l[i]? =some (.pts b o)):w.heap[b]? =some o:=(h.frt i e).get
theorem Heap.lt (h:Heap w0 l w) (i:Nat) (e:l[i]? =some (.pts b o)):b<w.heap.size:=(Array.getElem?_eq_some_iff.1 (h.at i e)).1
theorem Heap.ge (h:Heap w0 l w) (i:Nat) (e:l[i]? =some (.pts b o)):w0.heap.size≤b:=by
 obtain ⟨hb,F,hF,F1,F2,h1,h2,ha,hl⟩:=h.frt i e;exact hF b ((h1 b).2 (.inl ((ha.1 b).2 rfl)))
theorem Heap.ne (h:Heap w0 l w) (i j:Nat) (hij:i<j) (e:l[i]? =some (.pts b o)) (e':l[j]? =some (.pts b' o')):b≠b':=by
 have h2:=h.frt i e;have e2:(l.eraseIdx i)[j-1]? =some (.pts b' o'):=by
  rw [List.getElem?_eraseIdx,if_neg (by omega),show j-1+1=j by omega];exact e'
 obtain ⟨hb,F,hF,F1,F2,h1,hd,ha,hl⟩:=h2;have:∃G,(SA.all (.pts b' o'::(l.eraseIdx i).eraseIdx (j-1))).holds G w∧∀k,G k→F2 k:=by
  obtain ⟨hi,hh⟩:=List.getElem?_eq_some_iff.1 e2;have:=SA.Qkn (w:=w) ((YK hi).symm) hl;rw [hh] at this;exact ⟨F2,this,fun _ h=>h⟩
 obtain ⟨G,⟨G1,G2,g1,g2,hc,_⟩,hsub⟩:=this;rintro rfl;exact hd b ((ha.1 b).2 rfl) (hsub b ((g1 b).2 (.inl ((hc.1 b).2 rfl))))
theorem Heap.cell {cs:Array Value} {T:TypeId} {fr:Nat×Nat} {v:Value} (h:Heap w0 l w) (i j:Nat) (e:l[i]? =some (.pts b (.cells cs T fr))) (ej:cs[j]? =some v):w.cell? ⟨b,j,none⟩=some v:=by
 simp [World.cell?,h.at i e,ej]
theorem Heap.frz {cs:Array Value} {T:TypeId} (h:Heap w0 l w) (i j:Nat) (e:l[i]? =some (.pts b (.cells cs T (0,0)))):w.frozen? ⟨b,j,none⟩=false:=by
 simp [World.frozen?,h.at i e]
theorem Heap.cB1 {a0:Value} {T:TypeId} (h:Heap w0 l w) (i:Nat) (e:l[i]? =some (.pts b (.cells #[a0] T (0,0)))):w.cell? ⟨b,0,none⟩=some a0∧(∀j,w.frozen? ⟨b,j,none⟩=false):=⟨h.cell i 0 e rfl,fun j=>h.frz i j e⟩
theorem Heap.cB2 {a0 a1:Value} {T:TypeId} (h:Heap w0 l w) (i:Nat) (e:l[i]? =some (.pts b (.cells #[a0,a1] T (0,0)))):w.cell? ⟨b,0,none⟩=some a0∧w.cell? ⟨b,1,none⟩=some a1∧(∀j,w.frozen? ⟨b,j,none⟩=false):=⟨h.cell i 0 e rfl,h.cell i 1 e rfl,fun j=>h.frz i j e⟩
theorem Heap.cB3 {a0 a1 a2:Value} {T:TypeId} (h:Heap w0 l w) (i:Nat) (e:l[i]? =some (.pts b (.cells #[a0,a1,a2] T (0,0)))):w.cell? ⟨b,0,none⟩=some a0∧w.cell? ⟨b,1,none⟩=some a1∧w.cell? ⟨b,2,none⟩=some a2∧(∀j,w.frozen? ⟨b,j,none⟩=false):=⟨h.cell i 0 e rfl,h.cell i 1 e rfl,h.cell i 2 e rfl,fun j=>h.frz i j e⟩
theorem Heap.Zh {a0 a1 a2 a3:Value} {T:TypeId} (h:Heap w0 l w) (i:Nat) (e:l[i]? =some (.pts b (.cells #[a0,a1,a2,a3] T (0,0)))):w.cell? ⟨b,0,none⟩=some a0∧w.cell? ⟨b,1,none⟩=some a1∧w.cell? ⟨b,2,none⟩=some a2∧w.cell? ⟨b,3,none⟩=some a3∧(∀j,w.frozen? ⟨b,j,none⟩=false):=⟨h.cell i 0 e rfl,h.cell i 1 e rfl,h.cell i 2 e rfl,h.cell i 3 e rfl,fun j=>h.frz i j e⟩
theorem Heap.cB5 {a0 a1 a2 a3 a4:Value} {T:TypeId} (h:Heap w0 l w) (i:Nat) (e:l[i]? =some (.pts b (.cells #[a0,a1,a2,a3,a4] T (0,0)))):w.cell? ⟨b,0,none⟩=some a0∧w.cell? ⟨b,1,none⟩=some a1∧w.cell? ⟨b,2,none⟩=some a2∧w.cell? ⟨b,3,none⟩=some a3∧w.cell? ⟨b,4,none⟩=some a4∧(∀j,w.frozen? ⟨b,j,none⟩=false):=⟨h.cell i 0 e rfl,h.cell i 1 e rfl,h.cell i 2 e rfl,h.cell i 3 e rfl,h.cell i 4 e rfl,fun j=>h.frz i j e⟩
theorem Heap.cB6 {a0 a1 a2 a3 a4 a5:Value} {T:TypeId} (h:Heap w0 l w) (i:Nat) (e:l[i]? =some (.pts b (.cells #[a0,a1,a2,a3,a4,a5] T (0,0)))):w.cell? ⟨b,0,none⟩=some a0∧w.cell? ⟨b,1,none⟩=some a1∧w.cell? ⟨b,2,none⟩=some a2∧w.cell? ⟨b,3,none⟩=some a3∧w.cell? ⟨b,4,none⟩=some a4∧w.cell? ⟨b,5,none⟩=some a5∧(∀j,w.frozen? ⟨b,j,none⟩=false):=⟨h.cell i 0 e rfl,h.cell i 1 e rfl,h.cell i 2 e rfl,h.cell i 3 e rfl,h.cell i 4 e rfl,h.cell i 5 e rfl,fun j=>h.frz i j e⟩
theorem Heap.cB7 {a0 a1 a2 a3 a4 a5 a6:Value} {T:TypeId} (h:Heap w0 l w) (i:Nat) (e:l[i]? =some (.pts b (.cells #[a0,a1,a2,a3,a4,a5,a6] T (0,0)))):w.cell? ⟨b,0,none⟩=some a0∧w.cell? ⟨b,1,none⟩=some a1∧w.cell? ⟨b,2,none⟩=some a2∧w.cell? ⟨b,3,none⟩=some a3∧w.cell? ⟨b,4,none⟩=some a4∧w.cell? ⟨b,5,none⟩=some a5∧w.cell? ⟨b,6,none⟩=some a6∧(∀j,w.frozen? ⟨b,j,none⟩=false):=⟨h.cell i 0 e rfl,h.cell i 1 e rfl,h.cell i 2 e rfl,h.cell i 3 e rfl,h.cell i 4 e rfl,h.cell i 5 e rfl,h.cell i 6 e rfl,fun j=>h.frz i j e⟩
theorem Heap.cells8 {a0 a1 a2 a3 a4 a5 a6 a7:Value} {T:TypeId} (h:Heap w0 l w) (i:Nat) (e:l[i]? =some (.pts b (.cells #[a0,a1,a2,a3,a4,a5,a6,a7] T (0,0)))):w.cell? ⟨b,0,none⟩=some a0∧w.cell? ⟨b,1,none⟩=some a1∧w.cell? ⟨b,2,none⟩=some a2∧w.cell? ⟨b,3,none⟩=some a3∧w.cell? ⟨b,4,none⟩=some a4∧w.cell? ⟨b,5,none⟩=some a5∧w.cell? ⟨b,6,none⟩=some a6∧w.cell? ⟨b,7,none⟩=some a7∧(∀j,w.frozen? ⟨b,j,none⟩=false):=⟨h.cell i 0 e rfl,h.cell i 1 e rfl,h.cell i 2 e rfl,h.cell i 3 e rfl,h.cell i 4 e rfl,h.cell i 5 e rfl,h.cell i 6 e rfl,h.cell i 7 e rfl,fun j=>h.frz i j e⟩
theorem Heap.cells9 {a0 a1 a2 a3 a4 a5 a6 a7 a8:Value} {T:TypeId} (h:Heap w0 l w) (i:Nat) (e:l[i]? =some (.pts b (.cells #[a0,a1,a2,a3,a4,a5,a6,a7,a8] T (0,0)))):w.cell? ⟨b,0,none⟩=some a0∧w.cell? ⟨b,1,none⟩=some a1∧w.cell? ⟨b,2,none⟩=some a2∧w.cell? ⟨b,3,none⟩=some a3∧w.cell? ⟨b,4,none⟩=some a4∧w.cell? ⟨b,5,none⟩=some a5∧w.cell? ⟨b,6,none⟩=some a6∧w.cell? ⟨b,7,none⟩=some a7∧w.cell? ⟨b,8,none⟩=some a8∧(∀j,w.frozen? ⟨b,j,none⟩=false):=⟨h.cell i 0 e rfl,h.cell i 1 e rfl,h.cell i 2 e rfl,h.cell i 3 e rfl,h.cell i 4 e rfl,h.cell i 5 e rfl,h.cell i 6 e rfl,h.cell i 7 e rfl,h.cell i 8 e rfl,fun j=>h.frz i j e⟩
theorem Heap.KZ {a0 a1 a2 a3 a4 a5 a6 a7 a8 a9:Value} {T:TypeId} (h:Heap w0 l w) (i:Nat) (e:l[i]? =some (.pts b (.cells #[a0,a1,a2,a3,a4,a5,a6,a7,a8,a9] T (0,0)))):w.cell? ⟨b,0,none⟩=some a0∧w.cell? ⟨b,1,none⟩=some a1∧w.cell? ⟨b,2,none⟩=some a2∧w.cell? ⟨b,3,none⟩=some a3∧w.cell? ⟨b,4,none⟩=some a4∧w.cell? ⟨b,5,none⟩=some a5∧w.cell? ⟨b,6,none⟩=some a6∧w.cell? ⟨b,7,none⟩=some a7∧w.cell? ⟨b,8,none⟩=some a8∧w.cell? ⟨b,9,none⟩=some a9∧(∀j,w.frozen? ⟨b,j,none⟩=false):=⟨h.cell i 0 e rfl,h.cell i 1 e rfl,h.cell i 2 e rfl,h.cell i 3 e rfl,h.cell i 4 e rfl,h.cell i 5 e rfl,h.cell i 6 e rfl,h.cell i 7 e rfl,h.cell i 8 e rfl,h.cell i 9 e rfl,fun j=>h.frz i j e⟩
theorem Heap.cA1 {a0 a1 a2 a3 a4 a5 a6 a7 a8 a9 a10:Value} {T:TypeId} (h:Heap w0 l w) (i:Nat) (e:l[i]? =some (.pts b (.cells #[a0,a1,a2,a3,a4,a5,a6,a7,a8,a9,a10] T (0,0)))):w.cell? ⟨b,0,none⟩=some a0∧w.cell? ⟨b,1,none⟩=some a1∧w.cell? ⟨b,2,none⟩=some a2∧w.cell? ⟨b,3,none⟩=some a3∧w.cell? ⟨b,4,none⟩=some a4∧w.cell? ⟨b,5,none⟩=some a5∧w.cell? ⟨b,6,none⟩=some a6∧w.cell? ⟨b,7,none⟩=some a7∧w.cell? ⟨b,8,none⟩=some a8∧w.cell? ⟨b,9,none⟩=some a9∧w.cell? ⟨b,10,none⟩=some a10∧(∀j,w.frozen? ⟨b,j,none⟩=false):=⟨h.cell i 0 e rfl,h.cell i 1 e rfl,h.cell i 2 e rfl,h.cell i 3 e rfl,h.cell i 4 e rfl,h.cell i 5 e rfl,h.cell i 6 e rfl,h.cell i 7 e rfl,h.cell i 8 e rfl,h.cell i 9 e rfl,h.cell i 10 e rfl,fun j=>h.frz i j e⟩
theorem Heap.cells12 {a0 a1 a2 a3 a4 a5 a6 a7 a8 a9 a10 a11:Value} {T:TypeId} (h:Heap w0 l w) (i:Nat) (e:l[i]? =some (.pts b (.cells #[a0,a1,a2,a3,a4,a5,a6,a7,a8,a9,a10,a11] T (0,0)))):w.cell? ⟨b,0,none⟩=some a0∧w.cell? ⟨b,1,none⟩=some a1∧w.cell? ⟨b,2,none⟩=some a2∧w.cell? ⟨b,3,none⟩=some a3∧w.cell? ⟨b,4,none⟩=some a4∧w.cell? ⟨b,5,none⟩=some a5∧w.cell? ⟨b,6,none⟩=some a6∧w.cell? ⟨b,7,none⟩=some a7∧w.cell? ⟨b,8,none⟩=some a8∧w.cell? ⟨b,9,none⟩=some a9∧w.cell? ⟨b,10,none⟩=some a10∧w.cell? ⟨b,11,none⟩=some a11∧(∀j,w.frozen? ⟨b,j,none⟩=false):=⟨h.cell i 0 e rfl,h.cell i 1 e rfl,h.cell i 2 e rfl,h.cell i 3 e rfl,h.cell i 4 e rfl,h.cell i 5 e rfl,h.cell i 6 e rfl,h.cell i 7 e rfl,h.cell i 8 e rfl,h.cell i 9 e rfl,h.cell i 10 e rfl,h.cell i 11 e rfl,fun j=>h.frz i j e⟩
theorem Heap.turn (h:Heap w0 (A::l) w) (hos:w'.os=w.os) (htape:w'.tape=w.tape) (hout:w'.output=w.output) (hsize:w.heap.size≤w'.heap.size)
 (f:∀F,A.holds F w→(∀k,k<w.heap.size→¬F k→w'.heap[k]? =w.heap[k]?)∧∃F',B.holds F' w'∧∀k,F' k→F k∨w.heap.size≤k):Heap w0 (B::l) w':=by
 obtain ⟨hb,F,hF,F1,F2,h1,h2,ha,hl⟩:=h;obtain ⟨hsame,F',hB,hsub⟩:=f F1 ha;have hs:∀k,F2 k→w'.heap[k]? =w.heap[k]?:=fun k hk=>hsame k ((SA.all l).here hl hk) (fun h=>h2 k h hk);refine ⟨⟨hb.1,hb.2.trans ⟨hos,htape,hout,hsize,fun k hk=>hsame k (Nat.lt_of_lt_of_le hk hb.2.size) (fun h=>by have:=hF k ((h1 k).2 (.inl h));omega)⟩⟩,
  fun k=>F' k∨F2 k,fun k hk=>?_,F',F2,fun _=>Iff.rfl,fun k hk hk2=>?_,hB,(SA.all l).loc hl hs⟩
 rcases hk with hk|hk;rcases hsub k hk with h|h;exact hF k ((h1 k).2 (.inl h));exact Nat.le_trans hb.2.size h;exact hF k ((h1 k).2 (.inr hk));rcases hsub k hk with h|h;exact h2 k h hk2;have:=(SA.all l).here hl hk2;omega
theorem Heap.below (h:Heap w0 l w) (hb:Below w.heap.size w w'):Heap w0 l w':=by
 have h:=h.ZM.turn (B:=.emp) (w':=w') hb.os hb.tape hb.output hb.size (fun F hF=>⟨fun k hk _=>hb.block k hk,F,hF,fun k hk=>(hF k hk).elim⟩);exact h.drop
theorem Heap.alloc (h:Heap w0 l w) (o:Obj):Heap w0 l (w.alloc o):=h.below ((Below.refl _ _).alloc (Nat.le_refl _) _)
theorem Heap.drew (h:Heap w0 l w):Heap w0 l w.drew:=h.below (Below.refl _ _).drew
theorem Heap.drewN (h:Heap w0 l w) (n:Nat):Heap w0 l (w.drewN n):=h.below (below_drewN (Below.refl _ _) n)
theorem Heap.new (h:Heap w0 l w) (o:Obj):Heap w0 (.pts w.heap.size o::l) (w.alloc o):=by
 refine h.ZM.turn (B:=.pts w.heap.size o) (w':=w.alloc o) rfl rfl rfl (by simp) (fun F hF=>⟨fun k hk _=>Below.heap_alloc _ _ _ hk,fun k=>k=w.heap.size,⟨fun _=>Iff.rfl,heap_alloc_new w o⟩,fun k hk=>.inr (by omega)⟩)
theorem Heap.nAt (h:Heap w0 l w) {n:Nat} (o:Obj) (hn:n=w.heap.size):Heap w0 (.pts n o::l) (w.alloc o):=hn▸h.new o
theorem Heap.Qfn (h:Heap w0 l w) (hb:Below w.heap.size w w') {F:Nat→Prop} (hA:A.holds F w') (hF:∀k,F k→w.heap.size≤k):Heap w0 (A::l) w':=
 h.ZM.turn (B:=A) hb.os hb.tape hb.output hb.size (fun G hG=>⟨fun k hk _=>hb.block k hk,F,hA,fun k hk=>.inr (hF k hk)⟩)
theorem heap_setCell_same (w:World) (b j:Nat) (v:Value) (cs:Array Value) (T:TypeId) (fr:Nat×Nat) (h:w.heap[b]? =some (.cells cs T fr)):
 (w.setCell ⟨b,j,none⟩ v).heap[b]? =some (.cells (cs.setIfInBounds j v) T fr):=by
 simp only [World.setCell,Array.getElem?_modify,if_pos,h,Option.map_some];simp
theorem Heap.set {cs:Array Value} {T:TypeId} {fr:Nat×Nat} (h:Heap w0 (.pts b (.cells cs T fr)::l) w) (j:Nat) (v:Value):
 Heap w0 (.pts b (.cells (cs.setIfInBounds j v) T fr)::l) (w.setCell ⟨b,j,none⟩ v):=
 h.turn rfl rfl rfl (by simp [World.setCell]) (fun F hF=>⟨fun k hk hn=>Below.heap_setCell _ _ _ _ (fun e=>hn ((hF.1 k).2 e)),F,⟨hF.1,heap_setCell_same _ _ _ _ _ _ _ hF.2⟩,fun k hk=>.inl hk⟩)
theorem Heap.sAt {cs:Array Value} {T:TypeId} {fr:Nat×Nat} (h:Heap w0 l w) (i j:Nat) (v:Value) (e:l[i]? =some (.pts b (.cells cs T fr))):
 Heap w0 (l.set i (.pts b (.cells (cs.setIfInBounds j v) T fr))) (w.setCell ⟨b,j,none⟩ v):=by
 have h2:=(h.frt i e).set j v;refine h2.perm ?_;obtain ⟨hi,_⟩:=List.getElem?_eq_some_iff.1 e;have:=YK (l:=l.set i (.pts b (.cells (cs.setIfInBounds j v) T fr))) (i:=i) (by simpa using hi);rw [List.getElem_set_self,List.eraseIdx_set_eq] at this;exact this
end
end Go.Proofs.YtlnghlamnehfjaaGreatDoor.S
namespace Go.Proofs.YtlnghlamnehfjaaGreatDoor.S
open Go.RowKit Go.Maps
section
variable {V U:Type}
abbrev IM (V:Type):=List (Int×V)
def ZT (k:Int) (v:V):IM V→IM V
 | []=> [(k,v)]
 |y::r=>if k<y.1 then (k,v)::y::r else y::ZT k v r
def QI (m:IM V) (k:Int):IM V:=m.filter fun p=>!decide (p.1=k)
def Qt (m:IM V) (k:Int) (v:V):IM V:=ZT k v (QI m k)
def Qc (m:IM V) (k:Int):Option V:=(m.find? fun p=>decide (p.1=k)).map (·.2)
def Qx (f:V→U) (m:IM V):IM U:=m.map fun p=>(p.1,f p.2)
theorem Qf8 (f:V→U) (k:Int) (v:V):∀m:IM V,Qx f (ZT k v m)=ZT k (f v) (Qx f m)
 | []=>rfl
 |y::r=>by
  have ih:=Qf8 f k v r;simp only [ZT,Qx,List.map_cons] at *;split;simp;simp [ih]
theorem Vd (f:V→U) (m:IM V) (k:Int):Qx f (QI m k)=QI (Qx f m) k:=by
 simp only [Qx,QI,List.filter_map];rfl
theorem Xt (f:V→U) (m:IM V) (k:Int) (v:V):Qx f (Qt m k v)=Qt (Qx f m) k (f v):=by
 unfold Qt;rw [Qf8,Vd]
theorem YW (f:V→U) (m:IM V) (k:Int):Qc (Qx f m) k=(Qc m k).map f:=by
 unfold Qc Qx;rw [List.find?_map];simp [Function.comp_def]
end
def HV (v:Value):Option (DataW Value×List MemPlace):=some (.held v,[])
def DD (m:IM Value):DataW Value:=.map (m.map fun p=>(.int .i64 p.1,.held p.2))
theorem TF:Keyed Tryz.prog 3:=int_keyed Tryz.underlying3
theorem Xr (a b:Int):Lit.sameKey (.int .i64 a) (.int .i64 b)=decide (a=b):=by simp [Lit.sameKey]
theorem Qns (m:IM Value) (k:Int) (v:Value):(DD m).put (.int .i64 k) (.held v)=DD (Qt m k v):=by
 unfold DD DataW.put Qt QI;simp only [DataW.map.injEq];have h:∀l:IM Value,DataW.insert (Lit.int .i64 k,DataW.held v) (l.map fun p=>(Lit.int .i64 p.1,DataW.held p.2))=(ZT k v l).map fun p=>(Lit.int .i64 p.1,DataW.held p.2):=by
  intro l
  induction l with
  |nil=>rfl
  |cons y r ih=>
   simp only [List.map_cons,DataW.insert,ZT,Lit.before,decide_eq_true_eq];split;simp;simp [ih]
 rw [List.filter_map,←h];have hf:((fun p:Lit×DataW Value=>!p.fst.sameKey (Lit.int IntKind.i64 k))∘fun p:Int×Value=>(Lit.int IntKind.i64 p.fst,DataW.held p.snd))=fun p=>!decide (p.fst=k):=by
  funext p;simp [Xr]
 rw [hf]
theorem QEu (m:IM Value) (k:Int):(DD m).del (.int .i64 k)=DD (QI m k):=by
 unfold DD DataW.del QI;simp only [DataW.map.injEq];rw [List.filter_map];congr 1;congr 1;funext p;simp [Xr]
theorem Qpy (m:IM Value) (k:Int):((m.map fun p=>((Lit.int .i64 p.1,DataW.held p.2):Lit×DataW Value)).find? fun p=>p.1.sameKey (.int .i64 k))=(m.find? fun p=>decide (p.1=k)).map fun p=>(.int .i64 p.1,.held p.2):=by
 rw [List.find?_map];congr 1;congr 1;funext p;simp [Xr]
theorem Qwm (m:IM Value) (k:Int) (z:Value):(DD m).atKey (.int .i64 k) (.held z)=.held ((Qc m k).getD z):=by
 unfold DD DataW.atKey Qc;simp only [Qpy];cases m.find? fun p=>decide (p.1=k)<;>rfl
theorem TB (m:IM Value) (k:Int):Maps.has (DD m) (.int .i64 k)=(Qc m k).isSome:=by
 have h:Maps.has (DD m) (.int .i64 k)=((m.map fun p=>((Lit.int .i64 p.1,DataW.held p.2):Lit×DataW Value)).find? fun p=>p.1.sameKey (.int .i64 k)).isSome:=by
  rw [Bool.eq_iff_iff];simp [DD,Maps.has]
 rw [h,Qpy];unfold Qc;cases m.find? fun p=>decide (p.1=k)<;>rfl
theorem Qi1 (m:IM Value):Maps.size (DD m)=m.length:=by simp [DD,Maps.size]
def SA.map (b:Nat) (m:IM Value):SA where
 holds F w:=(∀k,F k↔k=b)∧w.ownsMap Tryz.prog 3 HV b m.length (DD m)
 here h hk:=by obtain rfl:=(h.1 _).1 hk;exact h.2.lt
 loc h e:=by
  refine ⟨h.1,?_⟩;obtain ⟨es,clock,hb,r⟩:=h.2;exact ⟨es,clock,(e _ ((h.1 _).2 rfl)).trans hb,r⟩
theorem Qe7 {w:World} {P:Program} {k b n:Nat} {R:Value→Option (DataW Value×List MemPlace)} {D:DataW Value} (h:w.ownsMap P k R b n D):w.ownsMap P k R b (Maps.size D) D:=by
 obtain ⟨es,clock,hb,F,hs,rfl⟩:=h;exact ⟨es,clock,hb,F,by simp [Maps.size,length_sorted],rfl⟩
section
variable {w0 w w':World} {l:List SA} {b:Nat} {m:IM Value}
theorem Heap.owns (h:Heap w0 l w) (i:Nat) (e:l[i]? =some (.map b m)):w.ownsMap Tryz.prog 3 HV b m.length (DD m):=by
 obtain ⟨hb,F,hF,F1,F2,h1,h2,ha,hl⟩:=h.frt i e;exact ha.2
theorem Vm {α:Type _} {l:List α} {i:Nat} {a x:α} (e:l[i]? =some a):(x::l.eraseIdx i).Perm (l.set i x):=by
 obtain ⟨hi,_⟩:=List.getElem?_eq_some_iff.1 e;have:=YK (l:=l.set i x) (i:=i) (by simpa using hi);rw [List.getElem_set_self,List.eraseIdx_set_eq] at this;exact this
theorem Heap.mapTurned (h:Heap w0 l w) (i:Nat) (e:l[i]? =some (.map b m)) {m':IM Value} {n:Nat} (ho:w'.ownsMap Tryz.prog 3 HV b n (DD m')) (hg:w.grownBy w' (some b)):Heap w0 (l.set i (.map b m')) w':=by
 refine Heap.perm (l:=.map b m'::l.eraseIdx i) ?_ (Vm e);refine (h.frt i e).turn hg.os hg.tape hg.output hg.size (fun F hF=>⟨fun k hk hn=>hg.block k hk (fun e=>hn ((hF.1 k).2 (Option.some.inj e))),F,⟨hF.1,?_⟩,fun k hk=>.inl hk⟩);have:=Qe7 ho;rw [Qi1] at this;exact this
theorem Heap.XO (h:Heap w0 l w):Heap w0 (.map w.heap.size []::l) (w.alloc (.map #[] 0)):=
 h.Qfn ((Below.refl _ _).alloc (Nat.le_refl _) _) (F:=fun k=>k=w.heap.size) ⟨fun _=>Iff.rfl,World.ownsMap_made w Tryz.prog 3 HV⟩ (fun k hk=>by omega)
end
theorem Heap.YC {w0 w:World} {l:List SA} (h:Heap w0 l w) {n:Nat} (hn:n=w.heap.size):Heap w0 (.map n []::l) (w.alloc (.map #[] 0)):=hn▸h.XO
theorem Qdt {k:Int} (h0: -9223372036854775808≤k) (h1:k≤9223372036854775807):(Lit.int .i64 k).wf=true:=by
 simp [Lit.wf,IntKind.min,IntKind.max,IntKind.bits,IntKind.signed];omega
section
variable {w0 w:World} {l:List SA} {b:Nat} {m:IM Value} {ops:Array Oper} {rest:List Oper} {o:Oper} {a:Act} {Q:Exit→Act→World→Prop}
theorem Vg {t e:TypeId} {z:Value} (h:w.ownsMap Tryz.prog 3 HV b m.length (DD m)) (c:Bool) (ht:Tryz.prog.underlying t=some (.map 3 e)) (hz:(zeroValue e).run Tryz.prog w=.ok z w) {k:Int} (h0: -9223372036854775808≤k) (h1:k≤9223372036854775807):
 (Instr.lookup t (.map (some b)) (.int .i64 k) c).run Tryz.prog w=.ok (if c then .tuple #[(Qc m k).getD z,.bool (Qc m k).isSome] else (Qc m k).getD z) w:=by
 have hk:=keyOf_int_mk Tryz.underlying3 (Qdt h0 h1);cases c;obtain ⟨v,ps,hr,hv⟩:=h.lookup TF ht hz (zd:=.held z) (zp:= []) rfl hk;rw [Qwm] at hv;simp only [HV,Option.some.injEq,Prod.mk.injEq,DataW.held.injEq] at hv;rw [hr,hv.1];rfl;obtain ⟨v,ps,hr,hv⟩:=h.look_ok TF ht hz (zd:=.held z) (zp:= []) rfl hk;rw [Qwm] at hv;simp only [HV,Option.some.injEq,Prod.mk.injEq,DataW.held.injEq] at hv;rw [hr,hv.1,TB];rfl
theorem wll (h:Heap w0 l w) (i:Nat) (b:Nat) (m:IM Value) (e:l[i]? =some (.map b m)) (hg:o.guard=none) (x y:Operand) (t te:TypeId) (c:Bool) (hop:o.op=Op.lookup t x y c)
 (ht:Tryz.prog.underlying t=some (.map 3 te)) (z:Value) (hz:∀w,(zeroValue te).run Tryz.prog w=.ok z w) (hm:a.eval x=.map (some b)) (k:Int) (hk:a.eval y=.int .i64 k) (h0: -9223372036854775808≤k) (h1:k≤9223372036854775807)
 (hK:wpList Tryz.prog ops Q rest (a.put o.dst (if c then .tuple #[(Qc m k).getD z,.bool (Qc m k).isSome] else (Qc m k).getD z)) w):wpList Tryz.prog ops Q (o::rest) a w:=by
 refine wpList_plain hg fun K hK'=>?_;have hr:=Vg (h.owns i e) c ht (hz w) h0 h1;unfold Oper.wp;simp [execOp,hop,hm,hk,hr,Result.andThen];exact hK' _ _ (by simpa using hK)
def mgi (m:IM Int) (k:Int):Int:=(Qc m k).getD 0
theorem Dz (m:IM Int) (k:Int):(Qc (Qx (Value.int .i64) m) k).getD (.int .i64 0)=.int .i64 (mgi m k):=by
 rw [YW];unfold mgi;cases Qc m k<;>rfl
theorem Qjl:∀w,(zeroValue 3).run Tryz.prog w=.ok (.int .i64 0) w:=fun _=>by kernel_rfl
theorem wli (h:Heap w0 l w) (i:Nat) (b:Nat) (m:IM Int) (e:l[i]? =some (.map b (Qx (Value.int .i64) m))) (hg:o.guard=none) (x y:Operand) (t:TypeId) (hop:o.op=Op.lookup t x y false)
 (ht:Tryz.prog.underlying t=some (.map 3 3)) (hm:a.eval x=.map (some b)) (k:Int) (hk:a.eval y=.int .i64 k) (h0: -9223372036854775808≤k) (h1:k≤9223372036854775807)
 (hK:wpList Tryz.prog ops Q rest (a.put o.dst (.int .i64 (mgi m k))) w):wpList Tryz.prog ops Q (o::rest) a w:=
 wll h i b _ e hg x y t 3 false hop ht _ Qjl hm k hk h0 h1 (by rw [Dz];exact hK)
theorem Yi (h:Heap w0 l w) (i:Nat) (b:Nat) (m:IM Int) (e:l[i]? =some (.map b (Qx (Value.int .i64) m))) (hg:o.guard=none) (x y:Operand) (t:TypeId) (hop:o.op=Op.lookup t x y true)
 (ht:Tryz.prog.underlying t=some (.map 3 3)) (hm:a.eval x=.map (some b)) (k:Int) (hk:a.eval y=.int .i64 k) (h0: -9223372036854775808≤k) (h1:k≤9223372036854775807)
 (hK:wpList Tryz.prog ops Q rest (a.put o.dst (.tuple #[.int .i64 (mgi m k),.bool (Qc m k).isSome])) w):wpList Tryz.prog ops Q (o::rest) a w:=
 wll h i b _ e hg x y t 3 true hop ht _ Qjl hm k hk h0 h1 (by rw [Dz,YW,Option.isSome_map];exact hK)
theorem wlp (h:Heap w0 l w) (i:Nat) (b:Nat) (m:IM Value) (e:l[i]? =some (.map b m)) (hg:o.guard=none) (x y u:Operand) (t te:TypeId) (hop:o.op=Op.mapUpdate t x y u)
 (ht:Tryz.prog.underlying t=some (.map 3 te)) (hm:a.eval x=.map (some b)) (k:Int) (hk:a.eval y=.int .i64 k) (v:Value) (hv:a.eval u=v) (h0: -9223372036854775808≤k) (h1:k≤9223372036854775807) (hn:m.length<1000000)
 (hK:∀w',Heap w0 (l.set i (.map b (Qt m k v))) w'→w.grownBy w' (some b)→wpList Tryz.prog ops Q rest (a.put o.dst undef) w'):wpList Tryz.prog ops Q (o::rest) a w:=by
 refine wpList_plain hg fun K hK'=>?_;obtain ⟨w',hr,ho,hgr⟩:=(h.owns i e).update TF ht (by unfold maxLen;omega) (keyOf_int_mk Tryz.underlying3 (Qdt h0 h1)) (val:=v) (d:=.held v) (ps:= []) rfl;rw [Qns] at ho;unfold Oper.wp;simp [execOp,hop,hm,hk,hv,hr,Result.andThen];exact hK' _ _ (hK w' (h.mapTurned i e ho hgr) hgr)
theorem Zl (h:Heap w0 l w) (i:Nat) (b:Nat) (m:IM Value) (e:l[i]? =some (.map b m)) (hg:o.guard=none) (x y:Operand) (t te:TypeId) (hop:o.op=.call {callee:=.builtin .delete,args:= #[x,y],argTypes:= #[t,3]})
 (ht:Tryz.prog.underlying t=some (.map 3 te)) (hm:a.eval x=.map (some b)) (k:Int) (hk:a.eval y=.int .i64 k) (h0: -9223372036854775808≤k) (h1:k≤9223372036854775807)
 (hK:∀w',Heap w0 (l.set i (.map b (QI m k))) w'→w.grownBy w' (some b)→wpList Tryz.prog ops Q rest (a.put o.dst (.tuple #[])) w'):wpList Tryz.prog ops Q (o::rest) a w:=by
 refine wpList_plain hg fun K hK'=>?_;obtain ⟨w',hr,ho,hgr⟩:=(h.owns i e).drop TF ht (keyOf_int_mk Tryz.underlying3 (Qdt h0 h1)) o.type;rw [QEu] at ho;unfold Oper.wp execOp;simp only [hop,resolve,invoke,builtin,Sem.run_bind,Sem.run_pure,Result.andThen_ok,List.map_toArray,List.map_cons,List.map_nil,hm,hk,hr];exact hK' _ _ (hK w' (h.mapTurned i e ho hgr.grown) hgr.grown)
end
def SA.slc (v:Value) (T:TypeId) (size n:Nat) (xs:List Value):SA where
 holds F w:=(∀k,F k↔v.ownBlock=some k)∧w.ownsRow 0 T size v n xs
 here h hk:=(h.2.lt _ ((h.1 _).1 hk)).2
 loc h e:=by
  refine ⟨h.1,h.2.1,?_⟩;rcases h.2.2 with hn|⟨g,cap,cur,rfl,hb,hgg,rest⟩;exact .inl hn;exact .inr ⟨g,cap,cur,rfl,hb,(e g ((h.1 g).2 rfl)).trans hgg,rest⟩
section
variable {w0 w w':World} {l:List SA} {v v':Value} {T:TypeId} {size n n':Nat} {xs xs':List Value}
theorem Heap.row (h:Heap w0 l w) (i:Nat) (e:l[i]? =some (.slc v T size n xs)):w.ownsRow 0 T size v n xs:=by
 obtain ⟨hb,F,hF,F1,F2,h1,h2,ha,hl⟩:=h.frt i e;exact ha.2
theorem Heap.Uc (h:Heap w0 l w) (i:Nat) (e:l[i]? =some (.slc v T size n xs)) (ho:w'.ownsRow 0 T size v' n' xs') (hg:w.grownBy w' v.ownBlock) (hat:v'.ownBlock=v.ownBlock∨v'.ownBlock=some w.heap.size):Heap w0 (l.set i (.slc v' T size n' xs')) w':=by
 refine Heap.perm (l:=.slc v' T size n' xs'::l.eraseIdx i) ?_ (Vm e);refine (h.frt i e).turn hg.os hg.tape hg.output hg.size (fun F hF=>⟨fun k hk hn=>hg.block k hk (fun e=>hn ((hF.1 k).2 e.symm)),fun k=>v'.ownBlock=some k,⟨fun _=>Iff.rfl,ho⟩,fun k hk=>?_⟩);rcases hat with ha|ha;exact .inl ((hF.1 k).2 (ha▸hk));rw [ha] at hk;have:=Option.some.inj hk;exact .inr (by omega)
theorem Heap.newRow (h:Heap w0 l w) (hb:Below w.heap.size w w') (ho:w'.ownsRow w.heap.size T size v n xs):Heap w0 (.slc v T size n xs::l) w':=by
 refine h.Qfn hb (F:=fun k=>v.ownBlock=some k) ⟨fun _=>Iff.rfl,ho.1,?_⟩ (fun k hk=>(ho.lt k hk).1);rcases ho.2 with hn|⟨g,cap,cur,rfl,hg,rest⟩;exact .inl hn;exact .inr ⟨g,cap,cur,rfl,Nat.zero_le _,rest⟩
theorem Heap.XJ {g k:Nat} {cs:Array Value} (h:Heap w0 (.pts g (.cells cs T (0,0))::l) w) (hk:k≤maxLen) (hs:cs.size=k*size):Heap w0 (.slc (.slice (some ⟨g,0,none⟩) k k) T size k cs.toList::l) w:=
 h.mono (fun F hF=>⟨fun j=>by rw [hF.1 j];simp [Value.ownBlock];exact eq_comm,by simp [hs],.inr ⟨g,k,cs,rfl,Nat.zero_le _,hF.2,Nat.le_refl _,hk,hs,by rw [←hs,←Array.length_toList,List.take_length]⟩⟩)
theorem Heap.nRw (h:Heap w0 l w) (T:TypeId) (size:Nat):Heap w0 (.slc (.slice none 0 0) T size 0 []::l) w:=
 h.newRow (Below.refl _ _) (World.ownsRow_nil _ _ _ _)
end
section
variable {w0 w:World} {l:List SA} {ops:Array Oper} {rest:List Oper} {o:Oper} {a:Act} {Q:Exit→Act→World→Prop}
theorem wla (h:Heap w0 l w) (i:Nat) (v:Value) (T:TypeId) (size n:Nat) (xs:List Value) (e:l[i]? =some (.slc v T size n xs)) (hgd:o.guard=none) (s x:Operand) (t:TypeId)
 (ho:o.op=.call {callee:=.builtin .append,args:= #[s,x],argTypes:= #[t,t]})
 (ti:TypeInfo) (z:Value) (bytes:Nat) (ht:Tryz.prog.underlying t=some (.slice T)) (hi:Tryz.prog.info? T=some ti) (hz:ti.zero=some z)
 (hsize:ti.size=size) (hby:ti.bytes=bytes) (hzs:z.cells.size=size) (hsz:0<size) (hs:a.eval s=v)
 (ad:Addr) (m c:Nat) (news:List Value) (hx:a.eval x=.slice (some ad) m c) (hl:news.length=m*size) (hnews:∀j u,news[j]? =some u→w.cell? (ad.add j)=some u) (h1:∀u∈news,u.oneCell'=true)
 (h63:n+m≤1000000) (hb:bytes≤1000) (hpos:0<n+m)
 (hK:∀g cap w',Heap w0 (l.set i (.slc (.slice (some ⟨g,0,none⟩) (n+m) cap) T size (n+m) (xs++news))) w'→w.grownBy w' v.ownBlock→wpList Tryz.prog ops Q rest (a.put o.dst (.slice (some ⟨g,0,none⟩) (n+m) cap)) w'):
 wpList Tryz.prog ops Q (o::rest) a w:=by
 have hbb:(n+m)*bytes≤140737488355328:=by
  have:(n+m)*bytes≤1000000*1000:=Nat.mul_le_mul h63 hb;omega
 refine wpList_append_own_at w hgd s x t ho 0 T ti z size bytes ht hi hz hsize hby hzs hsz v n xs hs (h.row i e) ad m c news hx hl hnews h1 (by unfold maxLen;omega) hbb (Nat.zero_le _) ?_;intro v' w' h2 h3 h4 h5;rcases h2.2 with ⟨_,hn⟩|⟨g,cap,cur,rfl,r⟩;omega;exact hK g cap w' (h.Uc i e h2 h3 h5) h3
end
section
variable {w0 w:World}
theorem Heap.shp {v:Value} {T:TypeId} {size n:Nat} {xs:List Value} {l:List SA} (h:Heap w0 l w) (i:Nat) (e:l[i]? =some (.slc v T size n xs)):
 (v=.slice none 0 0∧n=0∧xs= [])∨∃g cap,v=.slice (some ⟨g,0,none⟩) n cap∧n≤cap∧cap≤maxLen∧(∀(j:Nat) u,xs[j]? =some u→w.cell? ⟨g,j,none⟩=some u):=by
 have hr:=h.row i e;rcases hr.2 with ⟨h,h'⟩|⟨g,cap,cur,h,_,h1,h2,h3,h4,h5⟩;exact .inl ⟨h,h',List.eq_nil_of_length_eq_zero (by rw [hr.1,h',Nat.zero_mul])⟩;refine .inr ⟨g,cap,h,h2,h3,fun j u hu=>?_⟩;have:=hr.cells (g:=g) (by rw [h];rfl) j u hu
 rwa [show (⟨g,0,none⟩:Addr).add j=⟨g,j,none⟩ by unfold Addr.add;split<;>simp_all] at this
end
end Go.Proofs.YtlnghlamnehfjaaGreatDoor.S
namespace Go.Proofs.YtlnghlamnehfjaaGreatDoor.S
section
variable {V:Type}
def Ql (m:IM V):Prop:=m.Pairwise (fun a b=>a.1<b.1)∧∀p∈m,1≤p.1∧p.1≤999
theorem Ql.nil:Ql ([]:IM V):=⟨List.Pairwise.nil,by simp⟩
theorem Qdw:∀(m:IM V) (lo:Int),m.Pairwise (fun a b=>a.1<b.1)→(∀p∈m,lo≤p.1∧p.1≤999)→(m.length:Int)≤1000-lo∨m= []
 | [],_,_,_=>.inr rfl
 |a::r,lo,h,hb=>by
  have h:=List.pairwise_cons.1 h;have ha:=hb a (by simp);have ih:=Qdw r (a.1+1) h.2 (fun p hp=>⟨by have:=h.1 p hp;omega,(hb p (by simp [hp])).2⟩);left;rcases ih with ih|rfl;simp only [List.length_cons];omega;simp;omega
theorem Ql.len {m:IM V} (h:Ql m):m.length≤999:=by
 rcases Qdw m 1 h.1 h.2 with h|rfl;omega;simp
theorem Ql.del {m:IM V} (h:Ql m) (k:Int):Ql (QI m k):=
 ⟨h.1.sublist List.filter_sublist,fun p hp=>h.2 p (List.mem_filter.1 hp).1⟩
theorem Di {k:Int} {v:V} {p:Int×V}:∀{m:IM V},p∈ZT k v m↔p=(k,v)∨p∈m
 | []=>by simp [ZT]
 |y::r=>by
  unfold ZT;split;simp;simp only [List.mem_cons,Di (m:=r)];constructor;rintro (h|h|h);exact .inr (.inl h);exact .inl h;exact .inr (.inr h);rintro (h|h|h);exact .inr (.inl h);exact .inl h;exact .inr (.inr h)
theorem Qa2 {k:Int} {v:V}:∀{m:IM V},m.Pairwise (fun a b=>a.1<b.1)→(∀p∈m,p.1≠k)→(ZT k v m).Pairwise (fun a b=>a.1<b.1)
 | [],_,_=>by simp [ZT]
 |y::r,h,hn=>by
  have h:=List.pairwise_cons.1 h;unfold ZT;split;rename_i hk;refine List.pairwise_cons.2 ⟨fun p hp=>?_,List.pairwise_cons.2 h⟩;rcases List.mem_cons.1 hp with rfl|hp;exact hk;exact Int.lt_trans hk (h.1 p hp);rename_i hk;refine List.pairwise_cons.2 ⟨fun p hp=>?_,Qa2 h.2 (fun p hp=>hn p (by simp [hp]))⟩;rcases Di.1 hp with rfl|hp;have:=hn y (by simp);show y.1<k;omega;exact h.1 p hp
theorem Ql.put {m:IM V} (h:Ql m) {k:Int} (v:V) (h0:1≤k) (h1:k≤999):Ql (Qt m k v):=by
 have hd:=h.del k;refine ⟨Qa2 hd.1 (fun p hp=>by simpa using (List.mem_filter.1 hp).2),fun p hp=>?_⟩;rcases Di.1 hp with rfl|hp;exact ⟨h0,h1⟩;exact hd.2 p hp
theorem Qgo {k k':Int} {v:V}:∀{m:IM V},(∀p∈m,p.1≠k)→Qc (ZT k v m) k'=if k=k' then some v else Qc m k'
 | [],_=>by simp [ZT,Qc,List.find?_cons];split<;>simp_all
 |y::r,hn=>by
  have ih:=Qgo (k:=k) (k':=k') (v:=v) (m:=r) (fun p hp=>hn p (by simp [hp]));have hy:=hn y (by simp);unfold ZT;split;unfold Qc;rw [List.find?_cons];by_cases h:k=k';simp [h];simp [h];unfold Qc at ih⊢;rw [List.find?_cons,List.find?_cons];by_cases h:y.1=k';simp [h];intro e;omega;simp only [h,decide_false];exact ih
theorem JG (m:IM V) (k k':Int) (v:V):Qc (Qt m k v) k'=if k=k' then some v else Qc (QI m k) k':=
 Qgo (fun p hp=>by simpa using (List.mem_filter.1 hp).2)
theorem Jc (m:IM V) (k k':Int):Qc (QI m k) k'=if k=k' then none else Qc m k':=by
 unfold Qc QI;rw [List.find?_filter];by_cases h:k=k'
 ·subst h;rw [if_pos rfl];have:(m.find? fun p=>(!decide (p.1=k))&&decide (p.1=k))=none:=by
   rw [List.find?_eq_none];intro p _;simp
  simp [this]
 rw [if_neg h];congr 1;congr 1;funext p;by_cases hp:p.1=k';have:¬p.1=k:=by omega
 simp [hp];omega;simp [hp]
theorem QJ (m:IM V) (k:Int) (v:V):Qc (Qt m k v) k=some v:=by rw [JG,if_pos rfl]
theorem Qvx (m:IM V) {k k':Int} (v:V) (h:k≠k'):Qc (Qt m k v) k'=Qc m k':=by rw [JG,if_neg h,Jc,if_neg h]
theorem Xe {m:IM V} {k:Int} {v:V} (h:Qc m k=some v):(k,v)∈m:=by
 unfold Qc at h;cases hf:m.find? (fun p=>decide (p.1=k)) with
 |none=>rw [hf] at h;cases h
 |some p=>
  rw [hf] at h;have h1:=List.find?_some hf;have h2:=List.mem_of_find?_eq_some hf;simp at h h1;subst h1;subst h;exact h2
theorem VC {m:IM V} {k:Int} {p:Int×V} (h:p∈QI m k):p∈m:=(List.mem_filter.1 h).1
theorem YB {m:IM V} {k:Int} {v:V} {p:Int×V} (h:p∈Qt m k v):p=(k,v)∨p∈m:=by
 rcases Di.1 h with h|h;exact .inl h;exact .inr (VC h)
theorem Ql.get {m:IM V} (h:Ql m) {k:Int} {v:V} (e:Qc m k=some v):1≤k∧k≤999:=h.2 _ (Xe e)
end
end Go.Proofs.YtlnghlamnehfjaaGreatDoor.S
namespace Go.Proofs.YtlnghlamnehfjaaGreatDoor.S
open Go.RowKit Go.Maps
section
variable {V U X:Type}
theorem Ql.of_mval {f:V→U} {m:IM V} (h:Ql (Qx f m)):Ql m:=
 ⟨(List.pairwise_map.1 h.1).imp id,fun p hp=>h.2 _ (List.mem_map.2 ⟨p,hp,rfl⟩)⟩
theorem Ql.Qx {f:V→U} {m:IM V} (h:Ql m):Ql (Qx f m):=
 ⟨List.pairwise_map.2 (h.1.imp id),fun p hp=>by obtain ⟨q,hq,rfl⟩:=List.mem_map.1 hp;exact h.2 _ hq⟩
theorem JZ {m:IM V} {k:Int} (h:Qc m k=none):∀p∈m,p.1≠k:=by
 intro p hp e;unfold Qc at h;have h2:=Option.map_eq_none_iff.1 h;have:=List.find?_eq_none.1 h2 p hp;simp [e] at this
theorem Qgq {m:IM V} (hk:m.Pairwise (fun a b=>a.1<b.1)) {k:Int} {v:V} (h:Qc m k=some v):((k,v)::QI m k).Perm m:=by
 induction m with
 |nil=>simp [Qc] at h
 |cons y r ih=>
  obtain ⟨h1,h2⟩:=List.pairwise_cons.1 hk;by_cases e:y.1=k
  ·have hv:y=(k,v):=by
    simp [Qc,e] at h;exact Prod.ext e h
   have hd:QI (y::r) k=r:=by
    simp only [QI,List.filter_cons,e];simp only [decide_true,Bool.not_true];exact List.filter_eq_self.2 (fun p hp=>by have:=h1 p hp;simp;omega)
   rw [hd,hv]
  ·have hg:Qc r k=some v:=by simpa [Qc,e] using h
   have hd:QI (y::r) k=y::QI r k:=by simp [QI,e]
   rw [hd];exact (List.Perm.swap _ _ _).trans ((ih h2 hg).cons y)
theorem FB (k:Int) (v:V):∀m:IM V,(ZT k v m).Perm ((k,v)::m)
 | []=>List.Perm.refl _
 |y::r=>by
  unfold ZT;split;exact List.Perm.refl _
  ·exact ((FB k v r).cons y).trans (List.Perm.swap _ _ _)
theorem JD {m:IM V} {k:Int} (h:Qc m k=none):QI m k=m:=
 List.filter_eq_self.2 (fun p hp=>by simpa using JZ h p hp)
theorem Jm {m:IM V} (hk:m.Pairwise (fun a b=>a.1<b.1)) {k:Int} {v:V} (h:Qc m k=some v):Qt m k v=m:=by
 induction m with
 |nil=>simp [Qc] at h
 |cons y r ih=>
  obtain ⟨h1,h2⟩:=List.pairwise_cons.1 hk;by_cases e:y.1=k
  ·have hv:y=(k,v):=by
    simp [Qc,e] at h;exact Prod.ext e h
   have hd:QI (y::r) k=r:=by
    simp only [QI,List.filter_cons,e];simp only [decide_true,Bool.not_true];exact List.filter_eq_self.2 (fun p hp=>by have:=h1 p hp;simp;omega)
   rw [Qt,hd,hv];cases r with
   |nil=>rfl
   |cons z t=>
    have:=h1 z (by simp);rw [ZT,if_pos (by rw [←e];exact this)]
  have hg:Qc r k=some v:=by simpa [Qc,e] using h
  have hd:QI (y::r) k=y::QI r k:=by simp [QI,e]
  have:=h1 _ (Xe hg);rw [Qt,hd,ZT,if_neg (by simp only at this;omega)];rw [←Qt,ih h2 hg]
theorem QE6 {W:Type} (f:V→U) (g:U→W) (m:IM V):Qx g (Qx f m)=Qx (fun v=>g (f v)) m:=by simp [Qx]
end
section
variable {X:Type} {w0 w:World} {R l:List SA} {b:Nat} {give:Int→X→SA} {m:IM X}
theorem Heap.spread:∀{l R:List SA},Heap w0 (SA.all l::R) w→Heap w0 (l++R) w
 | [],R,h=>h.drop
 |a::l,R,h=>by
  have h2:Heap w0 (a::SA.all l::R) w:=Heap.XF h;exact (Heap.spread (h2.frt 1 rfl)).perm List.perm_middle
theorem Heap.gather:∀{l R:List SA},Heap w0 (l++R) w→Heap w0 (SA.all l::R) w
 | [],R,h=>h.ZM
 |a::l,R,h=>by
  have h2:Heap w0 (l++(a::R)) w:=Heap.perm h List.perm_middle.symm;exact Heap.Xx (A:=a) (B:=SA.all l) ((Heap.gather h2).frt 1 rfl)
def QE (val:Int→Value) (m:IM X):IM Value:=m.map fun p=>(p.1,val p.1)
abbrev bks (give:Int→X→SA) (m:IM X):SA:=.all (m.map fun p=>give p.1 p.2)
def SA.book (b:Nat) (val:Int→Value) (give:Int→X→SA) (m:IM X):SA:=
 .when (Ql m) (.star (.map b (QE val m)) (bks give m))
theorem Zz (val:Int→Value) (m:IM X) (k:Int):Qc (QE val m) k=(Qc m k).map fun _=>val k:=by
 induction m with
 |nil=>rfl
 |cons y r ih=>
  by_cases e:y.1=k;subst e;simp [Qc,QE];simpa [Qc,QE,e] using ih
theorem Ku (val:Int→Value) (k:Int) (x:X):∀m:IM X,QE val (ZT k x m)=ZT k (val k) (QE val m)
 | []=>rfl
 |y::r=>by
  have ih:=Ku val k x r;simp only [QE,List.map_cons,ZT] at *;split;simp;simp [ih]
theorem Qep (val:Int→Value) (m:IM X) (k:Int):QE val (QI m k)=QI (QE val m) k:=by
 simp only [QE,QI,List.filter_map];rfl
theorem Qon (val:Int→Value) (m:IM X) (k:Int) (x:X):QE val (Qt m k x)=Qt (QE val m) k (val k):=by
 unfold Qt;rw [Ku,Qep]
theorem Ql.QE {m:IM X} (val:Int→Value) (h:Ql m):Ql (QE val m):=
 ⟨List.pairwise_map.2 (h.1.imp id),fun p hp=>by obtain ⟨q,hq,rfl⟩:=List.mem_map.1 hp;exact h.2 _ hq⟩
variable {val:Int→Value}
theorem Heap.YT (h:Heap w0 (.book b val give m::R) w):Ql m∧Heap w0 (.map b (QE val m)::bks give m::R) w:=by
 obtain ⟨hk,h⟩:=h.QT;exact ⟨hk,h.XF⟩
theorem Heap.Zq (hk:Ql m) (h:Heap w0 (.map b (QE val m)::bks give m::R) w):Heap w0 (.book b val give m::R) w:=
 Heap.QZ hk (Heap.Xx h)
theorem Heap.focus (hk:Ql m) {id:Int} {x:X} (e:Qc m id=some x) (h:Heap w0 (bks give m::R) w):Heap w0 (give id x::bks give (QI m id)::R) w:=by
 have h2:=Heap.spread h;have hp:((give id x::(QI m id).map fun p=>give p.1 p.2)).Perm (m.map fun p=>give p.1 p.2):=(Qgq hk.1 e).map (fun p:Int×X=>give p.1 p.2);have h3:Heap w0 ((give id x::(QI m id).map fun p=>give p.1 p.2)++R) w:=h2.perm (hp.symm.append_right R);exact (Heap.gather (R:=give id x::R) (h3.perm List.perm_middle.symm)).frt 1 rfl
theorem Heap.Qjc {id:Int} {x:X} (h:Heap w0 (give id x::bks give (QI m id)::R) w):Heap w0 (bks give (Qt m id x)::R) w:=by
 have h2:Heap w0 (((QI m id).map fun p=>give p.1 p.2)++(give id x::R)) w:=Heap.spread (h.frt 1 rfl);have hp:((give id x::(QI m id).map fun p=>give p.1 p.2)).Perm ((Qt m id x).map fun p=>give p.1 p.2):=(FB id x (QI m id)).symm.map (fun p:Int×X=>give p.1 p.2);exact Heap.gather (h2.perm (List.perm_middle.trans (hp.append_right R)))
theorem Heap.Qqv (h:Heap w0 (.book b val give m::R) w) {id:Int} {x:X} (e:Qc m id=some x):
 Ql m∧Heap w0 (.map b (QE val m)::give id x::bks give (QI m id)::R) w:=by
 obtain ⟨hk,h⟩:=h.YT;exact ⟨hk,((h.frt 1 rfl).focus hk e).frt 2 rfl⟩
theorem Heap.Qhg (hk:Ql m) {id:Int} {x x':X} (e:Qc m id=some x) (h:Heap w0 (.map b (QE val m)::give id x'::bks give (QI m id)::R) w):
 Heap w0 (.book b val give (Qt m id x')::R) w:=by
 have h2:=(Heap.Qjc ((h.frt 1 rfl).frt 2 rfl |>.frt 1 rfl)).frt 1 rfl;have e2:QE val (Qt m id x')=QE val m:=by
  rw [Qon];exact Jm (hk.QE val).1 (by rw [Zz,e];rfl)
 have hr:=hk.get e;rw [←e2] at h2;exact Heap.Zq (hk.put x' hr.1 hr.2) h2
theorem Heap.Qrg (hk:Ql m) {id:Int} {x:X} (e:Qc m id=some x) (h:Heap w0 (.map b (QE val m)::give id x::bks give (QI m id)::R) w):
 Heap w0 (.book b val give m::R) w:=by
 have:=Heap.Qhg hk e h
 rwa [Jm hk.1 e] at this
theorem Qlw {val val':Int→Value} {m:IM X} (h:∀p∈m,val p.1=val' p.1):QE val m=QE val' m:=
 List.map_congr_left fun p hp=>by rw [h p hp]
theorem Qtf {give give':Int→X→SA} {m:IM X} (h:∀p∈m,give p.1 p.2=give' p.1 p.2):bks give m=bks give' m:=by
 unfold bks;rw [List.map_congr_left (fun p hp=>h p hp)]
theorem Heap.Qkh {give':Int→X→SA} {val':Int→Value} (hk:Ql m) {id:Int} (h0:1≤id) (h1:id≤999) {x:X}
 (hv:∀k,k≠id→val k=val' k) (hg:∀k y,k≠id→give k y=give' k y) (h:Heap w0 (.map b (Qt (QE val m) id (val' id))::give' id x::bks give (QI m id)::R) w):
 Heap w0 (.book b val' give' (Qt m id x)::R) w:=by
 have hn:∀p∈QI m id,p.1≠id:=fun p hp=>by simpa [QI] using (List.mem_filter.1 hp).2
 rw [Qtf (give':=give') (fun p hp=>hg p.1 p.2 (hn p hp))] at h;have h2:=(Heap.Qjc ((h.frt 1 rfl).frt 2 rfl |>.frt 1 rfl)).frt 1 rfl;have e2:QE val' (Qt m id x)=Qt (QE val m) id (val' id):=by
  rw [Qt,Ku,Qt,←Qep,Qlw (val':=val') (fun p hp=>hv p.1 (hn p hp))]
 rw [←e2] at h2;exact Heap.Zq (hk.put x h0 h1) h2
end
theorem QDh {P:Prop} (h:P:=by
 go_enter Tryz.func218,Tryz.ntmps218;go_wp2_with (first|(go_at_call 135;refine (HM.1 _).m0 ?_)|(go_at_call 224;refine (HC.1 _).m0 ?_;simp only [VW]))
 go_ret2
 exact ⟨by simp [Qr,VW],rfl⟩):P:=h
theorem QB8 {P:Prop} (h:P:=by
 go_enter Tryz.func218,Tryz.ntmps218;go_wp2_with (first|(go_at_call 135;refine (HM.1 _).m0 ?_)|(go_at_call 225;refine (HB.1 _).m0 ?_;simp only [VW]))
 go_ret2
 exact ⟨by simp [Qr,VW],rfl⟩):P:=h
def St (s:Int):Prop:=0≤s∧s≤5
theorem St.cases {s:Int} (h:St s):s=0∨s=1∨s=2∨s=3∨s=4∨s=5:=by unfold St at h;omega
def Yq (s:Int):Bool×Bool:=if s=2∨s=4 then (true,true) else if s=3∨s=5 then (false,true) else (false,false)
def TH (s:Int) (can:Bool):Int×Int:=if s=0 then (if can=true then (1,7) else (3,8)) else if s=1∨s=4 then (s,7) else if s=3∨s=5 then (s,8) else (s,0)
def Zg (s:Int):Int×Int:=if s=1∨s=2 then (2,11) else if s=4 then (s,11) else if s=5 then (s,17) else (s,0)
def ZU (s:Int):Int×Int:=if s=0∨s=1∨s=3 then (3,11) else if s=5 then (s,11) else if s=4 then (s,17) else (s,0)
def TY (s:Int):Int×Int:=if s=0∨s=3 then (3,14) else if s=2 then (s,13) else (s,0)
def Qr (s k:Int) (can:Bool):Int×Int:=if k=6 then TH s can else if k=9∨k=13 then Zg s else if k=10∨k=14 then ZU s else if k=12 then TY s else (s,0)
def VW (p:Int×Int):Value:=.tuple #[.int .i64 p.1,.int .i64 p.2]
theorem Qqe (s:Int) (w:World) (h:St s):CE 135 #[.int .i64 s] w (.bool true):=by
 rcases h.cases with rfl|rfl|rfl|rfl|rfl|rfl;all_goals
  go_enter Tryz.func135,Tryz.ntmps135;go_wp2;go_ret;exact ⟨rfl,rfl⟩
theorem XC (s:Int) (w:World) (h:St s):CE 161 #[.int .i64 s] w (.tuple #[.bool (Yq s).1,.bool (Yq s).2]):=by
 rcases h.cases with rfl|rfl|rfl|rfl|rfl|rfl;all_goals
  go_enter Tryz.func161,Tryz.ntmps161;go_wp2
  go_ret2
  exact ⟨rfl,rfl⟩
theorem Qrw (s:Int) (can:Bool) (w:World) (h:St s):CE 223 #[.int .i64 s,.bool can] w (VW (TH s can)):=by
 rcases h.cases with rfl|rfl|rfl|rfl|rfl|rfl;all_goals
  cases can;all_goals
   go_enter Tryz.func223,Tryz.ntmps223;go_wp2
   go_ret2
   exact ⟨rfl,rfl⟩
theorem Qko (s:Int) (w:World) (h:St s):CE 224 #[.int .i64 s] w (VW (Zg s)):=by
 rcases h.cases with rfl|rfl|rfl|rfl|rfl|rfl;all_goals
  go_enter Tryz.func224,Tryz.ntmps224;go_wp2
  go_ret2
  exact ⟨rfl,rfl⟩
theorem Qm4 (s:Int) (w:World) (h:St s):CE 225 #[.int .i64 s] w (VW (ZU s)):=by
 rcases h.cases with rfl|rfl|rfl|rfl|rfl|rfl;all_goals
  go_enter Tryz.func225,Tryz.ntmps225;go_wp2
  go_ret2
  exact ⟨rfl,rfl⟩
theorem Qun (s:Int) (w:World) (h:St s):CE 226 #[.int .i64 s] w (VW (TY s)):=by
 rcases h.cases with rfl|rfl|rfl|rfl|rfl|rfl;all_goals
  go_enter Tryz.func226,Tryz.ntmps226;go_wp2
  go_ret2
  exact ⟨rfl,rfl⟩
theorem Qx4 (s k:Int) (can:Bool) (w:World) (h:St s):CE 218 #[.int .i64 s,.int .i64 k,.bool can] w (VW (Qr s k can)):=by
 have HM:As (∀W,CE 135 #[.int .i64 s] W (.bool true)):=⟨fun W=>Qqe s W h⟩;have HA:As (∀W,CE 223 #[.int .i64 s,.bool can] W (VW (TH s can))):=⟨fun W=>Qrw s can W h⟩;have HC:As (∀W,CE 224 #[.int .i64 s] W (VW (Zg s))):=⟨fun W=>Qko s W h⟩;have HB:As (∀W,CE 225 #[.int .i64 s] W (VW (ZU s))):=⟨fun W=>Qm4 s W h⟩;have HT:As (∀W,CE 226 #[.int .i64 s] W (VW (TY s))):=⟨fun W=>Qun s W h⟩;clear h;by_cases k6:k=6
 ·subst k6;go_enter Tryz.func218,Tryz.ntmps218;go_wp2_with (first|(go_at_call 135;refine (HM.1 _).m0 ?_)|(go_at_call 223;refine (HA.1 _).m0 ?_;simp only [VW]))
  go_ret2
  exact ⟨by simp [Qr,VW],rfl⟩
 have t6:(k==6)=false:=by simpa using k6
 by_cases k9:k=9;subst k9;exact QDh;have t9:(k==9)=false:=by simpa using k9
 by_cases k13:k=13;subst k13;exact QDh;have t13:(k==13)=false:=by simpa using k13
 by_cases k10:k=10;subst k10;exact QB8;have t10:(k==10)=false:=by simpa using k10
 by_cases k14:k=14;subst k14;exact QB8;have t14:(k==14)=false:=by simpa using k14
 by_cases k12:k=12
 ·subst k12;go_enter Tryz.func218,Tryz.ntmps218;go_wp2_with (first|(go_at_call 135;refine (HM.1 _).m0 ?_)|(go_at_call 226;refine (HT.1 _).m0 ?_;simp only [VW]))
  go_ret2
  exact ⟨by simp [Qr,VW],rfl⟩
 have t12:(k==12)=false:=by simpa using k12
 have HN:As (Qr s k can=(s,0)):=⟨by simp [Qr, *]⟩;clear k6 k9 k10 k12 k13 k14;go_enter Tryz.func218,Tryz.ntmps218;go_wp2_with (go_at_call 135;refine (HM.1 _).m0 ?_)
 go_ret2
 exact ⟨by rw [HN.1];rfl,rfl⟩
def Qng (s:Int) (yes:Bool):Int×Int:=if s=1 then (if yes=true then (4,0) else (5,0)) else (0,7)
theorem Qvs (s:Int) (yes:Bool) (w:World) (h:St s):CE 105 #[.int .i64 s,.bool yes] w (VW (Qng s yes)):=by
 have HM:As (∀W,CE 135 #[.int .i64 s] W (.bool true)):=⟨fun W=>Qqe s W h⟩;rcases h.cases with rfl|rfl|rfl|rfl|rfl|rfl;all_goals
  cases yes;all_goals
   go_enter Tryz.func105,Tryz.ntmps105;go_wp2_with (go_at_call 135;refine (HM.1 _).m0 ?_)
   go_ret2
   exact ⟨rfl,rfl⟩
end Go.Proofs.YtlnghlamnehfjaaGreatDoor.S
