/- Part Q44. -/
import Derived.Test.YtlnghlamnehfjaaGreatDoorQ40
import Derived.ProofKit
import Derived.OpenShut
import Derived.LaidMore
import Derived.Deep.Slices
import Derived.Deep.Fields
import Derived.Stop.Joined
set_option linter.unusedVariables false
set_option linter.unusedSimpArgs false
set_option maxRecDepth 100000
set_option maxHeartbeats 64000000
namespace Go.Proofs.YtlnghlamnehfjaaGreatDoor.S
open Go.RowKit Go.Maps
open Go.ChangeShapes Go.WideShapes Go.Deep
theorem two_ {α:Type} (l:List α) (h:l.length=2):∃a b,l= [a,b]:=by
 match l,h with
 | [a,b],_=>exact ⟨a,b,rfl⟩
theorem five_ {α:Type} (l:List α) (h:l.length=5):∃a b c d e,l= [a,b,c,d,e]:=by
 match l,h with
 | [a,b,c,d,e],_=>exact ⟨a,b,c,d,e,rfl⟩
theorem six_ {α:Type} (l:List α) (h:l.length=6):∃a b c d e f,l= [a,b,c,d,e,f]:=by
 match l,h with
 | [a,b,c,d,e,f],_=>exact ⟨a,b,c,d,e,f,rfl⟩
theorem ten_ {α:Type} (l:List α) (h:l.length=10):∃a b c d e f g i j k,l= [a,b,c,d,e,f,g,i,j,k]:=by
 match l,h with
 | [a,b,c,d,e,f,g,i,j,k],_=>exact ⟨a,b,c,d,e,f,g,i,j,k,rfl⟩
theorem Qmb {w:World} {a:Addr} {v:Value} (h:w.cell? a=some v):a.block<w.heap.size:=by
 unfold World.cell? at h;by_cases e:a.block<w.heap.size;exact e;simp [Array.getElem?_eq_none (Nat.le_of_not_lt e)] at h
theorem YG {w:World} {ad:Addr} {n k:Nat} {v:Value} (h:w.cell? ((ad.add n).add (k+1))=some v):w.cell? ⟨(ad.add n).block,(ad.add n).off+(k+1),none⟩=some v:=by
 simpa [Addr.add] using h
section
variable {H:Type} {enc:TypeId×Value→H} {w:World}
theorem Qz6 {ad:Addr} {m n:Nat} {cs:List Value} {x:DataW H×List MemPlace} (hc:w.cells? 0 (ad.add m) 2=some cs) (ht:DataW.trod enc Tryz.prog w 0 (fun _=>true) true n 131 cs=some x):
 ∃c:Int,(ad.add m).block<w.heap.size∧w.cell? ⟨(ad.add m).block,(ad.add m).off+1,none⟩=some (.int .i64 c):=by
 obtain ⟨_,hl,hat⟩:=World.cells?_some hc;obtain ⟨v0,v1,rfl⟩:=two_ cs hl;obtain ⟨ys,n',_,_,_,hyl,hf⟩:=DataW.trod_struct Tryz.underlying131 ht;obtain ⟨y0,y1,rfl⟩:=two_ ys hyl;have c3:Tryz.prog.cellsOf 3=1:=by kernel_rfl
 have g1:DataW.trod enc Tryz.prog w 0 (fun _=>true) true n' 3 (List.take (Tryz.prog.cellsOf 3) [v1])=some y1:=hf 1 _ rfl;rw [c3] at g1;obtain ⟨i,e1,_,_⟩:=DataW.trod_int Tryz.underlying3 g1;simp at e1;subst e1;have h1:=hat 1 (by omega);have h2:=YG (k:=0) h1;exact ⟨i,Qmb (a:=⟨(ad.add m).block,_,none⟩) h2,h2⟩
theorem Qx1 {v:Value} {n:Nat} {x:DataW H×List MemPlace} (ht:DataW.trod enc Tryz.prog w 0 (fun _=>true) true n 30 [v]=some x):∃l:List Sp,UC w v l:=by
 rcases open_slice Tryz.underlying30 ht with ⟨hcs,_⟩|⟨ad,l,c,m,n,D,Pl,hcs,_,hl,hm,hmm,_,hi⟩;simp at hcs;exact ⟨[],none,0,hcs,fun j hj=>by cases hj⟩
 ·simp at hcs;have c2:Tryz.prog.cellsOf 131=2:=by kernel_rfl
  have hml:l≤m:=by rw [hmm];split<;>omega
  have ex:∀i,∃k:Int,i<l→(ad.add (i*2)).block<w.heap.size∧w.cell? ⟨(ad.add (i*2)).block,(ad.add (i*2)).off+1,none⟩=some (.int .i64 k):=by
   intro i;by_cases hil:i<l;obtain ⟨cs',hc,ht⟩:=hi i (by omega);rw [c2] at hc;obtain ⟨k,h1,h2⟩:=Qz6 hc ht;exact ⟨k,fun _=>⟨h1,h2⟩⟩;exact ⟨0,fun h=>absurd h hil⟩
  refine ⟨(List.range l).map fun i=>⟨0,Classical.choose (ex i)⟩,some ad,c,by simpa using hcs,fun j hj=>⟨ad,rfl,?_⟩⟩;have hj':j<l:=by simpa using hj
  have:=Classical.choose_spec (ex j) hj';refine ⟨by have h:=this.1;rwa [add_block] at h,?_⟩;simpa using this.2
theorem Qzl {ad:Addr} {m n:Nat} {cs:List Value} {x:DataW H×List MemPlace} (hc:w.cells? 0 (ad.add m) 10=some cs) (ht:DataW.trod enc Tryz.prog w 0 (fun _=>true) true n 58 cs=some x):
 ∃d:XT,∃v,Qae w (ad.add m) d v:=by
 obtain ⟨_,hl,hat⟩:=World.cells?_some hc;obtain ⟨v0,v1,v2,v3,v4,v5,v6,v7,v8,v9,rfl⟩:=ten_ cs hl;obtain ⟨ys,n',_,_,_,hyl,hf⟩:=DataW.trod_struct Tryz.underlying58 ht;obtain ⟨y0,y1,y2,y3,y4,rfl⟩:=five_ ys hyl;have c3:Tryz.prog.cellsOf 3=1:=by kernel_rfl
 have c4:Tryz.prog.cellsOf 4=1:=by kernel_rfl
 have c30:Tryz.prog.cellsOf 30=1:=by kernel_rfl
 have c32:Tryz.prog.cellsOf 32=6:=by kernel_rfl
 have g0:DataW.trod enc Tryz.prog w 0 (fun _=>true) true n' 3 (List.take (Tryz.prog.cellsOf 3) [v0,v1,v2,v3,v4,v5,v6,v7,v8,v9])=some y0:=hf 0 _ rfl;have g1:DataW.trod enc Tryz.prog w 0 (fun _=>true) true n' 3 (List.take (Tryz.prog.cellsOf 3) [v1,v2,v3,v4,v5,v6,v7,v8,v9])=some y1:=hf 1 _ rfl;have g2:DataW.trod enc Tryz.prog w 0 (fun _=>true) true n' 3 (List.take (Tryz.prog.cellsOf 3) [v2,v3,v4,v5,v6,v7,v8,v9])=some y2:=hf 2 _ rfl;have g3:DataW.trod enc Tryz.prog w 0 (fun _=>true) true n' 32 (List.take (Tryz.prog.cellsOf 32) [v3,v4,v5,v6,v7,v8,v9])=some y3:=hf 3 _ rfl;have g4:DataW.trod enc Tryz.prog w 0 (fun _=>true) true n' 4 (List.take (Tryz.prog.cellsOf 4) [v9])=some y4:=hf 4 _ rfl;rw [c3] at g0 g1 g2;rw [c4] at g4;rw [c32] at g3;obtain ⟨i0,e0,_,_⟩:=DataW.trod_int Tryz.underlying3 g0;obtain ⟨i1,e1,_,_⟩:=DataW.trod_int Tryz.underlying3 g1;obtain ⟨i2,e2,_,_⟩:=DataW.trod_int Tryz.underlying3 g2;obtain ⟨b,e9,_⟩:=DataW.trod_bool Tryz.underlying4 g4;obtain ⟨zs,n2,_,_,_,hzl,hf2⟩:=DataW.trod_struct Tryz.underlying32 g3;obtain ⟨z0,z1,z2,z3,z4,z5,rfl⟩:=six_ zs hzl;have k0:DataW.trod enc Tryz.prog w 0 (fun _=>true) true n2 3 (List.take (Tryz.prog.cellsOf 3) [v3,v4,v5,v6,v7,v8])=some z0:=hf2 0 _ rfl;have k1:DataW.trod enc Tryz.prog w 0 (fun _=>true) true n2 3 (List.take (Tryz.prog.cellsOf 3) [v4,v5,v6,v7,v8])=some z1:=hf2 1 _ rfl;have k2:DataW.trod enc Tryz.prog w 0 (fun _=>true) true n2 3 (List.take (Tryz.prog.cellsOf 3) [v5,v6,v7,v8])=some z2:=hf2 2 _ rfl;have k3:DataW.trod enc Tryz.prog w 0 (fun _=>true) true n2 3 (List.take (Tryz.prog.cellsOf 3) [v6,v7,v8])=some z3:=hf2 3 _ rfl;have k4:DataW.trod enc Tryz.prog w 0 (fun _=>true) true n2 3 (List.take (Tryz.prog.cellsOf 3) [v7,v8])=some z4:=hf2 4 _ rfl;have k5:DataW.trod enc Tryz.prog w 0 (fun _=>true) true n2 30 (List.take (Tryz.prog.cellsOf 30) [v8])=some z5:=hf2 5 _ rfl;rw [c3] at k0 k1 k2 k3 k4;rw [c30] at k5;obtain ⟨j0,f0,_,_⟩:=DataW.trod_int Tryz.underlying3 k0;obtain ⟨j1,f1,_,_⟩:=DataW.trod_int Tryz.underlying3 k1;obtain ⟨j2,f2,_,_⟩:=DataW.trod_int Tryz.underlying3 k2;obtain ⟨j3,f3,_,_⟩:=DataW.trod_int Tryz.underlying3 k3;obtain ⟨j4,f4,_,_⟩:=DataW.trod_int Tryz.underlying3 k4;obtain ⟨l,hs⟩:=Qx1 (v:=v8) k5;simp at e0 e1 e2 e9 f0 f1 f2 f3 f4;subst e0 e1 e2 e9 f0 f1 f2 f3 f4;have h0:=hat 0 (by omega);have e:(ad.add m).add 0=ad.add m:=by simp [Addr.add]
 rw [e] at h0;exact ⟨⟨i0,i1,i2,⟨j0,j1,j2,j3,j4,l⟩,b⟩,v8,Qmb h0,h0,YG (k:=0) (hat 1 (by omega)),YG (k:=1) (hat 2 (by omega)),YG (k:=2) (hat 3 (by omega)),YG (k:=3) (hat 4 (by omega)),YG (k:=4) (hat 5 (by omega)),YG (k:=5) (hat 6 (by omega)),YG (k:=6) (hat 7 (by omega)),YG (k:=7) (hat 8 (by omega)),YG (k:=8) (hat 9 (by omega)),hs⟩
theorem deeds_in {a:Option Addr} {len cap:Nat} {d:DataW H} {p:List MemPlace} (h:DataW.Trod enc Tryz.prog w 0 (fun _=>true) true 22 (.slice a len cap) d p):∃ds:List XT,ds.length=len∧Us w a cap ds:=by
 obtain ⟨fuel,hf⟩:=h;rcases open_slice Tryz.underlying22 hf with ⟨hcs,_⟩|⟨ad,l,c,m,n,D,Pl,hcs,_,hl,hm,hmm,_,hi⟩;simp [Value.cells] at hcs;obtain ⟨rfl,rfl,rfl⟩:=hcs;exact ⟨[],rfl,Nat.zero_le _,Nat.zero_le _,fun _ h=>by cases h⟩
 ·simp [Value.cells] at hcs;obtain ⟨rfl,rfl,rfl⟩:=hcs;have c58:Tryz.prog.cellsOf 58=10:=by kernel_rfl
  have hml:len≤m:=by rw [hmm];split<;>omega
  have ex:∀i,∃dv:XT×Value,i<len→Qae w (ad.add (i*10)) dv.1 dv.2:=by
   intro i;by_cases hil:i<len;obtain ⟨cs',hc,ht⟩:=hi i (by omega);rw [c58] at hc;obtain ⟨d,v,hd⟩:=Qzl hc ht;exact ⟨(d,v),fun _=>hd⟩;exact ⟨(⟨0,0,0,⟨0,0,0,0,0,[]⟩,false⟩,default),fun h=>absurd h hil⟩
  refine ⟨(List.range len).map fun i=>(Classical.choose (ex i)).1,by simp,by simpa using hl,hm,fun i hi=>⟨ad,(Classical.choose (ex i)).2,rfl,?_⟩⟩;have hil':i<len:=by simpa using hi
  have e:((List.range len).map fun i=>(Classical.choose (ex i)).1)[i]=(Classical.choose (ex i)).1:=by simp
  rw [e];exact Classical.choose_spec (ex i) hil'
end
def laid3:List (String×DataW Unit):= [("math/bits.deBruijn32tab",Rows.laid_math_bits_deBruijn32tab),("math/bits.deBruijn64tab",Rows.laid_math_bits_deBruijn64tab),("internal/strconv.uint64pow10",Rows.laid_internal_strconv_uint64pow10)]
theorem door_met (os:Os) (args:Array Value):laidMetH Tryz.prog laid3 ((World.doorLaid Tryz.prog 72 os).forCall (fun _ _=>0) ⟨#[],args,[]⟩).memory:=
 laidMetH_of_parts3 (fuel:=8) (laidMet_of_run' 8 (by kernel_rfl) (by kernel_rfl)) (by kernel_rfl) (by kernel_rfl)
theorem gPow:Tryz.prog.globalNamed "internal/strconv.uint64pow10" =some 0:=by kernel_rfl
theorem tPow:(Tryz.prog.globals[0]?).map (·.type)=some 274:=by kernel_rfl
theorem good_laid {W:World} (h:laidMetH Tryz.prog laid3 W):Good W:=by
 rw [MakeChecks.laidMetH_plain _ _ _ (by kernel_rfl)] at h;obtain ⟨ps,⟨g0,t0,cs0,f0,p0,q0,hg0,ht0,hv0,hd0,⟨g1,t1,cs1,f1,p1,q1,hg1,ht1,hv1,hd1,⟨g2,t2,cs2,f2,p2,q2,hg2,ht2,hv2,hd2,_⟩,_⟩,_⟩,_⟩:=h;obtain rfl:=Option.some.inj (gPow.symm.trans hg2);obtain rfl:=Option.some.inj (tPow.symm.trans ht2);unfold Good Lib.TabIs;rw [hv2,←Lib.cells_of_tab (zs:=Lib.pow10Tab) (k:=.u64) Tryz.underlying274 Tryz.underlying39 (by kernel_rfl) (by kernel_rfl) hd2]
end Go.Proofs.YtlnghlamnehfjaaGreatDoor.S
