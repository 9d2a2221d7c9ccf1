/- Part Q07. -/
import Derived.Test.YtlnghlamnehfjaaGreatDoorQ04
import Derived.Test.YtlnghlamnehfjaaGreatDoorQ06
set_option linter.unusedVariables false
set_option linter.unusedSimpArgs false
set_option maxRecDepth 100000
set_option maxHeartbeats 64000000
namespace Go.Proofs.YtlnghlamnehfjaaGreatDoor.S
open Go.RowKit Go.Maps
structure Sp where
 svc:Int
 n:Int
def Sp.cells (p:Sp):List Value:= [.int .i64 p.svc,.int .i64 p.n]
def Qs (l:List Sp):List Value:=l.flatMap Sp.cells
theorem Xb:∀(l:List Sp) (k j:Nat) (hk:k<l.length) (hj:j<2),(Qs l)[k*2+j]? =(Sp.cells l[k])[j]?
 |p::l,0,j,_,hj=>by
  show (Sp.cells p++Qs l)[0*2+j]? =_
  rw [List.getElem?_append_left (by simp [Sp.cells];omega)];simp
 |p::l,k+1,j,hk,hj=>by
  show (Sp.cells p++Qs l)[(k+1)*2+j]? =_
  rw [List.getElem?_append_right (by simp [Sp.cells];omega),show (k+1)*2+j-(Sp.cells p).length=k*2+j by simp [Sp.cells];omega];exact Xb l k j (by simpa using hk) hj
def Kb (l:List Sp) (id:Int):Int:=match l.findIdx? (fun p=>decide (p.svc=id)) with
 |some i=>(i:Int)
 |none=> -1
theorem Qx7 (p:Sp) (bx:Nat) (id:Int) (w:World) (hc:w.cell? ⟨bx,0,none⟩=some (.int .i64 id)) (hb:bx<w.heap.size):Calls Tryz.prog 158 #[.agg #[p.svc,p.n],bx] w fun e w'=>e=.returned (.bool (p.svc==id))∧Below w.heap.size w w':=by
 go_enter Tryz.func158,Tryz.ntmps158;go_wp2;go_ret;exact ⟨rfl,(Below.refl _ _).alloc (Nat.le_refl _) _⟩
theorem Qj0 (l:List Sp) (v:Value) (bx:Nat) (id:Int) (w:World) (hr:w.ownsRow 0 131 2 v l.length (Qs l)) (hc:w.cell? ⟨bx,0,none⟩=some (.int .i64 id)) (hb:bx<w.heap.size) (hl:l.length≤100000):
 Calls Tryz.prog 157 #[v,.func (.func 158) #[] #[.pointer (some ⟨bx,0,none⟩)]] w fun e w'=>e=.returned (.int .i64 (Kb l id))∧Below w.heap.size w w':=by
 have hs:v=.slice none 0 0∧l.length=0∨∃g cap,v=.slice (some ⟨g,0,none⟩) l.length cap:=by
  rcases hr.2 with ⟨h,h'⟩|⟨g,cap,cur,h,_⟩;exact .inl ⟨h,h'⟩;exact .inr ⟨g,cap,h⟩
 rcases hs with ⟨rfl,hz⟩|⟨g,cap,rfl⟩
 ·obtain rfl:l= []:=List.eq_nil_of_length_eq_zero hz;clear hr hz;go_enter Tryz.func157,Tryz.ntmps157;go_wp2
  go_loopg [5,8] 0 (fun gk p i wr=>i=.int .i64 0∧wr=w)
  case atStart=>exact ⟨rfl,rfl⟩
  case round=>
   obtain ⟨rfl,rfl⟩:=hrel;go_wp2;go_ret;exact ⟨rfl,Below.refl _ _⟩
 ·have hx:∀(j:Nat) u,(Qs l)[j]? =some u→w.cell? ⟨g,j,none⟩=some u:=by
   intro j u hu;have:=hr.cells (g:=g) rfl j u hu
   rwa [show (⟨g,0,none⟩:Addr).add j=⟨g,j,none⟩ by unfold Addr.add;split<;>simp_all] at this
  have HX:=zk hx;have HC:=zk (And.intro hc hb);have hll:(l.length:Int)≤100000:=by omega
  clear hr hx hc hb;go_enter Tryz.func157,Tryz.ntmps157;go_wp2
  go_loopg [5,8] l.length (fun gk p i wr=>∃k:Nat,i=.int .i64 k∧k≤l.length∧As (gk+k=l.length)∧As (∀j (hj:j<l.length),j<k→l[j].svc≠id)∧As (Below w.heap.size w wr))
  case atStart=>exact ⟨0,rfl,Nat.zero_le _,⟨rfl⟩,⟨fun j _ h=>by omega⟩,⟨Below.refl _ _⟩⟩
  case round=>
   obtain ⟨k,rfl,hk,HG,HN,HB⟩:=hrel;by_cases hlt:k<l.length
   ·have hgb:g<w.heap.size:=World.block_lt_of_cell? w _ (HX.1 (k*2+0) _ (Xb l k 0 hlt (by omega)));have x0:wr.cell? ⟨g,k*2,none⟩=some (.int .i64 l[k].svc):=(HB.1.cell (p:=⟨g,k*2,none⟩) hgb).trans (HX.1 (k*2+0) _ (Xb l k 0 hlt (by omega)));have x1:wr.cell? ⟨g,k*2+1,none⟩=some (.int .i64 l[k].n):=(HB.1.cell (p:=⟨g,k*2+1,none⟩) hgb).trans (HX.1 (k*2+1) _ (Xb l k 1 hlt (by omega)));have HE:=zk (Qx7 l[k] bx id wr ((HB.1.cell (p:=⟨bx,0,none⟩) HC.1.2).trans HC.1.1) (Nat.lt_of_lt_of_le HC.1.2 HB.1.size));have HNE:As (l[k].svc=id→Kb l id=(k:Int)):=⟨fun he=>by
     have:l.findIdx? (fun p=>decide (p.svc=id))=some k:=by
      rw [List.findIdx?_eq_some_iff_getElem];exact ⟨hlt,by simpa using he,fun j hj=>by simpa using HN.1 j (by omega) hj⟩
     unfold Kb;rw [this]⟩
    have HNN:As (l[k].svc≠id→∀j (hj:j<l.length),j<k+1→l[j].svc≠id):=⟨fun he j hj hjk=>by
     rcases Nat.lt_succ_iff_lt_or_eq.1 hjk with h|rfl;exact HN.1 j hj h;exact he⟩
    generalize l[k]=p at *;have hk1:(k:Int)<(l.length:Int):=by omega
    have hk0:(0:Int)≤(k:Int):=by omega
    by_cases he:p.svc=id
    ·have hd:(p.svc==id)=true:=by simpa using he
     rw [hd] at HE;have HF:=zk (HNE.1 he);clear he hd hgb;go_wp2_with (go_at_call 158;refine HE.1.m2 fun w1 hb=>?_;have HB1:=zk (HB.1.trans (hb.mono HB.1.size));clear hb);go_ret;exact ⟨by rw [HF.1];rfl,HB1.1⟩
    ·have hd:(p.svc==id)=false:=by simpa using he
     rw [hd] at HE;have HF:=zk (HNN.1 he);clear he hd hgb;go_wp2_with (go_at_call 158;refine HE.1.m2 fun w1 hb=>?_;have HB1:=zk (HB.1.trans (hb.mono HB.1.size));clear hb);go_roundg (l.length-(k+1))
     case measure=>have:=HG.1;omega
     case rel=>exact ⟨k+1,by go_num,by omega,⟨by omega⟩,HF,HB1⟩
   ·have hk2:(k:Int)=(l.length:Int):=by omega
    have HF:As (Kb l id= -1):=⟨by
     have:l.findIdx? (fun p=>decide (p.svc=id))=none:=by
      rw [List.findIdx?_eq_none_iff];intro p hp;obtain ⟨j,hj,rfl⟩:=List.getElem_of_mem hp;simpa using HN.1 j hj (by omega)
     unfold Kb;rw [this]⟩
    go_wp2;go_ret;exact ⟨by rw [HF.1];rfl,HB.1⟩
def oin (n a b:Int):Bool:=decide (a≤n)&&decide (n≤b)
theorem QEh (n a b:Int) (w:World):CE 125 #[.int .i64 n,.int .i64 a,.int .i64 b] w (.bool (oin n a b)):=by
 by_cases h:a≤n
 ·go_enter Tryz.func125,Tryz.ntmps125;go_wp2;go_ret;exact ⟨by simp [oin,h],rfl⟩
 ·have hd:decide (a≤n)=false:=by simpa using h
  go_enter Tryz.func125,Tryz.ntmps125;go_wp2;go_ret;exact ⟨by simp [oin,hd],rfl⟩
def Ff (n:Int):Bool:=decide (0<n)&&may n
theorem Qy3 (n:Int) (w:World):CE 126 #[.int .i64 n] w (.bool (Ff n)):=by
 by_cases h:0<n
 ·go_enter Tryz.func126,Tryz.ntmps126;go_wp2_with (go_at_call 113;refine (FU n _).m0 ?_);go_ret;exact ⟨by simp [Ff,h],rfl⟩
 ·have hd:decide (0<n)=false:=by simpa using h
  go_enter Tryz.func126,Tryz.ntmps126;go_wp2;go_ret;exact ⟨by simp [Ff,hd],rfl⟩
structure Od where
 id:Int
 item:Int
 qty:Int
 client:Int
 price:Int
 steps:List Sp
def Od.val (o:Od) (v:Value):Value:=.agg #[o.id,o.item,o.qty,o.client,o.price,v]
theorem QE0 (o:Od) (v:Value) (s:Int) (w:World) (hr:w.ownsRow 0 131 2 v o.steps.length (Qs o.steps)) (hl:o.steps.length≤1000):
 Calls Tryz.prog 127 #[o.val v,.int .i64 s] w fun e w'=>e=.returned (.int .i64 (Kb o.steps s))∧Below w.heap.size w w':=by
 have hs:v=.slice none 0 0∨∃g cap,v=.slice (some ⟨g,0,none⟩) o.steps.length cap:=by
  rcases hr.2 with ⟨h,_⟩|⟨g,cap,cur,h,_⟩;exact .inl h;exact .inr ⟨g,cap,h⟩
 have HI:As (∀W bx,Below w.heap.size w W→W.cell? ⟨bx,0,none⟩=some (.int .i64 s)→bx<W.heap.size→Calls Tryz.prog 157 #[v,.func (.func 158) #[] #[.pointer (some ⟨bx,0,none⟩)]] W fun e w'=>e=.returned (.int .i64 (Kb o.steps s))∧Below W.heap.size W w'):=
  ⟨fun W bx hb hc hbx=>Qj0 o.steps v bx s W (QR hr hb) hc hbx (by omega)⟩
 clear hr;have HB:As (∀o1 o2,Below w.heap.size w ((w.alloc o1).alloc o2)):=⟨fun o1 o2=>((Below.refl _ w).alloc (Nat.le_refl _) _).alloc (by simp) _⟩;unfold Od.val;rcases hs with rfl|⟨g,cap,rfl⟩;all_goals
  go_enter Tryz.func127,Tryz.ntmps127;go_wp2_with (go_at_call 157;refine (HI.1 _ _ (HB.1 _ _) (by simp) (by simp)).m2 fun w1 hb=>?_;have HB1:=zk ((HB.1 _ _).trans (hb.mono (by simp;omega)));clear hb);go_ret;exact ⟨rfl,HB1.1⟩
theorem QBk {P:Prop} (h:P:=by
 go_wp2;go_roundg (l.length-(m+1+1))
 case measure=>have:=HG.1;omega
 case rel=>
  refine ⟨m+1+1,by go_num,by omega,⟨by omega⟩,⟨fun j hj=>?_⟩,rfl⟩;rcases Nat.lt_succ_iff_lt_or_eq.1 hj with h|rfl;exact HN.1 j h;rw [HW.1];rfl):P:=h
abbrev bools (l:List Bool):List Value:=l.map Value.bool
def XY (l:List Bool) (b:Bool):Int:=match l.findIdx? (fun x=>x==b) with
 |none=> -1
 |some i=>(i:Int)
theorem ZY {w:World} {k:Nat} {T:TypeId} {v:Value} {n:Nat} {xs:List Value} (hr:w.ownsRow k T 1 v n xs) (hn:xs.length=n):
 ∃a cap,v=.slice a n cap∧∀j,(h:j<xs.length)→∃g,a=some ⟨g,0,none⟩∧w.cell? ⟨g,j,none⟩=some xs[j]:=by
 rcases hr.2 with ⟨h,h'⟩|⟨g,cap,cur,h,_⟩;exact ⟨none,0,by rw [h,h'],fun j hj=>by omega⟩;refine ⟨_,cap,h,fun j hj=>⟨g,rfl,?_⟩⟩;have:=hr.cells (g:=g) (by rw [h];rfl) j xs[j] (by simp [hj])
 rwa [show (⟨g,0,none⟩:Addr).add j=⟨g,j,none⟩ by unfold Addr.add;split<;>simp_all] at this
theorem Qhr (l:List Bool) (v:Value) (b:Bool) (w:World) (hr:w.ownsRow 0 4 1 v l.length (bools l)) (hlen:l.length≤1000):
 CE 124 #[v,.bool b] w (.int .i64 (XY l b)):=by
 obtain ⟨a,cap,rfl,hcap⟩:=ZY hr (by simp);have HC:As (∀j,(h:j<l.length)→∃g,a=some ⟨g,0,none⟩∧w.cell? ⟨g,j,none⟩=some (.bool l[j])):=⟨fun j h=>by
  obtain ⟨g,h1,h2⟩:=hcap j (by simpa using h);exact ⟨g,h1,by simpa using h2⟩⟩
 clear hr hcap;go_enter Tryz.func124,Tryz.ntmps124;go_wp2
 go_loopg [5,8] l.length (fun gk p u wr=>∃k:Nat,u=.int .i64 k∧k≤l.length∧As (gk+k=l.length)∧As (∀j (hj:j<l.length),j<k→l[j]≠b)∧wr=w)
 case atStart=>exact ⟨0,rfl,Nat.zero_le _,⟨rfl⟩,⟨by omega⟩,rfl⟩
 case round=>
  obtain ⟨k,rfl,hk,HG,HN,rfl⟩:=hrel;by_cases hlt:k<l.length
  ·obtain ⟨g,rfl,hc⟩:=HC.1 k hlt;have HE:As (l[k]=l[k]):=⟨rfl⟩;generalize hx:l[k]=x at *;have HX:=zk hx;clear hx;by_cases hb:b=x
   ·have hb1:(b==x)=true:=by simpa using hb
    have HB:=zk hb;clear hb;go_wp2;go_ret;have:l.findIdx? (fun y=>y==b)=some k:=by
     rw [List.findIdx?_eq_some_iff_getElem];exact ⟨hlt,by rw [HX.1];simp [HB.1],fun j hj=>by simpa using HN.1 j (by omega) hj⟩
    exact ⟨by simp [XY,this],rfl⟩
   ·have hb1:(b==x)=false:=by simpa using hb
    have HB:=zk hb;clear hb;go_wp2;go_roundg (l.length-(k+1))
    case measure=>have:=HG.1;omega
    case rel=>
     refine ⟨k+1,by go_num,by omega,⟨by omega⟩,⟨fun j hj h=>?_⟩,rfl⟩;rcases Nat.lt_succ_iff_lt_or_eq.1 h with h|rfl;exact HN.1 j hj h;rw [HX.1];exact fun e=>HB.1 e.symm
  ·go_wp2;go_ret;have:l.findIdx? (fun y=>y==b)=none:=by
    rw [List.findIdx?_eq_none_iff];intro x hx;obtain ⟨j,hj,rfl⟩:=List.getElem_of_mem hx;simpa using HN.1 j hj (by omega)
   exact ⟨by simp [XY,this],rfl⟩
theorem Qwz (l:List Bool) (b:Bool):decide (0≤XY l b)=l.contains b:=by
 unfold XY;cases h:l.findIdx? (fun x=>x==b) with
 |none=>
  have:=List.findIdx?_eq_none_iff.1 h;have h2:l.contains b=false:=by
   rw [Bool.eq_false_iff];intro hc;have:=this b (List.contains_iff_mem.1 hc);simp at this
  rw [h2];rfl
 |some i=>
  obtain ⟨hi,h1,_⟩:=List.findIdx?_eq_some_iff_getElem.1 h;have h2:l.contains b=true:=List.contains_iff_mem.2 (by rw [←show l[i]=b by simpa using h1];exact List.getElem_mem hi);rw [h2];simp
theorem UA (l:List Bool) (v:Value) (b:Bool) (w:World) (hr:w.ownsRow 0 4 1 v l.length (bools l)) (hlen:l.length≤1000):
 CE 92 #[v,.bool b] w (.bool (l.contains b)):=by
 have HC:=zk (Qhr l v b w hr hlen);have HB:=zk (Qwz l b);obtain ⟨a,cap,rfl, -⟩:=ZY hr (by simp);generalize XY l b=x at *;clear hr;go_enter Tryz.func92,Tryz.ntmps92;go_wp2_with (go_at_call 124;refine (HC.1).m0 ?_);go_ret;exact ⟨by rw [←HB.1];simp,rfl⟩
def Xg (l:List Bool):Bool:=(List.range l.length).all fun i=>decide (i=0)|| !(l.getD i false)||l.getD (i-1) false
theorem Qkx (l:List Bool) (v:Value) (w:World) (hr:w.ownsRow 0 4 1 v l.length (bools l)) (hlen:l.length≤1000):
 CE 94 #[v] w (.bool (Xg l)):=by
 obtain ⟨a,cap,rfl,hcap⟩:=ZY hr (by simp);have HC:As (∀j,(h:j<l.length)→∃g,a=some ⟨g,0,none⟩∧w.cell? ⟨g,j,none⟩=some (.bool (l.getD j false))):=⟨fun j h=>by
  obtain ⟨g,h1,h2⟩:=hcap j (by simpa using h);exact ⟨g,h1,by rw [h2];simp [h]⟩⟩
 clear hr hcap;go_enter Tryz.func94,Tryz.ntmps94;go_wp2
 go_loopg [3,6] l.length (fun gk p u wr=>∃k:Nat,u=.int .i64 k∧k≤l.length∧As (gk+k=l.length)∧As (∀j,j<k→(decide (j=0)|| !(l.getD j false)||l.getD (j-1) false)=true)∧wr=w)
 case atStart=>exact ⟨0,rfl,Nat.zero_le _,⟨rfl⟩,⟨by omega⟩,rfl⟩
 case round=>
  obtain ⟨k,rfl,hk,HG,HN,rfl⟩:=hrel;by_cases hlt:k<l.length
  ·obtain ⟨g,rfl,hc⟩:=HC.1 k hlt;by_cases h0:k=0
   ·subst h0;clear hc;go_wp2;go_roundg (l.length-(0+1))
    case measure=>have:=HG.1;omega
    case rel=>exact ⟨1,by go_num,by omega,⟨by omega⟩,⟨fun j hj=>by rw [show j=0 by omega];rfl⟩,rfl⟩
   ·obtain ⟨m,rfl⟩:∃m,k=m+1:=⟨k-1,by omega⟩;obtain ⟨g',hg',hc'⟩:=HC.1 m (by omega);obtain rfl:g=g':=by simpa using hg'
    have HV:As (∀x y:Bool,l.getD (m+1) false=x→l.getD m false=y→(decide (m+1=0)|| !(l.getD (m+1) false)||l.getD (m+1-1) false)=(!x||y)):=⟨fun x y hx hy=>by rw [hx,show m+1-1=m by omega,hy];simp⟩;generalize hx:l.getD (m+1) false=x at hc;generalize hy:l.getD m false=y at hc';have HW:=zk (HV.1 x y hx hy);have hm:((m+1:Nat):Int)-1=(m:Int):=by omega
    have hm1:(0:Int)<((m+1:Nat):Int):=by omega
    clear hx hy hg' HV h0;rcases x with _|_;exact QBk
    ·rcases y with _|_
     ·go_wp2;go_ret;have:Xg l=false:=by
       unfold Xg;rw [List.all_eq_false];exact ⟨m+1,by simpa using hlt,by rw [HW.1];decide⟩
      exact ⟨by rw [this];rfl,rfl⟩
     exact QBk
  ·go_wp2;go_ret;have:Xg l=true:=by
    unfold Xg;rw [List.all_eq_true];intro j hj;exact HN.1 j (by have:=List.mem_range.1 hj;omega)
   exact ⟨by rw [this];rfl,rfl⟩
structure Pc where
 id:Int
 item:Int
 qty:Int
def Pc.cells (p:Pc):List Value:= [.int .i64 p.id,.int .i64 p.item,.int .i64 p.qty]
def ZL (l:List Pc):List Value:=l.flatMap Pc.cells
theorem YS:∀(l:List Pc) (k j:Nat) (hk:k<l.length) (hj:j<3),(ZL l)[k*3+j]? =(Pc.cells l[k])[j]?
 |p::l,0,j,_,hj=>by
  show (Pc.cells p++ZL l)[0*3+j]? =_
  rw [List.getElem?_append_left (by simp [Pc.cells];omega)];simp
 |p::l,k+1,j,hk,hj=>by
  show (Pc.cells p++ZL l)[(k+1)*3+j]? =_
  rw [List.getElem?_append_right (by simp [Pc.cells];omega),show (k+1)*3+j-(Pc.cells p).length=k*3+j by simp [Pc.cells];omega];exact YS l k j (by simpa using hk) hj
def ZQ (l:List Pc) (id:Int):Int:=match l.findIdx? (fun p=>decide (p.id=id)) with
 |some i=>(i:Int)
 |none=> -1
theorem Qxd (p:Pc) (bx:Nat) (id:Int) (w:World) (hc:w.cell? ⟨bx,0,none⟩=some (.int .i64 id)) (hb:bx<w.heap.size):Calls Tryz.prog 144 #[.agg #[p.id,p.item,p.qty],bx] w fun e w'=>e=.returned (.bool (p.id==id))∧Below w.heap.size w w':=by
 go_enter Tryz.func144,Tryz.ntmps144;go_wp2;go_ret;exact ⟨rfl,(Below.refl _ _).alloc (Nat.le_refl _) _⟩
theorem Qls (l:List Pc) (v:Value) (bx:Nat) (id:Int) (w:World) (hr:w.ownsRow 0 191 3 v l.length (ZL l)) (hc:w.cell? ⟨bx,0,none⟩=some (.int .i64 id)) (hb:bx<w.heap.size) (hl:l.length≤100000):
 Calls Tryz.prog 143 #[v,.func (.func 144) #[] #[.pointer (some ⟨bx,0,none⟩)]] w fun e w'=>e=.returned (.int .i64 (ZQ l id))∧Below w.heap.size w w':=by
 have hs:v=.slice none 0 0∧l.length=0∨∃g cap,v=.slice (some ⟨g,0,none⟩) l.length cap:=by
  rcases hr.2 with ⟨h,h'⟩|⟨g,cap,cur,h,_⟩;exact .inl ⟨h,h'⟩;exact .inr ⟨g,cap,h⟩
 rcases hs with ⟨rfl,hz⟩|⟨g,cap,rfl⟩
 ·obtain rfl:l= []:=List.eq_nil_of_length_eq_zero hz;clear hr hz;go_enter Tryz.func143,Tryz.ntmps143;go_wp2
  go_loopg [5,8] 0 (fun gk p i wr=>i=.int .i64 0∧wr=w)
  case atStart=>exact ⟨rfl,rfl⟩
  case round=>
   obtain ⟨rfl,rfl⟩:=hrel;go_wp2;go_ret;exact ⟨rfl,Below.refl _ _⟩
 ·have hx:∀(j:Nat) u,(ZL l)[j]? =some u→w.cell? ⟨g,j,none⟩=some u:=by
   intro j u hu;have:=hr.cells (g:=g) rfl j u hu
   rwa [show (⟨g,0,none⟩:Addr).add j=⟨g,j,none⟩ by unfold Addr.add;split<;>simp_all] at this
  have HX:=zk hx;have HC:=zk (And.intro hc hb);have hll:(l.length:Int)≤100000:=by omega
  clear hr hx hc hb;go_enter Tryz.func143,Tryz.ntmps143;go_wp2
  go_loopg [5,8] l.length (fun gk p i wr=>∃k:Nat,i=.int .i64 k∧k≤l.length∧As (gk+k=l.length)∧As (∀j (hj:j<l.length),j<k→l[j].id≠id)∧As (Below w.heap.size w wr))
  case atStart=>exact ⟨0,rfl,Nat.zero_le _,⟨rfl⟩,⟨fun j _ h=>by omega⟩,⟨Below.refl _ _⟩⟩
  case round=>
   obtain ⟨k,rfl,hk,HG,HN,HB⟩:=hrel;by_cases hlt:k<l.length
   ·have hgb:g<w.heap.size:=World.block_lt_of_cell? w _ (HX.1 (k*3+0) _ (YS l k 0 hlt (by omega)));have x0:wr.cell? ⟨g,k*3,none⟩=some (.int .i64 l[k].id):=(HB.1.cell (p:=⟨g,k*3,none⟩) hgb).trans (HX.1 (k*3+0) _ (YS l k 0 hlt (by omega)));have x1:wr.cell? ⟨g,k*3+1,none⟩=some (.int .i64 l[k].item):=(HB.1.cell (p:=⟨g,k*3+1,none⟩) hgb).trans (HX.1 (k*3+1) _ (YS l k 1 hlt (by omega)));have x2:wr.cell? ⟨g,k*3+2,none⟩=some (.int .i64 l[k].qty):=(HB.1.cell (p:=⟨g,k*3+2,none⟩) hgb).trans (HX.1 (k*3+2) _ (YS l k 2 hlt (by omega)));have HE:=zk (Qxd l[k] bx id wr ((HB.1.cell (p:=⟨bx,0,none⟩) HC.1.2).trans HC.1.1) (Nat.lt_of_lt_of_le HC.1.2 HB.1.size));have HNE:As (l[k].id=id→ZQ l id=(k:Int)):=⟨fun he=>by
     have:l.findIdx? (fun p=>decide (p.id=id))=some k:=by
      rw [List.findIdx?_eq_some_iff_getElem];exact ⟨hlt,by simpa using he,fun j hj=>by simpa using HN.1 j (by omega) hj⟩
     unfold ZQ;rw [this]⟩
    have HNN:As (l[k].id≠id→∀j (hj:j<l.length),j<k+1→l[j].id≠id):=⟨fun he j hj hjk=>by
     rcases Nat.lt_succ_iff_lt_or_eq.1 hjk with h|rfl;exact HN.1 j hj h;exact he⟩
    generalize l[k]=p at *;have hk1:(k:Int)<(l.length:Int):=by omega
    have hk0:(0:Int)≤(k:Int):=by omega
    by_cases he:p.id=id
    ·have hd:(p.id==id)=true:=by simpa using he
     rw [hd] at HE;have HF:=zk (HNE.1 he);clear he hd hgb;go_wp2_with (go_at_call 144;refine HE.1.m2 fun w1 hb=>?_;have HB1:=zk (HB.1.trans (hb.mono HB.1.size));clear hb);go_ret;exact ⟨by rw [HF.1];rfl,HB1.1⟩
    ·have hd:(p.id==id)=false:=by simpa using he
     rw [hd] at HE;have HF:=zk (HNN.1 he);clear he hd hgb;go_wp2_with (go_at_call 144;refine HE.1.m2 fun w1 hb=>?_;have HB1:=zk (HB.1.trans (hb.mono HB.1.size));clear hb);go_roundg (l.length-(k+1))
     case measure=>have:=HG.1;omega
     case rel=>exact ⟨k+1,by go_num,by omega,⟨by omega⟩,HF,HB1⟩
   ·have hk2:(k:Int)=(l.length:Int):=by omega
    have HF:As (ZQ l id= -1):=⟨by
     have:l.findIdx? (fun p=>decide (p.id=id))=none:=by
      rw [List.findIdx?_eq_none_iff];intro p hp;obtain ⟨j,hj,rfl⟩:=List.getElem_of_mem hp;simpa using HN.1 j hj (by omega)
     unfold ZQ;rw [this]⟩
    go_wp2;go_ret;exact ⟨by rw [HF.1];rfl,HB.1⟩
end Go.Proofs.YtlnghlamnehfjaaGreatDoor.S
