/- Part Q19. -/
import Derived.Test.YtlnghlamnehfjaaGreatDoorQ11
import Derived.Test.YtlnghlamnehfjaaGreatDoorQ17
import Derived.Test.YtlnghlamnehfjaaGreatDoorQ18
set_option linter.unusedVariables false
set_option linter.unusedSimpArgs false
set_option maxRecDepth 100000
set_option maxHeartbeats 64000000
namespace Go.Proofs.YtlnghlamnehfjaaGreatDoor.S
open Go.RowKit Go.Maps
structure Led where
 o:Od
 f:Facts
 t:Option (Bool×Bool)
structure Qa where
 most:Int
 room:Int
 tries:Int
 j:Jrn
 used:Int
 l:IM Led
 Qf:Qy
def Facts.zero:Facts:=⟨[],[],false,false,false,false,false,false,false,false,false⟩
def Led.over (x:Led):Bool:=x.f.over x.o.steps.length
def Led.decided (x:Led):Bool:=x.f.yes||x.f.turned
def Led.facts (x:Led) (kd:Kd) (n:Int):Led:=
 match kd with
 |.asked=> {x with f:= {x.f with asked:=true},t:=some (false,false)}
 |.done=> {x with f:= {x.f with done:=x.f.done.set n.toNat true}}
 |.undone=> {x with f:= {x.f with undone:=x.f.undone.set n.toNat true}}
 |.yes=> {x with f:= {x.f with yes:=true},t:=none}
 |.turn=> {x with f:= {x.f with turned:=true},t:=none}
 |.ack=>if n=1 then {x with f:= {x.f with ack0:=true}} else {x with f:= {x.f with ack1:=true}}
 |.damage=>if n=1 then {x with f:= {x.f with dam0:=true,ack0:=true}} else {x with f:= {x.f with dam1:=true,ack1:=true}}
 |.shipped=> {x with f:= {x.f with shipped:=true}}
 |_=>x
def Led.more (x:Led) (s n:Int):Led:= {x with o:= {x.o with steps:=x.o.steps++ [⟨s,n⟩]},f:= {x.f with done:=x.f.done++ [false],undone:=x.f.undone++ [false]}}
def Qa.Xd (c:Qa) (id:Int) (x:Led):Qa:= {c with used:=c.used+1,l:=Qt c.l id x}
def Qa.Qg (c:Qa) (e:Entry):Qa:=
 match e.kd,e.n with
 |.begin,[a,b,d,p]=>c.Xd e.id ⟨⟨e.id,a,b,d,p,[]⟩,.zero,none⟩
 |.step,[_,s,n]=>match Qc c.l e.id with
  |none=> {c with used:=c.used+1}
  |some x=>c.Xd e.id (x.more s n)
 |kd,n=>match Qc c.l e.id with
  |none=> {c with used:=c.used+1}
  |some x=>c.Xd e.id (x.facts kd (n.headD 0))
def Qa.forget (c:Qa):Qa:= {c with used:=0,l:= [],Qf:=⟨c.tries,[]⟩}
def Qa.Qq (c:Qa) (e:Entry):Qa:=({c with j:=(c.j.add e).2}:Qa).Qg e
def Qa.notes (c:Qa) (es:List Entry):Bool×Qa:=
 if c.room<c.used+es.length then (false,c) else (true,es.foldl Qa.Qq c)
def Qa.sync (c:Qa):Qa:= {c with j:=c.j.sync}
def Qa.Qm (c:Qa) (es:List Entry):Bool×Qa:=
 if (c.notes es).1=true then (true,(c.notes es).2.sync) else (false,(c.notes es).2)
def Zn:List Msg→Bool
 |m::_=>decide (m.kind=6)
 | []=>false
def Qa.sends (c:Qa) (x:Led):List Msg×Qa:=
 if (Zn (Xa x.o x.f)&& !x.f.asked)=true then
  (if (c.notes [⟨.asked,x.o.id,[]⟩]).1=true then (Xa x.o x.f,(c.notes [⟨.asked,x.o.id,[]⟩]).2) else ([],(c.notes [⟨.asked,x.o.id,[]⟩]).2))
 else (Xa x.o x.f,c)
def Qa.again (c:Qa) (id:Int):Qa:= {c with Qf:=c.Qf.again id}
def Qa.cut (c:Qa) (id:Int):Qa:= {c with Qf:=c.Qf.cut id}
def Qa.hang (c:Qa) (id:Int):Qa:= {c with Qf:=c.Qf.hang id}
def Qa.Qcs (c:Qa) (x:Led):List Msg×Qa:=
 if x.over=true then ([],(c.again x.o.id).cut x.o.id) else (c.again x.o.id).sends x
def Qa.goes (c:Qa) (id:Int):List Msg×Qa:=
 match Qc c.l id with
 |none=>([],c)
 |some x=>c.Qcs x
def Qa.turns (c:Qa) (id:Int):List Msg×Int×Qa:=
 if (c.Qm [⟨.turn,id,[]⟩]).1=true then (((c.Qm [⟨.turn,id,[]⟩]).2.goes id).1,0,((c.Qm [⟨.turn,id,[]⟩]).2.goes id).2) else ([],5,(c.Qm [⟨.turn,id,[]⟩]).2)
def Qa.opens (c:Qa):Nat:=(c.l.filter fun p=>!p.2.over).length
def YM (id:Int):Nat→List Sp→List Entry
 |_,[]=> []
 |i,s::r=>⟨.step,id,[(i:Int),s.svc,s.n]⟩::YM id (i+1) r
def QD (o:Od):List Entry:=⟨.begin,o.id,[o.item,o.qty,o.client,o.price]⟩::YM o.id 0 o.steps
def Qa.begin (c:Qa) (o:Od):List Msg×Int×Qa:=
 if c.j.down=true then ([],10,c) else
 if (Qc c.l o.id).isSome=true then ([],8,c) else
 if c.most≤(c.opens:Int) then ([],5,c) else
 if (c.Qm (QD o)).1=true then ((((c.Qm (QD o)).2.hang o.id).goes o.id).1,0,(((c.Qm (QD o)).2.hang o.id).goes o.id).2) else ([],5,(c.Qm (QD o)).2)
def Led.service (x:Led) (step frm:Int):Bool:=decide (0≤step)&&decide (step<x.o.steps.length)&&decide ((x.o.steps.map Sp.svc).getD step.toNat 0=frm)
def Qa.tells (c:Qa) (m:Msg):List Msg:=
 match Qc c.l m.id with
 |none=> [⟨14,0,m.frm,m.id,0,0,0⟩]
 |some x=>if x.f.turned=true then [⟨14,0,m.frm,m.id,0,0,0⟩] else if x.f.yes=true then [⟨13,0,m.frm,m.id,0,0,0⟩] else []
def Qa.QM (c:Qa) (e:Entry):List Msg×Qa:=
 if (c.notes [e]).1=true then (c.notes [e]).2.goes e.id else ([],(c.notes [e]).2)
def Qa.QN (c:Qa) (e:Entry):List Msg×Qa:=
 if (c.Qm [e]).1=true then (c.Qm [e]).2.goes e.id else ([],(c.Qm [e]).2)
def Qa.steps (c:Qa) (x:Led) (m:Msg):List Msg×Qa:=
 if x.service m.step m.frm=false then ([],c) else
 if (decide (m.kind=3)&& !x.decided)=true then ((c.turns m.id).1,(c.turns m.id).2.2) else
 if m.kind=2 then (if (!x.f.asked&& !x.decided&&decide (XY x.f.done false=m.step))=true then c.QM ⟨.done,m.id,[m.step]⟩ else ([],c)) else
 if m.kind=5 then (if (x.f.turned&&decide (QF x.f.undone=m.step))=true then c.QM ⟨.undone,m.id,[m.step]⟩ else ([],c)) else ([],c)
def Led.says (x:Led) (i:Int):Led:=match x.t with
 |none=>x
 |some (a,b)=> {x with t:=some (if i=0 then (true,b) else (a,true))}
def Qa.Yo (c:Qa) (x:Led) (m:Msg):List Msg×Qa:=
 match x.t with
 |none=>([],c)
 |some (a,b)=>
  if m.kind=8 then c.QN ⟨.turn,m.id,[]⟩ else
  if (if m.frm=1 then b&& !a else a&& !b)=true then c.QN ⟨.yes,m.id,[]⟩ else ([],{c with l:=Qt c.l m.id (x.says (m.frm-1))})
def Led.Tf (x:Led) (frm:Int):Bool:=if frm=1 then x.f.ack0 else x.f.ack1
def Led.De (x:Led) (frm:Int):Bool:=if frm=1 then x.f.dam0 else x.f.dam1
def Qa.Vt (c:Qa) (x:Led) (m:Msg):List Msg×Qa:=
 if x.decided=false then ([],c) else
 if m.kind=11 then (if x.Tf m.frm=true then ([],c) else c.QM ⟨.ack,m.id,[m.frm]⟩) else
 if x.De m.frm=true then ([⟨18,0,m.frm,m.id,0,0,0⟩],c) else
 if (c.Qm [⟨.damage,m.id,[m.frm]⟩]).1=true then (⟨18,0,m.frm,m.id,0,0,0⟩::((c.Qm [⟨.damage,m.id,[m.frm]⟩]).2.goes m.id).1,((c.Qm [⟨.damage,m.id,[m.frm]⟩]).2.goes m.id).2) else ([],(c.Qm [⟨.damage,m.id,[m.frm]⟩]).2)
def Qa.handle (c:Qa) (m:Msg):List Msg×Qa:=
 if c.j.down=true then ([],c) else
 if m.kind=12 then (c.tells m,c) else
 match Qc c.l m.id with
 |none=>([],c)
 |some x=>
  if m.kind=2∨m.kind=3∨m.kind=5 then c.steps x m else
  if m.kind=7∨m.kind=8 then c.Yo x m else
  if m.kind=11∨m.kind=17 then c.Vt x m else
  if m.kind=16 then (if (decide (m.frm=3)&&x.f.yes&& !x.f.shipped)=true then c.QM ⟨.shipped,m.id,[]⟩ else ([],c)) else ([],c)
def Qa.ring (c:Qa) (id:Int):List Msg×Qa:=
 if c.j.down=true then ([],c) else
 match Qc c.l id with
 |none=>([],{c with Qf:=(c.Qf.ring id).2.2})
 |some x=>
  if (c.Qf.ring id).1=false then ([],{c with Qf:=(c.Qf.ring id).2.2}) else
  if (c.Qf.ring id).2.1=true then
   (if x.decided=false then ((({c with Qf:=(c.Qf.ring id).2.2}:Qa).turns id).1,(({c with Qf:=(c.Qf.ring id).2.2}:Qa).turns id).2.2)
    else (({c with Qf:=(c.Qf.ring id).2.2}:Qa).again id).sends x)
  else ({c with Qf:=(c.Qf.ring id).2.2}:Qa).sends x
def Qa.cancel (c:Qa) (id:Int):List Msg×Int×Qa:=
 if c.j.down=true then ([],10,c) else
 match Qc c.l id with
 |none=>([],6,c)
 |some x=>if x.decided=true then ([],7,c) else c.turns id
def Qa.state (c:Qa) (id:Int):Int:=match Qc c.l id with
 |none=>0
 |some x=>x.f.state x.o.steps.length
def Qa.Qj (c:Qa) (stay:Int):Qa:=if c.j.down=true then c else ({c with j:=c.j.Qj stay}:Qa).forget
def Qa.Qi (c:Qa) (es:List Entry):Qa:=es.foldl Qa.Qg c
def Qa.wake (c:Qa) (id:Int):Qa:=match Qc c.l id with
 |none=>c
 |some x=>
  let c1:=if x.over=true then c else c.hang id
  if (x.f.asked&& !x.decided)=true then (c1.Qm [⟨.turn,id,[]⟩]).2 else c1
def Qa.ids (c:Qa):List Int:=c.l.map (·.1)
def Qa.start (c:Qa):Qa:=
 if c.j.down=true then
  let c1:=(({c with j:=c.j.recover}:Qa).forget).Qi c.j.es
  c1.ids.foldl Qa.wake c1
 else c
structure Led.ok (k:Int) (x:Led):Prop where
 o:x.o.ok
 id:x.o.id=k
 may:x.f.may x.o.steps.length=true
 tally:x.t.isSome=(x.f.asked&& !x.decided)
 full:x.f.asked=true→x.f.done.contains false=false
structure Qa.ok (c:Qa):Prop where
 keys:Ql c.l
 led:∀p∈c.l,p.2.ok p.1
 Qf:Ql c.Qf.left
 t0:1≤c.tries
 t1:c.tries≤20
 r1:c.room≤4096
 used0:0≤c.used
 used1:c.used≤4096
inductive Qa.Fits (c:Qa):Entry→Prop where
 |begin (id a b d p:Int) (ho:(⟨id,a,b,d,p,[]⟩:Od).ok) (hn:Qc c.l id=none):Qa.Fits c ⟨.begin,id,[a,b,d,p]⟩
 |step (id:Int) (i:Nat) (s n:Int) (x:Led) (hx:Qc c.l id=some x) (hi:i≤3) (hf:x.f= {Facts.zero with done:=List.replicate x.o.steps.length false,undone:=List.replicate x.o.steps.length false}) (ht:x.t=none) (ho:(x.more s n).o.ok):Qa.Fits c ⟨.step,id,[(i:Int),s,n]⟩
 |asked (id:Int) (x:Led) (hx:Qc c.l id=some x) (hd:x.decided=false) (hf:x.f.done.contains false=false):Qa.Fits c ⟨.asked,id,[]⟩
 |done (id:Int) (k:Nat) (x:Led) (hx:Qc c.l id=some x) (ha:x.f.asked=false) (hd:x.decided=false) (hk:XY x.f.done false=k):Qa.Fits c ⟨.done,id,[(k:Int)]⟩
 |undone (id:Int) (k:Nat) (x:Led) (hx:Qc c.l id=some x) (ht:x.f.turned=true) (hk:QF x.f.undone=k):Qa.Fits c ⟨.undone,id,[(k:Int)]⟩
 |yes (id:Int) (x:Led) (hx:Qc c.l id=some x) (ha:x.f.asked=true) (hd:x.decided=false):Qa.Fits c ⟨.yes,id,[]⟩
 |turn (id:Int) (x:Led) (hx:Qc c.l id=some x) (hd:x.decided=false):Qa.Fits c ⟨.turn,id,[]⟩
 |ack (id n:Int) (x:Led) (hx:Qc c.l id=some x) (hn:n=1∨n=2) (hd:x.decided=true):Qa.Fits c ⟨.ack,id,[n]⟩
 |damage (id n:Int) (x:Led) (hx:Qc c.l id=some x) (hn:n=1∨n=2) (hd:x.decided=true):Qa.Fits c ⟨.damage,id,[n]⟩
 |shipped (id:Int) (x:Led) (hx:Qc c.l id=some x) (hy:x.f.yes=true):Qa.Fits c ⟨.shipped,id,[]⟩
theorem QC1 {P:Prop} (h:P:=by
 revert h3;generalize x.f.asked=b,x.f.done.contains false=c,x.f.undone.contains true=d,x.f.shipped=e,(x.f.ack0||x.f.ack1)=g,(x.f.dam0||x.f.dam1)=i,Xg x.f.done=j,Yz x.f.undone=m;revert b c d e g i j m;decide):P:=h
theorem zChn2 {P:Prop} (h:P:=by
 obtain ⟨h1,h2,h3⟩:=mpt h.may;unfold Led.facts;simp only;split;exact h.mk2 rfl rfl rfl (Qj6 h3 hd) h.tally h.full;exact h.mk2 rfl rfl rfl (Qj6 h3 hd) h.tally h.full):P:=h
theorem Qyp {f:Facts} {n:Nat} (h1:f.done.length=n) (h2:f.undone.length=n)
 (h3:KG f.yes f.turned f.asked (f.done.contains false) (f.undone.contains true) f.shipped (f.ack0||f.ack1) (f.dam0||f.dam1) (Xg f.done) (Yz f.undone)=true):f.may n=true:=by
 unfold Facts.may;rw [if_neg (by simp [h1]),if_neg (by simp [h2])];unfold KG at h3;have key:∀c1 c2 c3 c4 r1 r2:Bool,(!c1&& !c2&& !c3&& !c4&&r1&&r2)=true→(if c1=true then false else if c2=true then false else if c3=true then false else if c4=true then false else (r1&&r2))=true:=by decide
 exact key _ _ _ _ _ _ h3
theorem Qd0 {l:List Bool}:Xg l=true↔∀i,i<l.length→i=0∨l.getD i false=false∨l.getD (i-1) false=true:=by
 unfold Xg;rw [List.all_eq_true];simp [List.mem_range,or_assoc]
theorem VZ {l:List Bool} {k:Nat} (h:XY l false=k):k<l.length∧l.getD k false=false∧∀j,j<k→l.getD j false=true:=by
 unfold XY at h;cases hf:l.findIdx? (fun x=>x==false) with
 |none=>rw [hf] at h;simp only at h;omega
 |some i=>
  rw [hf] at h;simp only [Int.natCast_inj] at h;subst h;rw [List.findIdx?_eq_some_iff_getElem] at hf;obtain ⟨h1,h2,h3⟩:=hf;refine ⟨h1,?_,fun j hj=>?_⟩;have:l[i]=false:=by simpa using h2
  simp [h1,this];have hjl:j<l.length:=by omega
  have:l[j]=true:=by simpa using h3 j hj
  simp [hjl,this]
theorem Qe0 {l:List Bool} {k i:Nat} (hk:k<l.length):(l.set k true).getD i false=if i=k then true else l.getD i false:=by
 by_cases h:i=k;subst h;simp [hk];have h':¬k=i:=fun e=>h e.symm;simp [h,h',List.getElem?_set]
theorem Qcp {l:List Bool} {k:Nat} (hs:Xg l=true) (h:XY l false=k):Xg (l.set k true)=true:=by
 obtain ⟨h1,h2,h3⟩:=VZ h;rw [Qd0] at hs⊢;intro i hi;have:=hs i (by simpa using hi);rw [Qe0 h1,Qe0 h1];by_cases e:i=k;subst e;by_cases e0:i=0;exact .inl e0;refine .inr (.inr ?_);rw [if_neg (by omega)];exact h3 _ (by omega);rw [if_neg e];rcases this with h|h|h;exact .inl h;exact .inr (.inl h);refine .inr (.inr ?_);split;rfl;exact h
theorem FE {l:List Bool} {k:Nat} (h:QF l=k):k<l.length∧XY l.reverse false=((l.length-1-k:Nat):Int):=by
 unfold QF at h;have e:(fun b:Bool=>!b)=(fun x=>x==false):=by funext b;cases b<;>rfl
 rw [e] at h;unfold XY;cases hf:l.reverse.findIdx? (fun x=>x==false) with
 |none=>rw [hf] at h;simp only at h;omega
 |some i=>
  rw [hf] at h;simp only at h⊢;have hi:i<l.length:=by
   obtain ⟨h1,_⟩:=List.findIdx?_eq_some_iff_getElem.1 hf;simpa using h1
  refine ⟨by omega,?_⟩;congr 1;omega
theorem Qt6 {l:List Bool} {k:Nat} (hs:Yz l=true) (h:QF l=k):Yz (l.set k true)=true:=by
 obtain ⟨h1,h2⟩:=FE h;have:=Qcp hs h2;unfold Yz;have e:(l.set k true).reverse=l.reverse.set (l.length-1-k) true:=by
  apply List.ext_getElem;simp;intro i hi1 hi2;simp only [List.length_reverse,List.length_set] at hi1;rw [List.getElem_reverse,List.getElem_set,List.getElem_set,List.getElem_reverse];simp only [List.length_set];by_cases e:k=l.length-1-i;rw [if_pos e,if_pos (by omega)];rw [if_neg e,if_neg (by omega)]
 rw [e];exact this
theorem Qo4 {l:List Bool} {k:Nat}:True:=trivial
theorem undecided {x:Led} (h:x.decided=false):x.f.yes=false∧x.f.turned=false:=by
 simpa [Led.decided] using h
theorem Qt9 {x:Led} {k:Int} (h:x.ok k) (ht:x.f.turned=false):x.f.undone.contains true=false:=by
 obtain ⟨h1,h2,h3⟩:=mpt h.may;rw [ht] at h3;revert h3;generalize x.f.yes=a,x.f.asked=b,x.f.done.contains false=c,x.f.undone.contains true=d,x.f.shipped=e,(x.f.ack0||x.f.ack1)=g,(x.f.dam0||x.f.dam1)=i,Xg x.f.done=j,Yz x.f.undone=m;revert a b c d e g i j m;decide
theorem Led.ok.mk2 {x y:Led} {k:Int} (h:x.ok k) (ho:y.o=x.o) (h1:y.f.done.length=x.f.done.length) (h2:y.f.undone.length=x.f.undone.length)
 (h3:KG y.f.yes y.f.turned y.f.asked (y.f.done.contains false) (y.f.undone.contains true) y.f.shipped (y.f.ack0||y.f.ack1) (y.f.dam0||y.f.dam1) (Xg y.f.done) (Yz y.f.undone)=true)
 (h4:y.t.isSome=(y.f.asked&& !y.decided)) (h5:y.f.asked=true→y.f.done.contains false=false):y.ok k:=by
 obtain ⟨p1,p2,_⟩:=mpt h.may;refine ⟨by rw [ho];exact h.o,by rw [ho];exact h.id,?_,h4,h5⟩;rw [ho];exact Qyp (h1.trans p1) (h2.trans p2) h3
theorem Qmn {x:Led} {k n:Int} (h:x.ok k) (hd:x.decided=false) (hf:x.f.done.contains false=false):(x.facts .asked n).ok k:=by
 obtain ⟨h1,h2,h3⟩:=mpt h.may;obtain ⟨e1,e2⟩:=undecided hd;refine h.mk2 rfl rfl rfl ?_ ?_ (fun _=>hf);simp only [Led.facts];rw [e1,e2] at h3⊢;exact QC1;simp [Led.facts,Led.decided,e1,e2]
theorem QAd {x:Led} {k:Int} {n:Nat} (h:x.ok k) (ha:x.f.asked=false) (hd:x.decided=false) (hk:XY x.f.done false=n):(x.facts .done n).ok k:=by
 obtain ⟨h1,h2,h3⟩:=mpt h.may;obtain ⟨e1,e2⟩:=undecided hd;have hsf:Xg x.f.done=true:=by
  rw [e1,e2] at h3;revert h3;generalize x.f.asked=b,x.f.done.contains false=c,x.f.undone.contains true=d,x.f.shipped=e,(x.f.ack0||x.f.ack1)=g,(x.f.dam0||x.f.dam1)=i,Xg x.f.done=j,Yz x.f.undone=m;revert b c d e g i j m;decide
 have hs2:=Qcp hsf hk;refine h.mk2 rfl (by simp [Led.facts]) rfl ?_ ?_ (fun e=>?_);simp only [Led.facts,Int.toNat_natCast];rw [e1,e2] at h3⊢;rw [hsf] at h3;rw [hs2];revert h3;generalize x.f.asked=b,x.f.done.contains false=c,(x.f.done.set n true).contains false=c2,x.f.undone.contains true=d,x.f.shipped=e,(x.f.ack0||x.f.ack1)=g,(x.f.dam0||x.f.dam1)=i,Yz x.f.undone=m;revert b c c2 d e g i m;decide;exact h.tally;rw [show (x.facts .done n).f.asked=x.f.asked from rfl,ha] at e;cases e
theorem Qrp {x:Led} {k:Int} {n:Nat} (h:x.ok k) (ht:x.f.turned=true) (hk:QF x.f.undone=n):(x.facts .undone n).ok k:=by
 obtain ⟨h1,h2,h3⟩:=mpt h.may;have hsl:Yz x.f.undone=true:=by
  revert h3;generalize x.f.yes=a,x.f.turned=t,x.f.asked=b,x.f.done.contains false=c,x.f.undone.contains true=d,x.f.shipped=e,(x.f.ack0||x.f.ack1)=g,(x.f.dam0||x.f.dam1)=i,Xg x.f.done=j,Yz x.f.undone=m;unfold KG;intro h3;simp only [Bool.and_eq_true] at h3;exact h3.2
 have hs2:=Qt6 hsl hk;refine h.mk2 rfl rfl (by simp [Led.facts]) ?_ ?_ h.full;simp only [Led.facts,Int.toNat_natCast];rw [ht] at h3⊢;rw [hsl] at h3;rw [hs2];revert h3;generalize x.f.yes=a,x.f.asked=b,x.f.done.contains false=c,x.f.undone.contains true=d,(x.f.undone.set n true).contains true=d2,x.f.shipped=e,(x.f.ack0||x.f.ack1)=g,(x.f.dam0||x.f.dam1)=i,Xg x.f.done=j;revert a b c d d2 e g i j;decide;exact h.tally
theorem QEc {x:Led} {k n:Int} (h:x.ok k) (ha:x.f.asked=true) (hd:x.decided=false):(x.facts .yes n).ok k:=by
 obtain ⟨h1,h2,h3⟩:=mpt h.may;obtain ⟨e1,e2⟩:=undecided hd;have hu:=Qt9 h e2;have hf:=h.full ha;refine h.mk2 rfl rfl rfl ?_ ?_ h.full;simp only [Led.facts];rw [e1,e2,hu,hf,ha] at h3;rw [e2,hu,hf,ha];revert h3;generalize x.f.shipped=e,(x.f.ack0||x.f.ack1)=g,(x.f.dam0||x.f.dam1)=i,Xg x.f.done=j,Yz x.f.undone=m;revert e g i j m;decide;simp [Led.facts,Led.decided]
theorem QAc {x:Led} {k n:Int} (h:x.ok k) (hd:x.decided=false):(x.facts .turn n).ok k:=by
 obtain ⟨h1,h2,h3⟩:=mpt h.may;obtain ⟨e1,e2⟩:=undecided hd;refine h.mk2 rfl rfl rfl ?_ ?_ h.full;simp only [Led.facts];rw [e1,e2] at h3;rw [e1];exact QC1;simp [Led.facts,Led.decided]
theorem Qj6 {yes turned asked dc uc sh ea ed ea' ed' sf sl:Bool} (h:KG yes turned asked dc uc sh ea ed sf sl=true) (hd:(yes||turned)=true):KG yes turned asked dc uc sh ea' ed' sf sl=true:=by
 unfold KG at *;have:∀z:Bool,(z&& !yes&& !turned)=false:=by
  clear h;intro z;revert hd;cases yes<;>cases turned<;>cases z<;>decide
 rw [this] at h⊢;exact h
theorem QEr {x:Led} {k n:Int} (h:x.ok k) (hd:x.decided=true):(x.facts .ack n).ok k:=by
 exact zChn2
theorem Qs4 {x:Led} {k n:Int} (h:x.ok k) (hd:x.decided=true):(x.facts .damage n).ok k:=by
 exact zChn2
theorem Qn3 {x:Led} {k n:Int} (h:x.ok k) (hy:x.f.yes=true):(x.facts .shipped n).ok k:=by
 obtain ⟨h1,h2,h3⟩:=mpt h.may;refine h.mk2 rfl rfl rfl ?_ h.tally h.full;simp only [Led.facts];rw [hy] at h3⊢;revert h3;generalize x.f.turned=t,x.f.asked=b,x.f.done.contains false=c,x.f.undone.contains true=d,x.f.shipped=e,(x.f.ack0||x.f.ack1)=g,(x.f.dam0||x.f.dam1)=i,Xg x.f.done=j,Yz x.f.undone=m;revert t b c d e g i j m;decide
theorem Qdq (n:Nat):Xg (List.replicate n false)=true:=by
 rw [Qd0];intro i hi;refine .inr (.inl ?_);rw [List.getD_eq_getElem?_getD,List.getElem?_eq_getElem hi];simp
theorem Qc3 (o:Od) (ho:o.ok):(⟨o,{Facts.zero with done:=List.replicate o.steps.length false,undone:=List.replicate o.steps.length false},none⟩:Led).ok o.id:=by
 refine ⟨ho,rfl,Qyp (by simp) (by simp) ?_,rfl,fun h=>?_⟩;simp only [Facts.zero];have e1:Yz (List.replicate o.steps.length false)=true:=by unfold Yz;rw [List.reverse_replicate];exact Qdq _
 have e2:(List.replicate o.steps.length false).contains true=false:=by simp [List.mem_replicate]
 rw [Qdq,e1,e2];generalize (List.replicate o.steps.length false).contains false=c;cases c<;>decide
 cases h
theorem Qa.ok.Xd {c:Qa} {id:Int} {x:Led} (h:c.ok) (hx:x.ok id) (h0:1≤id) (h1:id≤999) (hu:c.used<4096):(c.Xd id x).ok:=
 ⟨h.keys.put x h0 h1,fun p hp=>by
  rcases YB hp with rfl|hp;exact hx;exact h.led p hp,h.Qf,h.t0,h.t1,h.r1,by show 0≤c.used+1;have:=h.used0;omega,by show c.used+1≤4096;omega⟩
theorem Qa.ok.get {c:Qa} {id:Int} {x:Led} (h:c.ok) (hx:Qc c.l id=some x):x.ok id∧1≤id∧id≤999:=
 ⟨h.led _ (Xe hx),(h.keys.get hx).1,(h.keys.get hx).2⟩
theorem Qa.ok.Qg {c:Qa} {e:Entry} (h:c.ok) (he:c.Fits e) (hu:c.used<4096):(c.Qg e).ok:=by
 cases he with
 |begin id a b d p ho hn=>exact h.Xd (Qc3 _ ho) ho.id0 ho.id1 hu
 |step id i s n x hx hi hf ht ho=>
  obtain ⟨g1,g2,g3⟩:=h.get hx;unfold Qa.Qg;simp only [hx];refine h.Xd ?_ g2 g3 hu;have:=Qc3 _ ho;have e:x.more s n=⟨(x.more s n).o,{Facts.zero with done:=List.replicate (x.more s n).o.steps.length false,undone:=List.replicate (x.more s n).o.steps.length false},none⟩:=by
   obtain ⟨o,f,t⟩:=x;simp only at hf ht;subst hf ht;simp [Led.more,List.replicate_succ']
  rw [e];have e2:(x.more s n).o.id=id:=g1.id;rw [e2] at this;exact this
 |asked id x hx hd hf=>
  obtain ⟨g1,g2,g3⟩:=h.get hx;unfold Qa.Qg;simp only [hx];exact h.Xd (Qmn g1 hd hf) g2 g3 hu
 |done id k x hx ha hd hk=>
  obtain ⟨g1,g2,g3⟩:=h.get hx;unfold Qa.Qg;simp only [hx];exact h.Xd (QAd g1 ha hd hk) g2 g3 hu
 |undone id k x hx ht hk=>
  obtain ⟨g1,g2,g3⟩:=h.get hx;unfold Qa.Qg;simp only [hx];exact h.Xd (Qrp g1 ht hk) g2 g3 hu
 |yes id x hx ha hd=>
  obtain ⟨g1,g2,g3⟩:=h.get hx;unfold Qa.Qg;simp only [hx];exact h.Xd (QEc g1 ha hd) g2 g3 hu
 |turn id x hx hd=>
  obtain ⟨g1,g2,g3⟩:=h.get hx;unfold Qa.Qg;simp only [hx];exact h.Xd (QAc g1 hd) g2 g3 hu
 |ack id n x hx hn hd=>
  obtain ⟨g1,g2,g3⟩:=h.get hx;unfold Qa.Qg;simp only [hx];exact h.Xd (QEr g1 hd) g2 g3 hu
 |damage id n x hx hn hd=>
  obtain ⟨g1,g2,g3⟩:=h.get hx;unfold Qa.Qg;simp only [hx];exact h.Xd (Qs4 g1 hd) g2 g3 hu
 |shipped id x hx hy=>
  obtain ⟨g1,g2,g3⟩:=h.get hx;unfold Qa.Qg;simp only [hx];exact h.Xd (Qn3 g1 hy) g2 g3 hu
theorem QCl {P:Prop} (h:P:=by
 go_enter Tryz.func273,Tryz.ntmps273;go_wp2;refine Xh [(0,.f),(1,.f),(2,.f),(3,.s),(4,.s),(5,.e),(6,.f)] ?_;repeat (first
  |refine vR ?_
  |(refine ve rfl rfl ?_;go_wp2_with (go_at_call 137;refine HJ.1.m1 fun w2 H2=>?_);refine ⟨trivial,?_⟩;go_simp))
 refine vn ?_;go_simp;clear c0 x0 hlb;have c0:=H2.1.cB5 2 rfl;have x0:=H2.1.cB3 1 rfl;have hlb:=H2.1.lt 2 rfl;first
  |(have ty:Tg 1:=tg;go_wp2_with fail;go_ret;rw [HS.1,if_pos HR.1];refine ⟨rfl,?_⟩;have hj:=HF.1;have h9:=H2.1;rw [hj] at h9;exact Heap.Xp (bm:=bm) (bj:=bj) (bh:=bh) HP.1 ((h9.frt 1 rfl).drop.frt 1 rfl))
  |(have ty:Tg 2:=tg;go_wp2_with (first|(go_at_call 133;refine (Fb H2.1 HD2.1).m2 fun w3 h3=>?_;clear c0 x0 hlb;have c0:=h3.cB5 2 rfl;have x0:=h3.cB3 1 rfl;have hlb:=h3.lt 2 rfl;have H3:=zk (Heap.Xp (s:= {s with j:=(s.j.add e).2.sync}) (bm:=bm) (bj:=bj) (bh:=bh) HP2.1 ((h3.frt 1 rfl).drop.frt 1 rfl));clear h3)|(go_at_call 271;refine (Qtb H3.1 HE.1).m1 fun w4 H4=>?_));go_ret;rw [HS.1,if_neg (Int.not_le.2 HR.1)];exact ⟨rfl,H4.1⟩)):P:=h
inductive SvE:Entry→Prop where
 |did (id m:Int) (h0:1≤id) (h1:id≤999) (hm:QU m):SvE ⟨.did,id,[m]⟩
 |cant (id:Int) (h0:1≤id) (h1:id≤999):SvE ⟨.cant,id,[]⟩
 |undid (id:Int) (h0:1≤id) (h1:id≤999):SvE ⟨.undid,id,[]⟩
theorem SvE.ok {e:Entry} (h:SvE e):e.ok:=by
 cases h with
 |did id m h0 h1 hm=>exact ⟨by simp only;omega,h1,by simp,by simpa using hm⟩
 |cant id h0 h1=>exact ⟨by simp only;omega,h1,by simp,by simp⟩
 |undid id h0 h1=>exact ⟨by simp only;omega,h1,by simp,by simp⟩
theorem Heap.JJ {w0 w:World} {v:Value} {T:TypeId} {size n:Nat} {xs:List Value} {l:List SA} (h:Heap w0 l w) (i:Nat) (e:l[i]? =some (.slc v T size n xs)):v.oneCell'=true:=by
 rcases h.shp i e with ⟨rfl,_⟩|⟨g,cap,rfl,_⟩<;>rfl
theorem Qcd {w0 w:World} {b bj:Nat} {s:Qe} {R:List SA} {e:Entry} {v:Value} (h:Heap w0 (.svx b bj s::.slc v 3 1 e.n.length (e.n.map (Value.int .i64))::R) w) (he:SvE e):
 CH 271 #[b,.agg #[.string e.kd.str,e.id,v]] w (.tuple #[]) w0 (.svx b bj (s.Qg e)::.slc v 3 1 e.n.length (e.n.map (Value.int .i64))::R):=by
 cases he with
 |did id m h0 h1 hm=>exact Qmm h id h0 h1 v m (h.row 1 rfl)
 |cant id h0 h1=>exact Qhw h id h0 h1 v (h.JJ 1 rfl)
 |undid id h0 h1=>exact Qfa h id h0 h1 v (h.JJ 1 rfl)
theorem Qpq (s:Qe) (e:Entry):(s.Qg e).j=s.j:=by unfold Qe.Qg;split<;>rfl
theorem Qtb {w0 w:World} {b:Nat} {s:Qe} {R:List SA} {e:Entry} {v:Value} (h:Heap w0 (.service b s::.slc v 3 1 e.n.length (e.n.map (Value.int .i64))::R) w) (he:SvE e):
 CH 271 #[b,.agg #[.string e.kd.str,e.id,v]] w (.tuple #[]) w0 (.service b (s.Qg e)::.slc v 3 1 e.n.length (e.n.map (Value.int .i64))::R):=by
 obtain ⟨bj,h⟩:=h.Qn8;refine (Qcd ((h.frt 2 rfl).frt 1 rfl) he).m2 fun w' h'=>?_;refine ⟨rfl,?_⟩;have h2:=(h'.frt 2 rfl).frt 1 rfl;rw [←Qpq s e] at h2;exact Heap.Qxi h2
def Qe.notes (s:Qe) (e:Entry):Bool×Qe:=
 if s.j.room≤(s.j.es.length:Int) then (false,s) else (true,({s with j:=(s.j.add e).2.sync}:Qe).Qg e)
theorem FZ {w0 w:World} {b:Nat} {s:Qe} {R:List SA} {e:Entry} {v:Value} (h:Heap w0 (.service b s::.slc v 3 1 e.n.length (e.n.map (Value.int .i64))::R) w) (he:SvE e) (hd:s.j.down=false):
 CH 273 #[b,.agg #[.string e.kd.str,e.id,v]] w (.bool (s.notes e).1) w0 (.service b (s.notes e).2::.slc v 3 1 e.n.length (e.n.map (Value.int .i64))::R):=by
 have HH:=zk h;obtain ⟨hp,bj,bh,bm,h⟩:=h.Xq;have HP:=zk hp;have c0:=h.cB5 0 rfl;have hlb:=h.lt 0 rfl;have HO:=zk (Heap.nAt (n:=w.heap.size) h (.cells #[.string e.kd.str,e.id,v] 171) rfl);have h2:=(Heap.nAt (n:=w.heap.size) h (.cells #[.string e.kd.str,e.id,v] 171) rfl).drew;have HJ:=zk (Qbr (h2.frt 2 rfl) hd e he.ok v (h2.row 5 rfl));have HS:As (s.notes e=if s.j.room≤(s.j.es.length:Int) then (false,s) else (true,({s with j:=(s.j.add e).2.sync}:Qe).Qg e)):=⟨rfl⟩;have HE:=zk he;have HD:=zk hd;obtain ⟨av,cap,rfl⟩:=vS2 (h2.row 5 rfl);obtain ⟨W1,hW1⟩:∃W1,w.alloc (.cells #[.string e.kd.str,e.id,.slice av e.n.length cap] 171)=W1:=⟨_,rfl⟩;rw [hW1] at HO HJ;have HP2:As (({s with j:=(s.j.add e).2.sync}:Qe).ok):=⟨⟨hp.r0,hp.r1,hp.keys,hp.book⟩⟩;clear h h2 hp he;have c0:=HO.1.cB5 1 rfl;have x0:=HO.1.cB3 0 rfl;have hlb:=HO.1.lt 1 rfl;by_cases hr:s.j.room≤(s.j.es.length:Int);have HR:=zk hr;have ha:s.j.add e=(5,s.j):=by simp [Jrn.add,hr]
 have HF:As ((s.j.add e).2=s.j):=⟨by rw [ha]⟩;have he1:(s.j.add e).1=5:=by rw [ha]
 rw [he1] at HJ;clear ha hr he1;have tg:=Tg.mk 1;exact QCl;have HR:=zk hr;have HD2:As ((s.j.add e).2.down=false):=⟨by simp [Jrn.add,hr];exact hd⟩;have he1:(s.j.add e).1=0:=by simp [Jrn.add,hr]
 rw [he1] at HJ;clear hr he1;have tg:=Tg.mk 2;exact QCl
def Qe.does (s:Qe) (id much:Int):Int×Qe:=
 if mgi s.st id=1 then (2,s) else if mgi s.st id=0 then
  (if (s.book.take id much).1=0 then
    (if (({s with book:=((s.book.take id much).2.back id).2}:Qe).notes ⟨.did,id,[much]⟩).1=true then 2 else 0,(({s with book:=((s.book.take id much).2.back id).2}:Qe).notes ⟨.did,id,[much]⟩).2)
  else (if (({s with book:=(s.book.take id much).2}:Qe).notes ⟨.cant,id,[]⟩).1=true then 3 else 0,(({s with book:=(s.book.take id much).2}:Qe).notes ⟨.cant,id,[]⟩).2))
 else (3,s)
def Qe.XN (s:Qe) (id:Int):Int×Qe:=
 if mgi s.st id=0∨mgi s.st id=1 then (if (s.notes ⟨.undid,id,[]⟩).1=true then 5 else 0,(s.notes ⟨.undid,id,[]⟩).2) else (5,s)
theorem Qvp {w0 w:World} {b:Nat} {s:Qe} {R:List SA} (h:Heap w0 (.service b s::R) w) (hd:s.j.down=false) (id much:Int) (h0:1≤id) (h1:id≤999) (hm:QU much):
 CH 269 #[b,id,.int .i64 much] w (.int .i64 (s.does id much).1) w0 (.service b (s.does id much).2::R):=by
 have HH:=zk h;obtain ⟨hp,bj,bh,bm,h⟩:=h.Xq;have HP:=zk hp;have HD:=zk hd;have HM:=zk hm;have c0:=h.cB5 0 rfl;have hlb:=h.lt 0 rfl;have HO:=zk h;have HT:=zk (Qly (h.frt 2 rfl) hp.book.ok id much h0 h1 ⟨hp.book.len⟩);have HS:As (s.does id much=if mgi s.st id=1 then (2,s) else if mgi s.st id=0 then
  (if (s.book.take id much).1=0 then
    (if (({s with book:=((s.book.take id much).2.back id).2}:Qe).notes ⟨.did,id,[much]⟩).1=true then 2 else 0,(({s with book:=((s.book.take id much).2.back id).2}:Qe).notes ⟨.did,id,[much]⟩).2)
  else (if (({s with book:=(s.book.take id much).2}:Qe).notes ⟨.cant,id,[]⟩).1=true then 3 else 0,(({s with book:=(s.book.take id much).2}:Qe).notes ⟨.cant,id,[]⟩).2))
 else (3,s)):=⟨rfl⟩
 have HF:As ((s.book.take id much).2.fine):=⟨hp.book.take h0 h1⟩;clear h hp hd hm;generalize hx:mgi s.st id=x at *;have LOOKX:As (mgi s.st id=x):=⟨hx⟩;clear hx;rcases (show x=1∨x=0∨(x≠1∧x≠0) by omega) with rfl|rfl|⟨hx1,hx0⟩
 ·go_enter Tryz.func269,Tryz.ntmps269;go_wp2_with (at_lookup;refine wli HO.1 3 _ _ rfl rfl _ _ 67 rfl Tryz.underlying67 rfl id rfl (by omega) (by omega) ?_;rw [LOOKX.1]);go_ret
  (first|rw [HS.1,if_pos rfl]|rw [HS.1,if_pos trivial])
  exact ⟨rfl,HH.1⟩
 ·generalize htk:s.book.take id much=tk at *;obtain ⟨e0,tb⟩:=tk;by_cases he:e0=0
  ·subst he;have hf:=HF.1;have HF2:As (({s with book:=(tb.back id).2}:Qe).ok):=⟨⟨HP.1.r0,HP.1.r1,HP.1.keys,hf.back⟩⟩;obtain ⟨nt,hnt⟩:∃nt,nt=({s with book:=(tb.back id).2}:Qe).notes ⟨.did,id,[much]⟩:=⟨_,rfl⟩;have HN:As (∀W v,Heap w0 (.service b {s with book:=(tb.back id).2}::.slc v 3 1 1 [.int .i64 much]::R) W→CH 273 #[b,.agg #[.string Kd.did.str,id,v]] W (.bool nt.1) w0 (.service b nt.2::.slc v 3 1 1 [.int .i64 much]::R)):=⟨fun W v h=>by
    rw [hnt];exact FZ h (.did id much h0 h1 HM.1) HD.1⟩
   have HS2:As (s.does id much=(if nt.1=true then 2 else 0,nt.2)):=⟨by rw [HS.1,hnt];rfl⟩;clear hnt hf htk;obtain ⟨nb,ns⟩:=nt;cases nb;all_goals
    go_enter Tryz.func269,Tryz.ntmps269;go_wp2_with (first|(at_lookup;refine wli HO.1 3 _ _ rfl rfl _ _ 67 rfl Tryz.underlying67 rfl id rfl (by omega) (by omega) ?_;rw [LOOKX.1])|(go_at_call 272;refine HT.1.m2 fun w1 h2=>?_;clear c0 hlb;have c0:=h2.cB5 1 rfl;have hlb:=h2.lt 1 rfl;have H1:=zk h2;clear h2)|(go_at_call 274;refine (Qjh H1.1 id h0 h1).m2 fun w2 h2=>?_;clear c0 hlb;have c0:=h2.cB5 1 rfl;have hlb:=h2.lt 1 rfl;have H2:=zk (Heap.Xp (s:= {s with book:=(tb.back id).2}) (bm:=bm) (bj:=bj) (bh:=bh) HF2.1 ((h2.frt 2 rfl).frt 2 rfl));clear h2)|(go_at_call 273;refine (HN.1 _ _ ((Heap.XJ (k:=1) (size:=1) (H2.1.new (.cells #[.int .i64 much] 3)) (by decide) rfl).frt 1 rfl)).m1 fun w3 H3=>?_));go_ret;rw [HS2.1];exact ⟨rfl,(H3.1.frt 1 rfl).drop⟩
  ·have he1:(e0 != 0)=true:=by simpa using he
   have HF2:As (({s with book:=tb}:Qe).ok):=⟨⟨HP.1.r0,HP.1.r1,HP.1.keys,HF.1⟩⟩;obtain ⟨nt,hnt⟩:∃nt,nt=({s with book:=tb}:Qe).notes ⟨.cant,id,[]⟩:=⟨_,rfl⟩;have HN:As (∀W v,Heap w0 (.service b {s with book:=tb}::.slc v 3 1 0 []::R) W→CH 273 #[b,.agg #[.string Kd.cant.str,id,v]] W (.bool nt.1) w0 (.service b nt.2::.slc v 3 1 0 []::R)):=⟨fun W v h=>by
    rw [hnt];exact FZ h (.cant id h0 h1) HD.1⟩
   have HS2:As (s.does id much=(if nt.1=true then 3 else 0,nt.2)):=⟨by rw [HS.1,hnt];simp [he]⟩;clear hnt htk he;obtain ⟨nb,ns⟩:=nt;cases nb;all_goals
    go_enter Tryz.func269,Tryz.ntmps269;go_wp2_with (first|(at_lookup;refine wli HO.1 3 _ _ rfl rfl _ _ 67 rfl Tryz.underlying67 rfl id rfl (by omega) (by omega) ?_;rw [LOOKX.1])|(go_at_call 272;refine HT.1.m2 fun w1 h2=>?_;clear c0 hlb;have c0:=h2.cB5 1 rfl;have hlb:=h2.lt 1 rfl;have H2:=zk (Heap.Xp (s:= {s with book:=tb}) (bm:=bm) (bj:=bj) (bh:=bh) HF2.1 ((h2.frt 2 rfl).frt 2 rfl));clear h2)|(go_at_call 273;refine (HN.1 _ _ ((H2.1.nRw 3 1).frt 1 rfl)).m1 fun w3 H3=>?_));go_ret;rw [HS2.1];exact ⟨rfl,(H3.1.frt 1 rfl).drop⟩
 ·have b1:(x==1)=false:=by simpa using hx1
  have b0:(x==0)=false:=by simpa using hx0
  have HX:As (x≠1∧x≠0):=⟨hx1,hx0⟩;clear hx1 hx0;go_enter Tryz.func269,Tryz.ntmps269;go_wp2_with (at_lookup;refine wli HO.1 3 _ _ rfl rfl _ _ 67 rfl Tryz.underlying67 rfl id rfl (by omega) (by omega) ?_;rw [LOOKX.1]);go_ret;rw [HS.1,if_neg HX.1.1,if_neg HX.1.2];exact ⟨rfl,HH.1⟩
theorem QCn {P:Prop} (h:P:=by
 refine Xh [(0,.f),(1,.f),(2,.f),(3,.f),(4,.s),(5,.f),(6,.s),(7,.f),(8,.s),(9,.f),(10,.e),(11,.f)] ?_;repeat (first
  |refine vR ?_
  |(refine ve rfl rfl ?_;go_wp2_with fail;refine ⟨trivial,?_⟩;go_simp))
 refine vn ?_;go_simp;go_wp2_with fail;go_ret;refine ⟨_,rfl,?_⟩;rw [←HRP.1,if_neg HR.1];have h6:=Heap.XJ (k:=1) (size:=7) (H3.1.drew.new (.cells #[.int .i64 r,s.node,.int .i64 0,id,step,.int .i64 0,.int .i64 0] 113)) (by decide) rfl;exact (h6.frt 2 rfl).drop):P:=h
theorem QBh {P:Prop} (h:P:=by
 cases nb;all_goals
  go_enter Tryz.func270,Tryz.ntmps270;go_wp2_with (first|(at_lookup;refine wli HO.1 3 _ _ rfl rfl _ _ 67 rfl Tryz.underlying67 rfl id rfl (by omega) (by omega) ?_;rw [LOOKX.1])|(go_at_call 273;refine HN.1.m1 fun w3 H3=>?_));go_ret;rw [HS.1];exact ⟨rfl,(H3.1.frt 1 rfl).drop⟩):P:=h
theorem QB3 {P:Prop} (h:P:=by
 go_ret;refine ⟨_,rfl,?_⟩;rw [show rp= [] from by have:=HRP.1;simpa using this.symm];exact (((H3.1.frt 1 rfl).drop).nRw 113 7)):P:=h
theorem QDn {P:Prop} (h:P:=by
 obtain ⟨r,ns⟩:=p;clear hA1;simp only;generalize hrp:(if r=0 then [] else [(⟨r,s.node,0,id,step,0,0⟩:Msg)])=rp;have HRP:=zk hrp;clear hrp;go_enter Tryz.func267,Tryz.ntmps267;go_wp2_with fail;go_quiet ((refine (HDN.1 _ ((HH.1.alloc _).drewN _)).m0 ?_;exact ⟨rfl,_,rfl⟩));have h2:=HB.1.drewN nq;first
  |(have ty:Tg 1:=tg;generalize (w.alloc (.cells #[.int .i64 1,.int .i64 0,s.node,id,step,.int .i64 a,.int .i64 mb] 113)).drewN nq=W2 at h2⊢;have x0:=h2.cB7 0 rfl;have H2:=zk (h2.frt 1 rfl);clear h2 c0 hlb;by_cases hr:r=0
    ·subst hr;go_wp2_with (go_at_call 269;refine (HC.1 _ _ H2.1).m2 fun w3 h3=>?_;clear x0;have x0:=h3.cB7 1 rfl;have H3:=zk h3;clear h3);exact QB3
    ·have hr1:(r==0)=false:=by simpa using hr
     have HR:=zk hr;clear hr;go_wp2_with (go_at_call 269;refine (HC.1 _ _ H2.1).m2 fun w3 h3=>?_;clear x0;have x0:=h3.cB7 1 rfl;obtain ⟨c0,hlb⟩:=HNODE.1 _ _ _ h3;simp only [HNN.1] at c0;have H3:=zk h3;clear h3);exact QCn)
  |(have ty:Tg 2:=tg;generalize (w.alloc (.cells #[.int .i64 4,.int .i64 0,s.node,id,step,.int .i64 a,.int .i64 mb] 113)).drewN nq=W2 at h2⊢;have x0:=h2.cB7 0 rfl;have H2:=zk (h2.frt 1 rfl);clear h2 c0 hlb;by_cases hr:r=0
    ·subst hr;go_wp2_with (go_at_call 270;refine (HC.1 _ _ H2.1).m2 fun w3 h3=>?_;clear x0;have x0:=h3.cB7 1 rfl;have H3:=zk h3;clear h3);exact QB3
    ·have hr1:(r==0)=false:=by simpa using hr
     have HR:=zk hr;clear hr;go_wp2_with (go_at_call 270;refine (HC.1 _ _ H2.1).m2 fun w3 h3=>?_;clear x0;have x0:=h3.cB7 1 rfl;obtain ⟨c0,hlb⟩:=HNODE.1 _ _ _ h3;simp only [HNN.1] at c0;have H3:=zk h3;clear h3);exact QCn)):P:=h
theorem Qo3 {w0 w:World} {b:Nat} {s:Qe} {R:List SA} (h:Heap w0 (.service b s::R) w) (hd:s.j.down=false) (id:Int) (h0:1≤id) (h1:id≤999):
 CH 270 #[b,id] w (.int .i64 (s.XN id).1) w0 (.service b (s.XN id).2::R):=by
 have HH:=zk h;have HN:=zk (FZ (e:=⟨.undid,id,[]⟩) ((h.nRw 3 1).frt 1 rfl) (.undid id h0 h1) hd);obtain ⟨hp,bj,bh,bm,h⟩:=h.Xq;have c0:=h.cB5 0 rfl;have HO:=zk h;have HS:As (s.XN id=if mgi s.st id=0∨mgi s.st id=1 then (if (s.notes ⟨.undid,id,[]⟩).1=true then 5 else 0,(s.notes ⟨.undid,id,[]⟩).2) else (5,s)):=⟨rfl⟩;clear h hp hd;generalize hx:mgi s.st id=x at *;have LOOKX:As (mgi s.st id=x):=⟨hx⟩;clear hx;generalize s.notes ⟨.undid,id,[]⟩=nt at *;obtain ⟨nb,ns⟩:=nt;simp only at HN;rcases (show x=1∨x=0∨(x≠1∧x≠0) by omega) with rfl|rfl|⟨hx1,hx0⟩;exact QBh;exact QBh
 ·have b1:(x==1)=false:=by simpa using hx1
  have b0:(x==0)=false:=by simpa using hx0
  have HX:As (¬(x=0∨x=1)):=⟨by simp [hx1,hx0]⟩;clear hx1 hx0;go_enter Tryz.func270,Tryz.ntmps270;go_wp2_with (at_lookup;refine wli HO.1 3 _ _ rfl rfl _ _ 67 rfl Tryz.underlying67 rfl id rfl (by omega) (by omega) ?_;rw [LOOKX.1]);go_ret;rw [HS.1,if_neg HX.1];exact ⟨rfl,HH.1⟩
def Qe.Qj (s:Qe) (stay:Int):Qe:=if s.j.down=true then s else ({s with j:=s.j.Qj stay}:Qe).forget
theorem FJ {w0 w:World} {b:Nat} {s:Qe} {R:List SA} (h:Heap w0 (.service b s::R) w) (stay QQ:Int):
 CH 265 #[b,stay,QQ] w (.tuple #[]) w0 (.service b (s.Qj stay)::R):=by
 have HH:=zk h;have HD:=zk (Yd h);obtain ⟨hp,bj,bh,bm,h⟩:=h.Xq;have c0:=h.cB5 0 rfl;have HP:=zk hp;have HO:=zk h;have HS:As (s.Qj stay=if s.j.down=true then s else ({s with j:=s.j.Qj stay}:Qe).forget):=⟨rfl⟩;have HP2:As (({s with j:=s.j.Qj stay}:Qe).ok):=⟨⟨hp.r0,hp.r1,hp.keys,hp.book⟩⟩;cases hd:s.j.down
 ·have HC:=zk (JN (h.frt 1 rfl) hd stay QQ);rw [hd] at HD HS;clear h hp hd;go_enter Tryz.func265,Tryz.ntmps265;go_wp2_with (first|(go_at_call 266;refine HD.1.m0 ?_)|(go_at_call 217;refine HC.1.mono ?_;rintro e w1 ⟨⟨cv,rfl⟩,h1⟩;have H1:=zk (Heap.Xp (s:= {s with j:=s.j.Qj stay}) (bm:=bm) (bj:=bj) (bh:=bh) HP2.1 (h1.frt 1 rfl));clear h1)|(go_at_call 77;refine (Qew H1.1).m1 fun w2 H2=>?_));go_end0;rw [HS.1];exact ⟨rfl,H2.1⟩
 ·rw [hd] at HD HS;clear h hp hd;go_enter Tryz.func265,Tryz.ntmps265;go_wp2_with (go_at_call 266;refine HD.1.m0 ?_);refine bodyPost_ret (results_none rfl _ _ _) rfl ⟨rfl,?_⟩;rw [HS.1];exact HH.1
structure SvM (s:Qe) (m:Msg):Prop where
 to:m.to=s.node
 frm:m.frm=0
 id0:1≤m.id
 id1:m.id≤999
 a:QU m.a
 kind:m.kind=1∨m.kind=4
def Qe.asked (s:Qe) (m:Msg):Int×Qe:=if m.kind=1 then s.does m.id m.a else s.XN m.id
def Qe.handle (s:Qe) (m:Msg):List Msg×Qe:=
 if s.j.down=true then ([],s) else ((if (s.asked m).1=0 then [] else [⟨(s.asked m).1,s.node,0,m.id,m.step,0,0⟩]),(s.asked m).2)
theorem Qoz (s:Qe) (e:Entry):(s.Qg e).node=s.node:=by unfold Qe.Qg;split<;>rfl
theorem Kt (s:Qe) (e:Entry):(s.notes e).2.node=s.node:=by
 unfold Qe.notes;split;rfl;exact Qoz _ _
theorem Qub (s:Qe) (id a:Int):(s.does id a).2.node=s.node:=by
 unfold Qe.does;split;rfl;split;split;exact Kt _ _;exact Kt _ _;rfl
theorem Qkb (s:Qe) (id:Int):(s.XN id).2.node=s.node:=by
 unfold Qe.XN;split;exact Kt _ _;rfl
theorem KH {w0 w:World} {b:Nat} {s:Qe} {R:List SA} (h:Heap w0 (.service b s::R) w) (m:Msg) (hm:SvM s m):
 Calls Tryz.prog 267 #[b,m.val] w fun en w'=>∃v',en=.returned v'∧Heap w0 (.slc v' 113 7 (s.handle m).1.length (Qk (s.handle m).1)::.service b (s.handle m).2::R) w':=by
 have HH:=zk h;have HS:As (s.handle m=if s.j.down=true then ([],s) else ((if (s.asked m).1=0 then [] else [⟨(s.asked m).1,s.node,0,m.id,m.step,0,0⟩]),(s.asked m).2)):=⟨rfl⟩;have HA:As (s.asked m=if m.kind=1 then s.does m.id m.a else s.XN m.id):=⟨rfl⟩;have h0:=hm.id0;have h1:=hm.id1;have hk:=hm.kind;have HMA:=zk hm.a;have hto:=hm.to;have hfr:=hm.frm;clear hm;obtain ⟨kind,frm,to,id,step,a,mb⟩:=m;simp only at h0 h1 hk hto hfr HMA HA HS;subst hto hfr;have HB:=zk (h.new (.cells #[kind,.int .i64 0,s.node,id,step,.int .i64 a,.int .i64 mb] 113));have HDN:As (∀W,Heap w0 (.service b s::R) W→CE 266 #[b] W (.bool s.j.down)):=⟨fun W h=>Yd h⟩;have HNODE:As (∀W (s':Qe) L,Heap w0 (.service b s'::L) W→W.cell? ⟨b,0,none⟩=some (.int .i64 s'.node)∧b<W.heap.size):=⟨fun W s' L h=>by
  obtain ⟨_,bj,bh,bm,h⟩:=h.Xq;exact ⟨h.cell 0 0 rfl rfl,h.lt 0 rfl⟩⟩
 obtain ⟨c0,hlb⟩:=HNODE.1 _ _ _ h;unfold Msg.val;simp only [Qe.handle];clear h;cases hd:s.j.down;rw [hd] at HDN HS;have HDW:As (s.j.down=false):=⟨hd⟩;clear hd;simp only [Bool.false_eq_true,if_false];rcases hk with rfl|rfl;have hA1:s.asked ⟨1,0,s.node,id,step,a,mb⟩=s.does id a:=by rw [HA.1];simp
 rw [hA1];have HC:As (∀W L,Heap w0 (.service b s::L) W→CH 269 #[b,id,.int .i64 a] W (.int .i64 (s.does id a).1) w0 (.service b (s.does id a).2::L)):=⟨fun W L h=>Qvp h HDW.1 id a h0 h1 HMA.1⟩;have HNN:As ((s.does id a).2.node=s.node):=⟨Qub s id a⟩;generalize s.does id a=p at *;have tg:=Tg.mk 1;exact QDn;have hA1:s.asked ⟨4,0,s.node,id,step,a,mb⟩=s.XN id:=by rw [HA.1];simp
 rw [hA1];have HC:As (∀W L,Heap w0 (.service b s::L) W→CH 270 #[b,id] W (.int .i64 (s.XN id).1) w0 (.service b (s.XN id).2::L)):=⟨fun W L h=>Qo3 h HDW.1 id h0 h1⟩;have HNN:As ((s.XN id).2.node=s.node):=⟨Qkb s id⟩;generalize s.XN id=p at *;have tg:=Tg.mk 2;exact QDn
 ·rw [hd] at HDN HS;simp only [if_true];clear hd;go_enter Tryz.func267,Tryz.ntmps267;go_wp2_with fail;go_quiet ((refine (HDN.1 _ ((HH.1.alloc _).drewN _)).m0 ?_;exact ⟨rfl,_,rfl⟩));go_wp2_with fail;go_ret;exact ⟨_,rfl,((HH.1.alloc _).drewN nq).nRw 113 7⟩
end Go.Proofs.YtlnghlamnehfjaaGreatDoor.S
namespace Go.Proofs.YtlnghlamnehfjaaGreatDoor.S
open Go.RowKit Go.Maps
attribute [local go_sem] Oper.semAt_some
def Fy (a:Act) (ps:Array Tmp) (sb:Tmp) (v:Value) (p:Nat):Act:= {tmps:=(QK a ps [] v).tmps.setIfInBounds sb (.pointer (some ⟨p,0,none⟩)),defers:= []}
theorem UL {α:Type} {w0:World} {g:Operand} {ps:Array Tmp} {assign body:Code} {Q:Exit→Act→World→Prop} {a:Act} {w:World}
 {gf:Nat} {lb:Array Value} (hg:a.eval g=.func (.func gf) #[] lb) (eg:∀args w,(callFunc gf args).run Tryz.prog w=.ok (.enter gf args) w) (hps:ps.size=1)
 (A A' R:List SA) (xs:List α) (give:α→Value→SA) (hit:Gives w0 gf lb A A' xs give) (J:Nat→SA) (h0:Heap w0 (J 0::A++R) w) (sb:Tmp) (N:Nat→α→Value→Nat→SA)
 (hassign:∀(l k:Nat) (x:α) (v:Value) (X:List SA) (W:World) (K:Act→World→Prop),xs[k]? =some x→Heap w0 (give x v::J k::X) W→(∀p W',Heap w0 (N k x v p::X) W'→K (Fy a ps sb v p) W')→assign.wpIn (Fence.wide.inRound l) 7 Tryz.prog (Exit.then K (fun _ _ _=>False)) (QK a ps [] v) W)
 (hbody:∀(l k:Nat) (x:α) (v:Value) (p:Nat) (X:List SA) (W:World),xs[k]? =some x→Heap w0 (N k x v p::X) W→body.wpIn (Fence.wide.inRound l) 7 Tryz.prog (Qq1 w0 (J (k+1)::X)) (Fy a ps sb v p) W)
 (hdone:∀(D:Nat) (W:World),Heap w0 (J xs.length::.pts D (.deferred (some []))::A'++R) W→Q .normal {a with defers:= {target:=.collected D,args:= #[]}::a.defers} W):
 (Code.rangeFunc g ps assign body).wp Tryz.prog Q a w:=by
 refine wpIn_wide.1 (Qde (n:=7) hg eg hps A A' R xs give hit J h0 (fun k x v a'=>.ex fun p=>.when (a'=Fy a ps sb v p) (N k x v p)) ?_ ?_ hdone);intro l k x v X W K hk h hK;exact hassign l k x v X W K hk h (fun p W' h'=>hK _ _ (Heap.Yr (f:=fun p'=>.when (Fy a ps sb v p=Fy a ps sb v p') (N k x v p')) p (Heap.QZ rfl h')));intro l k x v a' X W hk h;obtain ⟨p,h⟩:=h.YL;obtain ⟨he,h2⟩:=h.QT;subst he;exact hbody l k x v p X W hk h2
def Qui (J:Nat→SA) (k:Nat) (e:Entry) (v:Value) (p:Nat):SA:=.ex fun u=>.when (v=.agg #[.string e.kd.str,e.id,u]) (.all [.pts p (.cells #[.string e.kd.str,e.id,u] 171),.slc u 3 1 e.n.length (e.n.map (Value.int .i64)),J k])
theorem Jg {w0 w:World} {R:List SA} {e:Entry} {v:Value} (h:Heap w0 (Qwt e v::R) w):∃u,v=.agg #[.string e.kd.str,e.id,u]∧Heap w0 (.slc u 3 1 e.n.length (e.n.map (Value.int .i64))::R) w:=by
 obtain ⟨u,h⟩:=h.YL;obtain ⟨hv,h⟩:=h.QT;exact ⟨u,hv,h⟩
theorem Je {w0 w:World} {J:Nat→SA} {k p:Nat} {R:List SA} {e:Entry} {u:Value} (h:Heap w0 (.pts p (.cells #[.string e.kd.str,e.id,u] 171)::.slc u 3 1 e.n.length (e.n.map (Value.int .i64))::J k::R) w):Heap w0 (Qui J k e (.agg #[.string e.kd.str,e.id,u]) p::R) w:=
 Heap.Yr (f:=fun u'=>.when (Value.agg #[.string e.kd.str,e.id,u]=.agg #[.string e.kd.str,e.id,u']) (.all [.pts p (.cells #[.string e.kd.str,e.id,u'] 171),.slc u' 3 1 e.n.length (e.n.map (Value.int .i64)),J k])) u (Heap.QZ rfl (Heap.gather (l:= [_,_,_]) h))
theorem JO {w0 w:World} {J:Nat→SA} {k p:Nat} {R:List SA} {e:Entry} {v:Value} (h:Heap w0 (Qui J k e v p::R) w):∃u,v=.agg #[.string e.kd.str,e.id,u]∧Heap w0 (.pts p (.cells #[.string e.kd.str,e.id,u] 171)::.slc u 3 1 e.n.length (e.n.map (Value.int .i64))::J k::R) w:=by
 obtain ⟨u,h⟩:=h.YL;obtain ⟨hv,h⟩:=h.QT;exact ⟨u,hv,Heap.spread h⟩
def Qe.Qi (s:Qe) (es:List Entry):Qe:=es.foldl Qe.Qg s
def Qe.start (s:Qe):Qe:=if s.j.down=true then (({s with j:=s.j.recover}:Qe).forget).Qi s.j.es else s
theorem Qwq (s:Qe) (es:List Entry):(s.Qi es).j=s.j:=by
 induction es generalizing s with
 |nil=>rfl
 |cons e r ih=>exact (ih (s.Qg e)).trans (Qpq s e)
theorem Qld (s:Qe) (es:List Entry) {k:Nat} {e:Entry} (h:es[k]? =some e):s.Qi (es.take (k+1))=(s.Qi (es.take k)).Qg e:=by
 obtain ⟨hk,rfl⟩:=List.getElem?_eq_some_iff.1 h;unfold Qe.Qi;rw [List.take_succ_eq_append_getElem hk,List.foldl_append];rfl
theorem Qak {w0 w:World} {b:Nat} {s:Qe} {R:List SA} (h:Heap w0 (.service b s::R) w) (hes:∀e∈s.j.es,SvE e):
 CH 268 #[b] w (.tuple #[]) w0 (.service b s.start::R):=by
 have HH:=zk h;have HDN:As (∀W (s':Qe) L,Heap w0 (.service b s'::L) W→CE 266 #[b] W (.bool s'.j.down)):=⟨fun W s' L h=>Yd h⟩;have HB:=zk (h.new (.cells #[b] 64));have HS:As (s.start=if s.j.down=true then (({s with j:=s.j.recover}:Qe).forget).Qi s.j.es else s):=⟨rfl⟩;have HES:=zk hes;clear hes;obtain ⟨bj,h2⟩:=(HB.1.frt 1 rfl).Qn8;obtain ⟨hp,bh,bm,h3⟩:=h2.Un;have c0:=h3.cB5 0 rfl;have hlb:=h3.lt 0 rfl;have HP:=zk hp;clear h h2 hp;cases hd:s.j.down
 ·rw [hd] at HS;have HDW:=zk hd;clear hd;refine cmk Tryz.func268 rfl ?_;simp only [Tryz.ntmps268,List.size_toArray,List.length_cons,List.length_nil,Nat.reduceAdd,Nat.reduceSub,Array.replicate_succ,Array.replicate_zero,List.push_toArray,List.append_toArray,List.nil_append,List.cons_append];go_wp2_with (go_at_call 266;refine (HDN.1 _ _ _ (HB.1.frt 1 rfl)).m0 ?_;rw [HDW.1]);refine ⟨_,results_none rfl _ _ _,rfl,?_⟩;rw [HS.1];exact HH.1.alloc _
 ·rw [hd] at HS;have HDW:=zk hd;have HREC:As (∀W L,Heap w0 (.jrn bj s.j::L) W→Calls Tryz.prog 220 #[bj] W fun e w'=>∃n,e=.returned (.int .i64 n)∧Heap w0 (.jrn bj s.j.recover::L) w'):=⟨fun W L h=>VI h hd⟩;clear hd;refine cmk Tryz.func268 rfl ?_;simp only [Tryz.ntmps268,List.size_toArray,List.length_cons,List.length_nil,Nat.reduceAdd,Nat.reduceSub,Array.replicate_succ,Array.replicate_zero,List.push_toArray,List.append_toArray,List.nil_append,List.cons_append];have H3:=zk h3;clear h3;go_wp2_with (first|(go_at_call 266;refine (HDN.1 _ _ _ (HB.1.frt 1 rfl)).m0 ?_;rw [HDW.1])|(go_at_call 220;refine (HREC.1 _ _ (H3.1.frt 3 rfl)).mono ?_;rintro e w1 ⟨nr,rfl,h1⟩;clear c0 hlb;have c0:=h1.cB5 1 rfl;obtain ⟨x0,xf⟩:=h1.cB1 4 rfl;have hlb:=h1.lt 1 rfl;have H4:=zk (Heap.Xp (s:= {s with j:=s.j.recover}) (bm:=bm) (bj:=bj) (bh:=bh) ⟨HP.1.r0,HP.1.r1,HP.1.keys,HP.1.book⟩ (h1.frt 1 rfl));clear h1)|(go_at_call 77;refine (Qew H4.1).m2 fun w2 h2=>?_;clear c0 hlb x0 xf;obtain ⟨bj2,h2⟩:=h2.Qn8;obtain ⟨hp2,bh2,bm2,h3⟩:=h2.Un;have c0:=h3.cB5 0 rfl;obtain ⟨x0,xf⟩:=h3.cB1 4 rfl;have hlb:=h3.lt 0 rfl;have H5:=zk h2;clear h2 h3 hp2)|(go_at_call 221;refine (Qdy H5.1 bj2).mono ?_;rintro e w3 ⟨bx,rfl,h3⟩;have H6:=zk h3;clear h3));clear c0 hlb x0 xf;have hje:(({s with j:=s.j.recover}:Qe).forget).j.es=s.j.es:=rfl;generalize hs1:({s with j:=s.j.recover}:Qe).forget=s1 at *;refine UL rfl (enters_of Tryz.func227 (by kernel_rfl) rfl) rfl _ _ R s1.j.es _ (Uh w0 bx bj2 s1.j) (fun k=>.all [.pts w.heap.size (.cells #[b] 64),.svx b bj2 (s1.Qi (s1.j.es.take k))]) ?h0 2 (Qui (fun k=>.all [.pts w.heap.size (.cells #[b] 64),.svx b bj2 (s1.Qi (s1.j.es.take k))])) ?assign ?body ?done
  case h0=>
   exact Heap.gather (l:= [_,_]) (((H6.1.frt 3 rfl).frt 2 rfl).frt 1 rfl |>.perm (List.Perm.refl _))
  case assign=>
   intro l k x v X W K hk h hK;obtain ⟨u,rfl,h2⟩:=Jg h;have hK2:=hK _ _ (Je (h2.new (.cells #[.string x.kd.str,x.id,u] 171)));have hsh:=h2.shp 0 rfl;clear hK h h2;rcases hsh with ⟨rfl, -, -⟩|⟨g,cap,rfl, -, -, -⟩;all_goals
    simp [Fy,QK] at hK2;simp only [QK]
    gi_wp2
    exact hK2
  case body=>
   intro l k x v p X W hk h;obtain ⟨u,rfl,h2⟩:=JO h;have h3:=Heap.spread (l:= [_,_]) (h2.frt 2 rfl);have hse:SvE x:=HES.1 x (by rw [←hje];exact List.mem_of_getElem? hk);have HSE:=zk hse;have HSU:=zk (Qld s1 s1.j.es hk);obtain ⟨x0,xf⟩:=h3.cB1 0 rfl;have e0:=h3.cB3 2 rfl;have H7:=zk ((h3.frt 3 rfl).frt 2 rfl);clear h h2 h3 hk hse;generalize s1.Qi (s1.j.es.take k)=sk at *;simp only [Fy,QK]
   gi_wp2_with (refine ⟨trivial,(CallsIn.inRound l (callsIn_wide.2 (Qcd H7.1 HSE.1))).mono ?_⟩;rintro en w4 ⟨rfl,h4⟩;have H8:=zk h4;clear h4)
   show Heap w0 _ _
   rw [HSU.1];exact Heap.gather (l:= [_,_]) ((((H8.1.frt 1 rfl).drop.frt 2 rfl).drop).frt 1 rfl)
  case done=>
   intro D W h;have h2:=Heap.spread (l:= [_,_]) h;have HZ:=h2.putAt 2 rfl (.deferred none);have HT:=zk (h2.at 2 rfl);have HY:=zk ((((HZ.drop.frt 1 rfl).drop).frt 1 rfl).drop);clear h h2 HZ;go_wp2;refine ⟨by simp,.inl ⟨_,_,rfl,run_takeDeferred HT.1,?_⟩⟩;refine ⟨_,results_none rfl _ _ _,rfl,?_⟩;rw [HS.1];simp only [if_true];have h9:=HY.1;rw [List.take_length,hje] at h9;refine Heap.Qxi (bj:=bj2) ?_;rw [Qwq];exact h9
end Go.Proofs.YtlnghlamnehfjaaGreatDoor.S
namespace Go.Proofs.YtlnghlamnehfjaaGreatDoor.S
open Go.RowKit Go.Maps
theorem Qmh {w0 w:World} {b bj:Nat} {R:List SA} {node room:Int} {v3 v4:Value} (h:Heap w0 (.pts b (.cells #[node,room,bj,v3,v4] 156)::R) w) (h0:0≤room) (h1:room≤1000000000):
 Calls Tryz.prog 77 #[b] w fun e w'=>e=.returned (.tuple #[])∧∃bn bm,Heap w0 (.pts b (.cells #[node,room,bj,.pointer (some ⟨bn,0,none⟩),.map (some bm)] 156)::.hold bn ⟨room,[]⟩::.map bm []::R) w':=by
 have c0:=h.cB5 0 rfl;have hlb:=h.lt 0 rfl;have HN:=zk (Qqt h room h0 h1);have hmm:= @run_makeMap Tryz.prog;clear h;go_enter Tryz.func77,Tryz.ntmps77;go_wp2_with (go_at_call 117;refine HN.1.mono ?_;rintro e w1 ⟨bn,rfl,h1⟩;clear c0 hlb;have c0:=h1.cB5 1 rfl;have hlb:=h1.lt 1 rfl;have H1:=zk h1;clear h1);go_end0;refine ⟨rfl,bn,w1.heap.size,?_⟩;have h2:=((H1.1.sAt 1 3 (.pointer (some ⟨bn,0,none⟩)) rfl).sAt 1 4 (.map (some w1.heap.size)) rfl).YC (n:=w1.heap.size) (by simp [World.setCell]);exact ((h2.frt 1 rfl).frt 2 rfl)
theorem Qih {w0 w:World} {R:List SA} (h:Heap w0 R w) (node most room:Int) (hn0:4≤node) (hn1:node≤6) (h0:0≤most) (h1:most≤1000000000) (hr0:1≤room) (hr1:room≤4096):
 Calls Tryz.prog 43 #[node,.int .i64 most,room] w fun e w'=>∃b,e=.returned (.pointer (some ⟨b,0,none⟩))∧Heap w0 (.service b ⟨node,most,⟨room,[],0,false⟩,⟨most,[]⟩,[]⟩::R) w':=by
 have HJ:=zk (Qbq h room hr0 hr1);clear h;go_enter Tryz.func43,Tryz.ntmps43;go_wp2_with (first|(go_at_call 73;refine HJ.1.mono ?_;rintro e w1 ⟨bj,rfl,h2⟩;have H1:=zk h2;clear h2)|(go_at_call 77;refine (Qmh (H1.1.new (.cells #[node,.int .i64 most,bj,.pointer none,.map none] 156)) h0 h1).mono ?_;rintro e w2 ⟨rfl,bn,bm,h3⟩;have H3:=zk h3;clear h3));go_ret;refine ⟨_,rfl,?_⟩;refine Heap.Xp (bj:=bj) (bh:=bn) (bm:=bm) ⟨h0,h1,Ql.nil,Xj.fine.zero h0 h1⟩ ?_;exact (H3.1.frt 3 rfl).frt 1 rfl
end Go.Proofs.YtlnghlamnehfjaaGreatDoor.S
