/- Contracts and plain laws of the program, part N19. -/
import Derived.Test.YtlnghlamnehfjaaGreatDoorN11
import Derived.Test.YtlnghlamnehfjaaGreatDoorN15
import Derived.Test.YtlnghlamnehfjaaGreatDoorN16
import Derived.Test.YtlnghlamnehfjaaGreatDoorN17
import Derived.Test.YtlnghlamnehfjaaGreatDoorN18
set_option linter.unusedVariables false
set_option linter.unusedSimpArgs false
set_option maxRecDepth 100000
set_option maxHeartbeats 64000000
namespace Go.Proofs.YtlnghlamnehfjaaGreatDoor.S
open Go.RowKit Go.Maps
structure Led where
 o:Od
 f:Facts
 t:Option (Bool×Bool)
structure Chief where
 most:Int
 room:Int
 tries:Int
 j:Jrn
 used:Int
 l:IM Led
 bells:Tower
def Facts.zero:Facts:=⟨[],[],false,false,false,false,false,false,false,false,false⟩
def Led.over (x:Led):Bool:=x.f.over x.o.steps.length
def Led.decided (x:Led):Bool:=x.f.yes||x.f.turned
def Led.facts (x:Led) (kd:Kd) (n:Int):Led:=
 match kd with
 |.asked=> {x with f:= {x.f with asked:=true},t:=some (false,false)}
 |.done=> {x with f:= {x.f with done:=x.f.done.set n.toNat true}}
 |.undone=> {x with f:= {x.f with undone:=x.f.undone.set n.toNat true}}
 |.yes=> {x with f:= {x.f with yes:=true},t:=none}
 |.turn=> {x with f:= {x.f with turned:=true},t:=none}
 |.ack=>if n=1 then {x with f:= {x.f with ack0:=true}} else {x with f:= {x.f with ack1:=true}}
 |.damage=>if n=1 then {x with f:= {x.f with dam0:=true,ack0:=true}} else {x with f:= {x.f with dam1:=true,ack1:=true}}
 |.shipped=> {x with f:= {x.f with shipped:=true}}
 |_=>x
def Led.more (x:Led) (s n:Int):Led:= {x with o:= {x.o with steps:=x.o.steps++ [⟨s,n⟩]},f:= {x.f with done:=x.f.done++ [false],undone:=x.f.undone++ [false]}}
def Chief.withL (c:Chief) (id:Int) (x:Led):Chief:= {c with used:=c.used+1,l:=mput c.l id x}
def Chief.plays (c:Chief) (e:Entry):Chief:=
 match e.kd,e.n with
 |.begin,[a,b,d,p]=>c.withL e.id ⟨⟨e.id,a,b,d,p,[]⟩,.zero,none⟩
 |.step,[_,s,n]=>match mget c.l e.id with
  |none=> {c with used:=c.used+1}
  |some x=>c.withL e.id (x.more s n)
 |kd,n=>match mget c.l e.id with
  |none=> {c with used:=c.used+1}
  |some x=>c.withL e.id (x.facts kd (n.headD 0))
def Chief.forget (c:Chief):Chief:= {c with used:=0,l:= [],bells:=⟨c.tries,[]⟩}
def Chief.note1 (c:Chief) (e:Entry):Chief:=({c with j:=(c.j.add e).2}:Chief).plays e
def Chief.notes (c:Chief) (es:List Entry):Bool×Chief:=
 if c.room<c.used+es.length then (false,c) else (true,es.foldl Chief.note1 c)
def Chief.sync (c:Chief):Chief:= {c with j:=c.j.sync}
def Chief.sures (c:Chief) (es:List Entry):Bool×Chief:=
 if (c.notes es).1=true then (true,(c.notes es).2.sync) else (false,(c.notes es).2)
def isPrep:List Msg→Bool
 |m::_=>decide (m.kind=6)
 | []=>false
def Chief.sends (c:Chief) (x:Led):List Msg×Chief:=
 if (isPrep (nextM x.o x.f)&& !x.f.asked)=true then
  (if (c.notes [⟨.asked,x.o.id,[]⟩]).1=true then (nextM x.o x.f,(c.notes [⟨.asked,x.o.id,[]⟩]).2) else ([],(c.notes [⟨.asked,x.o.id,[]⟩]).2))
 else (nextM x.o x.f,c)
def Chief.again (c:Chief) (id:Int):Chief:= {c with bells:=c.bells.again id}
def Chief.cut (c:Chief) (id:Int):Chief:= {c with bells:=c.bells.cut id}
def Chief.hang (c:Chief) (id:Int):Chief:= {c with bells:=c.bells.hang id}
def Chief.goesX (c:Chief) (x:Led):List Msg×Chief:=
 if x.over=true then ([],(c.again x.o.id).cut x.o.id) else (c.again x.o.id).sends x
def Chief.goes (c:Chief) (id:Int):List Msg×Chief:=
 match mget c.l id with
 |none=>([],c)
 |some x=>c.goesX x
def Chief.turns (c:Chief) (id:Int):List Msg×Int×Chief:=
 if (c.sures [⟨.turn,id,[]⟩]).1=true then (((c.sures [⟨.turn,id,[]⟩]).2.goes id).1,0,((c.sures [⟨.turn,id,[]⟩]).2.goes id).2) else ([],5,(c.sures [⟨.turn,id,[]⟩]).2)
def Chief.opens (c:Chief):Nat:=(c.l.filter fun p=>!p.2.over).length
def stepEs (id:Int):Nat→List Sp→List Entry
 |_,[]=> []
 |i,s::r=>⟨.step,id,[(i:Int),s.svc,s.n]⟩::stepEs id (i+1) r
def beginEs (o:Od):List Entry:=⟨.begin,o.id,[o.item,o.qty,o.client,o.price]⟩::stepEs o.id 0 o.steps
def Chief.begin (c:Chief) (o:Od):List Msg×Int×Chief:=
 if c.j.down=true then ([],10,c) else
 if (mget c.l o.id).isSome=true then ([],8,c) else
 if c.most≤(c.opens:Int) then ([],5,c) else
 if (c.sures (beginEs o)).1=true then ((((c.sures (beginEs o)).2.hang o.id).goes o.id).1,0,(((c.sures (beginEs o)).2.hang o.id).goes o.id).2) else ([],5,(c.sures (beginEs o)).2)
def Led.service (x:Led) (step frm:Int):Bool:=decide (0≤step)&&decide (step<x.o.steps.length)&&decide ((x.o.steps.map Sp.svc).getD step.toNat 0=frm)
def Chief.tells (c:Chief) (m:Msg):List Msg:=
 match mget c.l m.id with
 |none=> [⟨14,0,m.frm,m.id,0,0,0⟩]
 |some x=>if x.f.turned=true then [⟨14,0,m.frm,m.id,0,0,0⟩] else if x.f.yes=true then [⟨13,0,m.frm,m.id,0,0,0⟩] else []
def Chief.noteGo (c:Chief) (e:Entry):List Msg×Chief:=
 if (c.notes [e]).1=true then (c.notes [e]).2.goes e.id else ([],(c.notes [e]).2)
def Chief.sureGo (c:Chief) (e:Entry):List Msg×Chief:=
 if (c.sures [e]).1=true then (c.sures [e]).2.goes e.id else ([],(c.sures [e]).2)
def Chief.steps (c:Chief) (x:Led) (m:Msg):List Msg×Chief:=
 if x.service m.step m.frm=false then ([],c) else
 if (decide (m.kind=3)&& !x.decided)=true then ((c.turns m.id).1,(c.turns m.id).2.2) else
 if m.kind=2 then (if (!x.f.asked&& !x.decided&&decide (bfind x.f.done false=m.step))=true then c.noteGo ⟨.done,m.id,[m.step]⟩ else ([],c)) else
 if m.kind=5 then (if (x.f.turned&&decide (lastFalse x.f.undone=m.step))=true then c.noteGo ⟨.undone,m.id,[m.step]⟩ else ([],c)) else ([],c)
def Led.says (x:Led) (i:Int):Led:=match x.t with
 |none=>x
 |some (a,b)=> {x with t:=some (if i=0 then (true,b) else (a,true))}
def Chief.votes (c:Chief) (x:Led) (m:Msg):List Msg×Chief:=
 match x.t with
 |none=>([],c)
 |some (a,b)=>
  if m.kind=8 then c.sureGo ⟨.turn,m.id,[]⟩ else
  if (if m.frm=1 then b&& !a else a&& !b)=true then c.sureGo ⟨.yes,m.id,[]⟩ else ([],{c with l:=mput c.l m.id (x.says (m.frm-1))})
def Led.ackOf (x:Led) (frm:Int):Bool:=if frm=1 then x.f.ack0 else x.f.ack1
def Led.damOf (x:Led) (frm:Int):Bool:=if frm=1 then x.f.dam0 else x.f.dam1
def Chief.acks (c:Chief) (x:Led) (m:Msg):List Msg×Chief:=
 if x.decided=false then ([],c) else
 if m.kind=11 then (if x.ackOf m.frm=true then ([],c) else c.noteGo ⟨.ack,m.id,[m.frm]⟩) else
 if x.damOf m.frm=true then ([⟨18,0,m.frm,m.id,0,0,0⟩],c) else
 if (c.sures [⟨.damage,m.id,[m.frm]⟩]).1=true then (⟨18,0,m.frm,m.id,0,0,0⟩::((c.sures [⟨.damage,m.id,[m.frm]⟩]).2.goes m.id).1,((c.sures [⟨.damage,m.id,[m.frm]⟩]).2.goes m.id).2) else ([],(c.sures [⟨.damage,m.id,[m.frm]⟩]).2)
def Chief.handle (c:Chief) (m:Msg):List Msg×Chief:=
 if c.j.down=true then ([],c) else
 if m.kind=12 then (c.tells m,c) else
 match mget c.l m.id with
 |none=>([],c)
 |some x=>
  if m.kind=2∨m.kind=3∨m.kind=5 then c.steps x m else
  if m.kind=7∨m.kind=8 then c.votes x m else
  if m.kind=11∨m.kind=17 then c.acks x m else
  if m.kind=16 then (if (decide (m.frm=3)&&x.f.yes&& !x.f.shipped)=true then c.noteGo ⟨.shipped,m.id,[]⟩ else ([],c)) else ([],c)
def Chief.ring (c:Chief) (id:Int):List Msg×Chief:=
 if c.j.down=true then ([],c) else
 match mget c.l id with
 |none=>([],{c with bells:=(c.bells.ring id).2.2})
 |some x=>
  if (c.bells.ring id).1=false then ([],{c with bells:=(c.bells.ring id).2.2}) else
  if (c.bells.ring id).2.1=true then
   (if x.decided=false then ((({c with bells:=(c.bells.ring id).2.2}:Chief).turns id).1,(({c with bells:=(c.bells.ring id).2.2}:Chief).turns id).2.2)
    else (({c with bells:=(c.bells.ring id).2.2}:Chief).again id).sends x)
  else ({c with bells:=(c.bells.ring id).2.2}:Chief).sends x
def Chief.cancel (c:Chief) (id:Int):List Msg×Int×Chief:=
 if c.j.down=true then ([],10,c) else
 match mget c.l id with
 |none=>([],6,c)
 |some x=>if x.decided=true then ([],7,c) else c.turns id
def Chief.state (c:Chief) (id:Int):Int:=match mget c.l id with
 |none=>0
 |some x=>x.f.state x.o.steps.length
def Chief.crash (c:Chief) (stay:Int):Chief:=if c.j.down=true then c else ({c with j:=c.j.crash stay}:Chief).forget
def Chief.replay (c:Chief) (es:List Entry):Chief:=es.foldl Chief.plays c
def Chief.wake (c:Chief) (id:Int):Chief:=match mget c.l id with
 |none=>c
 |some x=>
  let c1:=if x.over=true then c else c.hang id
  if (x.f.asked&& !x.decided)=true then (c1.sures [⟨.turn,id,[]⟩]).2 else c1
def Chief.ids (c:Chief):List Int:=c.l.map (·.1)
def Chief.start (c:Chief):Chief:=
 if c.j.down=true then
  let c1:=(({c with j:=c.j.recover}:Chief).forget).replay c.j.es
  c1.ids.foldl Chief.wake c1
 else c
structure Led.ok (k:Int) (x:Led):Prop where
 o:x.o.ok
 id:x.o.id=k
 may:x.f.may x.o.steps.length=true
 tally:x.t.isSome=(x.f.asked&& !x.decided)
 full:x.f.asked=true→x.f.done.contains false=false
structure Chief.ok (c:Chief):Prop where
 keys:KeysOk c.l
 led:∀p∈c.l,p.2.ok p.1
 bells:KeysOk c.bells.left
 t0:1≤c.tries
 t1:c.tries≤20
 r1:c.room≤4096
 used0:0≤c.used
 used1:c.used≤4096
inductive Chief.Fits (c:Chief):Entry→Prop where
 |begin (id a b d p:Int) (ho:(⟨id,a,b,d,p,[]⟩:Od).ok) (hn:mget c.l id=none):Chief.Fits c ⟨.begin,id,[a,b,d,p]⟩
 |step (id:Int) (i:Nat) (s n:Int) (x:Led) (hx:mget c.l id=some x) (hi:i≤3) (hf:x.f= {Facts.zero with done:=List.replicate x.o.steps.length false,undone:=List.replicate x.o.steps.length false}) (ht:x.t=none) (ho:(x.more s n).o.ok):Chief.Fits c ⟨.step,id,[(i:Int),s,n]⟩
 |asked (id:Int) (x:Led) (hx:mget c.l id=some x) (hd:x.decided=false) (hf:x.f.done.contains false=false):Chief.Fits c ⟨.asked,id,[]⟩
 |done (id:Int) (k:Nat) (x:Led) (hx:mget c.l id=some x) (ha:x.f.asked=false) (hd:x.decided=false) (hk:bfind x.f.done false=k):Chief.Fits c ⟨.done,id,[(k:Int)]⟩
 |undone (id:Int) (k:Nat) (x:Led) (hx:mget c.l id=some x) (ht:x.f.turned=true) (hk:lastFalse x.f.undone=k):Chief.Fits c ⟨.undone,id,[(k:Int)]⟩
 |yes (id:Int) (x:Led) (hx:mget c.l id=some x) (ha:x.f.asked=true) (hd:x.decided=false):Chief.Fits c ⟨.yes,id,[]⟩
 |turn (id:Int) (x:Led) (hx:mget c.l id=some x) (hd:x.decided=false):Chief.Fits c ⟨.turn,id,[]⟩
 |ack (id n:Int) (x:Led) (hx:mget c.l id=some x) (hn:n=1∨n=2) (hd:x.decided=true):Chief.Fits c ⟨.ack,id,[n]⟩
 |damage (id n:Int) (x:Led) (hx:mget c.l id=some x) (hn:n=1∨n=2) (hd:x.decided=true):Chief.Fits c ⟨.damage,id,[n]⟩
 |shipped (id:Int) (x:Led) (hx:mget c.l id=some x) (hy:x.f.yes=true):Chief.Fits c ⟨.shipped,id,[]⟩
theorem zChn1 {P:Prop} (h:P:=by
 revert h3;generalize x.f.asked=b,x.f.done.contains false=c,x.f.undone.contains true=d,x.f.shipped=e,(x.f.ack0||x.f.ack1)=g,(x.f.dam0||x.f.dam1)=i,sFirst x.f.done=j,sLast x.f.undone=m;revert b c d e g i j m;decide):P:=h
theorem zChn2 {P:Prop} (h:P:=by
 obtain ⟨h1,h2,h3⟩:=mpt h.may;unfold Led.facts;simp only;split
 ·exact h.mk2 rfl rfl rfl (mayB_dec h3 hd) h.tally h.full
 ·exact h.mk2 rfl rfl rfl (mayB_dec h3 hd) h.tally h.full):P:=h
theorem may_mk {f:Facts} {n:Nat} (h1:f.done.length=n) (h2:f.undone.length=n)
 (h3:mayB f.yes f.turned f.asked (f.done.contains false) (f.undone.contains true) f.shipped (f.ack0||f.ack1) (f.dam0||f.dam1) (sFirst f.done) (sLast f.undone)=true):f.may n=true:=by
 unfold Facts.may;rw [if_neg (by simp [h1]),if_neg (by simp [h2])];unfold mayB at h3;have key:∀c1 c2 c3 c4 r1 r2:Bool,(!c1&& !c2&& !c3&& !c4&&r1&&r2)=true→(if c1=true then false else if c2=true then false else if c3=true then false else if c4=true then false else (r1&&r2))=true:=by decide
 exact key _ _ _ _ _ _ h3
theorem sFirst_iff {l:List Bool}:sFirst l=true↔∀i,i<l.length→i=0∨l.getD i false=false∨l.getD (i-1) false=true:=by
 unfold sFirst;rw [List.all_eq_true];simp [List.mem_range,or_assoc]
theorem bfind_lt {l:List Bool} {k:Nat} (h:bfind l false=k):k<l.length∧l.getD k false=false∧∀j,j<k→l.getD j false=true:=by
 unfold bfind at h;cases hf:l.findIdx? (fun x=>x==false) with
 |none=>rw [hf] at h;simp only at h;omega
 |some i=>
  rw [hf] at h;simp only [Int.natCast_inj] at h;subst h;rw [List.findIdx?_eq_some_iff_getElem] at hf;obtain ⟨h1,h2,h3⟩:=hf;refine ⟨h1,?_,fun j hj=>?_⟩
  ·have:l[i]=false:=by simpa using h2
   simp [h1,this]
  ·have hjl:j<l.length:=by omega
   have:l[j]=true:=by simpa using h3 j hj
   simp [hjl,this]
theorem getD_set {l:List Bool} {k i:Nat} (hk:k<l.length):(l.set k true).getD i false=if i=k then true else l.getD i false:=by
 by_cases h:i=k
 ·subst h;simp [hk]
 ·have h':¬k=i:=fun e=>h e.symm;simp [h,h',List.getElem?_set]
theorem sFirst_set {l:List Bool} {k:Nat} (hs:sFirst l=true) (h:bfind l false=k):sFirst (l.set k true)=true:=by
 obtain ⟨h1,h2,h3⟩:=bfind_lt h;rw [sFirst_iff] at hs⊢;intro i hi;have:=hs i (by simpa using hi);rw [getD_set h1,getD_set h1];by_cases e:i=k
 ·subst e;by_cases e0:i=0
  ·exact .inl e0
  ·refine .inr (.inr ?_);rw [if_neg (by omega)];exact h3 _ (by omega)
 ·rw [if_neg e];rcases this with h|h|h
  ·exact .inl h
  ·exact .inr (.inl h)
  ·refine .inr (.inr ?_);split
   ·rfl
   ·exact h
theorem bfind_rev {l:List Bool} {k:Nat} (h:lastFalse l=k):k<l.length∧bfind l.reverse false=((l.length-1-k:Nat):Int):=by
 unfold lastFalse at h;have e:(fun b:Bool=>!b)=(fun x=>x==false):=by funext b;cases b<;>rfl
 rw [e] at h;unfold bfind;cases hf:l.reverse.findIdx? (fun x=>x==false) with
 |none=>rw [hf] at h;simp only at h;omega
 |some i=>
  rw [hf] at h;simp only at h⊢;have hi:i<l.length:=by
   obtain ⟨h1,_⟩:=List.findIdx?_eq_some_iff_getElem.1 hf;simpa using h1
  refine ⟨by omega,?_⟩;congr 1;omega
theorem sLast_set {l:List Bool} {k:Nat} (hs:sLast l=true) (h:lastFalse l=k):sLast (l.set k true)=true:=by
 obtain ⟨h1,h2⟩:=bfind_rev h;have:=sFirst_set hs h2;unfold sLast;have e:(l.set k true).reverse=l.reverse.set (l.length-1-k) true:=by
  apply List.ext_getElem
  ·simp
  ·intro i hi1 hi2;simp only [List.length_reverse,List.length_set] at hi1;rw [List.getElem_reverse,List.getElem_set,List.getElem_set,List.getElem_reverse];simp only [List.length_set];by_cases e:k=l.length-1-i
   ·rw [if_pos e,if_pos (by omega)]
   ·rw [if_neg e,if_neg (by omega)]
 rw [e];exact this
theorem contains_set_false {l:List Bool} {k:Nat}:True:=trivial
theorem undecided {x:Led} (h:x.decided=false):x.f.yes=false∧x.f.turned=false:=by
 simpa [Led.decided] using h
theorem uc_turned {x:Led} {k:Int} (h:x.ok k) (ht:x.f.turned=false):x.f.undone.contains true=false:=by
 obtain ⟨h1,h2,h3⟩:=mpt h.may;rw [ht] at h3;revert h3;generalize x.f.yes=a,x.f.asked=b,x.f.done.contains false=c,x.f.undone.contains true=d,x.f.shipped=e,(x.f.ack0||x.f.ack1)=g,(x.f.dam0||x.f.dam1)=i,sFirst x.f.done=j,sLast x.f.undone=m;revert a b c d e g i j m;decide
theorem Led.ok.mk2 {x y:Led} {k:Int} (h:x.ok k) (ho:y.o=x.o) (h1:y.f.done.length=x.f.done.length) (h2:y.f.undone.length=x.f.undone.length)
 (h3:mayB y.f.yes y.f.turned y.f.asked (y.f.done.contains false) (y.f.undone.contains true) y.f.shipped (y.f.ack0||y.f.ack1) (y.f.dam0||y.f.dam1) (sFirst y.f.done) (sLast y.f.undone)=true)
 (h4:y.t.isSome=(y.f.asked&& !y.decided)) (h5:y.f.asked=true→y.f.done.contains false=false):y.ok k:=by
 obtain ⟨p1,p2,_⟩:=mpt h.may;refine ⟨by rw [ho];exact h.o,by rw [ho];exact h.id,?_,h4,h5⟩;rw [ho];exact may_mk (h1.trans p1) (h2.trans p2) h3
theorem ok_asked {x:Led} {k n:Int} (h:x.ok k) (hd:x.decided=false) (hf:x.f.done.contains false=false):(x.facts .asked n).ok k:=by
 obtain ⟨h1,h2,h3⟩:=mpt h.may;obtain ⟨e1,e2⟩:=undecided hd;refine h.mk2 rfl rfl rfl ?_ ?_ (fun _=>hf)
 ·simp only [Led.facts];rw [e1,e2] at h3⊢;exact zChn1
 ·simp [Led.facts,Led.decided,e1,e2]
theorem ok_done {x:Led} {k:Int} {n:Nat} (h:x.ok k) (ha:x.f.asked=false) (hd:x.decided=false) (hk:bfind x.f.done false=n):(x.facts .done n).ok k:=by
 obtain ⟨h1,h2,h3⟩:=mpt h.may;obtain ⟨e1,e2⟩:=undecided hd;have hsf:sFirst x.f.done=true:=by
  rw [e1,e2] at h3;revert h3;generalize x.f.asked=b,x.f.done.contains false=c,x.f.undone.contains true=d,x.f.shipped=e,(x.f.ack0||x.f.ack1)=g,(x.f.dam0||x.f.dam1)=i,sFirst x.f.done=j,sLast x.f.undone=m;revert b c d e g i j m;decide
 have hs2:=sFirst_set hsf hk;refine h.mk2 rfl (by simp [Led.facts]) rfl ?_ ?_ (fun e=>?_)
 ·simp only [Led.facts,Int.toNat_natCast];rw [e1,e2] at h3⊢;rw [hsf] at h3;rw [hs2];revert h3;generalize x.f.asked=b,x.f.done.contains false=c,(x.f.done.set n true).contains false=c2,x.f.undone.contains true=d,x.f.shipped=e,(x.f.ack0||x.f.ack1)=g,(x.f.dam0||x.f.dam1)=i,sLast x.f.undone=m;revert b c c2 d e g i m;decide
 ·exact h.tally
 ·rw [show (x.facts .done n).f.asked=x.f.asked from rfl,ha] at e;cases e
theorem ok_undone {x:Led} {k:Int} {n:Nat} (h:x.ok k) (ht:x.f.turned=true) (hk:lastFalse x.f.undone=n):(x.facts .undone n).ok k:=by
 obtain ⟨h1,h2,h3⟩:=mpt h.may;have hsl:sLast x.f.undone=true:=by
  revert h3;generalize x.f.yes=a,x.f.turned=t,x.f.asked=b,x.f.done.contains false=c,x.f.undone.contains true=d,x.f.shipped=e,(x.f.ack0||x.f.ack1)=g,(x.f.dam0||x.f.dam1)=i,sFirst x.f.done=j,sLast x.f.undone=m;unfold mayB;intro h3;simp only [Bool.and_eq_true] at h3;exact h3.2
 have hs2:=sLast_set hsl hk;refine h.mk2 rfl rfl (by simp [Led.facts]) ?_ ?_ h.full
 ·simp only [Led.facts,Int.toNat_natCast];rw [ht] at h3⊢;rw [hsl] at h3;rw [hs2];revert h3;generalize x.f.yes=a,x.f.asked=b,x.f.done.contains false=c,x.f.undone.contains true=d,(x.f.undone.set n true).contains true=d2,x.f.shipped=e,(x.f.ack0||x.f.ack1)=g,(x.f.dam0||x.f.dam1)=i,sFirst x.f.done=j;revert a b c d d2 e g i j;decide
 ·exact h.tally
theorem ok_yes {x:Led} {k n:Int} (h:x.ok k) (ha:x.f.asked=true) (hd:x.decided=false):(x.facts .yes n).ok k:=by
 obtain ⟨h1,h2,h3⟩:=mpt h.may;obtain ⟨e1,e2⟩:=undecided hd;have hu:=uc_turned h e2;have hf:=h.full ha;refine h.mk2 rfl rfl rfl ?_ ?_ h.full
 ·simp only [Led.facts];rw [e1,e2,hu,hf,ha] at h3;rw [e2,hu,hf,ha];revert h3;generalize x.f.shipped=e,(x.f.ack0||x.f.ack1)=g,(x.f.dam0||x.f.dam1)=i,sFirst x.f.done=j,sLast x.f.undone=m;revert e g i j m;decide
 ·simp [Led.facts,Led.decided]
theorem ok_turn {x:Led} {k n:Int} (h:x.ok k) (hd:x.decided=false):(x.facts .turn n).ok k:=by
 obtain ⟨h1,h2,h3⟩:=mpt h.may;obtain ⟨e1,e2⟩:=undecided hd;refine h.mk2 rfl rfl rfl ?_ ?_ h.full
 ·simp only [Led.facts];rw [e1,e2] at h3;rw [e1];exact zChn1
 ·simp [Led.facts,Led.decided]
theorem mayB_dec {yes turned asked dc uc sh ea ed ea' ed' sf sl:Bool} (h:mayB yes turned asked dc uc sh ea ed sf sl=true) (hd:(yes||turned)=true):mayB yes turned asked dc uc sh ea' ed' sf sl=true:=by
 unfold mayB at *;have:∀z:Bool,(z&& !yes&& !turned)=false:=by
  clear h;intro z;revert hd;cases yes<;>cases turned<;>cases z<;>decide
 rw [this] at h⊢;exact h
theorem ok_ack {x:Led} {k n:Int} (h:x.ok k) (hd:x.decided=true):(x.facts .ack n).ok k:=by
 exact zChn2
theorem ok_damage {x:Led} {k n:Int} (h:x.ok k) (hd:x.decided=true):(x.facts .damage n).ok k:=by
 exact zChn2
theorem ok_shipped {x:Led} {k n:Int} (h:x.ok k) (hy:x.f.yes=true):(x.facts .shipped n).ok k:=by
 obtain ⟨h1,h2,h3⟩:=mpt h.may;refine h.mk2 rfl rfl rfl ?_ h.tally h.full;simp only [Led.facts];rw [hy] at h3⊢;revert h3;generalize x.f.turned=t,x.f.asked=b,x.f.done.contains false=c,x.f.undone.contains true=d,x.f.shipped=e,(x.f.ack0||x.f.ack1)=g,(x.f.dam0||x.f.dam1)=i,sFirst x.f.done=j,sLast x.f.undone=m;revert t b c d e g i j m;decide
theorem sFirst_rep (n:Nat):sFirst (List.replicate n false)=true:=by
 rw [sFirst_iff];intro i hi;refine .inr (.inl ?_);rw [List.getD_eq_getElem?_getD,List.getElem?_eq_getElem hi];simp
theorem ok_fresh (o:Od) (ho:o.ok):(⟨o,{Facts.zero with done:=List.replicate o.steps.length false,undone:=List.replicate o.steps.length false},none⟩:Led).ok o.id:=by
 refine ⟨ho,rfl,may_mk (by simp) (by simp) ?_,rfl,fun h=>?_⟩
 ·simp only [Facts.zero];have e1:sLast (List.replicate o.steps.length false)=true:=by unfold sLast;rw [List.reverse_replicate];exact sFirst_rep _
  have e2:(List.replicate o.steps.length false).contains true=false:=by simp [List.mem_replicate]
  rw [sFirst_rep,e1,e2];generalize (List.replicate o.steps.length false).contains false=c;cases c<;>decide
 ·cases h
theorem Chief.ok.withL {c:Chief} {id:Int} {x:Led} (h:c.ok) (hx:x.ok id) (h0:1≤id) (h1:id≤999) (hu:c.used<4096):(c.withL id x).ok:=
 ⟨h.keys.put x h0 h1,fun p hp=>by
  rcases mem_mput hp with rfl|hp
  ·exact hx
  ·exact h.led p hp,h.bells,h.t0,h.t1,h.r1,by show 0≤c.used+1;have:=h.used0;omega,by show c.used+1≤4096;omega⟩
theorem Chief.ok.get {c:Chief} {id:Int} {x:Led} (h:c.ok) (hx:mget c.l id=some x):x.ok id∧1≤id∧id≤999:=
 ⟨h.led _ (mget_mem hx),(h.keys.get hx).1,(h.keys.get hx).2⟩
theorem Chief.ok.plays {c:Chief} {e:Entry} (h:c.ok) (he:c.Fits e) (hu:c.used<4096):(c.plays e).ok:=by
 cases he with
 |begin id a b d p ho hn=>exact h.withL (ok_fresh _ ho) ho.id0 ho.id1 hu
 |step id i s n x hx hi hf ht ho=>
  obtain ⟨g1,g2,g3⟩:=h.get hx;unfold Chief.plays;simp only [hx];refine h.withL ?_ g2 g3 hu;have:=ok_fresh _ ho;have e:x.more s n=⟨(x.more s n).o,{Facts.zero with done:=List.replicate (x.more s n).o.steps.length false,undone:=List.replicate (x.more s n).o.steps.length false},none⟩:=by
   obtain ⟨o,f,t⟩:=x;simp only at hf ht;subst hf ht;simp [Led.more,List.replicate_succ']
  rw [e];have e2:(x.more s n).o.id=id:=g1.id;rw [e2] at this;exact this
 |asked id x hx hd hf=>
  obtain ⟨g1,g2,g3⟩:=h.get hx;unfold Chief.plays;simp only [hx];exact h.withL (ok_asked g1 hd hf) g2 g3 hu
 |done id k x hx ha hd hk=>
  obtain ⟨g1,g2,g3⟩:=h.get hx;unfold Chief.plays;simp only [hx];exact h.withL (ok_done g1 ha hd hk) g2 g3 hu
 |undone id k x hx ht hk=>
  obtain ⟨g1,g2,g3⟩:=h.get hx;unfold Chief.plays;simp only [hx];exact h.withL (ok_undone g1 ht hk) g2 g3 hu
 |yes id x hx ha hd=>
  obtain ⟨g1,g2,g3⟩:=h.get hx;unfold Chief.plays;simp only [hx];exact h.withL (ok_yes g1 ha hd) g2 g3 hu
 |turn id x hx hd=>
  obtain ⟨g1,g2,g3⟩:=h.get hx;unfold Chief.plays;simp only [hx];exact h.withL (ok_turn g1 hd) g2 g3 hu
 |ack id n x hx hn hd=>
  obtain ⟨g1,g2,g3⟩:=h.get hx;unfold Chief.plays;simp only [hx];exact h.withL (ok_ack g1 hd) g2 g3 hu
 |damage id n x hx hn hd=>
  obtain ⟨g1,g2,g3⟩:=h.get hx;unfold Chief.plays;simp only [hx];exact h.withL (ok_damage g1 hd) g2 g3 hu
 |shipped id x hx hy=>
  obtain ⟨g1,g2,g3⟩:=h.get hx;unfold Chief.plays;simp only [hx];exact h.withL (ok_shipped g1 hy) g2 g3 hu
inductive SvE:Entry→Prop where
 |did (id m:Int) (h0:1≤id) (h1:id≤999) (hm:numOk m):SvE ⟨.did,id,[m]⟩
 |cant (id:Int) (h0:1≤id) (h1:id≤999):SvE ⟨.cant,id,[]⟩
 |undid (id:Int) (h0:1≤id) (h1:id≤999):SvE ⟨.undid,id,[]⟩
theorem SvE.ok {e:Entry} (h:SvE e):e.ok:=by
 cases h with
 |did id m h0 h1 hm=>exact ⟨by simp only;omega,h1,by simp,by simpa using hm⟩
 |cant id h0 h1=>exact ⟨by simp only;omega,h1,by simp,by simp⟩
 |undid id h0 h1=>exact ⟨by simp only;omega,h1,by simp,by simp⟩
theorem Heap.slc_one {w0 w:World} {v:Value} {T:TypeId} {size n:Nat} {xs:List Value} {l:List SA} (h:Heap w0 l w) (i:Nat) (e:l[i]? =some (.slc v T size n xs)):v.oneCell'=true:=by
 rcases h.shp i e with ⟨rfl,_⟩|⟨g,cap,rfl,_⟩<;>rfl
theorem vplaysX_ok {w0 w:World} {b bj:Nat} {s:Service} {R:List SA} {e:Entry} {v:Value} (h:Heap w0 (.svx b bj s::.slc v 3 1 e.n.length (e.n.map (Value.int .i64))::R) w) (he:SvE e):
 Calls Tryz.prog 271 #[.pointer (some ⟨b,0,none⟩),.agg #[.string e.kd.str,.int .i64 e.id,v]] w fun en w'=>en=.returned (.tuple #[])∧Heap w0 (.svx b bj (s.plays e)::.slc v 3 1 e.n.length (e.n.map (Value.int .i64))::R) w':=by
 cases he with
 |did id m h0 h1 hm=>exact vplaysX_did h id h0 h1 v m (h.row 1 rfl)
 |cant id h0 h1=>exact vplaysX_cant h id h0 h1 v (h.slc_one 1 rfl)
 |undid id h0 h1=>exact vplaysX_undid h id h0 h1 v (h.slc_one 1 rfl)
theorem plays_j (s:Service) (e:Entry):(s.plays e).j=s.j:=by unfold Service.plays;split<;>rfl
theorem vplays_ok {w0 w:World} {b:Nat} {s:Service} {R:List SA} {e:Entry} {v:Value} (h:Heap w0 (.service b s::.slc v 3 1 e.n.length (e.n.map (Value.int .i64))::R) w) (he:SvE e):
 Calls Tryz.prog 271 #[.pointer (some ⟨b,0,none⟩),.agg #[.string e.kd.str,.int .i64 e.id,v]] w fun en w'=>en=.returned (.tuple #[])∧Heap w0 (.service b (s.plays e)::.slc v 3 1 e.n.length (e.n.map (Value.int .i64))::R) w':=by
 obtain ⟨bj,h⟩:=h.svx_of;refine (vplaysX_ok ((h.frt 2 rfl).frt 1 rfl) he).mono ?_;rintro en w' ⟨rfl,h'⟩;refine ⟨rfl,?_⟩;have h2:=(h'.frt 2 rfl).frt 1 rfl;rw [←plays_j s e] at h2;exact Heap.svx_to h2
def Service.notes (s:Service) (e:Entry):Bool×Service:=
 if s.j.room≤(s.j.es.length:Int) then (false,s) else (true,({s with j:=(s.j.add e).2.sync}:Service).plays e)
set_option maxHeartbeats 2000000 in
theorem vnotes_ok {w0 w:World} {b:Nat} {s:Service} {R:List SA} {e:Entry} {v:Value} (h:Heap w0 (.service b s::.slc v 3 1 e.n.length (e.n.map (Value.int .i64))::R) w) (he:SvE e) (hd:s.j.down=false):
 Calls Tryz.prog 273 #[.pointer (some ⟨b,0,none⟩),.agg #[.string e.kd.str,.int .i64 e.id,v]] w fun en w'=>en=.returned (.bool (s.notes e).1)∧Heap w0 (.service b (s.notes e).2::.slc v 3 1 e.n.length (e.n.map (Value.int .i64))::R) w':=by
 have HH:=zk h;obtain ⟨hp,bj,bh,bm,h⟩:=h.open_service;have HP:=zk hp;obtain ⟨c0,c1,c2,c3,c4,cf⟩:=h.cB5 0 rfl;have hlb:=h.lt 0 rfl;have HO:=zk (Heap.nAt (n:=w.heap.size) h (.cells #[.string e.kd.str,.int .i64 e.id,v] 171) rfl);have h2:=(Heap.nAt (n:=w.heap.size) h (.cells #[.string e.kd.str,.int .i64 e.id,v] 171) rfl).drew;have HJ:=zk (jadd_ok (h2.frt 2 rfl) hd e he.ok v (h2.row 5 rfl));have HS:As (s.notes e=if s.j.room≤(s.j.es.length:Int) then (false,s) else (true,({s with j:=(s.j.add e).2.sync}:Service).plays e)):=⟨rfl⟩;have HE:=zk he;have HD:=zk hd;obtain ⟨av,cap,rfl⟩:=vS2 (h2.row 5 rfl);obtain ⟨W1,hW1⟩:∃W1,w.alloc (.cells #[.string e.kd.str,.int .i64 e.id,.slice av e.n.length cap] 171)=W1:=⟨_,rfl⟩;rw [hW1] at HO HJ;have HP2:As (({s with j:=(s.j.add e).2.sync}:Service).ok):=⟨⟨hp.r0,hp.r1,hp.keys,hp.book⟩⟩;clear h h2 hp he;obtain ⟨c0,c1,c2,c3,c4,cf⟩:=HO.out.cB5 1 rfl;obtain ⟨x0,x1,x2,xf⟩:=HO.out.cB3 0 rfl;have hlb:=HO.out.lt 1 rfl;by_cases hr:s.j.room≤(s.j.es.length:Int)
 ·have HR:=zk hr;have ha:s.j.add e=(5,s.j):=by simp [Jrn.add,hr]
  have HF:As ((s.j.add e).2=s.j):=⟨by rw [ha]⟩;have he1:(s.j.add e).1=5:=by rw [ha]
  rw [he1] at HJ;clear ha hr he1;go_enter Tryz.func273,Tryz.ntmps273;go_wp2;refine wro0 [(0,.f),(1,.f),(2,.f),(3,.s),(4,.s),(5,.e),(6,.f)] ?_;repeat (first
   |(refine vg rfl rfl ?_;apply ex2;intro w' hw';go_simp;rfl;go_simp)
   |(refine vs_ rfl (fun K hK=>?_);go_simp;refine hK _ ?_;clear hK K)
   |(refine ve rfl rfl ?_;go_wp2_with (go_at_call 137;refine HJ.out.mono ?_;rintro en w2 ⟨rfl,h2⟩;have H2:=zk h2;clear h2);refine ⟨trivial,?_⟩;go_simp))
  refine vn ?_;go_simp;clear c0 c1 c2 c3 c4 cf x0 x1 x2 xf hlb;obtain ⟨c0,c1,c2,c3,c4,cf⟩:=H2.out.cB5 2 rfl;obtain ⟨x0,x1,x2,xf⟩:=H2.out.cB3 1 rfl;have hlb:=H2.out.lt 2 rfl;go_wp2_with (fail);go_ret;rw [HS.out,if_pos HR.out];refine ⟨rfl,?_⟩;have hj:=HF.out;have h9:=H2.out;rw [hj] at h9;exact Heap.shut_service (bm:=bm) (bj:=bj) (bh:=bh) HP.out ((h9.frt 1 rfl).drop.frt 1 rfl)
 ·have HR:=zk hr;have HD2:As ((s.j.add e).2.down=false):=⟨by simp [Jrn.add,hr];exact hd⟩;have he1:(s.j.add e).1=0:=by simp [Jrn.add,hr]
  rw [he1] at HJ;clear hr he1;go_enter Tryz.func273,Tryz.ntmps273;go_wp2;refine wro0 [(0,.f),(1,.f),(2,.f),(3,.s),(4,.s),(5,.e),(6,.f)] ?_;repeat (first
   |(refine vg rfl rfl ?_;apply ex2;intro w' hw';go_simp;rfl;go_simp)
   |(refine vs_ rfl (fun K hK=>?_);go_simp;refine hK _ ?_;clear hK K)
   |(refine ve rfl rfl ?_;go_wp2_with (go_at_call 137;refine HJ.out.mono ?_;rintro en w2 ⟨rfl,h2⟩;have H2:=zk h2;clear h2);refine ⟨trivial,?_⟩;go_simp))
  refine vn ?_;go_simp;clear c0 c1 c2 c3 c4 cf x0 x1 x2 xf hlb;obtain ⟨c0,c1,c2,c3,c4,cf⟩:=H2.out.cB5 2 rfl;obtain ⟨x0,x1,x2,xf⟩:=H2.out.cB3 1 rfl;have hlb:=H2.out.lt 2 rfl;go_wp2_with (first|(go_at_call 133;refine (jsync_ok H2.out HD2.out).mono ?_;rintro en w3 ⟨rfl,h3⟩;clear c0 c1 c2 c3 c4 cf x0 x1 x2 xf hlb;obtain ⟨c0,c1,c2,c3,c4,cf⟩:=h3.cB5 2 rfl;obtain ⟨x0,x1,x2,xf⟩:=h3.cB3 1 rfl;have hlb:=h3.lt 2 rfl;have H3:=zk (Heap.shut_service (s:= {s with j:=(s.j.add e).2.sync}) (bm:=bm) (bj:=bj) (bh:=bh) HP2.out ((h3.frt 1 rfl).drop.frt 1 rfl));clear h3)|(go_at_call 271;refine (vplays_ok H3.out HE.out).mono ?_;rintro en w4 ⟨rfl,h4⟩;have H4:=zk h4;clear h4));go_ret;rw [HS.out,if_neg (Int.not_le.2 HR.out)];exact ⟨rfl,H4.out⟩
def Service.does (s:Service) (id much:Int):Int×Service:=
 if mgi s.st id=1 then (2,s) else if mgi s.st id=0 then
  (if (s.book.take id much).1=0 then
    (if (({s with book:=((s.book.take id much).2.back id).2}:Service).notes ⟨.did,id,[much]⟩).1=true then 2 else 0,(({s with book:=((s.book.take id much).2.back id).2}:Service).notes ⟨.did,id,[much]⟩).2)
  else (if (({s with book:=(s.book.take id much).2}:Service).notes ⟨.cant,id,[]⟩).1=true then 3 else 0,(({s with book:=(s.book.take id much).2}:Service).notes ⟨.cant,id,[]⟩).2))
 else (3,s)
def Service.undoes (s:Service) (id:Int):Int×Service:=
 if mgi s.st id=0∨mgi s.st id=1 then (if (s.notes ⟨.undid,id,[]⟩).1=true then 5 else 0,(s.notes ⟨.undid,id,[]⟩).2) else (5,s)
set_option maxHeartbeats 4000000 in
theorem vdoes_ok {w0 w:World} {b:Nat} {s:Service} {R:List SA} (h:Heap w0 (.service b s::R) w) (hd:s.j.down=false) (id much:Int) (h0:1≤id) (h1:id≤999) (hm:numOk much):
 Calls Tryz.prog 269 #[.pointer (some ⟨b,0,none⟩),.int .i64 id,.int .i64 much] w fun en w'=>en=.returned (.int .i64 (s.does id much).1)∧Heap w0 (.service b (s.does id much).2::R) w':=by
 have HH:=zk h;obtain ⟨hp,bj,bh,bm,h⟩:=h.open_service;have HP:=zk hp;have HD:=zk hd;have HM:=zk hm;obtain ⟨c0,c1,c2,c3,c4,cf⟩:=h.cB5 0 rfl;have hlb:=h.lt 0 rfl;have HO:=zk h;have HT:=zk (htake_ok (h.frt 2 rfl) hp.book.ok id much h0 h1 ⟨hp.book.len⟩);have HS:As (s.does id much=if mgi s.st id=1 then (2,s) else if mgi s.st id=0 then
  (if (s.book.take id much).1=0 then
    (if (({s with book:=((s.book.take id much).2.back id).2}:Service).notes ⟨.did,id,[much]⟩).1=true then 2 else 0,(({s with book:=((s.book.take id much).2.back id).2}:Service).notes ⟨.did,id,[much]⟩).2)
  else (if (({s with book:=(s.book.take id much).2}:Service).notes ⟨.cant,id,[]⟩).1=true then 3 else 0,(({s with book:=(s.book.take id much).2}:Service).notes ⟨.cant,id,[]⟩).2))
 else (3,s)):=⟨rfl⟩
 have HF:As ((s.book.take id much).2.fine):=⟨hp.book.take h0 h1⟩;clear h hp hd hm;generalize hx:mgi s.st id=x at *;have LOOKX:As (mgi s.st id=x):=⟨hx⟩;clear hx;rcases (show x=1∨x=0∨(x≠1∧x≠0) by omega) with rfl|rfl|⟨hx1,hx0⟩
 ·go_enter Tryz.func269,Tryz.ntmps269;go_wp2_with (at_lookup;refine wli HO.out 3 _ _ rfl rfl _ _ 67 rfl Tryz.underlying67 rfl id rfl (by omega) (by omega) ?_;rw [LOOKX.out]);go_ret
  (first|rw [HS.out,if_pos rfl]|rw [HS.out,if_pos trivial])
  exact ⟨rfl,HH.out⟩
 ·generalize htk:s.book.take id much=tk at *;obtain ⟨e0,tb⟩:=tk;by_cases he:e0=0
  ·subst he;have hf:=HF.out;have HF2:As (({s with book:=(tb.back id).2}:Service).ok):=⟨⟨HP.out.r0,HP.out.r1,HP.out.keys,hf.back⟩⟩;obtain ⟨nt,hnt⟩:∃nt,nt=({s with book:=(tb.back id).2}:Service).notes ⟨.did,id,[much]⟩:=⟨_,rfl⟩;have HN:As (∀W v,Heap w0 (.service b {s with book:=(tb.back id).2}::.slc v 3 1 1 [.int .i64 much]::R) W→Calls Tryz.prog 273 #[.pointer (some ⟨b,0,none⟩),.agg #[.string Kd.did.str,.int .i64 id,v]] W fun en w'=>en=.returned (.bool nt.1)∧Heap w0 (.service b nt.2::.slc v 3 1 1 [.int .i64 much]::R) w'):=⟨fun W v h=>by
    rw [hnt];exact vnotes_ok h (.did id much h0 h1 HM.out) HD.out⟩
   have HS2:As (s.does id much=(if nt.1=true then 2 else 0,nt.2)):=⟨by rw [HS.out,hnt];rfl⟩;clear hnt hf htk;obtain ⟨nb,ns⟩:=nt;cases nb;all_goals
    go_enter Tryz.func269,Tryz.ntmps269;go_wp2_with (first|(at_lookup;refine wli HO.out 3 _ _ rfl rfl _ _ 67 rfl Tryz.underlying67 rfl id rfl (by omega) (by omega) ?_;rw [LOOKX.out])|(go_at_call 272;refine HT.out.mono ?_;rintro e w1 ⟨rfl,h2⟩;clear c0 c1 c2 c3 c4 cf hlb;obtain ⟨c0,c1,c2,c3,c4,cf⟩:=h2.cB5 1 rfl;have hlb:=h2.lt 1 rfl;have H1:=zk h2;clear h2)|(go_at_call 274;refine (hback_ok H1.out id h0 h1).mono ?_;rintro e w2 ⟨rfl,h2⟩;clear c0 c1 c2 c3 c4 cf hlb;obtain ⟨c0,c1,c2,c3,c4,cf⟩:=h2.cB5 1 rfl;have hlb:=h2.lt 1 rfl;have H2:=zk (Heap.shut_service (s:= {s with book:=(tb.back id).2}) (bm:=bm) (bj:=bj) (bh:=bh) HF2.out ((h2.frt 2 rfl).frt 2 rfl));clear h2)|(go_at_call 273;refine (HN.out _ _ ((Heap.asSlc (k:=1) (size:=1) (H2.out.new (.cells #[.int .i64 much] 3)) (by decide) rfl).frt 1 rfl)).mono ?_;rintro e w3 ⟨rfl,h3⟩;have H3:=zk h3;clear h3));go_ret;rw [HS2.out];exact ⟨rfl,(H3.out.frt 1 rfl).drop⟩
  ·have he1:(e0 != 0)=true:=by simpa using he
   have HF2:As (({s with book:=tb}:Service).ok):=⟨⟨HP.out.r0,HP.out.r1,HP.out.keys,HF.out⟩⟩;obtain ⟨nt,hnt⟩:∃nt,nt=({s with book:=tb}:Service).notes ⟨.cant,id,[]⟩:=⟨_,rfl⟩;have HN:As (∀W v,Heap w0 (.service b {s with book:=tb}::.slc v 3 1 0 []::R) W→Calls Tryz.prog 273 #[.pointer (some ⟨b,0,none⟩),.agg #[.string Kd.cant.str,.int .i64 id,v]] W fun en w'=>en=.returned (.bool nt.1)∧Heap w0 (.service b nt.2::.slc v 3 1 0 []::R) w'):=⟨fun W v h=>by
    rw [hnt];exact vnotes_ok h (.cant id h0 h1) HD.out⟩
   have HS2:As (s.does id much=(if nt.1=true then 3 else 0,nt.2)):=⟨by rw [HS.out,hnt];simp [he]⟩;clear hnt htk he;obtain ⟨nb,ns⟩:=nt;cases nb;all_goals
    go_enter Tryz.func269,Tryz.ntmps269;go_wp2_with (first|(at_lookup;refine wli HO.out 3 _ _ rfl rfl _ _ 67 rfl Tryz.underlying67 rfl id rfl (by omega) (by omega) ?_;rw [LOOKX.out])|(go_at_call 272;refine HT.out.mono ?_;rintro e w1 ⟨rfl,h2⟩;clear c0 c1 c2 c3 c4 cf hlb;obtain ⟨c0,c1,c2,c3,c4,cf⟩:=h2.cB5 1 rfl;have hlb:=h2.lt 1 rfl;have H2:=zk (Heap.shut_service (s:= {s with book:=tb}) (bm:=bm) (bj:=bj) (bh:=bh) HF2.out ((h2.frt 2 rfl).frt 2 rfl));clear h2)|(go_at_call 273;refine (HN.out _ _ ((H2.out.nRw 3 1).frt 1 rfl)).mono ?_;rintro e w3 ⟨rfl,h3⟩;have H3:=zk h3;clear h3));go_ret;rw [HS2.out];exact ⟨rfl,(H3.out.frt 1 rfl).drop⟩
 ·have b1:(x==1)=false:=by simpa using hx1
  have b0:(x==0)=false:=by simpa using hx0
  have HX:As (x≠1∧x≠0):=⟨hx1,hx0⟩;clear hx1 hx0;go_enter Tryz.func269,Tryz.ntmps269;go_wp2_with (at_lookup;refine wli HO.out 3 _ _ rfl rfl _ _ 67 rfl Tryz.underlying67 rfl id rfl (by omega) (by omega) ?_;rw [LOOKX.out]);go_ret;rw [HS.out,if_neg HX.out.1,if_neg HX.out.2];exact ⟨rfl,HH.out⟩
theorem zSv51 {P:Prop} (h:P:=by
 refine wro0 [(0,.f),(1,.f),(2,.f),(3,.f),(4,.s),(5,.f),(6,.s),(7,.f),(8,.s),(9,.f),(10,.e),(11,.f)] ?_;repeat (first
  |(refine vg rfl rfl ?_;apply ex2;intro w' hw';go_simp;rfl;go_simp)
  |(refine vs_ rfl (fun K hK=>?_);go_simp;refine hK _ ?_;clear hK K)
  |(refine ve rfl rfl ?_;go_wp2_with (fail);refine ⟨trivial,?_⟩;go_simp))
 refine vn ?_;go_simp;go_wp2_with (fail);go_ret;refine ⟨_,rfl,?_⟩;rw [←HRP.out,if_neg HR.out];have h6:=Heap.asSlc (k:=1) (size:=7) (H3.out.drew.new (.cells #[.int .i64 r,.int .i64 s.node,.int .i64 0,.int .i64 id,.int .i64 step,.int .i64 0,.int .i64 0] 113)) (by decide) rfl;exact (h6.frt 2 rfl).drop):P:=h
theorem zSv52 {P:Prop} (h:P:=by
 cases nb;all_goals
  go_enter Tryz.func270,Tryz.ntmps270;go_wp2_with (first|(at_lookup;refine wli HO.out 3 _ _ rfl rfl _ _ 67 rfl Tryz.underlying67 rfl id rfl (by omega) (by omega) ?_;rw [LOOKX.out])|(go_at_call 273;refine HN.out.mono ?_;rintro e w3 ⟨rfl,h3⟩;have H3:=zk h3;clear h3));go_ret;rw [HS.out];exact ⟨rfl,(H3.out.frt 1 rfl).drop⟩):P:=h
theorem zSv53 {P:Prop} (h:P:=by
 go_ret;refine ⟨_,rfl,?_⟩;rw [show rp= [] from by have:=HRP.out;simpa using this.symm];exact (((H3.out.frt 1 rfl).drop).nRw 113 7)):P:=h
set_option maxHeartbeats 2000000 in
theorem vundoes_ok {w0 w:World} {b:Nat} {s:Service} {R:List SA} (h:Heap w0 (.service b s::R) w) (hd:s.j.down=false) (id:Int) (h0:1≤id) (h1:id≤999):
 Calls Tryz.prog 270 #[.pointer (some ⟨b,0,none⟩),.int .i64 id] w fun en w'=>en=.returned (.int .i64 (s.undoes id).1)∧Heap w0 (.service b (s.undoes id).2::R) w':=by
 have HH:=zk h;have HN:=zk (vnotes_ok (e:=⟨.undid,id,[]⟩) ((h.nRw 3 1).frt 1 rfl) (.undid id h0 h1) hd);obtain ⟨hp,bj,bh,bm,h⟩:=h.open_service;obtain ⟨c0,c1,c2,c3,c4,cf⟩:=h.cB5 0 rfl;have HO:=zk h;have HS:As (s.undoes id=if mgi s.st id=0∨mgi s.st id=1 then (if (s.notes ⟨.undid,id,[]⟩).1=true then 5 else 0,(s.notes ⟨.undid,id,[]⟩).2) else (5,s)):=⟨rfl⟩;clear h hp hd;generalize hx:mgi s.st id=x at *;have LOOKX:As (mgi s.st id=x):=⟨hx⟩;clear hx;generalize s.notes ⟨.undid,id,[]⟩=nt at *;obtain ⟨nb,ns⟩:=nt;simp only at HN;rcases (show x=1∨x=0∨(x≠1∧x≠0) by omega) with rfl|rfl|⟨hx1,hx0⟩
 ·exact zSv52
 ·exact zSv52
 ·have b1:(x==1)=false:=by simpa using hx1
  have b0:(x==0)=false:=by simpa using hx0
  have HX:As (¬(x=0∨x=1)):=⟨by simp [hx1,hx0]⟩;clear hx1 hx0;go_enter Tryz.func270,Tryz.ntmps270;go_wp2_with (at_lookup;refine wli HO.out 3 _ _ rfl rfl _ _ 67 rfl Tryz.underlying67 rfl id rfl (by omega) (by omega) ?_;rw [LOOKX.out]);go_ret;rw [HS.out,if_neg HX.out];exact ⟨rfl,HH.out⟩
def Service.crash (s:Service) (stay:Int):Service:=if s.j.down=true then s else ({s with j:=s.j.crash stay}:Service).forget
theorem vcrash_ok {w0 w:World} {b:Nat} {s:Service} {R:List SA} (h:Heap w0 (.service b s::R) w) (stay torn:Int):
 Calls Tryz.prog 265 #[.pointer (some ⟨b,0,none⟩),.int .i64 stay,.int .i64 torn] w fun en w'=>en=.returned (.tuple #[])∧Heap w0 (.service b (s.crash stay)::R) w':=by
 have HH:=zk h;have HD:=zk (vdown_ok h);obtain ⟨hp,bj,bh,bm,h⟩:=h.open_service;obtain ⟨c0,c1,c2,c3,c4,cf⟩:=h.cB5 0 rfl;have HP:=zk hp;have HO:=zk h;have HS:As (s.crash stay=if s.j.down=true then s else ({s with j:=s.j.crash stay}:Service).forget):=⟨rfl⟩;have HP2:As (({s with j:=s.j.crash stay}:Service).ok):=⟨⟨hp.r0,hp.r1,hp.keys,hp.book⟩⟩;cases hd:s.j.down
 ·have HC:=zk (jcrash_ok (h.frt 1 rfl) hd stay torn);rw [hd] at HD HS;clear h hp hd;go_enter Tryz.func265,Tryz.ntmps265;go_wp2_with (first|(go_at_call 266;refine HD.out.mono ?_;rintro e w' ⟨rfl,rfl⟩)|(go_at_call 217;refine HC.out.mono ?_;rintro e w1 ⟨⟨cv,rfl⟩,h1⟩;have H1:=zk (Heap.shut_service (s:= {s with j:=s.j.crash stay}) (bm:=bm) (bj:=bj) (bh:=bh) HP2.out (h1.frt 1 rfl));clear h1)|(go_at_call 77;refine (vforget_ok H1.out).mono ?_;rintro e w2 ⟨rfl,h2⟩;have H2:=zk h2;clear h2));go_end0;rw [HS.out];exact ⟨rfl,H2.out⟩
 ·rw [hd] at HD HS;clear h hp hd;go_enter Tryz.func265,Tryz.ntmps265;go_wp2_with (go_at_call 266;refine HD.out.mono ?_;rintro e w' ⟨rfl,rfl⟩);refine bodyPost_ret (results_none rfl _ _ _) rfl ⟨rfl,?_⟩;rw [HS.out];exact HH.out
structure SvM (s:Service) (m:Msg):Prop where
 to:m.to=s.node
 frm:m.frm=0
 id0:1≤m.id
 id1:m.id≤999
 a:numOk m.a
 kind:m.kind=1∨m.kind=4
def Service.asked (s:Service) (m:Msg):Int×Service:=if m.kind=1 then s.does m.id m.a else s.undoes m.id
def Service.handle (s:Service) (m:Msg):List Msg×Service:=
 if s.j.down=true then ([],s) else ((if (s.asked m).1=0 then [] else [⟨(s.asked m).1,s.node,0,m.id,m.step,0,0⟩]),(s.asked m).2)
theorem plays_node (s:Service) (e:Entry):(s.plays e).node=s.node:=by unfold Service.plays;split<;>rfl
theorem notes_node (s:Service) (e:Entry):(s.notes e).2.node=s.node:=by
 unfold Service.notes;split
 ·rfl
 ·exact plays_node _ _
theorem does_node (s:Service) (id a:Int):(s.does id a).2.node=s.node:=by
 unfold Service.does;split
 ·rfl
 ·split
  ·split
   ·exact notes_node _ _
   ·exact notes_node _ _
  ·rfl
theorem undoes_node (s:Service) (id:Int):(s.undoes id).2.node=s.node:=by
 unfold Service.undoes;split
 ·exact notes_node _ _
 ·rfl
set_option maxHeartbeats 8000000 in
theorem vhandle_ok {w0 w:World} {b:Nat} {s:Service} {R:List SA} (h:Heap w0 (.service b s::R) w) (m:Msg) (hm:SvM s m):
 Calls Tryz.prog 267 #[.pointer (some ⟨b,0,none⟩),m.val] w fun en w'=>∃v',en=.returned v'∧Heap w0 (.slc v' 113 7 (s.handle m).1.length (mcells (s.handle m).1)::.service b (s.handle m).2::R) w':=by
 have HH:=zk h;have HS:As (s.handle m=if s.j.down=true then ([],s) else ((if (s.asked m).1=0 then [] else [⟨(s.asked m).1,s.node,0,m.id,m.step,0,0⟩]),(s.asked m).2)):=⟨rfl⟩;have HA:As (s.asked m=if m.kind=1 then s.does m.id m.a else s.undoes m.id):=⟨rfl⟩;have h0:=hm.id0;have h1:=hm.id1;have hk:=hm.kind;have HMA:=zk hm.a;have hto:=hm.to;have hfr:=hm.frm;clear hm;obtain ⟨kind,frm,to,id,step,a,mb⟩:=m;simp only at h0 h1 hk hto hfr HMA HA HS;subst hto hfr;have HB:=zk (h.new (.cells #[.int .i64 kind,.int .i64 0,.int .i64 s.node,.int .i64 id,.int .i64 step,.int .i64 a,.int .i64 mb] 113));have HDN:As (∀W,Heap w0 (.service b s::R) W→Calls Tryz.prog 266 #[.pointer (some ⟨b,0,none⟩)] W fun e w'=>e=.returned (.bool s.j.down)∧W=w'):=⟨fun W h=>vdown_ok h⟩;have HNODE:As (∀W (s':Service) L,Heap w0 (.service b s'::L) W→W.cell? ⟨b,0,none⟩=some (.int .i64 s'.node)∧b<W.heap.size):=⟨fun W s' L h=>by
  obtain ⟨_,bj,bh,bm,h⟩:=h.open_service;exact ⟨h.cell 0 0 rfl rfl,h.lt 0 rfl⟩⟩
 obtain ⟨c0,hlb⟩:=HNODE.out _ _ _ h;unfold Msg.val;simp only [Service.handle];clear h;cases hd:s.j.down
 ·rw [hd] at HDN HS;have HDW:As (s.j.down=false):=⟨hd⟩;clear hd;simp only [Bool.false_eq_true,if_false];rcases hk with rfl|rfl
  ·have hA1:s.asked ⟨1,0,s.node,id,step,a,mb⟩=s.does id a:=by rw [HA.out];simp
   rw [hA1];have HC:As (∀W L,Heap w0 (.service b s::L) W→Calls Tryz.prog 269 #[.pointer (some ⟨b,0,none⟩),.int .i64 id,.int .i64 a] W fun en w'=>en=.returned (.int .i64 (s.does id a).1)∧Heap w0 (.service b (s.does id a).2::L) w'):=⟨fun W L h=>vdoes_ok h HDW.out id a h0 h1 HMA.out⟩;have HNN:As ((s.does id a).2.node=s.node):=⟨does_node s id a⟩;generalize s.does id a=p at *;obtain ⟨r,ns⟩:=p;clear hA1;simp only;generalize hrp:(if r=0 then [] else [(⟨r,s.node,0,id,step,0,0⟩:Msg)])=rp;have HRP:=zk hrp;clear hrp;go_enter Tryz.func267,Tryz.ntmps267;go_wp2_with (fail);go_quiet ((refine (HDN.out _ ((HH.out.alloc _).drewN _)).mono ?_;rintro e w' ⟨rfl,rfl⟩;exact ⟨rfl,_,rfl⟩));have h2:=HB.out.drewN nq;generalize (w.alloc (.cells #[.int .i64 1,.int .i64 0,.int .i64 s.node,.int .i64 id,.int .i64 step,.int .i64 a,.int .i64 mb] 113)).drewN nq=W2 at h2⊢;obtain ⟨x0,x1,x2,x3,x4,x5,x6,xf⟩:=h2.cB7 0 rfl;have H2:=zk (h2.frt 1 rfl);clear h2 c0 hlb;by_cases hr:r=0
   ·subst hr;go_wp2_with (go_at_call 269;refine (HC.out _ _ H2.out).mono ?_;rintro e w3 ⟨rfl,h3⟩;clear x0 x1 x2 x3 x4 x5 x6 xf;obtain ⟨x0,x1,x2,x3,x4,x5,x6,xf⟩:=h3.cB7 1 rfl;have H3:=zk h3;clear h3);exact zSv53
   ·have hr1:(r==0)=false:=by simpa using hr
    have HR:=zk hr;clear hr;go_wp2_with (go_at_call 269;refine (HC.out _ _ H2.out).mono ?_;rintro e w3 ⟨rfl,h3⟩;clear x0 x1 x2 x3 x4 x5 x6 xf;obtain ⟨x0,x1,x2,x3,x4,x5,x6,xf⟩:=h3.cB7 1 rfl;obtain ⟨c0,hlb⟩:=HNODE.out _ _ _ h3;simp only [HNN.out] at c0;have H3:=zk h3;clear h3);exact zSv51
  ·have hA1:s.asked ⟨4,0,s.node,id,step,a,mb⟩=s.undoes id:=by rw [HA.out];simp
   rw [hA1];have HC:As (∀W L,Heap w0 (.service b s::L) W→Calls Tryz.prog 270 #[.pointer (some ⟨b,0,none⟩),.int .i64 id] W fun en w'=>en=.returned (.int .i64 (s.undoes id).1)∧Heap w0 (.service b (s.undoes id).2::L) w'):=⟨fun W L h=>vundoes_ok h HDW.out id h0 h1⟩;have HNN:As ((s.undoes id).2.node=s.node):=⟨undoes_node s id⟩;generalize s.undoes id=p at *;obtain ⟨r,ns⟩:=p;clear hA1;simp only;generalize hrp:(if r=0 then [] else [(⟨r,s.node,0,id,step,0,0⟩:Msg)])=rp;have HRP:=zk hrp;clear hrp;go_enter Tryz.func267,Tryz.ntmps267;go_wp2_with (fail);go_quiet ((refine (HDN.out _ ((HH.out.alloc _).drewN _)).mono ?_;rintro e w' ⟨rfl,rfl⟩;exact ⟨rfl,_,rfl⟩));have h2:=HB.out.drewN nq;generalize (w.alloc (.cells #[.int .i64 4,.int .i64 0,.int .i64 s.node,.int .i64 id,.int .i64 step,.int .i64 a,.int .i64 mb] 113)).drewN nq=W2 at h2⊢;obtain ⟨x0,x1,x2,x3,x4,x5,x6,xf⟩:=h2.cB7 0 rfl;have H2:=zk (h2.frt 1 rfl);clear h2 c0 hlb;by_cases hr:r=0
   ·subst hr;go_wp2_with (go_at_call 270;refine (HC.out _ _ H2.out).mono ?_;rintro e w3 ⟨rfl,h3⟩;clear x0 x1 x2 x3 x4 x5 x6 xf;obtain ⟨x0,x1,x2,x3,x4,x5,x6,xf⟩:=h3.cB7 1 rfl;have H3:=zk h3;clear h3);exact zSv53
   ·have hr1:(r==0)=false:=by simpa using hr
    have HR:=zk hr;clear hr;go_wp2_with (go_at_call 270;refine (HC.out _ _ H2.out).mono ?_;rintro e w3 ⟨rfl,h3⟩;clear x0 x1 x2 x3 x4 x5 x6 xf;obtain ⟨x0,x1,x2,x3,x4,x5,x6,xf⟩:=h3.cB7 1 rfl;obtain ⟨c0,hlb⟩:=HNODE.out _ _ _ h3;simp only [HNN.out] at c0;have H3:=zk h3;clear h3);exact zSv51
 ·rw [hd] at HDN HS;simp only [if_true];clear hd;go_enter Tryz.func267,Tryz.ntmps267;go_wp2_with (fail);go_quiet ((refine (HDN.out _ ((HH.out.alloc _).drewN _)).mono ?_;rintro e w' ⟨rfl,rfl⟩;exact ⟨rfl,_,rfl⟩));go_wp2_with (fail);go_ret;exact ⟨_,rfl,((HH.out.alloc _).drewN nq).nRw 113 7⟩
end Go.Proofs.YtlnghlamnehfjaaGreatDoor.S
namespace Go.Proofs.YtlnghlamnehfjaaGreatDoor.S
open Go.RowKit Go.Maps
attribute [local go_sem] Oper.semAt_some
def gAct (a:Act) (ps:Array Tmp) (sb:Tmp) (v:Value) (p:Nat):Act:= {tmps:=(roundAct a ps [] v).tmps.setIfInBounds sb (.pointer (some ⟨p,0,none⟩)),defers:= []}
theorem wp_rangeGB {α:Type} {w0:World} {g:Operand} {ps:Array Tmp} {assign body:Code} {Q:Exit→Act→World→Prop} {a:Act} {w:World}
 {gf:Nat} {lb:Array Value} (hg:a.eval g=.func (.func gf) #[] lb) (eg:∀args w,(callFunc gf args).run Tryz.prog w=.ok (.enter gf args) w) (hps:ps.size=1)
 (A A' R:List SA) (xs:List α) (give:α→Value→SA) (hit:Gives w0 gf lb A A' xs give) (J:Nat→SA) (h0:Heap w0 (J 0::A++R) w) (sb:Tmp) (N:Nat→α→Value→Nat→SA)
 (hassign:∀(l k:Nat) (x:α) (v:Value) (X:List SA) (W:World) (K:Act→World→Prop),xs[k]? =some x→Heap w0 (give x v::J k::X) W→(∀p W',Heap w0 (N k x v p::X) W'→K (gAct a ps sb v p) W')→assign.wpIn (Fence.wide.inRound l) 7 Tryz.prog (Exit.then K (fun _ _ _=>False)) (roundAct a ps [] v) W)
 (hbody:∀(l k:Nat) (x:α) (v:Value) (p:Nat) (X:List SA) (W:World),xs[k]? =some x→Heap w0 (N k x v p::X) W→body.wpIn (Fence.wide.inRound l) 7 Tryz.prog (doneX w0 (J (k+1)::X)) (gAct a ps sb v p) W)
 (hdone:∀(D:Nat) (W:World),Heap w0 (J xs.length::.pts D (.deferred (some []))::A'++R) W→Q .normal {a with defers:= {target:=.collected D,args:= #[]}::a.defers} W):
 (Code.rangeFunc g ps assign body).wp Tryz.prog Q a w:=by
 refine wpIn_wide.1 (wpIn_range (n:=7) hg eg hps A A' R xs give hit J h0 (fun k x v a'=>.ex fun p=>.when (a'=gAct a ps sb v p) (N k x v p)) ?_ ?_ hdone)
 ·intro l k x v X W K hk h hK;exact hassign l k x v X W K hk h (fun p W' h'=>hK _ _ (Heap.reex (f:=fun p'=>.when (gAct a ps sb v p=gAct a ps sb v p') (N k x v p')) p (Heap.rewhen rfl h')))
 ·intro l k x v a' X W hk h;obtain ⟨p,h⟩:=h.unex;obtain ⟨he,h2⟩:=h.unwhen;subst he;exact hbody l k x v p X W hk h2
def entN (J:Nat→SA) (k:Nat) (e:Entry) (v:Value) (p:Nat):SA:=.ex fun u=>.when (v=.agg #[.string e.kd.str,.int .i64 e.id,u]) (.all [.pts p (.cells #[.string e.kd.str,.int .i64 e.id,u] 171),.slc u 3 1 e.n.length (e.n.map (Value.int .i64)),J k])
theorem give_open {w0 w:World} {R:List SA} {e:Entry} {v:Value} (h:Heap w0 (giveE e v::R) w):∃u,v=.agg #[.string e.kd.str,.int .i64 e.id,u]∧Heap w0 (.slc u 3 1 e.n.length (e.n.map (Value.int .i64))::R) w:=by
 obtain ⟨u,h⟩:=h.unex;obtain ⟨hv,h⟩:=h.unwhen;exact ⟨u,hv,h⟩
theorem entN_shut {w0 w:World} {J:Nat→SA} {k p:Nat} {R:List SA} {e:Entry} {u:Value} (h:Heap w0 (.pts p (.cells #[.string e.kd.str,.int .i64 e.id,u] 171)::.slc u 3 1 e.n.length (e.n.map (Value.int .i64))::J k::R) w):Heap w0 (entN J k e (.agg #[.string e.kd.str,.int .i64 e.id,u]) p::R) w:=
 Heap.reex (f:=fun u'=>.when (Value.agg #[.string e.kd.str,.int .i64 e.id,u]=.agg #[.string e.kd.str,.int .i64 e.id,u']) (.all [.pts p (.cells #[.string e.kd.str,.int .i64 e.id,u'] 171),.slc u' 3 1 e.n.length (e.n.map (Value.int .i64)),J k])) u (Heap.rewhen rfl (Heap.gather (l:= [_,_,_]) h))
theorem entN_open {w0 w:World} {J:Nat→SA} {k p:Nat} {R:List SA} {e:Entry} {v:Value} (h:Heap w0 (entN J k e v p::R) w):∃u,v=.agg #[.string e.kd.str,.int .i64 e.id,u]∧Heap w0 (.pts p (.cells #[.string e.kd.str,.int .i64 e.id,u] 171)::.slc u 3 1 e.n.length (e.n.map (Value.int .i64))::J k::R) w:=by
 obtain ⟨u,h⟩:=h.unex;obtain ⟨hv,h⟩:=h.unwhen;exact ⟨u,hv,Heap.spread h⟩
def Service.replay (s:Service) (es:List Entry):Service:=es.foldl Service.plays s
def Service.start (s:Service):Service:=if s.j.down=true then (({s with j:=s.j.recover}:Service).forget).replay s.j.es else s
theorem replay_j (s:Service) (es:List Entry):(s.replay es).j=s.j:=by
 induction es generalizing s with
 |nil=>rfl
 |cons e r ih=>exact (ih (s.plays e)).trans (plays_j s e)
theorem replay_succ (s:Service) (es:List Entry) {k:Nat} {e:Entry} (h:es[k]? =some e):s.replay (es.take (k+1))=(s.replay (es.take k)).plays e:=by
 obtain ⟨hk,rfl⟩:=List.getElem?_eq_some_iff.1 h;unfold Service.replay;rw [List.take_succ_eq_append_getElem hk,List.foldl_append];rfl
set_option maxHeartbeats 4000000 in
theorem vstart_ok {w0 w:World} {b:Nat} {s:Service} {R:List SA} (h:Heap w0 (.service b s::R) w) (hes:∀e∈s.j.es,SvE e):
 Calls Tryz.prog 268 #[.pointer (some ⟨b,0,none⟩)] w fun en w'=>en=.returned (.tuple #[])∧Heap w0 (.service b s.start::R) w':=by
 have HH:=zk h;have HDN:As (∀W (s':Service) L,Heap w0 (.service b s'::L) W→Calls Tryz.prog 266 #[.pointer (some ⟨b,0,none⟩)] W fun e w'=>e=.returned (.bool s'.j.down)∧W=w'):=⟨fun W s' L h=>vdown_ok h⟩;have HB:=zk (h.new (.cells #[.pointer (some ⟨b,0,none⟩)] 64));have HS:As (s.start=if s.j.down=true then (({s with j:=s.j.recover}:Service).forget).replay s.j.es else s):=⟨rfl⟩;have HES:=zk hes;clear hes;obtain ⟨bj,h2⟩:=(HB.out.frt 1 rfl).svx_of;obtain ⟨hp,bh,bm,h3⟩:=h2.open_svx;obtain ⟨c0,c1,c2,c3,c4,cf⟩:=h3.cB5 0 rfl;have hlb:=h3.lt 0 rfl;have HP:=zk hp;clear h h2 hp;cases hd:s.j.down
 ·rw [hd] at HS;have HDW:=zk hd;clear hd;refine cmk Tryz.func268 rfl ?_;simp only [Tryz.ntmps268,List.size_toArray,List.length_cons,List.length_nil,Nat.reduceAdd,Nat.reduceSub,Array.replicate_succ,Array.replicate_zero,List.push_toArray,List.append_toArray,List.nil_append,List.cons_append];go_wp2_with (go_at_call 266;refine (HDN.out _ _ _ (HB.out.frt 1 rfl)).mono ?_;rintro e w' ⟨rfl,rfl⟩;rw [HDW.out]);refine ⟨_,results_none rfl _ _ _,rfl,?_⟩;rw [HS.out];exact HH.out.alloc _
 ·rw [hd] at HS;have HDW:=zk hd;have HREC:As (∀W L,Heap w0 (.jrn bj s.j::L) W→Calls Tryz.prog 220 #[.pointer (some ⟨bj,0,none⟩)] W fun e w'=>∃n,e=.returned (.int .i64 n)∧Heap w0 (.jrn bj s.j.recover::L) w'):=⟨fun W L h=>jrecover_ok h hd⟩;clear hd;refine cmk Tryz.func268 rfl ?_;simp only [Tryz.ntmps268,List.size_toArray,List.length_cons,List.length_nil,Nat.reduceAdd,Nat.reduceSub,Array.replicate_succ,Array.replicate_zero,List.push_toArray,List.append_toArray,List.nil_append,List.cons_append];have H3:=zk h3;clear h3;go_wp2_with (first|(go_at_call 266;refine (HDN.out _ _ _ (HB.out.frt 1 rfl)).mono ?_;rintro e w' ⟨rfl,rfl⟩;rw [HDW.out])|(go_at_call 220;refine (HREC.out _ _ (H3.out.frt 3 rfl)).mono ?_;rintro e w1 ⟨nr,rfl,h1⟩;clear c0 c1 c2 c3 c4 cf hlb;obtain ⟨c0,c1,c2,c3,c4,cf⟩:=h1.cB5 1 rfl;obtain ⟨x0,xf⟩:=h1.cB1 4 rfl;have hlb:=h1.lt 1 rfl;have H4:=zk (Heap.shut_service (s:= {s with j:=s.j.recover}) (bm:=bm) (bj:=bj) (bh:=bh) ⟨HP.out.r0,HP.out.r1,HP.out.keys,HP.out.book⟩ (h1.frt 1 rfl));clear h1)|(go_at_call 77;refine (vforget_ok H4.out).mono ?_;rintro e w2 ⟨rfl,h2⟩;clear c0 c1 c2 c3 c4 cf hlb x0 xf;obtain ⟨bj2,h2⟩:=h2.svx_of;obtain ⟨hp2,bh2,bm2,h3⟩:=h2.open_svx;obtain ⟨c0,c1,c2,c3,c4,cf⟩:=h3.cB5 0 rfl;obtain ⟨x0,xf⟩:=h3.cB1 4 rfl;have hlb:=h3.lt 0 rfl;have H5:=zk h2;clear h2 h3 hp2)|(go_at_call 221;refine (all_ok H5.out bj2).mono ?_;rintro e w3 ⟨bx,rfl,h3⟩;have H6:=zk h3;clear h3));clear c0 c1 c2 c3 c4 cf hlb x0 xf;have hje:(({s with j:=s.j.recover}:Service).forget).j.es=s.j.es:=rfl;generalize hs1:({s with j:=s.j.recover}:Service).forget=s1 at *;refine wp_rangeGB rfl (enters_of Tryz.func227 (by kernel_rfl) rfl) rfl _ _ R s1.j.es _ (all_gives w0 bx bj2 s1.j) (fun k=>.all [.pts w.heap.size (.cells #[.pointer (some ⟨b,0,none⟩)] 64),.svx b bj2 (s1.replay (s1.j.es.take k))]) ?h0 2 (entN (fun k=>.all [.pts w.heap.size (.cells #[.pointer (some ⟨b,0,none⟩)] 64),.svx b bj2 (s1.replay (s1.j.es.take k))])) ?assign ?body ?done
  case h0=>
   exact Heap.gather (l:= [_,_]) (((H6.out.frt 3 rfl).frt 2 rfl).frt 1 rfl |>.perm (List.Perm.refl _))
  case assign=>
   intro l k x v X W K hk h hK;obtain ⟨u,rfl,h2⟩:=give_open h;have hK2:=hK _ _ (entN_shut (h2.new (.cells #[.string x.kd.str,.int .i64 x.id,u] 171)));have hsh:=h2.shp 0 rfl;clear hK h h2;rcases hsh with ⟨rfl, -, -⟩|⟨g,cap,rfl, -, -, -⟩;all_goals
    simp [gAct,roundAct] at hK2;simp only [roundAct]
    gi_wp2
    exact hK2
  case body=>
   intro l k x v p X W hk h;obtain ⟨u,rfl,h2⟩:=entN_open h;have h3:=Heap.spread (l:= [_,_]) (h2.frt 2 rfl);have hse:SvE x:=HES.out x (by rw [←hje];exact List.mem_of_getElem? hk);have HSE:=zk hse;have HSU:=zk (replay_succ s1 s1.j.es hk);obtain ⟨x0,xf⟩:=h3.cB1 0 rfl;obtain ⟨e0,e1,e2,ef⟩:=h3.cB3 2 rfl;have H7:=zk ((h3.frt 3 rfl).frt 2 rfl);clear h h2 h3 hk hse;generalize s1.replay (s1.j.es.take k)=sk at *;simp only [gAct,roundAct]
   gi_wp2_with (refine ⟨trivial,(CallsIn.inRound l (callsIn_wide.2 (vplaysX_ok H7.out HSE.out))).mono ?_⟩;rintro en w4 ⟨rfl,h4⟩;have H8:=zk h4;clear h4)
   show Heap w0 _ _
   rw [HSU.out];exact Heap.gather (l:= [_,_]) ((((H8.out.frt 1 rfl).drop.frt 2 rfl).drop).frt 1 rfl)
  case done=>
   intro D W h;have h2:=Heap.spread (l:= [_,_]) h;have HZ:=h2.putAt 2 rfl (.deferred none);have HT:=zk (h2.at 2 rfl);have HY:=zk ((((HZ.drop.frt 1 rfl).drop).frt 1 rfl).drop);clear h h2 HZ;go_wp2;refine ⟨by simp,.inl ⟨_,_,rfl,run_takeDeferred HT.out,?_⟩⟩;refine ⟨_,results_none rfl _ _ _,rfl,?_⟩;rw [HS.out];simp only [if_true];have h9:=HY.out;rw [List.take_length,hje] at h9;refine Heap.svx_to (bj:=bj2) ?_;rw [replay_j];exact h9
end Go.Proofs.YtlnghlamnehfjaaGreatDoor.S
namespace Go.Proofs.YtlnghlamnehfjaaGreatDoor.S
open Go.RowKit Go.Maps
theorem vforgetP_ok {w0 w:World} {b bj:Nat} {R:List SA} {node room:Int} {v3 v4:Value} (h:Heap w0 (.pts b (.cells #[.int .i64 node,.int .i64 room,.pointer (some ⟨bj,0,none⟩),v3,v4] 156)::R) w) (h0:0≤room) (h1:room≤1000000000):
 Calls Tryz.prog 77 #[.pointer (some ⟨b,0,none⟩)] w fun e w'=>e=.returned (.tuple #[])∧∃bn bm,Heap w0 (.pts b (.cells #[.int .i64 node,.int .i64 room,.pointer (some ⟨bj,0,none⟩),.pointer (some ⟨bn,0,none⟩),.map (some bm)] 156)::.hold bn ⟨room,[]⟩::.map bm []::R) w':=by
 obtain ⟨c0,c1,c2,c3,c4,cf⟩:=h.cB5 0 rfl;have hlb:=h.lt 0 rfl;have HN:=zk (hnew_ok h room h0 h1);have hmm:= @run_makeMap Tryz.prog;clear h;go_enter Tryz.func77,Tryz.ntmps77;go_wp2_with (go_at_call 117;refine HN.out.mono ?_;rintro e w1 ⟨bn,rfl,h1⟩;clear c0 c1 c2 c3 c4 cf hlb;obtain ⟨c0,c1,c2,c3,c4,cf⟩:=h1.cB5 1 rfl;have hlb:=h1.lt 1 rfl;have H1:=zk h1;clear h1);go_end0;refine ⟨rfl,bn,w1.heap.size,?_⟩;have h2:=((H1.out.sAt 1 3 (.pointer (some ⟨bn,0,none⟩)) rfl).sAt 1 4 (.map (some w1.heap.size)) rfl).newMapAt (n:=w1.heap.size) (by simp [World.setCell]);exact ((h2.frt 1 rfl).frt 2 rfl)
theorem vnew_ok {w0 w:World} {R:List SA} (h:Heap w0 R w) (node most room:Int) (hn0:4≤node) (hn1:node≤6) (h0:0≤most) (h1:most≤1000000000) (hr0:1≤room) (hr1:room≤4096):
 Calls Tryz.prog 43 #[.int .i64 node,.int .i64 most,.int .i64 room] w fun e w'=>∃b,e=.returned (.pointer (some ⟨b,0,none⟩))∧Heap w0 (.service b ⟨node,most,⟨room,[],0,false⟩,⟨most,[]⟩,[]⟩::R) w':=by
 have HJ:=zk (jnew_ok h room hr0 hr1);clear h;go_enter Tryz.func43,Tryz.ntmps43;go_wp2_with (first|(go_at_call 73;refine HJ.out.mono ?_;rintro e w1 ⟨bj,rfl,h2⟩;have H1:=zk h2;clear h2)|(go_at_call 77;refine (vforgetP_ok (H1.out.new (.cells #[.int .i64 node,.int .i64 most,.pointer (some ⟨bj,0,none⟩),.pointer none,.map none] 156)) h0 h1).mono ?_;rintro e w2 ⟨rfl,bn,bm,h3⟩;have H3:=zk h3;clear h3));go_ret;refine ⟨_,rfl,?_⟩;refine Heap.shut_service (bj:=bj) (bh:=bn) (bm:=bm) ⟨h0,h1,KeysOk.nil,Hold.fine.zero h0 h1⟩ ?_;exact (H3.out.frt 3 rfl).frt 1 rfl
end Go.Proofs.YtlnghlamnehfjaaGreatDoor.S
