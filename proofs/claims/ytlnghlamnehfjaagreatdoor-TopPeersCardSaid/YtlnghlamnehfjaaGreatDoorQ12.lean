/- Part Q12. -/
import Derived.Test.YtlnghlamnehfjaaGreatDoorQ01
import Derived.RangeFuncNested
import Derived.RangeFuncBound
import Derived.RangeFuncCalls
import Derived.RangeFuncLeaves
import Derived.ControlIn
import Derived.OwnWalkIn
set_option linter.unusedVariables false
set_option linter.unusedSimpArgs false
set_option maxRecDepth 100000
set_option maxHeartbeats 64000000
namespace Go.Proofs.YtlnghlamnehfjaaGreatDoor.S
open Go.RowKit Go.Maps
theorem KY {w:World} {b:Nat} {o:Obj} (o':Obj) (h:w.heap[b]? =some o):(w.putObj b o').heap[b]? =some o':=World.putObj_heap_same (Array.getElem?_eq_some_iff.1 h).1
theorem Heap.putAt {w0 w:World} {l:List SA} {b:Nat} {o:Obj} (h:Heap w0 l w) (i:Nat) (e:l[i]? =some (.pts b o)) (o':Obj):Heap w0 (l.set i (.pts b o')) (w.putObj b o'):=by
 refine Heap.perm (l:=.pts b o'::l.eraseIdx i) ?_ (Vm e);have hg:=grownBy_putObj' w b o';exact (h.frt i e).turn hg.os hg.tape hg.output hg.size (fun F hF=>⟨fun k hk hn=>hg.block k hk (fun e=>hn ((hF.1 k).2 (Option.some.inj e))),F,⟨hF.1,KY o' hF.2⟩,fun k hk=>.inl hk⟩)
def Gives {α:Type} (w0:World) (gf:Nat) (lb:Array Value) (A A':List SA) (xs:List α) (give:α→Value→SA):Prop:=
 ∀(n l:Nat) (J:Nat→SA) (R:List SA) (W:World),
  (∀k x,xs[k]? =some x→∀v X W,Heap w0 (give x v::J k::X) W→YieldAt Fence.wide n Tryz.prog l #[v] W fun e W'=>e=.returned (.bool true)∧Heap w0 (J (k+1)::X) W')→
  Heap w0 (J 0::A++R) W→CallsIn Fence.wide (n+1) Tryz.prog gf (#[.func (.yield l) #[] #[]]++lb) W fun e W'=>(∃v,e=.returned v)∧Heap w0 (J xs.length::A'++R) W'
def Qq1 (w0:World) (L:List SA):Exit→Act→World→Prop
 |.normal,_,W=>Heap w0 L W
 |_,_,_=>False
theorem Qde {α:Type} {w0:World} {g:Operand} {ps:Array Tmp} {assign body:Code} {n:Nat} {Q:Exit→Act→World→Prop} {a:Act} {w:World}
 {gf:Nat} {lb:Array Value} (hg:a.eval g=.func (.func gf) #[] lb) (eg:∀args w,(callFunc gf args).run Tryz.prog w=.ok (.enter gf args) w) (hps:ps.size=1)
 (A A' R:List SA) (xs:List α) (give:α→Value→SA) (hit:Gives w0 gf lb A A' xs give) (J:Nat→SA) (h0:Heap w0 (J 0::A++R) w) (M:Nat→α→Value→Act→SA)
 (hassign:∀(l k:Nat) (x:α) (v:Value) (X:List SA) (W:World) (K:Act→World→Prop),xs[k]? =some x→Heap w0 (give x v::J k::X) W→(∀a' W',Heap w0 (M k x v a'::X) W'→K a' W')→
   assign.wpIn (Fence.wide.inRound l) n Tryz.prog (Exit.then K (fun _ _ _=>False)) {tmps:=(ps.zip #[v]).foldl (fun t (p,v)=>t.setIfInBounds p v) a.tmps,defers:= []} W)
 (hbody:∀(l k:Nat) (x:α) (v:Value) (a':Act) (X:List SA) (W:World),xs[k]? =some x→Heap w0 (M k x v a'::X) W→body.wpIn (Fence.wide.inRound l) n Tryz.prog (Qq1 w0 (J (k+1)::X)) a' W)
 (hdone:∀(D:Nat) (W:World),Heap w0 (J xs.length::.pts D (.deferred (some []))::A'++R) W→Q .normal {a with defers:= {target:=.collected D,args:= #[]}::a.defers} W):
 (Code.rangeFunc g ps assign body).wpIn Fence.wide (n+2) Tryz.prog Q a w:=by
 refine wpIn_rangeFunc ?_;intro fn hfn;obtain ⟨rec,hrec⟩:∃rec:LoopState→Option Code→Loop,rec=fun st pe=> {state:=st,pending:=pe,fn,tmps:=a.tmps,params:=ps,assign,body,defers:=w.heap.size}:=⟨_,rfl⟩;obtain ⟨W1,hW1⟩:∃W1,(w.alloc (.deferred (some []))).alloc (.loop (rec .ready none))=W1:=⟨_,rfl⟩;refine ⟨w.heap.size+1,[{target:=.collected w.heap.size,args:= #[]}],W1,{target:=.fn (.func gf) lb,args:= #[.func (.yield (w.heap.size+1)) #[] #[]]},W1,gf,
  #[.func (.yield (w.heap.size+1)) #[] #[]]++lb,W1,?_,?_,?_,?_,fun h=>by simp [Fence.wide] at h,?_⟩
 rw [←hW1,hrec];exact run_enterLoop_outer _ _ _ _ _
 ·simp only [resolve,hg];simp [go_sem]
 intro f' hf';trivial
 ·simp [invoke,go_sem,eg]
 ·have h1:Heap w0 (.pts (w.heap.size+1) (.loop (rec .ready none))::.pts w.heap.size (.deferred (some []))::J 0::A++R) ((w.alloc (.deferred (some []))).alloc (.loop (rec .ready none))):=
   Heap.nAt (Heap.nAt h0 _ rfl) _ (by simp)
  have h2:Heap w0 (SA.star (J 0) (.pts (w.heap.size+1) (.loop (rec .ready none)))::A++(.pts w.heap.size (.deferred (some []))::R)) ((w.alloc (.deferred (some []))).alloc (.loop (rec .ready none))):=by
   refine Heap.Xx (h1.perm ?_);refine List.Perm.trans (List.Perm.cons _ (List.Perm.swap (J 0) _ _)) ?_;refine List.Perm.trans (List.Perm.swap (J 0) _ _) ?_;refine List.Perm.cons _ (List.Perm.cons _ ?_);exact List.perm_middle.symm
  rw [hW1] at h2;refine (hit n (w.heap.size+1) (fun k=>SA.star (J k) (.pts (w.heap.size+1) (.loop (rec .ready none)))) (.pts w.heap.size (.deferred (some []))::R) _ ?_ h2).mono ?_
  ·intro k x hk v X W h;have h:=Heap.XF (h.frt 1 rfl);have hl:=h.at 1 rfl;have hy:=run_yield (P:=Tryz.prog) (args:= #[v]) hl (by rw [hrec];simp [hps]);rw [hrec] at hy;refine ⟨fn,_,assign,body,hy,roundIn_of_wpIn hfn (hassign _ k x v _ W _ hk (Heap.perm (l':=give x v::J k::.pts (w.heap.size+1) (.loop (rec .ready none))::X) h (List.Perm.trans (List.perm_middle (l₁:= [J k,.pts (w.heap.size+1) (.loop (rec .ready none))])) (List.Perm.refl _))) ?_)⟩;intro a1 W1 h1;have hl1:=h1.at 1 rfl;refine ⟨_,run_beginRound hl1 (by rw [hrec]),?_⟩;refine wpIn_mono (hbody _ k x v a1 _ _ hk (h1.putAt 1 rfl _)) ?_;rintro e a3 W3 hp;cases e with
   |normal=>
    have hp:Heap w0 _ W3:=hp;have hl3:=hp.at 1 rfl;refine ⟨_,_,run_endRound (P:=Tryz.prog) none hl3,rfl,?_⟩;have:=Heap.Xx (hp.putAt 1 rfl (.loop (rec .ready none)));rw [hrec] at this⊢;exact this
   |_=>exact (show False from hp).elim
  rintro e W2 ⟨⟨v,rfl⟩,h⟩;have h:=Heap.XF h;have hl:=h.at 1 rfl;subst hrec;refine ⟨none,_,run_endLoop (P:=Tryz.prog) hl (by simp),hdone _ _ ?_⟩;refine Heap.perm (Heap.drop (Heap.frt (h.putAt 1 rfl _) 1 rfl)) ?_;exact List.Perm.cons _ List.perm_middle
def QK (a:Act) (ps:Array Tmp) (slots:List Tmp) (v:Value):Act:= {tmps:=slots.foldl (fun t p=>t.setIfInBounds p v) ((ps.zip #[v]).foldl (fun t (p,v)=>t.setIfInBounds p v) a.tmps),defers:= []}
theorem Qmp {α:Type} {w0:World} {g:Operand} {ps:Array Tmp} {assign body:Code} {n:Nat} {Q:Exit→Act→World→Prop} {a:Act} {w:World}
 {gf:Nat} {lb:Array Value} (hg:a.eval g=.func (.func gf) #[] lb) (eg:∀args w,(callFunc gf args).run Tryz.prog w=.ok (.enter gf args) w) (hps:ps.size=1)
 (A A' R:List SA) (xs:List α) (give:α→Value→SA) (hit:Gives w0 gf lb A A' xs give) (J:Nat→SA) (h0:Heap w0 (J 0::A++R) w) (slots:List Tmp)
 (hassign:∀(l:Nat) (v:Value) (W:World) (K:Act→World→Prop),K (QK a ps slots v) W→assign.wpIn (Fence.wide.inRound l) n Tryz.prog (Exit.then K (fun _ _ _=>False)) (QK a ps [] v) W)
 (hbody:∀(l k:Nat) (x:α) (v:Value) (X:List SA) (W:World),xs[k]? =some x→Heap w0 (give x v::J k::X) W→body.wpIn (Fence.wide.inRound l) n Tryz.prog (Qq1 w0 (J (k+1)::X)) (QK a ps slots v) W)
 (hdone:∀(D:Nat) (W:World),Heap w0 (J xs.length::.pts D (.deferred (some []))::A'++R) W→Q .normal {a with defers:= {target:=.collected D,args:= #[]}::a.defers} W):
 (Code.rangeFunc g ps assign body).wpIn Fence.wide (n+2) Tryz.prog Q a w:=by
 refine Qde hg eg hps A A' R xs give hit J h0 (fun k x v a'=>.when (a'=QK a ps slots v) (SA.star (give x v) (J k))) ?_ ?_ hdone;intro l k x v X W K hk h hK;exact hassign l v W K (hK _ _ (Heap.QZ rfl h.Xx));intro l k x v a' X W hk h;obtain ⟨he,h2⟩:=h.QT;subst he;exact hbody l k x v X W hk h2.XF
theorem Qgt {α:Type} {w0:World} {g:Operand} {ps:Array Tmp} {assign body:Code} {Q:Exit→Act→World→Prop} {a:Act} {w:World}
 {gf:Nat} {lb:Array Value} (hg:a.eval g=.func (.func gf) #[] lb) (eg:∀args w,(callFunc gf args).run Tryz.prog w=.ok (.enter gf args) w) (hps:ps.size=1)
 (A A' R:List SA) (xs:List α) (give:α→Value→SA) (hit:Gives w0 gf lb A A' xs give) (J:Nat→SA) (h0:Heap w0 (J 0::A++R) w) (slots:List Tmp)
 (hassign:∀(l:Nat) (v:Value) (W:World) (K:Act→World→Prop),K (QK a ps slots v) W→assign.wpIn (Fence.wide.inRound l) 7 Tryz.prog (Exit.then K (fun _ _ _=>False)) (QK a ps [] v) W)
 (hbody:∀(l k:Nat) (x:α) (v:Value) (X:List SA) (W:World),xs[k]? =some x→Heap w0 (give x v::J k::X) W→body.wpIn (Fence.wide.inRound l) 7 Tryz.prog (Qq1 w0 (J (k+1)::X)) (QK a ps slots v) W)
 (hdone:∀(D:Nat) (W:World),Heap w0 (J xs.length::.pts D (.deferred (some []))::A'++R) W→Q .normal {a with defers:= {target:=.collected D,args:= #[]}::a.defers} W):
 (Code.rangeFunc g ps assign body).wp Tryz.prog Q a w:=
 wpIn_wide.1 (Qmp hg eg hps A A' R xs give hit J h0 slots hassign hbody hdone)
theorem cmk {f:FuncId} {fn:Func} {c:Code} {args:Array Value} {w:World} {R:Ending→World→Prop}
 (hf:Tryz.prog.funcs[f]? =some fn) (hb:fn.body=some c)
 (h:c.wp Tryz.prog (bodyPostM Fence.wide 9 Tryz.prog fn R) {tmps:=args++Array.replicate (fn.ntmps-args.size) undef,defers:= []} w):Calls Tryz.prog f args w R:=
 callsIn_wide.1 (callsIn_of_wp_marks (n:=9) hf hb trivial (wpIn_wide.2 h) rfl)
section
variable {w0 w:World} {l:List SA} {ops:Array Oper} {rest:List Oper} {o:Oper} {a:Act} {Q:Exit→Act→World→Prop} {F:Fence} {N:Nat}
theorem Dn (h:Heap w0 l w) (i:Nat) (v:Value) (T:TypeId) (size n:Nat) (xs:List Value) (e:l[i]? =some (.slc v T size n xs)) (hgd:o.guard=none) (s x:Operand) (t:TypeId)
 (ho:o.op=.call {callee:=.builtin .append,args:= #[s,x],argTypes:= #[t,t]})
 (ti:TypeInfo) (z:Value) (bytes:Nat) (ht:Tryz.prog.underlying t=some (.slice T)) (hi:Tryz.prog.info? T=some ti) (hz:ti.zero=some z)
 (hsize:ti.size=size) (hby:ti.bytes=bytes) (hzs:z.cells.size=size) (hsz:0<size) (hs:a.eval s=v)
 (ad:Addr) (m c:Nat) (news:List Value) (hx:a.eval x=.slice (some ad) m c) (hl:news.length=m*size) (hnews:∀j u,news[j]? =some u→w.cell? (ad.add j)=some u) (h1:∀u∈news,u.oneCell'=true)
 (h63:n+m≤1000000) (hb:bytes≤1000) (hpos:0<n+m)
 (hK:∀g cap w',Heap w0 (l.set i (.slc (.slice (some ⟨g,0,none⟩) (n+m) cap) T size (n+m) (xs++news))) w'→w.grownBy w' v.ownBlock→wpListIn F N Tryz.prog ops Q rest (a.put o.dst (.slice (some ⟨g,0,none⟩) (n+m) cap)) w'):
 wpListIn F N Tryz.prog ops Q (o::rest) a w:=by
 have hbb:(n+m)*bytes≤140737488355328:=by
  have:(n+m)*bytes≤1000000*1000:=Nat.mul_le_mul h63 hb;omega
 refine wpListIn_plain hgd fun K hK'=>?_;obtain ⟨v',w',hrun,h2,h3,h4,h5⟩:=run_append_own_at (P:=Tryz.prog) w 0 t o.type T ti z size bytes ht hi hz hsize hby hzs hsz v n xs (h.row i e) ad m c news hl hnews h1 (by unfold maxLen;omega) hbb (Nat.zero_le _);unfold Oper.wpIn;refine ⟨?_,?_⟩;simp [Oper.about,ho,resolve,Target.leads,Sem.run_pure];rw [Oper.semAt_plain F _ _ (by rw [ho];intro c hc';cases hc')];simp [execOp,ho,resolve,invoke,builtin,hs,hx,hrun,Result.andThen];rcases h2.2 with ⟨_,hn⟩|⟨g,cap,cur,rfl,r⟩;omega;exact hK' _ _ (hK g cap w' (h.Uc i e h2 h3 h5) h3)
end
def Uu {α:Type} (w0:World) (gf:Nat) (lb:Array Value) (A:List SA) (xs:List α) (enc:α→Array Value):Prop:=
 ∀(n l:Nat) (J Jx:Nat→SA) (R:List SA) (W:World),
  (∀k x,xs[k]? =some x→∀X W,Heap w0 (J k::X) W→YieldAt Fence.wide n Tryz.prog l (enc x) W fun e W'=>(e=.returned (.bool true)∧Heap w0 (J (k+1)::X) W')∨(e=.returned (.bool false)∧Heap w0 (Jx k::X) W'))→
  Heap w0 (J 0::A++R) W→CallsIn Fence.wide (n+1) Tryz.prog gf (#[.func (.yield l) #[] #[]]++lb) W fun e W'=>(∃v,e=.returned v)∧(Heap w0 (J xs.length::A++R) W'∨∃k,k<xs.length∧Heap w0 (Jx k::A++R) W')
def Qes (w0:World) (c:Code) (L Lx:List SA):Exit→Act→World→Prop
 |.normal,_,W=>Heap w0 L W
 |.ret,_,W=>c=.ret∧Heap w0 Lx W
 |.exit id,_,W=>c=.exit id∧Heap w0 Lx W
 |_,_,_=>False
theorem Qjk {α:Type} {w0:World} {g:Operand} {ps:Array Tmp} {assign body:Code} {n:Nat} {Q:Exit→Act→World→Prop} {a:Act} {w:World}
 {gf:Nat} {lb:Array Value} (hg:a.eval g=.func (.func gf) #[] lb) (eg:∀args w,(callFunc gf args).run Tryz.prog w=.ok (.enter gf args) w)
 (A R:List SA) (xs:List α) (enc:α→Array Value) (hps:∀x,(enc x).size=ps.size) (hit:Uu w0 gf lb A xs enc) (c:Code) (J Jx:Nat→SA) (h0:Heap w0 (J 0::A++R) w) (M:Nat→α→Act→SA)
 (hassign:∀(l k:Nat) (x:α) (X:List SA) (W:World) (K:Act→World→Prop),xs[k]? =some x→Heap w0 (J k::X) W→(∀a' W',Heap w0 (M k x a'::X) W'→K a' W')→assign.wpIn (Fence.wide.inRound l) n Tryz.prog (Exit.then K (fun _ _ _=>False)) {tmps:=(ps.zip (enc x)).foldl (fun t (p,v)=>t.setIfInBounds p v) a.tmps,defers:= []} W)
 (hbody:∀(l k:Nat) (x:α) (a':Act) (X:List SA) (W:World),xs[k]? =some x→Heap w0 (M k x a'::X) W→body.wpIn (Fence.wide.inRound l) n Tryz.prog (Qes w0 c (J (k+1)::X) (Jx k::X)) a' W)
 (hdone:∀(D:Nat) (W:World),Heap w0 (J xs.length::.pts D (.deferred (some []))::A++R) W→Q .normal {a with defers:= {target:=.collected D,args:= #[]}::a.defers} W)
 (hstop:∀(D k:Nat) (W:World),k<xs.length→Heap w0 (Jx k::.pts D (.deferred (some []))::A++R) W→c.wpIn Fence.wide (n+2) Tryz.prog Q {a with defers:= {target:=.collected D,args:= #[]}::a.defers} W):
 (Code.rangeFunc g ps assign body).wpIn Fence.wide (n+2) Tryz.prog Q a w:=by
 refine wpIn_rangeFunc ?_;intro fn hfn;obtain ⟨rec,hrec⟩:∃rec:LoopState→Option Code→Loop,rec=fun st pe=> {state:=st,pending:=pe,fn,tmps:=a.tmps,params:=ps,assign,body,defers:=w.heap.size}:=⟨_,rfl⟩;obtain ⟨W1,hW1⟩:∃W1,(w.alloc (.deferred (some []))).alloc (.loop (rec .ready none))=W1:=⟨_,rfl⟩;refine ⟨w.heap.size+1,[{target:=.collected w.heap.size,args:= #[]}],W1,{target:=.fn (.func gf) lb,args:= #[.func (.yield (w.heap.size+1)) #[] #[]]},W1,gf,
  #[.func (.yield (w.heap.size+1)) #[] #[]]++lb,W1,?_,?_,?_,?_,fun h=>by simp [Fence.wide] at h,?_⟩
 rw [←hW1,hrec];exact run_enterLoop_outer _ _ _ _ _
 ·simp only [resolve,hg];simp [go_sem]
 intro f' hf';trivial
 ·simp [invoke,go_sem,eg]
 ·have h1:Heap w0 (.pts (w.heap.size+1) (.loop (rec .ready none))::.pts w.heap.size (.deferred (some []))::J 0::A++R) ((w.alloc (.deferred (some []))).alloc (.loop (rec .ready none))):=
   Heap.nAt (Heap.nAt h0 _ rfl) _ (by simp)
  have h2:Heap w0 (SA.star (J 0) (.pts (w.heap.size+1) (.loop (rec .ready none)))::A++(.pts w.heap.size (.deferred (some []))::R)) ((w.alloc (.deferred (some []))).alloc (.loop (rec .ready none))):=by
   refine Heap.Xx (h1.perm ?_);refine List.Perm.trans (List.Perm.cons _ (List.Perm.swap (J 0) _ _)) ?_;refine List.Perm.trans (List.Perm.swap (J 0) _ _) ?_;refine List.Perm.cons _ (List.Perm.cons _ ?_);exact List.perm_middle.symm
  rw [hW1] at h2;refine (hit n (w.heap.size+1) (fun k=>SA.star (J k) (.pts (w.heap.size+1) (.loop (rec .ready none)))) (fun k=>SA.star (Jx k) (.pts (w.heap.size+1) (.loop (rec .done (some c))))) (.pts w.heap.size (.deferred (some []))::R) _ ?_ h2).mono ?_
  ·intro k x hk X W h;have h:=Heap.XF h;have hl:=h.at 1 rfl;have hy:=run_yield (P:=Tryz.prog) (args:=enc x) hl (by rw [hrec];exact hps x);rw [hrec] at hy;refine ⟨fn,_,assign,body,hy,roundIn_of_wpIn hfn (hassign _ k x _ W _ hk h ?_)⟩;intro a1 Wa ha;have hla:=ha.at 1 rfl;refine ⟨_,run_beginRound hla (by rw [hrec]),?_⟩;refine wpIn_mono (hbody _ k x a1 _ _ hk (ha.putAt 1 rfl _)) ?_;rintro e a3 W3 hp;cases e with
   |normal=>
    have hp:Heap w0 _ W3:=hp;have hl3:=hp.at 1 rfl;refine ⟨_,_,run_endRound (P:=Tryz.prog) none hl3,.inl ⟨rfl,?_⟩⟩;have:=Heap.Xx (hp.putAt 1 rfl (.loop (rec .ready none)));rw [hrec] at this⊢;exact this
   |ret=>
    obtain ⟨rfl,hp⟩:=hp;have hl3:=hp.at 1 rfl;refine ⟨_,_,run_endRound (P:=Tryz.prog) (some .ret) hl3,.inr ⟨rfl,?_⟩⟩;have:=Heap.Xx (hp.putAt 1 rfl (.loop (rec .done (some .ret))));rw [hrec] at this⊢;exact this
   |exit id=>
    obtain ⟨rfl,hp⟩:=hp;have hl3:=hp.at 1 rfl;refine ⟨_,_,run_endRound (P:=Tryz.prog) (some (.exit id)) hl3,.inr ⟨rfl,?_⟩⟩;have:=Heap.Xx (hp.putAt 1 rfl (.loop (rec .done (some (.exit id)))));rw [hrec] at this⊢;exact this
   |_=>exact (show False from hp).elim
  rintro e W2 ⟨⟨v,rfl⟩,h|⟨k,hk,h⟩⟩;have h:=Heap.XF h;have hl:=h.at 1 rfl;subst hrec;refine ⟨none,_,run_endLoop (P:=Tryz.prog) hl (by simp),hdone _ _ ?_⟩;refine Heap.perm (Heap.drop (Heap.frt (h.putAt 1 rfl _) 1 rfl)) ?_;exact List.Perm.cons _ List.perm_middle;have h:=Heap.XF h;have hl:=h.at 1 rfl;subst hrec;refine ⟨some c,_,run_endLoop (P:=Tryz.prog) hl (by simp),hstop _ k _ hk ?_⟩;refine Heap.perm (Heap.drop (Heap.frt (h.putAt 1 rfl _) 1 rfl)) ?_;exact List.Perm.cons _ List.perm_middle
theorem Qfy {α:Type} {w0:World} {g:Operand} {ps:Array Tmp} {assign body:Code} {Q:Exit→Act→World→Prop} {a:Act} {w:World}
 {gf:Nat} {lb:Array Value} (hg:a.eval g=.func (.func gf) #[] lb) (eg:∀args w,(callFunc gf args).run Tryz.prog w=.ok (.enter gf args) w)
 (A R:List SA) (xs:List α) (enc:α→Array Value) (hps:∀x,(enc x).size=ps.size) (hit:Uu w0 gf lb A xs enc) (c:Code) (J Jx:Nat→SA) (h0:Heap w0 (J 0::A++R) w) (M:Nat→α→Act→SA)
 (hassign:∀(l k:Nat) (x:α) (X:List SA) (W:World) (K:Act→World→Prop),xs[k]? =some x→Heap w0 (J k::X) W→(∀a' W',Heap w0 (M k x a'::X) W'→K a' W')→assign.wpIn (Fence.wide.inRound l) 7 Tryz.prog (Exit.then K (fun _ _ _=>False)) {tmps:=(ps.zip (enc x)).foldl (fun t (p,v)=>t.setIfInBounds p v) a.tmps,defers:= []} W)
 (hbody:∀(l k:Nat) (x:α) (a':Act) (X:List SA) (W:World),xs[k]? =some x→Heap w0 (M k x a'::X) W→body.wpIn (Fence.wide.inRound l) 7 Tryz.prog (Qes w0 c (J (k+1)::X) (Jx k::X)) a' W)
 (hdone:∀(D:Nat) (W:World),Heap w0 (J xs.length::.pts D (.deferred (some []))::A++R) W→Q .normal {a with defers:= {target:=.collected D,args:= #[]}::a.defers} W)
 (hstop:∀(D k:Nat) (W:World),k<xs.length→Heap w0 (Jx k::.pts D (.deferred (some []))::A++R) W→c.wp Tryz.prog Q {a with defers:= {target:=.collected D,args:= #[]}::a.defers} W):
 (Code.rangeFunc g ps assign body).wp Tryz.prog Q a w:=
 wpIn_wide.1 (Qjk hg eg A R xs enc hps hit c J Jx h0 M hassign hbody hdone (fun D k W hk h=>wpIn_wide.2 (hstop D k W hk h)))
theorem Qtx {α:Type} {w0:World} {g:Operand} {ps:Array Tmp} {assign body:Code} {Q:Exit→Act→World→Prop} {a:Act} {w:World}
 {gf:Nat} {lb:Array Value} (hg:a.eval g=.func (.func gf) #[] lb) (eg:∀args w,(callFunc gf args).run Tryz.prog w=.ok (.enter gf args) w)
 (A R:List SA) (xs:List α) (enc:α→Array Value) (hps:∀x,(enc x).size=ps.size) (hit:Uu w0 gf lb A xs enc) (c:Code) (J Jx:Nat→SA) (h0:Heap w0 (J 0::A++R) w) (a₁:α→Act)
 (hassign:∀(l:Nat) (x:α) (W:World) (K:Act→World→Prop),K (a₁ x) W→assign.wpIn (Fence.wide.inRound l) 7 Tryz.prog (Exit.then K (fun _ _ _=>False)) {tmps:=(ps.zip (enc x)).foldl (fun t (p,v)=>t.setIfInBounds p v) a.tmps,defers:= []} W)
 (hbody:∀(l k:Nat) (x:α) (X:List SA) (W:World),xs[k]? =some x→Heap w0 (J k::X) W→body.wpIn (Fence.wide.inRound l) 7 Tryz.prog (Qes w0 c (J (k+1)::X) (Jx k::X)) (a₁ x) W)
 (hdone:∀(D:Nat) (W:World),Heap w0 (J xs.length::.pts D (.deferred (some []))::A++R) W→Q .normal {a with defers:= {target:=.collected D,args:= #[]}::a.defers} W)
 (hstop:∀(D k:Nat) (W:World),k<xs.length→Heap w0 (Jx k::.pts D (.deferred (some []))::A++R) W→c.wp Tryz.prog Q {a with defers:= {target:=.collected D,args:= #[]}::a.defers} W):
 (Code.rangeFunc g ps assign body).wp Tryz.prog Q a w:=by
 refine Qfy hg eg A R xs enc hps hit c J Jx h0 (fun k x a'=>.when (a'=a₁ x) (J k)) ?_ ?_ hdone hstop;intro l k x X W K hk h hK;exact hassign l x W K (hK _ _ (Heap.QZ rfl h));intro l k x a' X W hk h;obtain ⟨he,h2⟩:=h.QT;subst he;exact hbody l k x X W hk h2
def QC (a:Act) (ps:Array Tmp) (slots:List (Tmp×Nat)) (vs:Array Value):Act:=
 {tmps:=slots.foldl (fun t p=>t.setIfInBounds p.1 (vs.getD p.2 undef)) ((ps.zip vs).foldl (fun t (p,v)=>t.setIfInBounds p v) a.tmps),defers:= []}
theorem Vb {α:Type} {w0:World} {g:Operand} {ps:Array Tmp} {assign body:Code} {Q:Exit→Act→World→Prop} {a:Act} {w:World}
 {gf:Nat} {lb:Array Value} (hg:a.eval g=.func (.func gf) #[] lb) (eg:∀args w,(callFunc gf args).run Tryz.prog w=.ok (.enter gf args) w)
 (A R:List SA) (xs:List α) (enc:α→Array Value) (hps:∀x,(enc x).size=ps.size) (hit:Uu w0 gf lb A xs enc) (c:Code) (J Jx:Nat→SA) (h0:Heap w0 (J 0::A++R) w) (slots:List (Tmp×Nat))
 (hassign:∀(l:Nat) (x:α) (W:World) (K:Act→World→Prop),K (QC a ps slots (enc x)) W→assign.wpIn (Fence.wide.inRound l) 7 Tryz.prog (Exit.then K (fun _ _ _=>False)) (QC a ps [] (enc x)) W)
 (hbody:∀(l k:Nat) (x:α) (X:List SA) (W:World),xs[k]? =some x→Heap w0 (J k::X) W→body.wpIn (Fence.wide.inRound l) 7 Tryz.prog (Qes w0 c (J (k+1)::X) (Jx k::X)) (QC a ps slots (enc x)) W)
 (hdone:∀(D:Nat) (W:World),Heap w0 (J xs.length::.pts D (.deferred (some []))::A++R) W→Q .normal {a with defers:= {target:=.collected D,args:= #[]}::a.defers} W)
 (hstop:∀(D k:Nat) (W:World),k<xs.length→Heap w0 (Jx k::.pts D (.deferred (some []))::A++R) W→c.wp Tryz.prog Q {a with defers:= {target:=.collected D,args:= #[]}::a.defers} W):
 (Code.rangeFunc g ps assign body).wp Tryz.prog Q a w:=
 Qtx hg eg A R xs enc hps hit c J Jx h0 (fun x=>QC a ps slots (enc x)) hassign hbody hdone hstop
def Qpj (a:Act) (ps:Array Tmp) (slots:List (Tmp×Nat)) (sb:Tmp) (vs:Array Value) (p:Nat):Act:=
 {tmps:=(QC a ps slots vs).tmps.setIfInBounds sb (.pointer (some ⟨p,0,none⟩)),defers:= []}
theorem Qua {α:Type} {w0:World} {g:Operand} {ps:Array Tmp} {assign body:Code} {Q:Exit→Act→World→Prop} {a:Act} {w:World}
 {gf:Nat} {lb:Array Value} (hg:a.eval g=.func (.func gf) #[] lb) (eg:∀args w,(callFunc gf args).run Tryz.prog w=.ok (.enter gf args) w)
 (A R:List SA) (xs:List α) (enc:α→Array Value) (hps:∀x,(enc x).size=ps.size) (hit:Uu w0 gf lb A xs enc) (c:Code) (J Jx:Nat→SA) (h0:Heap w0 (J 0::A++R) w) (slots:List (Tmp×Nat)) (sb:Tmp) (cs:α→Array Value) (T:TypeId)
 (hassign:∀(l k:Nat) (x:α) (X:List SA) (W:World) (K:Act→World→Prop),xs[k]? =some x→Heap w0 (J k::X) W→(∀p W',Heap w0 (.pts p (.cells (cs x) T)::J k::X) W'→K (Qpj a ps slots sb (enc x) p) W')→assign.wpIn (Fence.wide.inRound l) 7 Tryz.prog (Exit.then K (fun _ _ _=>False)) (QC a ps [] (enc x)) W)
 (hbody:∀(l k:Nat) (x:α) (p:Nat) (X:List SA) (W:World),xs[k]? =some x→Heap w0 (.pts p (.cells (cs x) T)::J k::X) W→body.wpIn (Fence.wide.inRound l) 7 Tryz.prog (Qes w0 c (J (k+1)::X) (Jx k::X)) (Qpj a ps slots sb (enc x) p) W)
 (hdone:∀(D:Nat) (W:World),Heap w0 (J xs.length::.pts D (.deferred (some []))::A++R) W→Q .normal {a with defers:= {target:=.collected D,args:= #[]}::a.defers} W)
 (hstop:∀(D k:Nat) (W:World),k<xs.length→Heap w0 (Jx k::.pts D (.deferred (some []))::A++R) W→c.wp Tryz.prog Q {a with defers:= {target:=.collected D,args:= #[]}::a.defers} W):
 (Code.rangeFunc g ps assign body).wp Tryz.prog Q a w:=by
 refine Qfy hg eg A R xs enc hps hit c J Jx h0 (fun k x a'=>.ex fun p=>.when (a'=Qpj a ps slots sb (enc x) p) (SA.star (.pts p (.cells (cs x) T)) (J k))) ?_ ?_ hdone hstop;intro l k x X W K hk h hK;exact hassign l k x X W K hk h (fun p W' h'=>hK _ _ (Heap.Yr (f:=fun p'=>.when (Qpj a ps slots sb (enc x) p=Qpj a ps slots sb (enc x) p') (SA.star (.pts p' (.cells (cs x) T)) (J k))) p (Heap.QZ rfl h'.Xx)));intro l k x a' X W hk h;obtain ⟨p,h⟩:=h.YL;obtain ⟨he,h2⟩:=h.QT;subst he;exact hbody l k x p X W hk h2.XF
end Go.Proofs.YtlnghlamnehfjaaGreatDoor.S
