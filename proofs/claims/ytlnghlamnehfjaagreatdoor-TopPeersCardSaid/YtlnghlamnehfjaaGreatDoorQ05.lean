/- Part Q05. -/
import Derived.Test.YtlnghlamnehfjaaGreatDoorQ01
import Derived.WideKeyEntry
set_option linter.unusedVariables false
set_option linter.unusedSimpArgs false
set_option maxRecDepth 100000
set_option maxHeartbeats 64000000
namespace Go.Proofs.YtlnghlamnehfjaaGreatDoor.S
open Go.RowKit Go.Maps Go.ChangeMaps Go.MapKept
open Go.WideElems (Fit rd rg pl findIdx_born findIdx_arr modify_last set_self)
theorem zS21 {P:Prop} (h:P:=by
 simp [Instr.entryStore,MapKept.run_getObj_map hw2,asInt,asIntOf,goInt,hidx,hmod,MapKept.run_setObj_map _ hw2,Result.andThen,setBlock]):P:=h
def Qlp (es:Array MapEntry) (clock:Nat) (m:IM Value):Prop:=Fit Tryz.prog 3 HV es clock∧DD m=.map ((es.toList.map (rg Tryz.prog 3 HV)).foldr DataW.insert [])
def SA.mapE (b:Nat) (m:IM Value) (k:Int) (st:Nat):SA where
 holds F w:=(∀k,F k↔k=b)∧∃es clock,w.heap[b]? =some (.map es clock)∧∀val,∃es' clock',Qlp es' clock' (Qt m k val)∧
  ∀(t:TypeId) (w2:World),w2.heap[b]? =some (.map es clock)→(Instr.entryStore t (.map (some b)) (goInt st) val).run Tryz.prog w2=.ok () (setBlock w2 b (.map es' clock'))
 here h hk:=by
  obtain rfl:=(h.1 _).1 hk;obtain ⟨es,clock,hb,_⟩:=h.2;exact (Array.getElem?_eq_some_iff.1 hb).1
 loc h e:=by
  obtain ⟨h1,es,clock,hb,r⟩:=h;exact ⟨h1,es,clock,(e _ ((h1 _).2 rfl)).trans hb,r⟩
theorem Qlp.owns {es:Array MapEntry} {clock:Nat} {m:IM Value} {w:World} {b:Nat} (h:Qlp es clock m) (hb:w.heap[b]? =some (.map es clock)):w.ownsMap Tryz.prog 3 HV b m.length (DD m):=by
 refine ⟨es,clock,hb,h.1,?_,h.2⟩;have:=congrArg Maps.size h.2;rw [Qi1] at this;simp only [Maps.size,length_sorted] at this;simp at this;omega
theorem Qr0 {w:World} {b:Nat} {m:IM Value} {t te:TypeId} {z:Value} (h:w.ownsMap Tryz.prog 3 HV b m.length (DD m)) (ht:Tryz.prog.underlying t=some (.map 3 te)) (hz:∀w,(zeroValue te).run Tryz.prog w=.ok z w) (hn:m.length<maxLen) {k:Int} (h0: -9223372036854775808≤k) (h1:k≤9223372036854775807):
 ∃(st:Nat) (es1:Array MapEntry) (clock1:Nat),(Instr.mapEntry t (.map (some b)) (.int .i64 k)).run Tryz.prog w=.ok (.tuple #[(Qc m k).getD z,goInt st]) (setBlock w b (.map es1 clock1))∧
  ∀val,∃es' clock',Qlp es' clock' (Qt m k val)∧
   ∀(t:TypeId) (w2:World),w2.heap[b]? =some (.map es1 clock1)→(Instr.entryStore t (.map (some b)) (goInt st) val).run Tryz.prog w2=.ok () (setBlock w2 b (.map es' clock')):=by
 have hkey:=keyOf_int_mk Tryz.underlying3 (Qdt h0 h1);have hlk:=Vg h false ht (hz w) h0 h1;obtain ⟨es,clock,hb,F,hs,hD⟩:=h;have hput:∀val,∃es' clock',(Instr.mapUpdate t (.map (some b)) (.int .i64 k) val).run Tryz.prog w=.ok () (setBlock w b (.map es' clock'))∧Qlp es' clock' (Qt m k val):=by
  intro val;obtain ⟨es',clock',hrun,F',hput,_⟩:=Maps.fit_store (R:=HV) (R':=HV) TF ht hb F (by omega) (fun _ _ _ _ hz=>hz) hkey (val:=val) (yv:=(.held val,[])) rfl;refine ⟨es',clock',hrun,F',?_⟩;rw [hput,←Qns,hD];exact DataW.put_eq _ _ _
 have heq:∀{x y:Array MapEntry} {c d:Nat},setBlock w b (.map x c)=setBlock w b (.map y d)→x=y∧c=d:=by
  intro x y c d e;have e2:(setBlock w b (.map x c)).heap[b]? =(setBlock w b (.map y d)).heap[b]?:=by rw [e]
  rw [heap_setBlock_same hb,heap_setBlock_same hb] at e2;simpa using e2
 obtain ⟨s1,s2,_⟩:=F.stamped;rcases TF.find w hkey es.toList F.keys with ⟨f1,f2⟩|⟨j,e0,f1,f2,f3⟩
 ·refine ⟨clock,es.push ⟨.int .i64 k,z,clock⟩,clock+1,?_,fun val=>?_⟩
  ·have:(Qc m k).getD z=z:=by
    have:=hlk;simp [Instr.lookup,run_underlying ht,MapKept.run_getObj_map hb,TF.check w _ hkey,f1,hz,Result.andThen] at this;exact this.symm
   rw [this];simp [Instr.mapEntry,run_underlying ht,MapKept.run_getObj_map hb,TF.check w false hkey,f1,hz,MapKept.run_setObj_map _ hb,Result.andThen,setBlock]
  ·obtain ⟨es',clock',hr,hok⟩:=hput val;have hr2:(Instr.mapUpdate t (.map (some b)) (.int .i64 k) val).run Tryz.prog w=.ok () (setBlock w b (.map (es.push ⟨.int .i64 k,val,clock⟩) (clock+1))):=by
    simp [Instr.mapUpdate,run_underlying ht,MapKept.run_getObj_map hb,TF.check w false hkey,f1,MapKept.run_setObj_map _ hb,Result.andThen,setBlock]
   rw [hr2] at hr;simp only [Result.ok.injEq,true_and] at hr;obtain ⟨rfl,rfl⟩:=heq hr;refine ⟨_,_,hok,fun t w2 hw2=>?_⟩;have hidx:(es.push ⟨.int .i64 k,z,clock⟩).findIdx? (fun e=>((e.born:Nat):Int)==((clock:Nat):Int))=some es.size:=by
    rw [findIdx_arr];refine findIdx_born (l:=(es.push ⟨.int .i64 k,z,clock⟩).toList) (j:=es.size) (e0:=⟨.int .i64 k,z,clock⟩) ?_ (by simp);simp only [Array.toList_push,List.map_append,List.map_cons,List.map_nil];refine List.nodup_append.2 ⟨s2,by simp,fun a ha c hc e1=>?_⟩;simp only [List.mem_singleton] at hc;obtain ⟨x,hx,rfl⟩:=List.mem_map.1 ha;have:=s1 x hx;omega
   have hmod:(es.push ⟨.int .i64 k,z,clock⟩).modify es.size (fun e=> {e with val:=val})=es.push ⟨.int .i64 k,val,clock⟩:=by
    apply Array.ext';rw [Array.toList_modify,Array.toList_push,Array.toList_push,←Array.length_toList,modify_last]
   exact zS21
 ·have hj:es[j]? =some e0:=by simpa using f2
  have hsame:es.modify j (fun e=> {e with key:=.int .i64 k})=es:=by
   apply Array.ext';rw [Array.toList_modify,modify_eq_set _ _ _ _ f2];have:({e0 with key:=.int .i64 k}:MapEntry)=e0:=by rw [←f3]
   rw [this];exact set_self _ _ _ f2
  refine ⟨e0.born,es,clock,?_,fun val=>?_⟩
  ·have:(Qc m k).getD z=e0.val:=by
    have:=hlk;simp [Instr.lookup,run_underlying ht,MapKept.run_getObj_map hb,TF.check w _ hkey,f1,Result.andThen] at this;exact this.symm
   rw [this];simp [Instr.mapEntry,run_underlying ht,MapKept.run_getObj_map hb,TF.check w false hkey,f1,hj,f3,TF.stays w hkey,hsame,MapKept.run_setObj_map _ hb,Result.andThen,setBlock]
  ·obtain ⟨es',clock',hr,hok⟩:=hput val;have hr2:(Instr.mapUpdate t (.map (some b)) (.int .i64 k) val).run Tryz.prog w=.ok () (setBlock w b (.map (es.modify j (fun e'=> {e' with key:=.int .i64 k,val:=val})) clock)):=by
    simp [Instr.mapUpdate,run_underlying ht,MapKept.run_getObj_map hb,TF.check w false hkey,f1,hj,f3,TF.stays w hkey,MapKept.run_setObj_map _ hb,Result.andThen,setBlock]
   rw [hr2] at hr;simp only [Result.ok.injEq,true_and] at hr;obtain ⟨rfl,rfl⟩:=heq hr;refine ⟨_,_,hok,fun t w2 hw2=>?_⟩;have hidx:es.findIdx? (fun e=>((e.born:Nat):Int)==((e0.born:Nat):Int))=some j:=by
    rw [findIdx_arr];exact findIdx_born s2 f2
   have hmod:es.modify j (fun e=> {e with val:=val})=es.modify j (fun e'=> {e' with key:=.int .i64 k,val:=val}):=by
    apply Array.ext';rw [Array.toList_modify,Array.toList_modify,modify_eq_set _ _ _ _ f2,modify_eq_set _ _ _ _ f2,←f3]
   exact zS21
section
variable {w0 w:World} {l:List SA} {ops:Array Oper} {rest:List Oper} {o:Oper} {a:Act} {Q:Exit→Act→World→Prop}
theorem DX (h:Heap w0 l w) (i:Nat) (b:Nat) (m:IM Value) (e:l[i]? =some (.map b m)) (hg:o.guard=none) (x y:Operand) (t te:TypeId) (hop:o.op=Op.mapEntry t x y)
 (ht:Tryz.prog.underlying t=some (.map 3 te)) (z:Value) (hz:∀w,(zeroValue te).run Tryz.prog w=.ok z w) (hm:a.eval x=.map (some b)) (k:Int) (hk:a.eval y=.int .i64 k) (h0: -9223372036854775808≤k) (h1:k≤9223372036854775807) (hn:m.length<1000000)
 (hK:∀(st:Nat) w',Heap w0 (l.set i (.mapE b m k st)) w'→w.grownBy w' (some b)→wpList Tryz.prog ops Q rest (a.put o.dst (.tuple #[(Qc m k).getD z,.int .i64 st])) w'):wpList Tryz.prog ops Q (o::rest) a w:=by
 refine wpList_plain hg fun K hK'=>?_;obtain ⟨st,es1,c1,hr,hs⟩:=Qr0 (h.owns i e) ht hz (by unfold maxLen;omega) h0 h1;obtain ⟨es0,c0,hb0,_⟩:=h.owns i e;unfold Oper.wp;simp [execOp,hop,hm,hk,hr,Result.andThen];have hg:w.grownBy (setBlock w b (.map es1 c1)) (some b):=⟨rfl,rfl,rfl,by simp [setBlock],fun i _ hi=>heap_setBlock_other hb0 _ (fun e=>hi (by rw [e]))⟩;refine hK' _ _ (hK st _ ?_ hg);refine Heap.perm (l:=.mapE b m k st::l.eraseIdx i) ?_ (Vm e);exact (h.frt i e).turn rfl rfl rfl (by simp [setBlock]) (fun F hF=>⟨fun k hk hn=>hg.block k hk (fun e=>hn ((hF.1 k).2 (Option.some.inj e))),F,⟨hF.1,es1,c1,heap_setBlock_same hb0 _,hs⟩,fun k hk=>.inl hk⟩)
theorem JU (h:Heap w0 l w) (i:Nat) (b:Nat) (m:IM Value) (k:Int) (st:Nat) (e:l[i]? =some (.mapE b m k st)) (hg:o.guard=none) (x y u:Operand) (t:TypeId) (hop:o.op=Op.entryStore t x y u)
 (hm:a.eval x=.map (some b)) (hk:a.eval y=.int .i64 st) (v:Value) (hv:a.eval u=v)
 (hK:∀w',Heap w0 (l.set i (.map b (Qt m k v))) w'→w.grownBy w' (some b)→wpList Tryz.prog ops Q rest (a.put o.dst undef) w'):wpList Tryz.prog ops Q (o::rest) a w:=by
 refine wpList_plain hg fun K hK'=>?_;obtain ⟨hb,F,hF,F1,F2,h1,h2,⟨ha1,es,c,hb0,hs⟩,hl⟩:=h.frt i e;obtain ⟨es',c',hok,hr⟩:=hs v;have hr:=hr t w hb0;unfold Oper.wp;simp only [goInt] at hr;simp [execOp,hop,hm,hk,hv,hr,Result.andThen];have hg:w.grownBy (setBlock w b (.map es' c')) (some b):=⟨rfl,rfl,rfl,by simp [setBlock],fun i _ hi=>heap_setBlock_other hb0 _ (fun e=>hi (by rw [e]))⟩;refine hK' _ _ (hK _ ?_ hg);refine Heap.perm (l:=.map b (Qt m k v)::l.eraseIdx i) ?_ (Vm e);refine (h.frt i e).turn rfl rfl rfl (by simp [setBlock]) (fun F hF=>⟨fun k hk hn=>hg.block k hk (fun e=>hn ((hF.1 k).2 (Option.some.inj e))),F,⟨hF.1,hok.owns (heap_setBlock_same hb0 _)⟩,fun k hk=>.inl hk⟩)
end
end Go.Proofs.YtlnghlamnehfjaaGreatDoor.S
