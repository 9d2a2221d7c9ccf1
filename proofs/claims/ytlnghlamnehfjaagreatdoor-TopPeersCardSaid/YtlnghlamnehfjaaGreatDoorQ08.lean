/- Part Q08. -/
import Derived.Test.YtlnghlamnehfjaaGreatDoorQ01
import Derived.StillTailTactics
import Derived.Deep.QuietTactic
import Derived.BigQuiet
import Derived.Deep.RegionLaw
import Derived.Deep.RegionHeld3
import Derived.Deep.LoopGhost
set_option linter.unusedVariables false
set_option linter.unusedSimpArgs false
set_option maxRecDepth 100000
set_option maxHeartbeats 64000000
namespace Go.Proofs.YtlnghlamnehfjaaGreatDoor.S
open Go.RowKit Go.Maps
def z7:List Value:= [.int .i64 0,.int .i64 0,.int .i64 0,.int .i64 0,.int .i64 0,.int .i64 0,.int .i64 0]
theorem DZ:(Tryz.prog.info? 113).map (fun i=>(i.zero,i.size,i.bytes))=some (some (.agg #[.int .i64 0,.int .i64 0,.int .i64 0,.int .i64 0,.int .i64 0,.int .i64 0,.int .i64 0]),7,56):=by kernel_rfl
theorem QAj:∀w,(zeroValue 113).run Tryz.prog w=.ok (.agg #[.int .i64 0,.int .i64 0,.int .i64 0,.int .i64 0,.int .i64 0,.int .i64 0,.int .i64 0]) w:=fun _=>by kernel_rfl
theorem Qbj {P:Program} {ops:Array Oper} {o:Oper} {a:Act} {w:World} {K:Act→World→Prop} {Q:Exit→Act→World→Prop} {E:Prop}
 (hg:o.guard=none) (s x:Operand) (t:TypeId) (hop:o.op=Op.call {callee:=Callee.builtin Builtin.append,args:= #[s,x],argTypes:= #[t,t]})
 (e:TypeId) (i:TypeInfo) (h1:P.underlying t=some (.slice e)) (h2:P.info? e=some i)
 (g n cap:Nat) (cur:Array Value) (hgg:w.heap[g]? =some (.cells cur e (0,0))) (hs:a.eval s=.slice (some ⟨g,0,none⟩) n cap)
 (ad:Addr) (m c:Nat) (news:List Value) (hx:a.eval x=.slice (some ad) m c) (hn:news.length=m*i.size) (hc:∀j u,news[j]? =some u→w.cell? (ad.add j)=some u) (h1c:∀u∈news,u.oneCell'=true)
 (hroom:n+m≤cap) (hfit:n*i.size+news.length≤cur.size)
 (hK:K (a.put o.dst (.slice (some ⟨g,0,none⟩) (n+m) cap)) (w.setRow g (cur.toList.take (n*i.size)++news++cur.toList.drop (n*i.size+news.length)).toArray)):
 if Region.wanted o (yielded ops a.tmps)=true then Oper.wp P o a w K Q else E:=by
 have hw:Region.wanted o (yielded ops a.tmps)=true:=by simp [Region.wanted,hg]
 rw [if_pos hw];have hrun:=run_append_room (P:=P) w t o.type e i h1 h2 g n cap cur hgg ad m c news hn hc h1c hroom hfit;unfold Oper.wp;simp only [execOp,hop,resolve,invoke,builtin,Sem.run_bind,Sem.run_pure,Result.andThen_ok,List.map_toArray,List.map_cons,List.map_nil,hs,hx,hrun];exact hK
theorem Qfe {P:Program} (w:World) (t e ty:TypeId) (z:Value) (ht:P.underlying t=some (.slice e)) (hv:∀w,(zeroValue e).run P w=.ok z w) (h1:∀u∈z.cells.toList,u.oneCell'=true) (g o c:Nat) (cur:Array Value)
 (hg:w.heap[g]? =some (.cells cur e (0,0))) (hfit:o+z.cells.size≤cur.size):
 (Builtin.clear_ #[t] ty #[.slice (some ⟨g,o,none⟩) 1 c]).run P w=.ok (.tuple #[]) (w.setRow g (cur.toList.take o++z.cells.toList++cur.toList.drop (o+z.cells.size)).toArray):=by
 have hz:(Builtin.zeroCells z.cells 1).toList=z.cells.toList:=by
  apply List.ext_getElem;simp [Builtin.zeroCells];intro i h1 h2;have:i<z.cells.size:=by simpa using h2
  simp [Builtin.zeroCells,Nat.mod_eq_of_lt this,getElem!_pos,this]
 have hst:=run_storeCells_at P g o e z.cells.toList 0 cur w hg (by simpa using hfit) h1;simp only [Nat.add_zero,Array.length_toList] at hst;simp [Builtin.clear_,run_underlying ht,hv,hz,hst]
theorem Quv {xs cur:List Value} {n s i:Nat} (h:cur.take (n*s)=xs) (hi:i<n) (hn:n*s≤cur.length):
 ((cur.drop ((i+1)*s)).take ((n-(i+1))*s))=xs.drop ((i+1)*s):=by
 rw [←h,List.drop_take];congr 1;rw [←Nat.sub_mul]
theorem Qsf {cur xs news z:List Value} {n s i:Nat} (h:cur.take (n*s)=xs) (hi:i<n) (hn:n*s≤cur.length) (hz:z.length=s) (hnews:news=xs.drop ((i+1)*s)):
 (((cur.take (i*s)++news++cur.drop (i*s+news.length)).take ((n-1)*s)++z++(cur.take (i*s)++news++cur.drop (i*s+news.length)).drop ((n-1)*s+s))).take ((n-1)*s)=xs.take (i*s)++xs.drop ((i+1)*s):=by
 have hl:xs.length=n*s:=by rw [←h];simp;omega
 have hnl:news.length=(n-1-i)*s:=by
  rw [hnews,List.length_drop,hl,←Nat.sub_mul];congr 1;omega
 have his:i*s≤n*s:=Nat.mul_le_mul_right _ (by omega);have e1:cur.take (i*s)=xs.take (i*s):=by rw [←h,List.take_take,Nat.min_eq_left his]
 have e2:(xs.take (i*s)++news).length=(n-1)*s:=by
  rw [List.length_append,List.length_take,hl,Nat.min_eq_left his,hnl,←Nat.add_mul];congr 1;omega
 rw [e1,List.append_assoc,List.take_append_of_le_length (by rw [List.length_take,List.length_append,e2];omega),List.take_take,Nat.min_self,List.take_append_of_le_length (by omega),←e2,List.take_length,hnews]
theorem Qss {w0 w:World} {R:List SA} (g n cap i j:Nat) (xs:List Value) (h:Heap w0 (.slc (.slice (some ⟨g,0,none⟩) n cap) 113 7 n xs::R) w) (hij:As (j=i+1)) (hi:i<j) (hj:j≤n) (hone:As (∀u∈xs,u.oneCell'=true)):
 Calls Tryz.prog 81 #[.slice (some ⟨g,0,none⟩) n cap,.int .i64 i,.int .i64 j] w fun e w'=>e=.returned (.slice (some ⟨g,0,none⟩) (n-1) cap)∧
  Heap w0 (.slc (.slice (some ⟨g,0,none⟩) (n-1) cap) 113 7 (n-1) (xs.take (i*7)++xs.drop ((i+1)*7))::R) w':=by
 obtain ⟨i0,hi0,hz0,hz1,hz2⟩:=info_parts DZ;have hr:=h.row 0 rfl;have H:=zk h;clear h;obtain ⟨cur,hg,hnc,hcm,hcs,htk⟩:∃cur:Array Value,w.heap[g]? =some (.cells cur 113 (0,0))∧n≤cap∧cap≤maxLen∧cur.size=cap*7∧cur.toList.take (n*7)=xs:=by
  rcases hr.2 with ⟨h,_⟩|⟨g',cap',cur,h,_,h1,h2,h3,h4,h5⟩;cases h;simp only [Value.slice.injEq,Option.some.injEq,Addr.mk.injEq] at h;obtain ⟨⟨rfl,_⟩,_,rfl⟩:=h;exact ⟨cur,h1,h2,h3,h4,h5⟩
 have hxl:=hr.1;clear hr;have hij':=hij.1;have hcap7:n*7≤cur.toList.length:=by simp [hcs];omega
 obtain ⟨news,hnews⟩:∃news,news=xs.drop ((i+1)*7):=⟨_,rfl⟩;have hnl:news.length=(n-j)*7:=by rw [hnews,List.length_drop,hxl];omega
 have hget:∀t u,news[t]? =some u→cur[j*7+t]? =some u:=by
  intro t u hu;rw [hnews,←htk,List.getElem?_drop,List.getElem?_take] at hu;split at hu;rw [hij'];simpa using hu;cases hu
 obtain ⟨A,hA,hsrc⟩:∃A:Addr,(if cap=j then some (⟨g,0,none⟩:Addr) else some ⟨g,j*7,none⟩)=some A∧As (∀t u,news[t]? =some u→w.drew.cell? (A.add t)=some u):=by
  by_cases hc:cap=j;refine ⟨⟨g,0,none⟩,by simp [hc],⟨fun t u hu=>?_⟩⟩;have h0:news.length=0:=by rw [hnl];omega
  rw [List.length_eq_zero_iff.1 h0] at hu;simp at hu;refine ⟨⟨g,j*7,none⟩,by simp [hc],⟨fun t u hu=>?_⟩⟩;rw [Addr.add_lit]
  show w.cell? _=_
  simp only [World.cell?,hg];simpa using hget t u hu
 obtain ⟨W1,hW1⟩:∃W1,W1=w.drew.setRow g (cur.toList.take (i*i0.size)++news++cur.toList.drop (i*i0.size+news.length)).toArray:=⟨_,rfl⟩;have hg1:W1.heap[g]? =some (.cells (cur.toList.take (i*7)++news++cur.toList.drop (i*7+news.length)).toArray 113 (0,0)):=by
  rw [hW1,hz1];exact setRow_heap w.drew g cur _ 113 (0,0) hg
 obtain ⟨cur2,hc2⟩:∃c,c=(((cur.toList.take (i*7)++news++cur.toList.drop (i*7+news.length)).toArray.toList.take ((i+(n-j))*7)++z7++(cur.toList.take (i*7)++news++cur.toList.drop (i*7+news.length)).toArray.toList.drop ((i+(n-j))*7+7)).toArray):=⟨_,rfl⟩;have hz7:z7.length=7:=rfl;have hcl:∀ty,(Builtin.clear_ #[84] ty #[.slice (some ⟨g,(i+(n-j))*7,none⟩) (n-(i+(n-j))) (cap-(i+(n-j)))]).run Tryz.prog W1=.ok (.tuple #[]) (W1.setRow g cur2):=by
  intro ty;rw [hc2,show n-(i+(n-j))=1 by omega];refine Qfe W1 84 113 ty _ Tryz.underlying84 QAj (by intro u hu;simp [Value.cells] at hu;subst hu;rfl) g _ _ _ hg1 ?_;simp [Value.cells,hnl,hcs];omega
 have hfin:As (Heap w0 (.slc (.slice (some ⟨g,0,none⟩) (n-1) cap) 113 7 (n-1) (xs.take (i*7)++xs.drop ((i+1)*7))::R) (W1.setRow g cur2)):=by
  refine ⟨Heap.Uc H.1 0 rfl (v':=.slice (some ⟨g,0,none⟩) (n-1) cap) (n':=n-1) ?_ ?_ (.inl rfl)⟩;refine ⟨?_,.inr ⟨g,cap,_,rfl,Nat.zero_le _,setRow_heap W1 g _ _ 113 (0,0) hg1,by omega,hcm,?_,?_⟩⟩;simp [hxl];omega;rw [hc2];simp [hnl,hcs,hz7];omega;rw [hc2,show i+(n-j)=n-1 by omega];exact Qsf htk (by omega) hcap7 rfl hnews;refine ⟨by rw [hW1];rfl,by rw [hW1];rfl,by rw [hW1];rfl,by rw [hW1];simp [World.setRow],fun k hk hne=>?_⟩;have hkg:k≠g:=fun e=>hne (by rw [e];rfl);rw [setRow_other _ _ _ _ hkg,hW1,setRow_other _ _ _ _ hkg];rfl
 have s1:As (news.length=(n-j)*i0.size):=⟨by rw [hz1];exact hnl⟩;have s2:As (∀u∈news,u.oneCell'=true):=⟨fun u hu=>hone.1 u (by rw [hnews] at hu;exact List.mem_of_mem_drop hu)⟩;have s3:As (i*i0.size+news.length≤cur.size):=⟨by rw [hz1,hnl,hcs];omega⟩;have s4:As (w.drew.heap[g]? =some (.cells cur 113 (0,0))):=⟨hg⟩;have hW:=zk hW1;have hic:i≤cap:=by omega
 have hjc:j≤cap:=by omega
 have hin:i≤n:=by omega
 have hlast:As (i+(n-j)=n-1):=⟨by omega⟩;clear hc2 hW1 hg1 hget hnews hnl htk hcs hg hxl hcap7 hij' hone;go_enter Tryz.func81,Tryz.ntmps81;go_wp2_with fail
 go_region_law (refine Qbj rfl (.tmp 22) (.tmp 25) 84 rfl 113 i0 Tryz.underlying84 hi0 g i cap cur s4.1 (by simp [Act.eval,Act.put]) A (n-j) (cap-j) news (by simp [Act.eval,Act.put]) s1.1 hsrc.1 s2.1 (by omega) s3.1 ?_;rw [←hW.1])
 go_wp2;go_ret;exact ⟨by rw [←hlast.1];rfl,hfin.1⟩
structure Msg where
 kind:Int
 frm:Int
 to:Int
 id:Int
 step:Int
 a:Int
 b:Int
 deriving DecidableEq,Inhabited
def Msg.cells (m:Msg):List Value:= [.int .i64 m.kind,.int .i64 m.frm,.int .i64 m.to,.int .i64 m.id,.int .i64 m.step,.int .i64 m.a,.int .i64 m.b]
def Qk (l:List Msg):List Value:=l.flatMap Msg.cells
structure Post where
 most:Int
 l:List Msg
 lost:Int
def Post.ok (p:Post):Prop:=1≤p.most∧p.most≤256∧(p.l.length:Int)≤p.most∧0≤p.lost∧p.lost≤1000000
def Post.put (p:Post) (m:Msg):Post:=if (p.l.length:Int)+1≤p.most then {p with l:=p.l++ [m]} else {p with l:=(p.l++ [m]).drop 1,lost:=min (p.lost+1) 1000000}
def Post.puts (p:Post) (l:List Msg):Post:=l.foldl Post.put p
theorem Post.QD6 {p:Post} (h:p.ok) (m:Msg):(p.put m).ok:=by
 obtain ⟨h1,h2,h3,h4,h5⟩:=h;unfold Post.put;split;exact ⟨h1,h2,by simpa using ‹_›,h4,h5⟩;exact ⟨h1,h2,by simp;omega,by show 0≤min (p.lost+1) 1000000;omega,by show min (p.lost+1) 1000000≤1000000;omega⟩
theorem Qe5 (l:List Msg):(Qk l).length=l.length*7:=by
 unfold Qk
 induction l with
 |nil=>rfl
 |cons m l ih=>rw [List.flatMap_cons,List.length_append,ih];simp [Msg.cells];omega
theorem ZE (l r:List Msg):Qk (l++r)=Qk l++Qk r:=List.flatMap_append
theorem Qaz:∀(l:List Msg) (i:Nat),Qk (l.take i)=(Qk l).take (i*7)
 | [],i=>by simp [Qk]
 |m::l,0=>by simp [Qk]
 |m::l,i+1=>by
  have ih:=Qaz l i;simp only [Qk,List.take_succ_cons,List.flatMap_cons] at *;rw [ih,List.take_append,show (i+1)*7-(Msg.cells m).length=i*7 by simp [Msg.cells];omega,List.take_of_length_le (l:=Msg.cells m) (by simp [Msg.cells];omega)]
theorem Qbf:∀(l:List Msg) (i:Nat),Qk (l.drop i)=(Qk l).drop (i*7)
 | [],i=>by simp [Qk]
 |m::l,0=>by simp [Qk]
 |m::l,i+1=>by
  have ih:=Qbf l i;simp only [Qk,List.drop_succ_cons,List.flatMap_cons] at *;rw [ih,List.drop_append,show (i+1)*7-(Msg.cells m).length=i*7 by simp [Msg.cells];omega,List.drop_of_length_le (l:=Msg.cells m) (by simp [Msg.cells];omega),List.nil_append]
theorem Qi7 (l:List Msg) (i:Nat):Qk (l.eraseIdx i)=(Qk l).take (i*7)++(Qk l).drop ((i+1)*7):=by
 rw [List.eraseIdx_eq_take_drop_succ,ZE,Qaz,Qbf]
theorem Qog (l:List Msg):∀u∈Qk l,u.oneCell'=true:=by
 intro u hu;obtain ⟨m,_,hm⟩:=List.mem_flatMap.1 hu;simp [Msg.cells] at hm;rcases hm with rfl|rfl|rfl|rfl|rfl|rfl|rfl<;>rfl
theorem mcg (l:List Msg) (k j:Nat) (hk:k<l.length) (hj:j<7):(Qk l)[k*7+j]? =(Msg.cells l[k])[j]?:=by
 have e:Qk l=Qk (l.take k)++(Msg.cells l[k]++Qk (l.drop (k+1))):=by
  conv=>lhs;rw [←List.take_append_drop k l,List.drop_eq_getElem_cons hk]
  rw [ZE];rfl
 have hl:(Qk (l.take k)).length=k*7:=by rw [Qe5,List.length_take,Nat.min_eq_left (by omega)]
 rw [e,List.getElem?_append_right (by omega),hl,Nat.add_sub_cancel_left,List.getElem?_append_left (by simp [Msg.cells];omega)]
def SA.post (b:Nat) (p:Post):SA:=.when p.ok (.ex fun v=>.star (.pts b (.cells #[p.most,v,p.lost] 86)) (.slc v 113 7 p.l.length (Qk p.l)))
section
variable {w0 w:World} {b:Nat} {p:Post} {R:List SA}
theorem Heap.YU (h:Heap w0 (.post b p::R) w):p.ok∧∃v,Heap w0 (.pts b (.cells #[p.most,v,p.lost] 86)::.slc v 113 7 p.l.length (Qk p.l)::R) w:=by
 obtain ⟨hp,h⟩:=h.QT;obtain ⟨v,h⟩:=h.YL;exact ⟨hp,v,h.XF⟩
theorem Heap.Jw {v:Value} (hp:p.ok) (h:Heap w0 (.pts b (.cells #[p.most,v,p.lost] 86)::.slc v 113 7 p.l.length (Qk p.l)::R) w):Heap w0 (.post b p::R) w:=
 Heap.QZ hp (Heap.Yr (f:=fun v=>.star (.pts b (.cells #[p.most,v,p.lost] 86)) (.slc v 113 7 p.l.length (Qk p.l))) v h.Xx)
end
theorem QD7 {w0 w:World} {b:Nat} {p:Post} {R:List SA} (h:Heap w0 (.post b p::R) w):
 CE 15 #[b] w (.int .i64 p.l.length):=by
 obtain ⟨hp,v,h⟩:=h.YU;have c1:w.cell? ⟨b,1,none⟩=some v:=h.cell 0 1 rfl rfl;rcases h.shp 1 rfl with ⟨rfl,hn,_⟩|⟨g,cap,rfl,_⟩
 ·rw [hn];clear h hp;go_enter Tryz.func15,Tryz.ntmps15;go_wp2;go_ret;exact ⟨rfl,rfl⟩
 ·clear h hp;go_enter Tryz.func15,Tryz.ntmps15;go_wp2;go_ret;exact ⟨rfl,rfl⟩
def Post.has (p:Post) (i:Int):Bool:=decide (0≤i)&&decide (i<p.l.length)
theorem Qbw {w0 w:World} {b:Nat} {p:Post} {R:List SA} (h:Heap w0 (.post b p::R) w) (i:Int):
 CE 80 #[b,.int .i64 i] w (.bool (p.has i)):=by
 obtain ⟨hp,v,h⟩:=h.YU;have c1:w.cell? ⟨b,1,none⟩=some v:=h.cell 0 1 rfl rfl;by_cases h0:0≤i
 ·rcases h.shp 1 rfl with ⟨rfl,hn,_⟩|⟨g,cap,rfl,_⟩
  ·clear h hp;go_enter Tryz.func80,Tryz.ntmps80;go_wp2;go_ret;exact ⟨by simp [Post.has,hn];omega,rfl⟩
  ·clear h hp;go_enter Tryz.func80,Tryz.ntmps80;go_wp2;go_ret;exact ⟨by simp [Post.has,h0],rfl⟩
 ·have hd:decide (0≤i)=false:=by simpa using h0
  clear h hp;go_enter Tryz.func80,Tryz.ntmps80;go_wp2;go_ret;exact ⟨by simp [Post.has,hd],rfl⟩
theorem Qzb {w0 w:World} {l:List SA} {ops:Array Oper} {o:Oper} {a:Act} {K:Act→World→Prop} {Q:Exit→Act→World→Prop} {E:Prop}
 (h:Heap w0 l w) (i:Nat) (v:Value) (T:TypeId) (size n:Nat) (xs:List Value) (e:l[i]? =some (.slc v T size n xs)) (hg:o.guard=none) (s x:Operand) (t:TypeId)
 (hop:o.op=Op.call {callee:=Callee.builtin Builtin.append,args:= #[s,x],argTypes:= #[t,t]})
 (ti:TypeInfo) (z:Value) (bytes:Nat) (ht:Tryz.prog.underlying t=some (.slice T)) (hi:Tryz.prog.info? T=some ti) (hz:ti.zero=some z)
 (hsize:ti.size=size) (hby:ti.bytes=bytes) (hzs:z.cells.size=size) (hsz:0<size) (hs:a.eval s=v)
 (ad:Addr) (m c:Nat) (news:List Value) (hx:a.eval x=.slice (some ad) m c) (hl:news.length=m*size) (hnews:∀j u,news[j]? =some u→w.cell? (ad.add j)=some u) (h1:∀u∈news,u.oneCell'=true)
 (h63:As (n+m≤1000000)) (hb:bytes≤1000) (hpos:0<n+m)
 (hK:∀g cap w',Heap w0 (l.set i (.slc (.slice (some ⟨g,0,none⟩) (n+m) cap) T size (n+m) (xs++news))) w'→w.grownBy w' v.ownBlock→K (a.put o.dst (.slice (some ⟨g,0,none⟩) (n+m) cap)) w'):
 if Region.wanted o (yielded ops a.tmps)=true then Oper.wp Tryz.prog o a w K Q else E:=by
 have hw:Region.wanted o (yielded ops a.tmps)=true:=by simp [Region.wanted,hg]
 rw [if_pos hw];have h63':=h63.1;have hbb:(n+m)*bytes≤140737488355328:=by
  have:(n+m)*bytes≤1000000*1000:=Nat.mul_le_mul h63' hb;omega
 obtain ⟨v',w',hr,h2,h3,h4,h5⟩:=run_append_own_at (P:=Tryz.prog) w 0 t o.type T ti z size bytes ht hi hz hsize hby hzs hsz v n xs (h.row i e) ad m c news hl hnews h1 (by unfold maxLen;omega) hbb (Nat.zero_le _);unfold Oper.wp;simp only [execOp,hop,resolve,invoke,builtin,Sem.run_bind,Sem.run_pure,Result.andThen_ok,List.map_toArray,List.map_cons,List.map_nil,hs,hx,hr];rcases h2.2 with ⟨_,hn⟩|⟨g,cap,cur,rfl,r⟩;omega;exact hK g cap w' (h.Uc i e h2 h3 h5) h3
theorem Qfh {w0 w:World} {R:List SA} (g n cap i:Nat) (l:List Msg) (h:Heap w0 (.slc (.slice (some ⟨g,0,none⟩) n cap) 113 7 n (Qk l)::R) w) (hi:i<n) (hn:As (n=l.length)):
 Calls Tryz.prog 81 #[.slice (some ⟨g,0,none⟩) n cap,.int .i64 i,.int .i64 ((i:Int)+1)] w fun e w'=>e=.returned (.slice (some ⟨g,0,none⟩) (n-1) cap)∧
  Heap w0 (.slc (.slice (some ⟨g,0,none⟩) (n-1) cap) 113 7 (n-1) (Qk (l.eraseIdx i))::R) w':=by
 have:=Qss g n cap i (i+1) (Qk l) h ⟨rfl⟩ (by omega) (by omega) ⟨Qog l⟩;rw [Qi7];simpa using this
theorem Qzz {w0 w:World} {b:Nat} {p:Post} {R:List SA} (h:Heap w0 (.post b p::R) w) (i:Nat) (hi:i<p.l.length):
 CH 50 #[b,.int .i64 i] w (.tuple #[.agg (Msg.cells p.l[i]).toArray,.bool true]) w0 (.post b {p with l:=p.l.eraseIdx i}::R):=by
 have HH:=zk h;have HC:As (∀{w':World},Heap w0 (.post b p::R) w'→Calls Tryz.prog 80 #[b,.int .i64 i] w' fun e w''=>e=.returned (.bool true)∧w'=w''):=⟨fun h=>by
  have:=Qbw h i
  rwa [show p.has i=true by simp [Post.has,hi]] at this⟩
 obtain ⟨hp,v,h⟩:=h.YU;have c1:w.cell? ⟨b,1,none⟩=some v:=h.cell 0 1 rfl rfl;have f1:=h.frz 0 1 rfl;obtain ⟨g,cap,rfl,hnc,hcm,hx⟩:∃g cap,v=.slice (some ⟨g,0,none⟩) p.l.length cap∧p.l.length≤cap∧cap≤maxLen∧(∀(j:Nat) u,(Qk p.l)[j]? =some u→w.cell? ⟨g,j,none⟩=some u):=by
  rcases h.shp 1 rfl with ⟨_,hn,_⟩|h;omega;exact h
 have x0:w.cell? ⟨g,i*7,none⟩=_:=hx (i*7+0) _ (mcg p.l i 0 hi (by omega));have x1:=hx (i*7+1) _ (mcg p.l i 1 hi (by omega));have x2:=hx (i*7+2) _ (mcg p.l i 2 hi (by omega));have x3:=hx (i*7+3) _ (mcg p.l i 3 hi (by omega));have x4:=hx (i*7+4) _ (mcg p.l i 4 hi (by omega));have x5:=hx (i*7+5) _ (mcg p.l i 5 hi (by omega));have x6:=hx (i*7+6) _ (mcg p.l i 6 hi (by omega));clear hx;have hb:=h.lt 0 rfl;have hgb:=(World.block_lt_of_cell? w _ x0);have H:=zk h;have hi2:i<256:=by have:=hp.2.1;have:=hp.2.2.1;omega
 have HP:=zk hp;have HEL:=zk (List.length_eraseIdx_of_lt hi);clear h hp;go_enter Tryz.func50,Tryz.ntmps50;go_wp2_with (first|(go_at_call 80;refine (HC.1 (HH.1.alloc _)).m0 ?_)|(go_at_call 81;refine (Qfh g p.l.length cap i p.l (Heap.frt (Heap.nAt (n:=w.heap.size+1) (Heap.nAt (n:=w.heap.size) H.1 _ rfl) _ (by simp)) 3 rfl) hi ⟨rfl⟩).m2 fun w2 h2=>?_;have k1:w2.cell? ⟨b,1,none⟩=some (.slice (some ⟨g,0,none⟩) p.l.length cap):=h2.cell 3 1 rfl rfl;have k2:=h2.frz 3 1 rfl;have y0:=h2.cB7 1 rfl;have z0:=h2.cB7 2 rfl;have n1:=h2.ne 1 3 (by decide) rfl rfl;have n2:=h2.ne 2 3 (by decide) rfl rfl;have n3:=h2.ne 1 2 (by decide) rfl rfl;have H2:=zk h2;clear h2));refine bodyPost_ret (v:=.tuple #[.agg #[.int .i64 p.l[i].kind,.int .i64 p.l[i].frm,.int .i64 p.l[i].to,.int .i64 p.l[i].id,.int .i64 p.l[i].step,.int .i64 p.l[i].a,.int .i64 p.l[i].b],.bool true]) (by simp [results,Tryz.results50,go_sem,z0]) rfl ⟨rfl,?_⟩;have hok:Post.ok {p with l:=p.l.eraseIdx i}:=by
  obtain ⟨h1,h2,h3,h4,h5⟩:=HP.1;exact ⟨h1,h2,by show ((p.l.eraseIdx i).length:Int)≤p.most;rw [HEL.1];omega,h4,h5⟩
 refine Heap.imp (Heap.sAt (Heap.sAt (Heap.sAt (Heap.sAt (Heap.sAt (Heap.sAt (Heap.sAt (Heap.sAt H2.1 3 1 _ rfl) 2 0 _ rfl) 2 1 _ rfl) 2 2 _ rfl) 2 3 _ rfl) 2 4 _ rfl) 2 5 _ rfl) 2 6 _ rfl) (fun hfin=>?_);have hf2:=hfin.frt 3 rfl;have hf3:=hf2.frt 1 rfl;refine Heap.Jw (v:=.slice (some ⟨g,0,none⟩) (p.l.length-1) cap) hok ?_
 show Heap w0 (_::.slc _ 113 7 (p.l.eraseIdx i).length _::R) _
 rw [HEL.1];exact ((hf3.frt 2 rfl).drop.frt 2 rfl).drop.frt 1 rfl
end Go.Proofs.YtlnghlamnehfjaaGreatDoor.S
