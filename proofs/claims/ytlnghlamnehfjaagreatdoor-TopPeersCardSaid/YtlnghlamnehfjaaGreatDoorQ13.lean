/- Part Q13. -/
import Derived.Test.YtlnghlamnehfjaaGreatDoorQ03
import Derived.Test.YtlnghlamnehfjaaGreatDoorQ12
import Derived.Shelf.Abstract
import Derived.Shelf.RegionOpen
import Derived.TacticsInMore
import Derived.LoopNIn
import Derived.LoopIn
set_option linter.unusedVariables false
set_option linter.unusedSimpArgs false
set_option maxRecDepth 100000
set_option maxHeartbeats 64000000
namespace Go.Proofs.YtlnghlamnehfjaaGreatDoor.S
open Go.RowKit Go.Maps
attribute [local go_sem] Oper.semAt_some
def jn:List ByteArray→ByteArray
 | []=>ByteArray.empty
 | [a]=>a
 |a::b::r=>a++(⟨#[32]⟩++jn (b::r))
def Jp (a:ByteArray):Prop:=∀c∈a.data.toList,c≠32
theorem index_none:∀l:List UInt8,(∀c∈l,c≠32)→Lib.indexByte l 32= -1
 | [],_=>rfl
 |b::l,h=>by
  have h1:(b==32)=false:=by rw [beq_eq_false_iff_ne];exact h b (by simp)
  simp [Lib.indexByte,h1,index_none l (fun c hc=>h c (by simp [hc]))]
theorem Qka:∀(l r:List UInt8),(∀c∈l,c≠32)→Lib.indexByte (l++32::r) 32=l.length
 | [],r,_=>by simp [Lib.indexByte]
 |b::l,r,h=>by
  have h1:(b==32)=false:=by rw [beq_eq_false_iff_ne];exact h b (by simp)
  have ih:=Qka l r (fun c hc=>h c (by simp [hc]));simp only [List.cons_append,Lib.indexByte,h1,ih,List.length_cons];simp
theorem Qbt (a:ByteArray) (b:ByteArray) (r:List ByteArray):(jn (a::b::r)).data.toList=a.data.toList++32::(jn (b::r)).data.toList:=by
 show (a++(⟨#[32]⟩++jn (b::r))).data.toList=_
 simp only [ByteArray.data_append,Array.toList_append];rfl
theorem Qxe {a b:ByteArray} (h:a.data.toList=b.data.toList):a=b:=by
 cases a;cases b;simp only [ByteArray.mk.injEq];exact Array.toList_inj.1 h
theorem sz (a:ByteArray):a.data.toList.length=a.size:=Array.length_toList
theorem Qw3 (a:ByteArray) (b:ByteArray) (r:List ByteArray) (h:Jp a):Lib.indexByte (jn (a::b::r)).data.toList 32=a.size:=by
 rw [Qbt,Qka _ _ h,sz]
theorem Qqq (a:ByteArray) (b:ByteArray) (r:List ByteArray):(jn (a::b::r)).size=a.size+(1+(jn (b::r)).size):=by
 rw [←sz,Qbt,List.length_append,List.length_cons,sz,sz];omega
theorem QAm (a:ByteArray) (b:ByteArray) (r:List ByteArray):(jn (a::b::r)).extract 0 a.size=a:=by
 apply Qxe;rw [ByteArray.data_extract,Array.toList_extract,Qbt,List.extract_eq_take_drop,List.drop_zero,Nat.sub_zero,←sz,List.take_left]
theorem QAk (a:ByteArray) (b:ByteArray) (r:List ByteArray):(jn (a::b::r)).extract (a.size+1) (jn (a::b::r)).size=jn (b::r):=by
 apply Qxe;rw [ByteArray.data_extract,Array.toList_extract,Qbt,List.extract_eq_take_drop,Qqq,←sz a,←sz (jn (b::r))];rw [List.drop_append,List.take_of_length_le];simp only [Nat.add_sub_cancel_left,List.drop_eq_nil_of_le (Nat.le_succ _),List.nil_append,List.drop_one,List.tail_cons];simp only [List.length_append,List.length_drop,List.length_cons];omega
def QEx:Option Value→Nat
 |some (.string s)=>s.size
 |_=>0
theorem Qjq (w0:World) (b0 b1 b2:Nat) (x:ByteArray) (xs:List ByteArray) (hx:∀y∈x::xs,Jp y) (hs:(jn (x::xs)).size≤1000):
 Gives w0 237 #[.pointer (some ⟨b1,0,none⟩),.pointer (some ⟨b0,0,none⟩),.pointer (some ⟨b2,0,none⟩)]
  [.pts b0 (.cells #[.string (jn (x::xs))] 9),.pts b1 (.cells #[.string ⟨#[32]⟩] 9),.pts b2 (.cells #[.int .i64 0] 3)] [] (x::xs) (fun y v=>.when (v=.string y) .emp):=by
 intro n l J R W hY h;have HX:=zk hx;have HS:=zk hs;have HY:=zk hY;obtain ⟨d0,df0⟩:=h.cB1 1 rfl;obtain ⟨d1,df1⟩:=h.cB1 2 rfl;have H:=zk h;clear h hx hs hY;have hdp:Fence.wide.depth=none:=rfl;have hwf:∀f,Fence.wide.fn f=True:=fun _=>rfl;refine callsIn_of_wp Tryz.func237 rfl trivial ?_ rfl;simp only [Tryz.ntmps237,List.size_toArray,List.length_cons,List.length_nil,Nat.reduceAdd,Nat.reduceSub,Array.replicate_succ,Array.replicate_zero,List.push_toArray,List.append_toArray,List.nil_append,List.cons_append]
 gi_wp2
 clear d0 df0 d1 df1
 gi_loopw [7,8] (fun p q wr=>∃(k:Nat) (a:ByteArray) (r:List ByteArray),As ((x::xs).drop k=a::r)∧As ((jn (a::r)).size≤1000)∧As (Heap w0 ([J k,.pts b0 (.cells #[.string (jn (a::r))] 9),.pts b1 (.cells #[.string ⟨#[32]⟩] 9),.pts b2 (.cells #[.int .i64 0] 3)]++R) wr))
  (fun p q wr=>QEx (wr.cell? ⟨b0,0,none⟩))
 case atStart=>exact ⟨0,x,xs,⟨rfl⟩,HS,H⟩
 case round=>
  obtain ⟨k,a,r,hd,hle,H1⟩:=hrel;obtain ⟨d0,df0⟩:=H1.1.cB1 1 rfl;obtain ⟨d1,df1⟩:=H1.1.cB1 2 rfl;obtain ⟨d2,df2⟩:=H1.1.cB1 3 rfl;have hak:As ((x::xs)[k]? =some a):=⟨by
   have:=congrArg (fun l=>l[0]?) hd.1;simpa using this⟩
  have hna:As (Jp a):=⟨HX.1 a (List.mem_of_getElem? hak.1)⟩;cases r with
  |nil=>
   have hi:Lib.indexByte a.data.toList 32= -1:=index_none _ hna.1;have d0':wr.cell? ⟨b0,0,none⟩=some (.string a):=d0;obtain ⟨fn,tmps,assign,body,hy,hR⟩:=HY.1 k a hak.1 (.string a) _ wr (Heap.QZ rfl (Heap.ZM H1.1));have HR:=zk hR;clear d0 hR
   gi_wp2_with (gi_at_call 239;refine (callsIn_wide.2 (Tryz.strings_Index_one _ 32 _)).mono ?_;rintro e w' ⟨rfl,rfl⟩)
   refine HR.1.mono ?_;rintro e W3 ⟨rfl,h3⟩;have H3:=zk h3;clear h3
   gi_wp2
   go_end0;have hk:k+1=(x::xs).length:=by
    have:=congrArg List.length hd.1;simp at this;simp;omega
   refine ⟨⟨_,rfl⟩,?_⟩;have:=H3.1;rw [hk] at this;exact ((this.frt 1 rfl).drop.frt 1 rfl).drop.frt 1 rfl |>.drop
  |cons b r=>
   have hi:=Qw3 a b r hna.1;have hsz:=Qqq a b r;have hh:=QAm a b r;have ht:=QAk a b r;have hl2:As ((jn (b::r)).size<(jn (a::b::r)).size):=⟨by omega⟩;have D0:=zk d0;have hb2:((jn (a::b::r)).size:Int)≤1000:=by have:=hle.1;omega
   have hb1:(a.size:Int)+1≤((jn (a::b::r)).size:Int):=by omega
   have hb0:(0:Int)≤(a.size:Int):=by omega
   clear hsz;obtain ⟨fn,tmps,assign,body,hy,hR⟩:=HY.1 k a hak.1 (.string a) _ wr (Heap.QZ rfl (Heap.ZM H1.1));have HR:=zk hR;clear hR
   gi_wp2_with (gi_at_call 239;refine (callsIn_wide.2 (Tryz.strings_Index_one _ 32 _)).mono ?_;rintro e w' ⟨rfl,rfl⟩)
   refine HR.1.mono ?_;rintro e W3 ⟨rfl,h3⟩;obtain ⟨d0,df0⟩:=h3.cB1 1 rfl;obtain ⟨d1,df1⟩:=h3.cB1 2 rfl;have hg0:=World.block_lt_of_cell? W3 _ d0;have H3:=zk h3;clear h3
   gi_wp2
   refine ⟨⟨k+1,b,r,⟨?_⟩,⟨Nat.le_trans (Nat.le_of_lt hl2.1) hle.1⟩,⟨H3.1.sAt 1 0 _ rfl⟩⟩,?_⟩;have:=congrArg List.tail hd.1;rw [List.tail_drop] at this;exact this;rw [D0.1,World.cell?_setCell_same' _ _ _ (by rw [d0];rfl)];exact hl2.1
end Go.Proofs.YtlnghlamnehfjaaGreatDoor.S
