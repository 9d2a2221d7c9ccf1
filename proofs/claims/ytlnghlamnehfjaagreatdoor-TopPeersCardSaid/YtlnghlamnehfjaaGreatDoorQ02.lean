/- Part Q02. -/
import Derived.Test.YtlnghlamnehfjaaGreatDoorQ01
import Derived.Deep.LoopGhost
import Derived.Deep.QuietTactic
import Derived.BigQuiet
import Derived.Lib.ConvBytes
set_option linter.unusedVariables false
set_option linter.unusedSimpArgs false
set_option maxRecDepth 100000
set_option maxHeartbeats 64000000
namespace Go.Proofs.YtlnghlamnehfjaaGreatDoor.S
open Go.RowKit Go.Maps
def Ji (p:Int×Int) (c:UInt8):Int×Int:=((p.1+(c.toNat:Int)*p.2)%673,p.2*3%673)
def chk (l:List UInt8):Int×Int:=l.foldl Ji (0,1)
theorem QEi (l:List UInt8):0≤(chk l).1∧(chk l).1<673∧0≤(chk l).2∧(chk l).2<673:=by
 unfold chk
 suffices h:∀(l:List UInt8) (p:Int×Int),(0≤p.1∧p.1<673∧0≤p.2∧p.2<673)→0≤(l.foldl Ji p).1∧(l.foldl Ji p).1<673∧0≤(l.foldl Ji p).2∧(l.foldl Ji p).2<673 from h l _ (by decide)
 intro l
 induction l with
 |nil=>exact fun p h=>h
 |cons c l ih=>exact fun p h=>ih _ ⟨Int.emod_nonneg _ (by decide),Int.emod_lt_of_pos _ (by decide),Int.emod_nonneg _ (by decide),Int.emod_lt_of_pos _ (by decide)⟩
theorem Qu0 (l:List UInt8) (c:UInt8):chk (l++ [c])=Ji (chk l) c:=by simp [chk,List.foldl_append]
def Vj (s:ByteArray):ByteArray:=strOfNums [97+(chk s.data.toList).1/26,97+(chk s.data.toList).1%26]
theorem Ke (s:ByteArray):(Vj s).size=2:=rfl
theorem Qrz (s:ByteArray) (k:Nat) (h:k<s.size):s.data.toList.take (k+1)=s.data.toList.take k++ [s[k]]:=by
 rw [List.take_succ_eq_append_getElem (by simpa using h)];rfl
theorem Qpk (s:ByteArray) (w:World) (hs:s.size≤1000000):
 Calls Tryz.prog 185 #[.string s] w fun e w'=>e=.returned (.string (Vj s))∧Below w.heap.size w w':=by
 have HS:=zk hs;go_enter Tryz.func185,Tryz.ntmps185;go_wp2
 go_loopg [3,4,8] s.size (fun gk v3 v4 v8 wr=>∃(k:Nat) (n x:Int),v3=.int .i64 n∧v4=.int .i64 x∧v8=.int .i64 k∧k≤s.size∧As (gk+k=s.size)∧As ((n,x)=chk (s.data.toList.take k))∧wr=w)
 case atStart=>exact ⟨0,0,1,rfl,rfl,rfl,Nat.zero_le _,⟨rfl⟩,⟨by simp [chk]⟩,rfl⟩
 case round=>
  obtain ⟨k,n,x,rfl,rfl,rfl,hk,HG,HC,rfl⟩:=hrel;have hb:=QEi (s.data.toList.take k);rw [←HC.1] at hb;obtain ⟨b1,b2,b3,b4⟩:=hb;by_cases hlt:k<s.size
  ·have HN:As (chk (s.data.toList.take (k+1))=((n+(s[k].toNat:Int)*x)%673,x*3%673)):=⟨by rw [Qrz s k hlt,Qu0,←HC.1];rfl⟩;have hc:=s[k].toNat_lt;have p1:0≤(s[k].toNat:Int)*x:=Int.mul_nonneg (by omega) b3;have p2:(s[k].toNat:Int)*x≤256*673:=Int.mul_le_mul (by omega) (by omega) b3 (by omega);go_wp2;go_roundg (s.size-(k+1))
   case measure=>have:=HG.1;omega
   case rel=>exact ⟨k+1,_,_,rfl,rfl,by go_num,by omega,⟨by omega⟩,⟨HN.1.symm⟩,rfl⟩
  ·have HE:As (chk s.data.toList=(n,x)):=⟨by rw [HC.1,List.take_of_length_le (by simp;omega)]⟩;have hcv:=run_convert_bytes_arg (P:=Tryz.prog) (wr.alloc (.cells #[.int .u8 (97+n/26),.int .u8 (97+n%26)] 5)) 268 5 Tryz.underlying268 Tryz.underlying5 wr.heap.size 0 2 2 [97+n/26,97+n%26] rfl (fun i hi=>by
    rw [World.cell?_alloc_new]
    match i,hi with
    |0,_=>rfl
    |1,_=>rfl) 9 Tryz.underlying9
   go_wp2;go_ret;exact ⟨by rw [Vj,HE.1];rfl,(Below.refl _ _).alloc (Nat.le_refl _) _⟩
def ZO (t:ByteArray):ByteArray:=t++⟨#[124]⟩++Vj t
theorem UU (t:ByteArray):(ZO t).size=t.size+3:=by
 unfold ZO;rw [ByteArray.size_append,ByteArray.size_append,Ke];rfl
theorem Qh2 (s:ByteArray) (w:World) (hs:s.size≤1000000):
 Calls Tryz.prog 178 #[.string s] w fun e w'=>e=.returned (.string (ZO s))∧Below w.heap.size w w':=by
 have hc:=Qpk s w hs;have HC:=zk hc;have h1:s.size+1≤9223372036854775807:=by omega
 have h2:s.size+1+(Vj s).size≤9223372036854775807:=by rw [Ke];omega
 clear hc;go_enter Tryz.func178,Tryz.ntmps178;go_wp2_with (go_at_call 185;refine (HC.1).m2 fun w' hb=>?_);go_ret;exact ⟨rfl,hb⟩
theorem Qou (s:ByteArray) (w:World) (hs:s.size<3):
 Calls Tryz.prog 231 #[.string s] w fun e w'=>e=.returned (.tuple #[.string ⟨#[]⟩,.bool false])∧Below w.heap.size w w':=by
 go_enter Tryz.func231,Tryz.ntmps231;go_wp2
 go_ret2
 exact ⟨rfl,Below.refl _ _⟩
theorem ba_eq {a b:ByteArray} (h:a.toList=b.toList):a=b:=by
 rw [ByteArray.toList_eq,ByteArray.toList_eq] at h;cases a;cases b;congr;exact Array.toList_inj.1 h
theorem QAe (s:ByteArray) (w:World) (hs:3≤s.size) (hm:s.size≤1000000) (hne:ZO (s.extract 0 (s.size-3))≠s):
 Calls Tryz.prog 231 #[.string s] w fun e w'=>e=.returned (.tuple #[.string ⟨#[]⟩,.bool false])∧Below w.heap.size w w':=by
 have hc:=Qh2 (s.extract 0 (s.size-3)) w (by simp;omega);obtain ⟨t,ht⟩:∃t,t=ZO (s.extract 0 (s.size-3)):=⟨_,rfl⟩;rw [←ht] at hne hc;have HC:=zk hc;have hb:(t.toList==s.toList)=false:=by
  rw [beq_eq_false_iff_ne];exact fun h=>hne (ba_eq h)
 have hd:decide ((s.size:Int)-3<0)=false:=by simp;omega
 clear hc hne ht;go_enter Tryz.func231,Tryz.ntmps231;go_wp2_with (go_at_call 178;refine (HC.1).m2 fun w' hb'=>?_)
 go_ret2
 exact ⟨rfl,hb'⟩
theorem Qv4 (t:ByteArray) (w:World) (hm:t.size≤1000000-3):
 Calls Tryz.prog 231 #[.string (ZO t)] w fun e w'=>e=.returned (.tuple #[.string t,.bool true])∧Below w.heap.size w w':=by
 obtain ⟨s,hs⟩:∃s,s=ZO t:=⟨_,rfl⟩;have hsz:s.size=t.size+3:=by rw [hs,UU]
 have hx:s.extract 0 (s.size-3)=t:=by
  rw [hsz,hs];unfold ZO;rw [ByteArray.append_assoc];exact ByteArray.extract_append_eq_left (by omega)
 have hc:=Qh2 t w (by omega);rw [←hs] at hc⊢;have HX:=zk hx;rw [←hx] at hc;have HC:=zk hc;have hd:decide ((s.size:Int)-3<0)=false:=by simp;omega
 have h3:3≤s.size:=by omega
 have hm:s.size≤1000000:=by omega
 clear hc hx hs hsz;go_enter Tryz.func231,Tryz.ntmps231;go_wp2_with (go_at_call 178;refine (HC.1).m2 fun w' hb'=>?_)
 go_ret2
 exact ⟨by rw [HX.1];rfl,hb'⟩
end Go.Proofs.YtlnghlamnehfjaaGreatDoor.S
