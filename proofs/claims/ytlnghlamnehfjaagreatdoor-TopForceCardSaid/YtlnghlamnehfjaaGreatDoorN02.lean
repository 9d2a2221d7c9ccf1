/- Contracts and plain laws of the program, part N02. -/
import Derived.Test.YtlnghlamnehfjaaGreatDoorN01
import Derived.Deep.LoopGhost
import Derived.Deep.QuietTactic
import Derived.BigQuiet
import Derived.Lib.ConvBytes
set_option linter.unusedVariables false
set_option linter.unusedSimpArgs false
set_option maxRecDepth 100000
set_option maxHeartbeats 64000000
namespace Go.Proofs.YtlnghlamnehfjaaGreatDoor.S
open Go.RowKit Go.Maps
def chkStep (p:Int×Int) (c:UInt8):Int×Int:=((p.1+(c.toNat:Int)*p.2)%673,p.2*3%673)
def chk (l:List UInt8):Int×Int:=l.foldl chkStep (0,1)
theorem chk_bd (l:List UInt8):0≤(chk l).1∧(chk l).1<673∧0≤(chk l).2∧(chk l).2<673:=by
 unfold chk
 suffices h:∀(l:List UInt8) (p:Int×Int),(0≤p.1∧p.1<673∧0≤p.2∧p.2<673)→0≤(l.foldl chkStep p).1∧(l.foldl chkStep p).1<673∧0≤(l.foldl chkStep p).2∧(l.foldl chkStep p).2<673 from h l _ (by decide)
 intro l
 induction l with
 |nil=>exact fun p h=>h
 |cons c l ih=>exact fun p h=>ih _ ⟨Int.emod_nonneg _ (by decide),Int.emod_lt_of_pos _ (by decide),Int.emod_nonneg _ (by decide),Int.emod_lt_of_pos _ (by decide)⟩
theorem chk_snoc (l:List UInt8) (c:UInt8):chk (l++ [c])=chkStep (chk l) c:=by simp [chk,List.foldl_append]
def lettersS (s:ByteArray):ByteArray:=strOfNums [97+(chk s.data.toList).1/26,97+(chk s.data.toList).1%26]
theorem lettersS_size (s:ByteArray):(lettersS s).size=2:=rfl
theorem take_snoc (s:ByteArray) (k:Nat) (h:k<s.size):s.data.toList.take (k+1)=s.data.toList.take k++ [s[k]]:=by
 rw [List.take_succ_eq_append_getElem (by simpa using h)];rfl
set_option maxHeartbeats 1000000 in
theorem letters_ok (s:ByteArray) (w:World) (hs:s.size≤1000000):
 Calls Tryz.prog 185 #[.string s] w fun e w'=>e=.returned (.string (lettersS s))∧Below w.heap.size w w':=by
 have HS:=zk hs;go_enter Tryz.func185,Tryz.ntmps185;go_wp2
 go_loopg [3,4,8] s.size (fun gk v3 v4 v8 wr=>∃(k:Nat) (n x:Int),v3=.int .i64 n∧v4=.int .i64 x∧v8=.int .i64 k∧k≤s.size∧As (gk+k=s.size)∧As ((n,x)=chk (s.data.toList.take k))∧wr=w)
 case atStart=>exact ⟨0,0,1,rfl,rfl,rfl,Nat.zero_le _,⟨rfl⟩,⟨by simp [chk]⟩,rfl⟩
 case round=>
  obtain ⟨k,n,x,rfl,rfl,rfl,hk,HG,HC,rfl⟩:=hrel;have hb:=chk_bd (s.data.toList.take k);rw [←HC.out] at hb;obtain ⟨b1,b2,b3,b4⟩:=hb;by_cases hlt:k<s.size
  ·have HN:As (chk (s.data.toList.take (k+1))=((n+(s[k].toNat:Int)*x)%673,x*3%673)):=⟨by rw [take_snoc s k hlt,chk_snoc,←HC.out];rfl⟩;have hc:=s[k].toNat_lt;have p1:0≤(s[k].toNat:Int)*x:=Int.mul_nonneg (by omega) b3;have p2:(s[k].toNat:Int)*x≤256*673:=Int.mul_le_mul (by omega) (by omega) b3 (by omega);go_wp2;go_roundg (s.size-(k+1))
   case measure=>have:=HG.out;omega
   case rel=>exact ⟨k+1,_,_,rfl,rfl,by go_num,by omega,⟨by omega⟩,⟨HN.out.symm⟩,rfl⟩
  ·have HE:As (chk s.data.toList=(n,x)):=⟨by rw [HC.out,List.take_of_length_le (by simp;omega)]⟩;have hcv:=run_convert_bytes_arg (P:=Tryz.prog) (wr.alloc (.cells #[.int .u8 (97+n/26),.int .u8 (97+n%26)] 5)) 268 5 Tryz.underlying268 Tryz.underlying5 wr.heap.size 0 2 2 [97+n/26,97+n%26] rfl (fun i hi=>by
    rw [World.cell?_alloc_new]
    match i,hi with
    |0,_=>rfl
    |1,_=>rfl) 9 Tryz.underlying9
   go_wp2;go_ret;exact ⟨by rw [lettersS,HE.out];rfl,(Below.refl _ _).alloc (Nat.le_refl _) _⟩
def signS (t:ByteArray):ByteArray:=t++⟨#[124]⟩++lettersS t
theorem signS_size (t:ByteArray):(signS t).size=t.size+3:=by
 unfold signS;rw [ByteArray.size_append,ByteArray.size_append,lettersS_size];rfl
theorem sign_ok (s:ByteArray) (w:World) (hs:s.size≤1000000):
 Calls Tryz.prog 178 #[.string s] w fun e w'=>e=.returned (.string (signS s))∧Below w.heap.size w w':=by
 have hc:=letters_ok s w hs;have HC:=zk hc;have h1:s.size+1≤9223372036854775807:=by omega
 have h2:s.size+1+(lettersS s).size≤9223372036854775807:=by rw [lettersS_size];omega
 clear hc;go_enter Tryz.func178,Tryz.ntmps178;go_wp2_with (go_at_call 185;refine (HC.out).mono ?_;rintro e w' ⟨rfl,hb⟩);go_ret;exact ⟨rfl,hb⟩
theorem read_short (s:ByteArray) (w:World) (hs:s.size<3):
 Calls Tryz.prog 231 #[.string s] w fun e w'=>e=.returned (.tuple #[.string ⟨#[]⟩,.bool false])∧Below w.heap.size w w':=by
 go_enter Tryz.func231,Tryz.ntmps231;go_wp2
 go_ret2
 exact ⟨rfl,Below.refl _ _⟩
theorem ba_eq {a b:ByteArray} (h:a.toList=b.toList):a=b:=by
 rw [ByteArray.toList_eq,ByteArray.toList_eq] at h;cases a;cases b;congr;exact Array.toList_inj.1 h
theorem read_no (s:ByteArray) (w:World) (hs:3≤s.size) (hm:s.size≤1000000) (hne:signS (s.extract 0 (s.size-3))≠s):
 Calls Tryz.prog 231 #[.string s] w fun e w'=>e=.returned (.tuple #[.string ⟨#[]⟩,.bool false])∧Below w.heap.size w w':=by
 have hc:=sign_ok (s.extract 0 (s.size-3)) w (by simp;omega);obtain ⟨t,ht⟩:∃t,t=signS (s.extract 0 (s.size-3)):=⟨_,rfl⟩;rw [←ht] at hne hc;have HC:=zk hc;have hb:(t.toList==s.toList)=false:=by
  rw [beq_eq_false_iff_ne];exact fun h=>hne (ba_eq h)
 have hd:decide ((s.size:Int)-3<0)=false:=by simp;omega
 clear hc hne ht;go_enter Tryz.func231,Tryz.ntmps231;go_wp2_with (go_at_call 178;refine (HC.out).mono ?_;rintro e w' ⟨rfl,hb'⟩)
 go_ret2
 exact ⟨rfl,hb'⟩
theorem read_yes (t:ByteArray) (w:World) (hm:t.size≤1000000-3):
 Calls Tryz.prog 231 #[.string (signS t)] w fun e w'=>e=.returned (.tuple #[.string t,.bool true])∧Below w.heap.size w w':=by
 obtain ⟨s,hs⟩:∃s,s=signS t:=⟨_,rfl⟩;have hsz:s.size=t.size+3:=by rw [hs,signS_size]
 have hx:s.extract 0 (s.size-3)=t:=by
  rw [hsz,hs];unfold signS;rw [ByteArray.append_assoc];exact ByteArray.extract_append_eq_left (by omega)
 have hc:=sign_ok t w (by omega);rw [←hs] at hc⊢;have HX:=zk hx;rw [←hx] at hc;have HC:=zk hc;have hd:decide ((s.size:Int)-3<0)=false:=by simp;omega
 have h3:3≤s.size:=by omega
 have hm:s.size≤1000000:=by omega
 clear hc hx hs hsz;go_enter Tryz.func231,Tryz.ntmps231;go_wp2_with (go_at_call 178;refine (HC.out).mono ?_;rintro e w' ⟨rfl,hb'⟩)
 go_ret2
 exact ⟨by rw [HX.out];rfl,hb'⟩
end Go.Proofs.YtlnghlamnehfjaaGreatDoor.S
