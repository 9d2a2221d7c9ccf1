/- Part Q14. -/
import Derived.Test.YtlnghlamnehfjaaGreatDoorQ04
import Derived.StillTailTactics
set_option linter.unusedVariables false
set_option linter.unusedSimpArgs false
set_option maxRecDepth 100000
set_option maxHeartbeats 64000000
namespace Go.Proofs.YtlnghlamnehfjaaGreatDoor.S
open Go.RowKit Go.Maps
structure Jrn where
 room:Int
 es:List Entry
 sure:Nat
 down:Bool
def Qnf (t:ByteArray):Prop:=t.size≤80∧(3≤t.size→ZO (t.extract 0 (t.size-3))≠t)
structure Jrn.ok (j:Jrn):Prop where
 r0:1≤j.room
 r1:j.room≤4096
 es:∀e∈j.es,e.ok
 len:(j.es.length:Int)≤j.room
 sure:j.sure≤j.es.length
def Jrn.lines (j:Jrn) (ls:List ByteArray):Prop:=∃tl:List ByteArray,ls=j.es.map Entry.line++tl∧(j.down=false→tl= [])∧tl.length≤1∧∀t∈tl,Qnf t
def strs (ls:List ByteArray):List Value:=ls.map .string
def SA.jrn (b:Nat) (j:Jrn):SA:=.when j.ok (.ex fun ls:List ByteArray=>.when (j.lines ls) (.ex fun v=>.star (.pts b (.cells #[j.room,v,.int .i64 j.sure,.bool j.down] 144)) (.slc v 9 1 ls.length (strs ls))))
section
variable {w0 w:World} {b:Nat} {j:Jrn} {R:List SA}
theorem Heap.Yp (h:Heap w0 (.jrn b j::R) w):j.ok∧∃ls v,j.lines ls∧Heap w0 (.pts b (.cells #[j.room,v,.int .i64 j.sure,.bool j.down] 144)::.slc v 9 1 ls.length (strs ls)::R) w:=by
 obtain ⟨hp,h⟩:=h.QT;obtain ⟨ls,h⟩:=h.YL;obtain ⟨hl,h⟩:=h.QT;obtain ⟨v,h⟩:=h.YL;exact ⟨hp,ls,v,hl,h.XF⟩
theorem Heap.Vp {ls:List ByteArray} {v:Value} (hp:j.ok) (hl:j.lines ls) (h:Heap w0 (.pts b (.cells #[j.room,v,.int .i64 j.sure,.bool j.down] 144)::.slc v 9 1 ls.length (strs ls)::R) w):Heap w0 (.jrn b j::R) w:=
 Heap.QZ hp (Heap.Yr (f:=fun ls:List ByteArray=>.when (j.lines ls) (.ex fun v=>.star (.pts b (.cells #[j.room,v,.int .i64 j.sure,.bool j.down] 144)) (.slc v 9 1 ls.length (strs ls)))) ls
  (Heap.QZ hl (Heap.Yr (f:=fun v=>.star (.pts b (.cells #[j.room,v,.int .i64 j.sure,.bool j.down] 144)) (.slc v 9 1 ls.length (strs ls))) v h.Xx)))
theorem Jrn.Qej {ls:List ByteArray} (h:j.lines ls) (hd:j.down=false):ls=j.es.map Entry.line:=by
 obtain ⟨tl,h1,h2,_⟩:=h;rw [h1,h2 hd,List.append_nil]
theorem QA5 {v:Value} {T:TypeId} {size n:Nat} {xs:List Value} {l:List SA} (h:Heap w0 l w) (i:Nat) (e:l[i]? =some (.slc v T size n xs)):v=.slice none 0 0∧n=0∨∃g cap,v=.slice (some ⟨g,0,none⟩) n cap:=by
 rcases h.shp i e with ⟨h,h',_⟩|⟨g,cap,h,_⟩;exact .inl ⟨h,h'⟩;exact .inr ⟨g,cap,h⟩
end
theorem Fa {w0 w:World} {b:Nat} {j:Jrn} {R:List SA} (h:Heap w0 (.jrn b j::R) w):
 CE 37 #[b] w (.bool j.down):=by
 obtain ⟨hp,ls,v,hl,h⟩:=h.Yp;obtain ⟨c0,c1,c2,c3,cf⟩:=h.Zh 0 rfl;clear h c0 c1 c2 cf;go_enter Tryz.func37,Tryz.ntmps37;go_wp2;go_ret;exact ⟨rfl,rfl⟩
def QEy (w0:World) (R:List SA) (room:Int) (e:Ending) (w':World):Prop:=∃b,e=.returned (.pointer (some ⟨b,0,none⟩))∧Heap w0 (.jrn b ⟨room,[],0,false⟩::R) w'
theorem Qbq {w0 w:World} {R:List SA} (h:Heap w0 R w) (room:Int) (h0:1≤room) (h1:room≤4096):
 Calls Tryz.prog 73 #[room] w (QEy w0 R room):=by
 have H:=zk h;clear h;have hok:As (Jrn.ok ⟨room,[],0,false⟩):=⟨⟨h0,h1,by simp,by show (0:Int)≤room;omega,Nat.le_refl _⟩⟩;have hmx:max 1 (min room 4096)=room:=by omega
 go_enter Tryz.func73,Tryz.ntmps73;go_wp2;go_ret;exact ⟨_,rfl,Heap.Vp hok.1 (ls:= []) (v:=.slice none 0 0) ⟨[],rfl,fun _=>rfl,by simp,by simp⟩ (Heap.frt (Heap.nRw (Heap.nAt (n:=w.heap.size) H.1 _ rfl) 9 1) 1 rfl)⟩
def Jrn.sync (j:Jrn):Jrn:= {j with sure:=j.es.length}
theorem Fb {w0 w:World} {b:Nat} {j:Jrn} {R:List SA} (h:Heap w0 (.jrn b j::R) w) (hd:j.down=false):
 CH 133 #[b] w (.int .i64 0) w0 (.jrn b j.sync::R):=by
 obtain ⟨hp,ls,v,hl,h⟩:=h.Yp;obtain ⟨c0,c1,c2,c3,cf⟩:=h.Zh 0 rfl;rw [hd] at c3;have hll:ls.length=j.es.length:=by rw [Jrn.Qej hl hd];simp
 have HP:As (j.sync.ok∧j.sync.lines ls∧ls.length=j.es.length):=⟨⟨hp.r0,hp.r1,hp.es,hp.len,Nat.le_refl _⟩,hl,hll⟩;have H:=zk h;rcases QA5 h 1 rfl with ⟨rfl,hn⟩|⟨g,cap,rfl⟩
 ·clear h hp hl hd;have HN:=zk hn;clear hn hll;go_enter Tryz.func133,Tryz.ntmps133;go_wp2;go_ret;refine ⟨rfl,Heap.Vp (v:=.slice none 0 0) HP.1.1 HP.1.2.1 ?_⟩
  show Heap w0 (.pts b (.cells #[_,_,.int .i64 (j.es.length:Nat),_] 144)::_) _
  rw [←HP.1.2.2,HN.1];have:=H.1;rw [HN.1] at this;exact this.set 2 _
 ·clear h hp hl hd hll;go_enter Tryz.func133,Tryz.ntmps133;go_wp2;go_ret;refine ⟨rfl,Heap.Vp (v:=.slice (some ⟨g,0,none⟩) ls.length cap) HP.1.1 HP.1.2.1 ?_⟩
  show Heap w0 (.pts b (.cells #[_,_,.int .i64 (j.es.length:Nat),_] 144)::_) _
  rw [←HP.1.2.2];exact H.1.set 2 _
end Go.Proofs.YtlnghlamnehfjaaGreatDoor.S
