/- Part Q36. -/
import Derived.Test.YtlnghlamnehfjaaGreatDoorQ24
import Derived.Test.YtlnghlamnehfjaaGreatDoorQ29
import Derived.Test.YtlnghlamnehfjaaGreatDoorQ35
set_option linter.unusedVariables false
set_option linter.unusedSimpArgs false
set_option maxRecDepth 100000
set_option maxHeartbeats 64000000
namespace Go.Proofs.YtlnghlamnehfjaaGreatDoor.S
open Go.RowKit Go.Maps
theorem Qsy {X:Type} (val:Int→Value) (m:IM X):(QE val m).map (·.1)=m.map (·.1):=by simp [QE]
theorem Qpz {w0 w:World} {b bj:Nat} {A:Int→Nat} {c:Qa} {R:List SA} (h:Heap w0 (.cha b bj A c::R) w):
 Calls Tryz.prog 30 #[b] w (Qx0 w0 c.ids (.cha b bj A c::R)):=by
 obtain ⟨hp,bm,bt,h⟩:=h.QL;obtain ⟨hk,h⟩:=(h.frt 1 rfl).YT;have c0:=h.cB7 2 rfl;have HI:=zk (Qzo h 0 rfl (hk.QE _));have HP:=zk hp;have HK:=zk hk;clear h hp hk;go_enter Tryz.func30,Tryz.ntmps30;go_wp2_with (first
  |(go_at_call 56;refine (Qv9 _ _).mono ?_;rintro e w1 ⟨rfl,rfl⟩)
  |(go_at_call 55;refine HI.1.mono ?_;rintro e w2 ⟨v,rfl,h2⟩;obtain ⟨av,cv,rfl⟩:=vS2 (h2.row 0 rfl);have H2:=zk h2;clear h2)
  |(go_at_call 54;refine (Qhe H2.1 _ _ _).mono ?_;rintro e w3 ⟨bx,rfl,h3⟩;have H3:=zk h3;clear h3))
 go_ret;refine ⟨bx,.slice av c.ids.length cv,rfl,?_⟩;have h4:=H3.1.sel (p:= [_,_,_,_,_,_]) [2,3,4,5,0,1] 6 rfl (by decide);have h5:=(Heap.Zq (val:=fun k=>.pointer (some ⟨A k,0,none⟩)) (give:=fun k x=>.led (A k) x) HK.1 h4).frt 1 rfl;have h6:=(Heap.Xf (bm:=bm) (bt:=bt) HP.1 (h5.sel (p:= [_,_,_]) [0,1,2] 3 rfl (by decide))).sel (p:= [_,_,_]) [1,2,0] 3 rfl (by decide);have e:(QE (fun k=>Value.pointer (some ⟨A k,0,none⟩)) c.l).length=c.ids.length:=by simp [QE,Qa.ids]
 rw [Qsy,e] at h6;exact h6
theorem QAw {w0 w:World} {b:Nat} {k:Qd} {R:List SA} (h:Heap w0 (.keeper b k::R) w):
 Calls Tryz.prog 78 #[b] w (Qx0 w0 (k.st.map (·.1)) (.keeper b k::R)):=by
 obtain ⟨bj,h⟩:=h.YA;obtain ⟨hp,g,cap,bb,bm,h⟩:=h.QV;have c0:=h.cB5 0 rfl;have HI:=zk (Qzm h 3 rfl (Ql.Qx hp.keys));have HP:=zk hp;clear h hp;go_enter Tryz.func78,Tryz.ntmps78;go_wp2_with (first
  |(go_at_call 118;refine (Qzc _ _).mono ?_;rintro e w1 ⟨rfl,rfl⟩)
  |(go_at_call 55;refine HI.1.mono ?_;rintro e w2 ⟨v,rfl,h2⟩;obtain ⟨av,cv,rfl⟩:=vS2 (h2.row 0 rfl);have H2:=zk h2;clear h2)
  |(go_at_call 54;refine (Qhe H2.1 _ _ _).mono ?_;rintro e w3 ⟨bx,rfl,h3⟩;have H3:=zk h3;clear h3))
 go_ret;refine ⟨bx,.slice av (k.st.map (·.1)).length cv,rfl,?_⟩;have h4:=H3.1.sel (p:= [_,_,_,_,_,_,_]) [2,3,4,5,6,0,1] 7 rfl (by decide);have h5:=(Heap.XM (g:=g) (cap:=cap) (bb:=bb) (bm:=bm) HP.1 h4).sel (p:= [_,_,_,_]) [0,1,2,3] 4 rfl (by decide);have h6:=(Heap.Ko (bj:=bj) h5).sel (p:= [_,_,_]) [1,2,0] 3 rfl (by decide);have e:(Qx (Value.int .i64) k.st).length=(k.st.map (·.1)).length:=by simp [Qx]
 have e2:(Qx (Value.int .i64) k.st).map (·.1)=k.st.map (·.1):=by simp [Qx]
 rw [e2,e] at h6;exact h6
end Go.Proofs.YtlnghlamnehfjaaGreatDoor.S
