/- Contracts and plain laws of the program, part N39. -/
import Derived.Test.YtlnghlamnehfjaaGreatDoorN24
import Derived.Test.YtlnghlamnehfjaaGreatDoorN34
import Derived.Test.YtlnghlamnehfjaaGreatDoorN38
set_option linter.unusedVariables false
set_option linter.unusedSimpArgs false
set_option maxRecDepth 100000
set_option maxHeartbeats 64000000
namespace Go.Proofs.YtlnghlamnehfjaaGreatDoor.S
open Go.RowKit Go.Maps
theorem mkeys_fst {X:Type} (val:Int→Value) (m:IM X):(mkeys val m).map (·.1)=m.map (·.1):=by simp [mkeys]
theorem cids_ok {w0 w:World} {b bj:Nat} {A:Int→Nat} {c:Chief} {R:List SA} (h:Heap w0 (.cha b bj A c::R) w):
 Calls Tryz.prog 30 #[.pointer (some ⟨b,0,none⟩)] w (IterI w0 c.ids (.cha b bj A c::R)):=by
 obtain ⟨hp,bm,bt,h⟩:=h.open_cha;obtain ⟨hk,h⟩:=(h.frt 1 rfl).open_book;obtain ⟨c0,c1,c2,c3,c4,c5,c6,cf⟩:=h.cB7 2 rfl;have HI:=zk (idsA_ok h 0 rfl (hk.mkeys _));have HP:=zk hp;have HK:=zk hk;clear h hp hk;go_enter Tryz.func30,Tryz.ntmps30;go_wp2_with (first
  |(go_at_call 56;refine (keysA_ok _ _).mono ?_;rintro e w1 ⟨rfl,rfl⟩)
  |(go_at_call 55;refine HI.out.mono ?_;rintro e w2 ⟨v,rfl,h2⟩;obtain ⟨av,cv,rfl⟩:=vS2 (h2.row 0 rfl);have H2:=zk h2;clear h2)
  |(go_at_call 54;refine (values_ok H2.out _ _ _).mono ?_;rintro e w3 ⟨bx,rfl,h3⟩;have H3:=zk h3;clear h3))
 go_ret;refine ⟨bx,.slice av c.ids.length cv,rfl,?_⟩;have h4:=H3.out.sel (p:= [_,_,_,_,_,_]) [2,3,4,5,0,1] 6 rfl (by decide);have h5:=(Heap.shut_book (val:=fun k=>.pointer (some ⟨A k,0,none⟩)) (give:=fun k x=>.led (A k) x) HK.out h4).frt 1 rfl;have h6:=(Heap.shut_cha (bm:=bm) (bt:=bt) HP.out (h5.sel (p:= [_,_,_]) [0,1,2] 3 rfl (by decide))).sel (p:= [_,_,_]) [1,2,0] 3 rfl (by decide);have e:(mkeys (fun k=>Value.pointer (some ⟨A k,0,none⟩)) c.l).length=c.ids.length:=by simp [mkeys,Chief.ids]
 rw [mkeys_fst,e] at h6;exact h6
theorem kids_ok {w0 w:World} {b:Nat} {k:Keeper} {R:List SA} (h:Heap w0 (.keeper b k::R) w):
 Calls Tryz.prog 78 #[.pointer (some ⟨b,0,none⟩)] w (IterI w0 (k.st.map (·.1)) (.keeper b k::R)):=by
 obtain ⟨bj,h⟩:=h.kpx_of;obtain ⟨hp,g,cap,bb,bm,h⟩:=h.open_kpx;obtain ⟨c0,c1,c2,c3,c4,cf⟩:=h.cB5 0 rfl;have HI:=zk (idsB_ok h 3 rfl (KeysOk.mval hp.keys));have HP:=zk hp;clear h hp;go_enter Tryz.func78,Tryz.ntmps78;go_wp2_with (first
  |(go_at_call 118;refine (keysB_ok _ _).mono ?_;rintro e w1 ⟨rfl,rfl⟩)
  |(go_at_call 55;refine HI.out.mono ?_;rintro e w2 ⟨v,rfl,h2⟩;obtain ⟨av,cv,rfl⟩:=vS2 (h2.row 0 rfl);have H2:=zk h2;clear h2)
  |(go_at_call 54;refine (values_ok H2.out _ _ _).mono ?_;rintro e w3 ⟨bx,rfl,h3⟩;have H3:=zk h3;clear h3))
 go_ret;refine ⟨bx,.slice av (k.st.map (·.1)).length cv,rfl,?_⟩;have h4:=H3.out.sel (p:= [_,_,_,_,_,_,_]) [2,3,4,5,6,0,1] 7 rfl (by decide);have h5:=(Heap.shut_kpx (g:=g) (cap:=cap) (bb:=bb) (bm:=bm) HP.out h4).sel (p:= [_,_,_,_]) [0,1,2,3] 4 rfl (by decide);have h6:=(Heap.kpx_to (bj:=bj) h5).sel (p:= [_,_,_]) [1,2,0] 3 rfl (by decide);have e:(mval (Value.int .i64) k.st).length=(k.st.map (·.1)).length:=by simp [mval]
 have e2:(mval (Value.int .i64) k.st).map (·.1)=k.st.map (·.1):=by simp [mval]
 rw [e2,e] at h6;exact h6
end Go.Proofs.YtlnghlamnehfjaaGreatDoor.S
