/- Part Q30. -/
import Derived.Test.YtlnghlamnehfjaaGreatDoorQ11
set_option linter.unusedVariables false
set_option linter.unusedSimpArgs false
set_option maxRecDepth 100000
set_option maxHeartbeats 64000000
namespace Go.Proofs.YtlnghlamnehfjaaGreatDoor.S
open Go.RowKit Go.Maps
theorem UZ {P:Prop} (h:P:=by
 have HX:=zk hX;clear hX;have e0:=HX.1.cB6 3 rfl;obtain ⟨y0,y1,y2,y3,y4,y5,y6,yf⟩:=HX.1.cB7 1 rfl;have ls:=HX.1.lt 1 rfl;have lo:=HX.1.lt 3 rfl;go_wp2_with fail;refine wro (fun W=>W.cell? ⟨w.heap.size,4,none⟩=some (.int .i64 o.price)) [(0,.f),(1,.s),(2,.f),(3,.f),(4,.f),(5,.e),(6,.f),(7,.e)] e0.2.2.2.2.1 ?_;repeat (first
  |refine vR ?_
  |(refine ve rfl rfl ?_;go_wp2_with fail
    (first|refine ⟨(HX.1.drew.sAt 1 5 _ rfl).cell 3 4 rfl rfl,?_⟩|refine ⟨((HX.1.drew.sAt 1 5 _ rfl).sAt 1 6 _ rfl).cell 3 4 rfl rfl,?_⟩)
    go_simp))
 refine vn ?_;go_simp;have hX:Heap w (sgM p8 6 1 o.id o.item o.qty::sgM p9 6 2 o.id o.client o.price::sgR w.heap.size o f ad cd vu av cv) _:=((HX.1.sAt 1 5 (.int .i64 o.client) rfl).sAt 1 6 (.int .i64 o.price) rfl).drew;clear y0 y1 y2 y3 y4 y5 y6 yf e0 ls lo;generalize ((U1.setCell ⟨p9,5,none⟩ (.int .i64 o.client)).setCell ⟨p9,6,none⟩ (.int .i64 o.price)).drew=U2 at hX⊢;have HX:=zk hX;clear hX;obtain ⟨y0,y1,y2,y3,y4,y5,y6,yf⟩:=HX.1.cB7 0 rfl;have u0:=HX.1.cB7 1 rfl;go_wp2_with fail;go_ret;refine ⟨_,rfl,?_⟩;rw [HFE.1];have h6:=Heap.XJ (k:=2) (size:=7) (HX.1.new (.cells #[.int .i64 6,.int .i64 0,.int .i64 1,o.id,.int .i64 0,o.item,o.qty,.int .i64 6,.int .i64 0,.int .i64 2,o.id,.int .i64 0,o.client,o.price] 113)) (by decide) rfl;exact (((h6.frt 1 rfl).drop.frt 1 rfl).drop.frt 1 rfl).drop.frt 1 rfl |>.drop):P:=h
theorem Tc {P:Prop} (h:P:=by
 have e0:=HX.1.cB6 3 rfl;obtain ⟨y0,y1,y2,y3,y4,y5,y6,yf⟩:=HX.1.cB7 0 rfl;have ls:=HX.1.lt 0 rfl;have lo:=HX.1.lt 3 rfl;go_wp2_with fail;refine wro (fun W=>W.cell? ⟨w.heap.size,2,none⟩=some (.int .i64 o.qty)) [(0,.f),(1,.s),(2,.f),(3,.f),(4,.f),(5,.e),(6,.f),(7,.e)] e0.2.2.1 ?_;repeat (first
  |refine vR ?_
  |(refine ve rfl rfl ?_;go_wp2_with fail
    (first|refine ⟨(HX.1.drew.sAt 0 5 _ rfl).cell 3 2 rfl rfl,?_⟩|refine ⟨((HX.1.drew.sAt 0 5 _ rfl).sAt 0 6 _ rfl).cell 3 2 rfl rfl,?_⟩)
    go_simp))
 refine vn ?_;go_simp;have hX:Heap w (sgM p8 6 1 o.id o.item o.qty::sgM p9 6 2 o.id 0 0::sgR w.heap.size o f ad cd vu av cv) _:=((HX.1.sAt 0 5 (.int .i64 o.item) rfl).sAt 0 6 (.int .i64 o.qty) rfl).drew;clear y0 y1 y2 y3 y4 y5 y6 yf e0 ls lo;first
  |(have ty:Tg 1:=tg;generalize ((V6.setCell ⟨p8,5,none⟩ (.int .i64 o.item)).setCell ⟨p8,6,none⟩ (.int .i64 o.qty)).drew=U1 at hX⊢;exact UZ)
  |(have ty:Tg 2:=tg;generalize ((V10.setCell ⟨p8,5,none⟩ (.int .i64 o.item)).setCell ⟨p8,6,none⟩ (.int .i64 o.qty)).drew=U1 at hX⊢;exact UZ)
  |(have ty:Tg 3:=tg;generalize ((V15.setCell ⟨p8,5,none⟩ (.int .i64 o.item)).setCell ⟨p8,6,none⟩ (.int .i64 o.qty)).drew=U1 at hX⊢;exact UZ)
  |(have ty:Tg 4:=tg;generalize ((V19.setCell ⟨p8,5,none⟩ (.int .i64 o.item)).setCell ⟨p8,6,none⟩ (.int .i64 o.qty)).drew=U1 at hX⊢;exact UZ)
  |(have ty:Tg 5:=tg;generalize ((V24.setCell ⟨p8,5,none⟩ (.int .i64 o.item)).setCell ⟨p8,6,none⟩ (.int .i64 o.qty)).drew=U1 at hX⊢;exact UZ)
  |(have ty:Tg 6:=tg;generalize ((V28.setCell ⟨p8,5,none⟩ (.int .i64 o.item)).setCell ⟨p8,6,none⟩ (.int .i64 o.qty)).drew=U1 at hX⊢;exact UZ)
  |(have ty:Tg 7:=tg;generalize ((V34.setCell ⟨p8,5,none⟩ (.int .i64 o.item)).setCell ⟨p8,6,none⟩ (.int .i64 o.qty)).drew=U1 at hX⊢;exact UZ)
  |(have ty:Tg 8:=tg;generalize ((V38.setCell ⟨p8,5,none⟩ (.int .i64 o.item)).setCell ⟨p8,6,none⟩ (.int .i64 o.qty)).drew=U1 at hX⊢;exact UZ)
  |(have ty:Tg 9:=tg;generalize ((V43.setCell ⟨p8,5,none⟩ (.int .i64 o.item)).setCell ⟨p8,6,none⟩ (.int .i64 o.qty)).drew=U1 at hX⊢;exact UZ)
  |(have ty:Tg 10:=tg;generalize ((V49.setCell ⟨p8,5,none⟩ (.int .i64 o.item)).setCell ⟨p8,6,none⟩ (.int .i64 o.qty)).drew=U1 at hX⊢;exact UZ)
  |(have ty:Tg 11:=tg;generalize ((V53.setCell ⟨p8,5,none⟩ (.int .i64 o.item)).setCell ⟨p8,6,none⟩ (.int .i64 o.qty)).drew=U1 at hX⊢;exact UZ)
  |(have ty:Tg 12:=tg;generalize ((V58.setCell ⟨p8,5,none⟩ (.int .i64 o.item)).setCell ⟨p8,6,none⟩ (.int .i64 o.qty)).drew=U1 at hX⊢;exact UZ)):P:=h
theorem Qgc {P:Prop} (h:P:=by
 have HX:=zk hX;clear hX;go_wp2_with fail;clear y0 y1 y2 y3 y4 y5 y6 yf hs;refine ⟨(by obtain ⟨q0,q1,q2,q3,q4,q5,qf⟩:=HX.1.cB6 3 rfl;exact ⟨q0,q1,q2,q3,q4,q5⟩),?_⟩;go_simp;clear hA;refine vte rfl rfl ?_;have hs:=HX.1.lt 0 rfl;obtain ⟨y0,y1,y2,y3,y4,y5,y6,yf⟩:=HX.1.cB7 0 rfl;have hX:Heap w (sgM p9 6 2 o.id 0 0::sgM p8 6 1 o.id 0 0::sgR w.heap.size o f ad cd vu av cv) _:=(((((((HX.1.sAt 0 0 (.int .i64 6) rfl).sAt 0 1 (.int .i64 0) rfl).sAt 0 2 (.int .i64 2) rfl).sAt 0 3 (.int .i64 o.id) rfl).sAt 0 4 (.int .i64 0) rfl).sAt 0 5 (.int .i64 0) rfl).sAt 0 6 (.int .i64 0) rfl);clear HX;first
  |(have ty:Tg 1:=tg;generalize hA:(((((((V5.setCell ⟨p9,0,none⟩ (.int .i64 6)).setCell ⟨p9,1,none⟩ (.int .i64 0)).setCell ⟨p9,2,none⟩ (.int .i64 2)).setCell ⟨p9,3,none⟩ (.int .i64 o.id)).setCell ⟨p9,4,none⟩ (.int .i64 0)).setCell ⟨p9,5,none⟩ (.int .i64 0)).setCell ⟨p9,6,none⟩ (.int .i64 0))=V6 at hX;have tg:=Tg.mk 1;exact Td)
  |(have ty:Tg 2:=tg;generalize hA:(((((((V14.setCell ⟨p9,0,none⟩ (.int .i64 6)).setCell ⟨p9,1,none⟩ (.int .i64 0)).setCell ⟨p9,2,none⟩ (.int .i64 2)).setCell ⟨p9,3,none⟩ (.int .i64 o.id)).setCell ⟨p9,4,none⟩ (.int .i64 0)).setCell ⟨p9,5,none⟩ (.int .i64 0)).setCell ⟨p9,6,none⟩ (.int .i64 0))=V15 at hX;have tg:=Tg.mk 2;exact Td)
  |(have ty:Tg 3:=tg;generalize hA:(((((((V18.setCell ⟨p9,0,none⟩ (.int .i64 6)).setCell ⟨p9,1,none⟩ (.int .i64 0)).setCell ⟨p9,2,none⟩ (.int .i64 2)).setCell ⟨p9,3,none⟩ (.int .i64 o.id)).setCell ⟨p9,4,none⟩ (.int .i64 0)).setCell ⟨p9,5,none⟩ (.int .i64 0)).setCell ⟨p9,6,none⟩ (.int .i64 0))=V19 at hX;have tg:=Tg.mk 3;exact Td)
  |(have ty:Tg 4:=tg;generalize hA:(((((((V33.setCell ⟨p9,0,none⟩ (.int .i64 6)).setCell ⟨p9,1,none⟩ (.int .i64 0)).setCell ⟨p9,2,none⟩ (.int .i64 2)).setCell ⟨p9,3,none⟩ (.int .i64 o.id)).setCell ⟨p9,4,none⟩ (.int .i64 0)).setCell ⟨p9,5,none⟩ (.int .i64 0)).setCell ⟨p9,6,none⟩ (.int .i64 0))=V34 at hX;have tg:=Tg.mk 4;exact Td)
  |(have ty:Tg 5:=tg;generalize hA:(((((((V37.setCell ⟨p9,0,none⟩ (.int .i64 6)).setCell ⟨p9,1,none⟩ (.int .i64 0)).setCell ⟨p9,2,none⟩ (.int .i64 2)).setCell ⟨p9,3,none⟩ (.int .i64 o.id)).setCell ⟨p9,4,none⟩ (.int .i64 0)).setCell ⟨p9,5,none⟩ (.int .i64 0)).setCell ⟨p9,6,none⟩ (.int .i64 0))=V38 at hX;have tg:=Tg.mk 5;exact Td)
  |(have ty:Tg 6:=tg;generalize hA:(((((((V42.setCell ⟨p9,0,none⟩ (.int .i64 6)).setCell ⟨p9,1,none⟩ (.int .i64 0)).setCell ⟨p9,2,none⟩ (.int .i64 2)).setCell ⟨p9,3,none⟩ (.int .i64 o.id)).setCell ⟨p9,4,none⟩ (.int .i64 0)).setCell ⟨p9,5,none⟩ (.int .i64 0)).setCell ⟨p9,6,none⟩ (.int .i64 0))=V43 at hX;have tg:=Tg.mk 6;exact Td)):P:=h
theorem Qfw {P:Prop} (h:P:=by
 have HX:=zk hX;clear hX;go_wp2_with fail;clear y0 y1 y2 y3 y4 y5 y6 yf hs;refine ⟨(by obtain ⟨q0,q1,q2,q3,q4,q5,qf⟩:=HX.1.cB6 3 rfl;exact ⟨q0,q1,q2,q3,q4,q5⟩),?_⟩;go_simp;clear hA;refine vte rfl rfl ?_;have hs:=HX.1.lt 1 rfl;obtain ⟨y0,y1,y2,y3,y4,y5,y6,yf⟩:=HX.1.cB7 1 rfl;have hX:Heap w (sgM p8 6 1 o.id 0 0::sgM p9 6 2 o.id 0 0::sgR w.heap.size o f ad cd vu av cv) _:=(((((((HX.1.sAt 1 0 (.int .i64 6) rfl).sAt 1 1 (.int .i64 0) rfl).sAt 1 2 (.int .i64 2) rfl).sAt 1 3 (.int .i64 o.id) rfl).sAt 1 4 (.int .i64 0) rfl).sAt 1 5 (.int .i64 0) rfl).sAt 1 6 (.int .i64 0) rfl);clear HX;first
  |(have ty:Tg 1:=tg;generalize hA:(((((((V9.setCell ⟨p9,0,none⟩ (.int .i64 6)).setCell ⟨p9,1,none⟩ (.int .i64 0)).setCell ⟨p9,2,none⟩ (.int .i64 2)).setCell ⟨p9,3,none⟩ (.int .i64 o.id)).setCell ⟨p9,4,none⟩ (.int .i64 0)).setCell ⟨p9,5,none⟩ (.int .i64 0)).setCell ⟨p9,6,none⟩ (.int .i64 0))=V10 at hX;have tg:=Tg.mk 7;exact Td)
  |(have ty:Tg 2:=tg;generalize hA:(((((((V23.setCell ⟨p9,0,none⟩ (.int .i64 6)).setCell ⟨p9,1,none⟩ (.int .i64 0)).setCell ⟨p9,2,none⟩ (.int .i64 2)).setCell ⟨p9,3,none⟩ (.int .i64 o.id)).setCell ⟨p9,4,none⟩ (.int .i64 0)).setCell ⟨p9,5,none⟩ (.int .i64 0)).setCell ⟨p9,6,none⟩ (.int .i64 0))=V24 at hX;have tg:=Tg.mk 8;exact Td)
  |(have ty:Tg 3:=tg;generalize hA:(((((((V27.setCell ⟨p9,0,none⟩ (.int .i64 6)).setCell ⟨p9,1,none⟩ (.int .i64 0)).setCell ⟨p9,2,none⟩ (.int .i64 2)).setCell ⟨p9,3,none⟩ (.int .i64 o.id)).setCell ⟨p9,4,none⟩ (.int .i64 0)).setCell ⟨p9,5,none⟩ (.int .i64 0)).setCell ⟨p9,6,none⟩ (.int .i64 0))=V28 at hX;have tg:=Tg.mk 9;exact Td)
  |(have ty:Tg 4:=tg;generalize hA:(((((((V48.setCell ⟨p9,0,none⟩ (.int .i64 6)).setCell ⟨p9,1,none⟩ (.int .i64 0)).setCell ⟨p9,2,none⟩ (.int .i64 2)).setCell ⟨p9,3,none⟩ (.int .i64 o.id)).setCell ⟨p9,4,none⟩ (.int .i64 0)).setCell ⟨p9,5,none⟩ (.int .i64 0)).setCell ⟨p9,6,none⟩ (.int .i64 0))=V49 at hX;have tg:=Tg.mk 10;exact Td)
  |(have ty:Tg 5:=tg;generalize hA:(((((((V52.setCell ⟨p9,0,none⟩ (.int .i64 6)).setCell ⟨p9,1,none⟩ (.int .i64 0)).setCell ⟨p9,2,none⟩ (.int .i64 2)).setCell ⟨p9,3,none⟩ (.int .i64 o.id)).setCell ⟨p9,4,none⟩ (.int .i64 0)).setCell ⟨p9,5,none⟩ (.int .i64 0)).setCell ⟨p9,6,none⟩ (.int .i64 0))=V53 at hX;have tg:=Tg.mk 11;exact Td)
  |(have ty:Tg 6:=tg;generalize hA:(((((((V57.setCell ⟨p9,0,none⟩ (.int .i64 6)).setCell ⟨p9,1,none⟩ (.int .i64 0)).setCell ⟨p9,2,none⟩ (.int .i64 2)).setCell ⟨p9,3,none⟩ (.int .i64 o.id)).setCell ⟨p9,4,none⟩ (.int .i64 0)).setCell ⟨p9,5,none⟩ (.int .i64 0)).setCell ⟨p9,6,none⟩ (.int .i64 0))=V58 at hX;have tg:=Tg.mk 12;exact Td)):P:=h
theorem Td {P:Prop} (h:P:=by
 have HX:=zk hX;clear hX;go_wp2_with fail;clear y0 y1 y2 y3 y4 y5 y6 yf hs;refine ⟨(by obtain ⟨q0,q1,q2,q3,q4,q5,qf⟩:=HX.1.cB6 3 rfl;exact ⟨q0,q1,q2,q3,q4,q5⟩),?_⟩;go_simp;clear hA;refine vtn ?_;first
  |(have ty:Tg 1:=tg;have HX:=zk (HX.1.frt 1 rfl);have tg:=Tg.mk 1;exact Tc)
  |(have ty:Tg 2:=tg;have HX:=zk (HX.1.frt 1 rfl);have tg:=Tg.mk 3;exact Tc)
  |(have ty:Tg 3:=tg;have HX:=zk (HX.1.frt 1 rfl);have tg:=Tg.mk 4;exact Tc)
  |(have ty:Tg 4:=tg;have HX:=zk (HX.1.frt 1 rfl);have tg:=Tg.mk 7;exact Tc)
  |(have ty:Tg 5:=tg;have HX:=zk (HX.1.frt 1 rfl);have tg:=Tg.mk 8;exact Tc)
  |(have ty:Tg 6:=tg;have HX:=zk (HX.1.frt 1 rfl);have tg:=Tg.mk 9;exact Tc)
  |(have ty:Tg 7:=tg;have tg:=Tg.mk 2;exact Tc)
  |(have ty:Tg 8:=tg;have tg:=Tg.mk 5;exact Tc)
  |(have ty:Tg 9:=tg;have tg:=Tg.mk 6;exact Tc)
  |(have ty:Tg 10:=tg;have tg:=Tg.mk 10;exact Tc)
  |(have ty:Tg 11:=tg;have tg:=Tg.mk 11;exact Tc)
  |(have ty:Tg 12:=tg;have tg:=Tg.mk 12;exact Tc)):P:=h
theorem Qfx {P:Prop} (h:P:=by
 refine vte rfl rfl ?_;have hs:=HX.1.lt 1 rfl;obtain ⟨y0,y1,y2,y3,y4,y5,y6,yf⟩:=HX.1.cB7 1 rfl;have hX:Heap w (sgM p9 0 0 0 0 0::sgM p8 6 1 o.id 0 0::sgR w.heap.size o f ad cd vu av cv) _:=(((((((HX.1.sAt 1 0 (.int .i64 6) rfl).sAt 1 1 (.int .i64 0) rfl).sAt 1 2 (.int .i64 1) rfl).sAt 1 3 (.int .i64 o.id) rfl).sAt 1 4 (.int .i64 0) rfl).sAt 1 5 (.int .i64 0) rfl).sAt 1 6 (.int .i64 0) rfl);clear HX;first
  |(have ty:Tg 1:=tg;generalize hA:(((((((V4.setCell ⟨p8,0,none⟩ (.int .i64 6)).setCell ⟨p8,1,none⟩ (.int .i64 0)).setCell ⟨p8,2,none⟩ (.int .i64 1)).setCell ⟨p8,3,none⟩ (.int .i64 o.id)).setCell ⟨p8,4,none⟩ (.int .i64 0)).setCell ⟨p8,5,none⟩ (.int .i64 0)).setCell ⟨p8,6,none⟩ (.int .i64 0))=V5 at hX;have tg:=Tg.mk 1;exact Qgc)
  |(have ty:Tg 2:=tg;generalize hA:(((((((V13.setCell ⟨p8,0,none⟩ (.int .i64 6)).setCell ⟨p8,1,none⟩ (.int .i64 0)).setCell ⟨p8,2,none⟩ (.int .i64 1)).setCell ⟨p8,3,none⟩ (.int .i64 o.id)).setCell ⟨p8,4,none⟩ (.int .i64 0)).setCell ⟨p8,5,none⟩ (.int .i64 0)).setCell ⟨p8,6,none⟩ (.int .i64 0))=V14 at hX;have tg:=Tg.mk 2;exact Qgc)
  |(have ty:Tg 3:=tg;generalize hA:(((((((V17.setCell ⟨p8,0,none⟩ (.int .i64 6)).setCell ⟨p8,1,none⟩ (.int .i64 0)).setCell ⟨p8,2,none⟩ (.int .i64 1)).setCell ⟨p8,3,none⟩ (.int .i64 o.id)).setCell ⟨p8,4,none⟩ (.int .i64 0)).setCell ⟨p8,5,none⟩ (.int .i64 0)).setCell ⟨p8,6,none⟩ (.int .i64 0))=V18 at hX;have tg:=Tg.mk 3;exact Qgc)
  |(have ty:Tg 4:=tg;generalize hA:(((((((V32.setCell ⟨p8,0,none⟩ (.int .i64 6)).setCell ⟨p8,1,none⟩ (.int .i64 0)).setCell ⟨p8,2,none⟩ (.int .i64 1)).setCell ⟨p8,3,none⟩ (.int .i64 o.id)).setCell ⟨p8,4,none⟩ (.int .i64 0)).setCell ⟨p8,5,none⟩ (.int .i64 0)).setCell ⟨p8,6,none⟩ (.int .i64 0))=V33 at hX;have tg:=Tg.mk 4;exact Qgc)
  |(have ty:Tg 5:=tg;generalize hA:(((((((V36.setCell ⟨p8,0,none⟩ (.int .i64 6)).setCell ⟨p8,1,none⟩ (.int .i64 0)).setCell ⟨p8,2,none⟩ (.int .i64 1)).setCell ⟨p8,3,none⟩ (.int .i64 o.id)).setCell ⟨p8,4,none⟩ (.int .i64 0)).setCell ⟨p8,5,none⟩ (.int .i64 0)).setCell ⟨p8,6,none⟩ (.int .i64 0))=V37 at hX;have tg:=Tg.mk 5;exact Qgc)
  |(have ty:Tg 6:=tg;generalize hA:(((((((V41.setCell ⟨p8,0,none⟩ (.int .i64 6)).setCell ⟨p8,1,none⟩ (.int .i64 0)).setCell ⟨p8,2,none⟩ (.int .i64 1)).setCell ⟨p8,3,none⟩ (.int .i64 o.id)).setCell ⟨p8,4,none⟩ (.int .i64 0)).setCell ⟨p8,5,none⟩ (.int .i64 0)).setCell ⟨p8,6,none⟩ (.int .i64 0))=V42 at hX;have tg:=Tg.mk 6;exact Qgc)):P:=h
theorem Qft {P:Prop} (h:P:=by
 refine vte rfl rfl ?_;have hs:=HX.1.lt 0 rfl;obtain ⟨y0,y1,y2,y3,y4,y5,y6,yf⟩:=HX.1.cB7 0 rfl;have hX:Heap w (sgM p8 6 1 o.id 0 0::sgM p9 0 0 0 0 0::sgR w.heap.size o f ad cd vu av cv) _:=(((((((HX.1.sAt 0 0 (.int .i64 6) rfl).sAt 0 1 (.int .i64 0) rfl).sAt 0 2 (.int .i64 1) rfl).sAt 0 3 (.int .i64 o.id) rfl).sAt 0 4 (.int .i64 0) rfl).sAt 0 5 (.int .i64 0) rfl).sAt 0 6 (.int .i64 0) rfl);clear HX;first
  |(have ty:Tg 1:=tg;generalize hA:(((((((V8.setCell ⟨p8,0,none⟩ (.int .i64 6)).setCell ⟨p8,1,none⟩ (.int .i64 0)).setCell ⟨p8,2,none⟩ (.int .i64 1)).setCell ⟨p8,3,none⟩ (.int .i64 o.id)).setCell ⟨p8,4,none⟩ (.int .i64 0)).setCell ⟨p8,5,none⟩ (.int .i64 0)).setCell ⟨p8,6,none⟩ (.int .i64 0))=V9 at hX;have tg:=Tg.mk 1;exact Qfw)
  |(have ty:Tg 2:=tg;generalize hA:(((((((V22.setCell ⟨p8,0,none⟩ (.int .i64 6)).setCell ⟨p8,1,none⟩ (.int .i64 0)).setCell ⟨p8,2,none⟩ (.int .i64 1)).setCell ⟨p8,3,none⟩ (.int .i64 o.id)).setCell ⟨p8,4,none⟩ (.int .i64 0)).setCell ⟨p8,5,none⟩ (.int .i64 0)).setCell ⟨p8,6,none⟩ (.int .i64 0))=V23 at hX;have tg:=Tg.mk 2;exact Qfw)
  |(have ty:Tg 3:=tg;generalize hA:(((((((V26.setCell ⟨p8,0,none⟩ (.int .i64 6)).setCell ⟨p8,1,none⟩ (.int .i64 0)).setCell ⟨p8,2,none⟩ (.int .i64 1)).setCell ⟨p8,3,none⟩ (.int .i64 o.id)).setCell ⟨p8,4,none⟩ (.int .i64 0)).setCell ⟨p8,5,none⟩ (.int .i64 0)).setCell ⟨p8,6,none⟩ (.int .i64 0))=V27 at hX;have tg:=Tg.mk 3;exact Qfw)
  |(have ty:Tg 4:=tg;generalize hA:(((((((V47.setCell ⟨p8,0,none⟩ (.int .i64 6)).setCell ⟨p8,1,none⟩ (.int .i64 0)).setCell ⟨p8,2,none⟩ (.int .i64 1)).setCell ⟨p8,3,none⟩ (.int .i64 o.id)).setCell ⟨p8,4,none⟩ (.int .i64 0)).setCell ⟨p8,5,none⟩ (.int .i64 0)).setCell ⟨p8,6,none⟩ (.int .i64 0))=V48 at hX;have tg:=Tg.mk 4;exact Qfw)
  |(have ty:Tg 5:=tg;generalize hA:(((((((V51.setCell ⟨p8,0,none⟩ (.int .i64 6)).setCell ⟨p8,1,none⟩ (.int .i64 0)).setCell ⟨p8,2,none⟩ (.int .i64 1)).setCell ⟨p8,3,none⟩ (.int .i64 o.id)).setCell ⟨p8,4,none⟩ (.int .i64 0)).setCell ⟨p8,5,none⟩ (.int .i64 0)).setCell ⟨p8,6,none⟩ (.int .i64 0))=V52 at hX;have tg:=Tg.mk 5;exact Qfw)
  |(have ty:Tg 6:=tg;generalize hA:(((((((V56.setCell ⟨p8,0,none⟩ (.int .i64 6)).setCell ⟨p8,1,none⟩ (.int .i64 0)).setCell ⟨p8,2,none⟩ (.int .i64 1)).setCell ⟨p8,3,none⟩ (.int .i64 o.id)).setCell ⟨p8,4,none⟩ (.int .i64 0)).setCell ⟨p8,5,none⟩ (.int .i64 0)).setCell ⟨p8,6,none⟩ (.int .i64 0))=V57 at hX;have tg:=Tg.mk 6;exact Qfw)):P:=h
theorem Tj {P:Prop} (h:P:=by
 have HX:=zk hX;clear hX;go_wp2_with fail;refine ⟨(by obtain ⟨q0,q1,q2,q3,q4,q5,qf⟩:=HX.1.cB6 3 rfl;exact ⟨q0,q1,q2,q3,q4,q5⟩),?_⟩;go_simp;clear hA hB;first
  |(have ty:Tg 1:=tg;have tg:=Tg.mk 1;exact Qfx)
  |(have ty:Tg 2:=tg;have tg:=Tg.mk 1;exact Qft)
  |(have ty:Tg 3:=tg;have tg:=Tg.mk 2;exact Qfx)
  |(have ty:Tg 4:=tg;refine vte rfl rfl ?_;go_wp2_with (go_at_call 164;refine (HT.1 _ _ _ HX.1.tab).m2 fun V17 hb=>?_;simp only [Msg.val,QO];have HX:=zk (HX.1.below hb);clear hb);have tg:=Tg.mk 1;exact FC)
  |(have ty:Tg 5:=tg;have tg:=Tg.mk 2;exact Qft)
  |(have ty:Tg 6:=tg;refine vte rfl rfl ?_;go_wp2_with (go_at_call 164;refine (HT.1 _ _ _ HX.1.tab).m2 fun V26 hb=>?_;simp only [Msg.val,QO];have HX:=zk (HX.1.below hb);clear hb);have tg:=Tg.mk 2;exact FC)
  |(have ty:Tg 7:=tg;have tg:=Tg.mk 4;exact Qfx)
  |(have ty:Tg 8:=tg;refine vte rfl rfl ?_;go_wp2_with (go_at_call 164;refine (HT.1 _ _ _ HX.1.tab).m2 fun V36 hb=>?_;simp only [Msg.val,QO];have HX:=zk (HX.1.below hb);clear hb);have tg:=Tg.mk 3;exact FC)
  |(have ty:Tg 9:=tg;refine vte rfl rfl ?_;go_wp2_with (go_at_call 164;refine (HT.1 _ _ _ HX.1.tab).m2 fun V40 hb=>?_;simp only [Msg.val,QO];have HX:=zk (HX.1.below hb);clear hb);have tg:=Tg.mk 4;exact FC)
  |(have ty:Tg 10:=tg;have tg:=Tg.mk 4;exact Qft)
  |(have ty:Tg 11:=tg;refine vte rfl rfl ?_;go_wp2_with (go_at_call 164;refine (HT.1 _ _ _ HX.1.tab).m2 fun V51 hb=>?_;simp only [Msg.val,QO];have HX:=zk (HX.1.below hb);clear hb);have tg:=Tg.mk 5;exact FC)
  |(have ty:Tg 12:=tg;refine vte rfl rfl ?_;go_wp2_with (go_at_call 164;refine (HT.1 _ _ _ HX.1.tab).m2 fun V55 hb=>?_;simp only [Msg.val,QO];have HX:=zk (HX.1.below hb);clear hb);have tg:=Tg.mk 6;exact FC)):P:=h
theorem KX {P:Prop} (h:P:=by
 refine vte rfl rfl ?_;have hX:=HX.1.new (.cells #[.int .i64 0,.int .i64 0,.int .i64 0,.int .i64 0,.int .i64 0,.int .i64 0,.int .i64 0] 113);clear HX;first
  |(have ty:Tg 1:=tg;generalize hA:V3.alloc (.cells #[.int .i64 0,.int .i64 0,.int .i64 0,.int .i64 0,.int .i64 0,.int .i64 0,.int .i64 0] 113)=V4 at hX;generalize hB:V3.heap.size=p9 at hX;have tg:=Tg.mk 1;exact Tj)
  |(have ty:Tg 2:=tg;generalize hA:V2.alloc (.cells #[.int .i64 0,.int .i64 0,.int .i64 0,.int .i64 0,.int .i64 0,.int .i64 0,.int .i64 0] 113)=V7 at hX;generalize hB:V2.heap.size=p9 at hX;have tg:=Tg.mk 4;exact Qfj)
  |(have ty:Tg 3:=tg;generalize hA:V12.alloc (.cells #[.int .i64 0,.int .i64 0,.int .i64 0,.int .i64 0,.int .i64 0,.int .i64 0,.int .i64 0] 113)=V13 at hX;generalize hB:V12.heap.size=p9 at hX;have tg:=Tg.mk 3;exact Tj)
  |(have ty:Tg 4:=tg;generalize hA:V11.alloc (.cells #[.int .i64 0,.int .i64 0,.int .i64 0,.int .i64 0,.int .i64 0,.int .i64 0,.int .i64 0] 113)=V16 at hX;generalize hB:V11.heap.size=p9 at hX;have tg:=Tg.mk 4;exact Tj)
  |(have ty:Tg 5:=tg;generalize hA:V1.alloc (.cells #[.int .i64 0,.int .i64 0,.int .i64 0,.int .i64 0,.int .i64 0,.int .i64 0,.int .i64 0] 113)=V20 at hX;generalize hB:V1.heap.size=p9 at hX;have tg:=Tg.mk 5;exact Qfj)
  |(have ty:Tg 6:=tg;generalize hA:V31.alloc (.cells #[.int .i64 0,.int .i64 0,.int .i64 0,.int .i64 0,.int .i64 0,.int .i64 0,.int .i64 0] 113)=V32 at hX;generalize hB:V31.heap.size=p9 at hX;have tg:=Tg.mk 7;exact Tj)
  |(have ty:Tg 7:=tg;generalize hA:V30.alloc (.cells #[.int .i64 0,.int .i64 0,.int .i64 0,.int .i64 0,.int .i64 0,.int .i64 0,.int .i64 0] 113)=V35 at hX;generalize hB:V30.heap.size=p9 at hX;have tg:=Tg.mk 8;exact Tj)
  |(have ty:Tg 8:=tg;generalize hA:V29.alloc (.cells #[.int .i64 0,.int .i64 0,.int .i64 0,.int .i64 0,.int .i64 0,.int .i64 0,.int .i64 0] 113)=V39 at hX;generalize hB:V29.heap.size=p9 at hX;have tg:=Tg.mk 9;exact Tj)
  |(have ty:Tg 9:=tg;generalize hA:V0.alloc (.cells #[.int .i64 0,.int .i64 0,.int .i64 0,.int .i64 0,.int .i64 0,.int .i64 0,.int .i64 0] 113)=V44 at hX;generalize hB:V0.heap.size=p9 at hX;have tg:=Tg.mk 6;exact Qfj)):P:=h
theorem Qfj {P:Prop} (h:P:=by
 have HX:=zk hX;clear hX;go_wp2_with fail;refine ⟨(by obtain ⟨q0,q1,q2,q3,q4,q5,qf⟩:=HX.1.cB6 2 rfl;exact ⟨q0,q1,q2,q3,q4,q5⟩),?_⟩;go_simp;clear hA hB;first
  |(have ty:Tg 1:=tg;have tg:=Tg.mk 1;exact KX)
  |(have ty:Tg 2:=tg;refine vtf rfl rfl ?_ ?_
    ·go_wp2_with (go_at_call 164;refine (HT.1 _ _ _ HX.1.tab).m2 fun V12 hb=>?_;simp only [Msg.val,QO];have HX:=zk (HX.1.below hb);clear hb);refine ⟨(by obtain ⟨q0,q1,q2,q3,q4,q5,qf⟩:=HX.1.cB6 2 rfl;exact ⟨q0,q1,q2,q3,q4,q5⟩),?_⟩;go_simp;have tg:=Tg.mk 3;exact KX
    have tg:=Tg.mk 4;exact KX)
  |(have ty:Tg 3:=tg;refine vtf rfl rfl ?_ ?_
    ·go_wp2_with (go_at_call 164;refine (HT.1 _ _ _ HX.1.tab).m2 fun V30 hb=>?_;simp only [Msg.val,QO];have HX:=zk (HX.1.below hb);clear hb);refine ⟨(by obtain ⟨q0,q1,q2,q3,q4,q5,qf⟩:=HX.1.cB6 2 rfl;exact ⟨q0,q1,q2,q3,q4,q5⟩),?_⟩;go_simp;refine vtf rfl rfl ?_ ?_
     ·go_wp2_with (go_at_call 164;refine (HT.1 _ _ _ HX.1.tab).m2 fun V31 hb=>?_;simp only [Msg.val,QO];have HX:=zk (HX.1.below hb);clear hb);refine ⟨(by obtain ⟨q0,q1,q2,q3,q4,q5,qf⟩:=HX.1.cB6 2 rfl;exact ⟨q0,q1,q2,q3,q4,q5⟩),?_⟩;go_simp;have tg:=Tg.mk 6;exact KX
     have tg:=Tg.mk 7;exact KX
    have tg:=Tg.mk 8;exact KX)
  |(have ty:Tg 4:=tg;refine vte rfl rfl ?_;have tg:=Tg.mk 4;exact UV)
  |(have ty:Tg 5:=tg;refine vtf rfl rfl ?_ ?_
    ·go_wp2_with (go_at_call 164;refine (HT.1 _ _ _ HX.1.tab).m2 fun V21 hb=>?_;simp only [Msg.val,QO];have HX:=zk (HX.1.below hb);clear hb);refine ⟨(by obtain ⟨q0,q1,q2,q3,q4,q5,qf⟩:=HX.1.cB6 2 rfl;exact ⟨q0,q1,q2,q3,q4,q5⟩),?_⟩;go_simp;refine vte rfl rfl ?_;have tg:=Tg.mk 5;exact UV
    refine vte rfl rfl ?_;have tg:=Tg.mk 6;exact UV)
  |(have ty:Tg 6:=tg;refine vtf rfl rfl ?_ ?_
    ·go_wp2_with (go_at_call 164;refine (HT.1 _ _ _ HX.1.tab).m2 fun V45 hb=>?_;simp only [Msg.val,QO];have HX:=zk (HX.1.below hb);clear hb);refine ⟨(by obtain ⟨q0,q1,q2,q3,q4,q5,qf⟩:=HX.1.cB6 2 rfl;exact ⟨q0,q1,q2,q3,q4,q5⟩),?_⟩;go_simp;refine vtf rfl rfl ?_ ?_
     ·go_wp2_with (go_at_call 164;refine (HT.1 _ _ _ HX.1.tab).m2 fun V46 hb=>?_;simp only [Msg.val,QO];have HX:=zk (HX.1.below hb);clear hb);refine ⟨(by obtain ⟨q0,q1,q2,q3,q4,q5,qf⟩:=HX.1.cB6 2 rfl;exact ⟨q0,q1,q2,q3,q4,q5⟩),?_⟩;go_simp;refine vte rfl rfl ?_;have tg:=Tg.mk 7;exact UV
     refine vte rfl rfl ?_;have tg:=Tg.mk 8;exact UV
    refine vte rfl rfl ?_;have tg:=Tg.mk 9;exact UV)):P:=h
theorem UV {P:Prop} (h:P:=by
 have hX:=HX.1.new (.cells #[.int .i64 0,.int .i64 0,.int .i64 0,.int .i64 0,.int .i64 0,.int .i64 0,.int .i64 0] 113);clear HX;first
  |(have ty:Tg 1:=tg;generalize hA:V2.alloc (.cells #[.int .i64 0,.int .i64 0,.int .i64 0,.int .i64 0,.int .i64 0,.int .i64 0,.int .i64 0] 113)=V3 at hX;generalize hB:V2.heap.size=p8 at hX;have tg:=Tg.mk 1;exact Qfj)
  |(have ty:Tg 2:=tg;generalize hA:V1.alloc (.cells #[.int .i64 0,.int .i64 0,.int .i64 0,.int .i64 0,.int .i64 0,.int .i64 0,.int .i64 0] 113)=V11 at hX;generalize hB:V1.heap.size=p8 at hX;have tg:=Tg.mk 2;exact Qfj)
  |(have ty:Tg 3:=tg;generalize hA:V0.alloc (.cells #[.int .i64 0,.int .i64 0,.int .i64 0,.int .i64 0,.int .i64 0,.int .i64 0,.int .i64 0] 113)=V29 at hX;generalize hB:V0.heap.size=p8 at hX;have tg:=Tg.mk 3;exact Qfj)
  |(have ty:Tg 4:=tg;generalize hA:V7.alloc (.cells #[.int .i64 0,.int .i64 0,.int .i64 0,.int .i64 0,.int .i64 0,.int .i64 0,.int .i64 0] 113)=V8 at hX;generalize hB:V7.heap.size=p8 at hX;have tg:=Tg.mk 2;exact Tj)
  |(have ty:Tg 5:=tg;generalize hA:V21.alloc (.cells #[.int .i64 0,.int .i64 0,.int .i64 0,.int .i64 0,.int .i64 0,.int .i64 0,.int .i64 0] 113)=V22 at hX;generalize hB:V21.heap.size=p8 at hX;have tg:=Tg.mk 5;exact Tj)
  |(have ty:Tg 6:=tg;generalize hA:V20.alloc (.cells #[.int .i64 0,.int .i64 0,.int .i64 0,.int .i64 0,.int .i64 0,.int .i64 0,.int .i64 0] 113)=V25 at hX;generalize hB:V20.heap.size=p8 at hX;have tg:=Tg.mk 6;exact Tj)
  |(have ty:Tg 7:=tg;generalize hA:V46.alloc (.cells #[.int .i64 0,.int .i64 0,.int .i64 0,.int .i64 0,.int .i64 0,.int .i64 0,.int .i64 0] 113)=V47 at hX;generalize hB:V46.heap.size=p8 at hX;have tg:=Tg.mk 10;exact Tj)
  |(have ty:Tg 8:=tg;generalize hA:V45.alloc (.cells #[.int .i64 0,.int .i64 0,.int .i64 0,.int .i64 0,.int .i64 0,.int .i64 0,.int .i64 0] 113)=V50 at hX;generalize hB:V45.heap.size=p8 at hX;have tg:=Tg.mk 11;exact Tj)
  |(have ty:Tg 9:=tg;generalize hA:V44.alloc (.cells #[.int .i64 0,.int .i64 0,.int .i64 0,.int .i64 0,.int .i64 0,.int .i64 0,.int .i64 0] 113)=V54 at hX;generalize hB:V44.heap.size=p8 at hX;have tg:=Tg.mk 12;exact Tj)):P:=h
theorem FC {P:Prop} (h:P:=by
 refine ⟨(by obtain ⟨q0,q1,q2,q3,q4,q5,qf⟩:=HX.1.cB6 3 rfl;exact ⟨q0,q1,q2,q3,q4,q5⟩),?_⟩;go_simp;first
  |(have ty:Tg 1:=tg;have tg:=Tg.mk 3;exact Qfx)
  |(have ty:Tg 2:=tg;have tg:=Tg.mk 3;exact Qft)
  |(have ty:Tg 3:=tg;have tg:=Tg.mk 5;exact Qfx)
  |(have ty:Tg 4:=tg;refine vte rfl rfl ?_;go_wp2_with (go_at_call 164;refine (HT.1 _ _ _ HX.1.tab).m2 fun V41 hb=>?_;simp only [Msg.val,QO];have HX:=zk (HX.1.below hb);clear hb);refine ⟨(by obtain ⟨q0,q1,q2,q3,q4,q5,qf⟩:=HX.1.cB6 3 rfl;exact ⟨q0,q1,q2,q3,q4,q5⟩),?_⟩;go_simp;have tg:=Tg.mk 6;exact Qfx)
  |(have ty:Tg 5:=tg;have tg:=Tg.mk 5;exact Qft)
  |(have ty:Tg 6:=tg;refine vte rfl rfl ?_;go_wp2_with (go_at_call 164;refine (HT.1 _ _ _ HX.1.tab).m2 fun V56 hb=>?_;simp only [Msg.val,QO];have HX:=zk (HX.1.below hb);clear hb);refine ⟨(by obtain ⟨q0,q1,q2,q3,q4,q5,qf⟩:=HX.1.cB6 3 rfl;exact ⟨q0,q1,q2,q3,q4,q5⟩),?_⟩;go_simp;have tg:=Tg.mk 6;exact Qft)):P:=h
abbrev sgM (p:Nat) (k to id a b:Int):SA:=.pts p (.cells #[.int .i64 k,.int .i64 0,.int .i64 to,id,.int .i64 0,.int .i64 a,.int .i64 b] 113)
abbrev sgR (n:Nat) (o:Od) (f:Facts) (ad:Option Addr) (cd:Nat) (vu:Value) (av:Option Addr) (cv:Nat):List SA:= [.pts (n+1) (.cells #[.slice ad o.steps.length cd,vu,.bool f.asked,.bool f.yes,.bool f.turned,.bool f.ack0,.bool f.ack1,.bool f.shipped,.bool f.dam0,.bool f.dam1,.bool f.accepted] 80),.pts n (.cells #[o.id,o.item,o.qty,o.client,o.price,.slice av o.steps.length cv] 32)]
theorem Heap.join {w0 w w':World} {R L:List SA} (h:Heap w0 R w) (h':Heap w L w'):Heap w0 (L++R) w':=by
 obtain ⟨hb,F,hF,hR⟩:=h;obtain ⟨hb',F',hF',hL⟩:=h';have hlt:∀k,F k→k<w.heap.size:=fun k hk=>(SA.all R).here hR hk;have hR':Heap w0 R w':=⟨⟨hb.1,hb.2.trans (hb'.2.mono hb.2.size)⟩,F,hF,(SA.all R).loc hR (fun k hk=>hb'.2.block k (hlt k hk))⟩;refine Heap.spread ?_;obtain ⟨hb2,G,hG,hRR⟩:=hR';exact ⟨⟨hb.1,hb.2.trans (hb'.2.mono hb.2.size)⟩,fun k=>F' k∨F k,fun k hk=>hk.elim (fun h=>Nat.le_trans hb.2.size (hF' k h)) (hF k),F',F,fun _=>Iff.rfl,fun k h1 h2=>by have:=hF' k h1;have:=hlt k h2;omega,hL,
  (SA.all R).loc hR (fun k hk=>hb'.2.block k (hlt k hk))⟩
theorem Qox {o:Od} {f:Facts} {k:Nat} (hk:k<o.steps.length) (hl:f.done.length=o.steps.length) (h1:∀j (hj:j<f.done.length),j<k→f.done[j]=true) (h2:f.done[k]'(by omega)=false):
 QW o f= [⟨1,0,o.steps[k].svc,o.id,(k:Int),o.steps[k].n,0⟩]:=by
 have:f.done.findIdx? (fun b=>!b)=some k:=by
  rw [List.findIdx?_eq_some_iff_getElem];exact ⟨by omega,by simp [h2],fun j hj=>by simpa using h1 j (by omega) hj⟩
 simp [QW,this,hk]
theorem Qmd {o:Od} {f:Facts} (h1:∀j (hj:j<f.done.length),f.done[j]=true):
 QW o f= [⟨6,0,1,o.id,0,o.item,o.qty⟩,⟨6,0,2,o.id,0,o.client,o.price⟩]:=by
 have:f.done.findIdx? (fun b=>!b)=none:=by
  rw [List.findIdx?_eq_none_iff];intro x hx;obtain ⟨j,hj,rfl⟩:=List.getElem_of_mem hx;simpa using h1 j hj
 simp [QW,this]
theorem Qo2 (o:Od) (f:Facts) (v vd vu:Value) (w:World) (hg:Good w) (h:OFs w o f v vd vu):
 Calls Tryz.prog 165 #[o.val v,f.val vd vu] w fun e w'=>∃v',e=.returned v'∧Heap w [.slc v' 113 7 (QW o f).length (Qk (QW o f))] w':=by
 obtain ⟨l1, -, -⟩:=mpt h.may;have hl3:=h.ok.len;have H:=zk (Heap.nAt (n:=w.heap.size+1) (Heap.new (Heap.start hg) (.cells (o.cells v) 32)) (.cells (f.cells vd vu) 80) (by simp));have HT:As (∀k to W,Good W→Calls Tryz.prog 164 #[.int .i64 k,.int .i64 to,o.val v] W fun e w'=>e=.returned (QO k to o).val∧Below W.heap.size W w'):=⟨fun k to W hg=>Qbn k to o v W hg⟩;obtain ⟨av,cv,hv⟩:=vS2 h.steps;obtain ⟨ad,cd,hd⟩:=vS2 h.done;have hS:∀j,(hj:j<o.steps.length)→∃g,av=some ⟨g,0,none⟩∧w.cell? ⟨g,j*2,none⟩=some (.int .i64 o.steps[j].svc)∧w.cell? ⟨g,j*2+1,none⟩=some (.int .i64 o.steps[j].n):=by
  intro j hj;rcases h.steps.2 with ⟨_,h'⟩|⟨g,cap,cur,h1,_⟩;omega
  ·have hc:∀i u,(Qs o.steps)[i]? =some u→w.cell? ⟨g,i,none⟩=some u:=fun i u hu=>by
    have:=h.steps.cells (g:=g) (by rw [h1];rfl) i u hu
    rwa [addr_add] at this
   rw [hv] at h1;cases h1;exact ⟨g,rfl,hc _ _ (Xb o.steps j 0 hj (by omega)),hc _ _ (Xb o.steps j 1 hj (by omega))⟩
 have hD:∀j,(hj:j<f.done.length)→∃g,ad=some ⟨g,0,none⟩∧w.cell? ⟨g,j,none⟩=some (.bool f.done[j]):=by
  intro j hj;rcases h.done.2 with ⟨_,h'⟩|⟨g,cap,cur,h1,_⟩;omega;have:=h.done.cells (g:=g) (by rw [h1];rfl) j (.bool f.done[j]) (by simp [hj]);rw [addr_add] at this;rw [hd] at h1;cases h1;exact ⟨g,rfl,this⟩
 have HS:=zk hS;have HD:=zk hD;have HL:=zk l1;have HFD:=zk (@Qox o f);have HFA:=zk (@Qmd o f);subst hv hd;rw [l1] at H;unfold Facts.val;rw [l1];simp only [Od.val,Facts.cells,Od.cells] at *;clear h hg hS hD l1;go_enter Tryz.func165,Tryz.ntmps165;go_wp2
 go_loopg [5,6,13] o.steps.length (fun gk v5 v6 i wr=>∃k:Nat,i=.int .i64 k∧k≤o.steps.length∧As (gk+k=o.steps.length)∧As (∀j (hj:j<f.done.length),j<k→f.done[j]=true)∧As (Heap w [.pts (w.heap.size+1) (.cells #[.slice ad o.steps.length cd,vu,.bool f.asked,.bool f.yes,.bool f.turned,.bool f.ack0,.bool f.ack1,.bool f.shipped,.bool f.dam0,.bool f.dam1,.bool f.accepted] 80),.pts w.heap.size (.cells #[o.id,o.item,o.qty,o.client,o.price,.slice av o.steps.length cv] 32)] wr))
 case atStart=>exact ⟨0,rfl,by omega,⟨by omega⟩,⟨by omega⟩,H⟩
 case round=>
  obtain ⟨k,rfl,hk,HG,HA,H1⟩:=hrel;have c0:=H1.1.cA1 0 rfl;have e0:=H1.1.cB6 1 rfl;clear H;by_cases hlt:k<o.steps.length
  ·obtain ⟨g,rfl,x0,x1⟩:=HS.1 k hlt;obtain ⟨g',rfl,y0⟩:=HD.1 k (by rw [HL.1];exact hlt);have b0:=World.block_lt_of_cell? w _ x0;have b1:=World.block_lt_of_cell? w _ y0;have x0:wr.cell? ⟨g,k*2,none⟩=_:=(H1.1.bel.cell (p:=⟨g,k*2,none⟩) b0).trans x0;have x1:wr.cell? ⟨g,k*2+1,none⟩=_:=(H1.1.bel.cell (p:=⟨g,k*2+1,none⟩) b0).trans x1;have y0:wr.cell? ⟨g',k,none⟩=_:=(H1.1.bel.cell (p:=⟨g',k,none⟩) b1).trans y0;have HDK:As (∀b,f.done[k]'(by rw [HL.1];exact hlt)=b→f.done[k]'(by rw [HL.1];exact hlt)=b):=⟨fun b h=>h⟩;have HFK:As (f.done[k]'(by rw [HL.1];exact hlt)=false→QW o f= [⟨1,0,o.steps[k].svc,o.id,(k:Int),o.steps[k].n,0⟩]):=⟨fun h2=>HFD.1 hlt HL.1 HA.1 h2⟩;have HAK:As (f.done[k]'(by rw [HL.1];exact hlt)=true→∀j (hj:j<f.done.length),j<k+1→f.done[j]=true):=⟨fun h2 j hj hjk=>by
    rcases Nat.lt_succ_iff_lt_or_eq.1 hjk with h|rfl;exact HA.1 j hj h;exact h2⟩
   generalize f.done[k]'(by rw [HL.1];exact hlt)=dk at *;generalize o.steps[k]=p at *;have hk1:(k:Int)<(o.steps.length:Int):=by omega
   have b0:g<wr.heap.size:=Nat.lt_of_lt_of_le b0 H1.1.size;have b1:g'<wr.heap.size:=Nat.lt_of_lt_of_le b1 H1.1.size;have hlb:=H1.1.lt 0 rfl;have hlb2:=H1.1.lt 1 rfl;cases dk
   ·have HFE:=zk (HFK.1 rfl);have HW:As (∀m:Msg,m=⟨1,0,p.svc,o.id,(k:Int),p.n,0⟩→QW o f= [m]):=⟨fun m hm=>by rw [hm];exact HFE.1⟩;have h2:=H1.1.new (.cells #[p.svc,p.n] 131);go_wp2_with (go_at_call 164;refine (HT.1 _ _ _ h2.tab).m2 fun w1 hb=>?_;simp only [Msg.val,QO];have h3:=h2.below hb;clear c0 e0 x0 x1 y0;obtain ⟨x0,x1,xf⟩:=h3.cB2 0 rfl;have hlb1:=h3.lt 0 rfl;have H3:=zk h3;clear h3);obtain ⟨W2,hW2⟩:∃W2,w1.alloc (.cells #[.int .i64 1,.int .i64 0,p.svc,o.id,.int .i64 0,.int .i64 0,.int .i64 0] 113)=W2:=⟨_,rfl⟩;have h4:=H3.1.new (.cells #[.int .i64 1,.int .i64 0,p.svc,o.id,.int .i64 0,.int .i64 0,.int .i64 0] 113);rw [hW2] at h4⊢;have ls:=h4.lt 0 rfl;have lf:=h4.frz 0 0 rfl;have x1:=h4.cell 1 1 rfl rfl;have z0:=h4.cB7 0 rfl;have H4:=zk h4;clear h4 hW2;refine wro (fun W=>W.cell? ⟨wr.heap.size,1,none⟩=some (.int .i64 p.n)) [(0,.f),(1,.f),(2,.f),(3,.f),(4,.e),(5,.f),(6,.e)] x1 ?_;repeat (first
     |refine vR ?_
     |(refine ve rfl rfl ?_;go_wp2_with fail
       (first|refine ⟨(H4.1.drew.sAt 0 4 _ rfl).cell 1 1 rfl rfl,?_⟩|refine ⟨((H4.1.drew.sAt 0 4 _ rfl).sAt 0 5 _ rfl).cell 1 1 rfl rfl,?_⟩)
       go_simp))
    refine vn ?_;go_simp;have h5:=((H4.1.sAt 0 4 (.int .i64 (k:Int)) rfl).sAt 0 5 (.int .i64 p.n) rfl).drew;clear z0;generalize ((W2.setCell ⟨w1.heap.size,4,none⟩ (.int .i64 (k:Int))).setCell ⟨w1.heap.size,5,none⟩ (.int .i64 p.n)).drew=W3 at h5⊢;have z0:=h5.cB7 0 rfl;have H5:=zk h5;clear h5;go_wp2_with fail;go_ret;refine ⟨_,rfl,?_⟩;rw [HW.1 ⟨1,0,p.svc,o.id,(k:Int),p.n,0⟩ rfl];have h6:=Heap.XJ (k:=1) (size:=7) (H5.1.new (.cells #[.int .i64 1,.int .i64 0,p.svc,o.id,.int .i64 (k:Int),p.n,.int .i64 0] 113)) (by decide) rfl;exact (((h6.frt 1 rfl).drop.frt 1 rfl).drop.frt 1 rfl).drop.frt 1 rfl |>.drop
   ·go_wp2;go_roundg (o.steps.length-(k+1))
    case measure=>have:=HG.1;omega
    case rel=>exact ⟨k+1,by go_num,by omega,⟨by omega⟩,⟨by first|exact HAK.1 rfl|exact HAK.1 trivial⟩,⟨(H1.1.new _).drop⟩⟩
  ·obtain rfl:k=o.steps.length:=by omega
   have HFE:=zk (HFA.1 (fun j hj=>HA.1 j hj (by rw [←HL.1];exact hj)));go_wp2;refine wrt (fun W=>W.cell? ⟨w.heap.size,0,none⟩=some (.int .i64 o.id)∧W.cell? ⟨w.heap.size,1,none⟩=some (.int .i64 o.item)∧W.cell? ⟨w.heap.size,2,none⟩=some (.int .i64 o.qty)∧W.cell? ⟨w.heap.size,3,none⟩=some (.int .i64 o.client)∧W.cell? ⟨w.heap.size,4,none⟩=some (.int .i64 o.price)∧W.cell? ⟨w.heap.size,5,none⟩=some (.slice av o.steps.length cv)) (.op 0 .f (.op 2 .f (.fork 1 (.fork 3 (.fork 4 (.op 5 .e (.op 6 .e (.op 7 .e .nil))) (.op 5 .e (.op 4 .e (.op 6 .e (.op 7 .e .nil))))) (.fork 4 (.fork 3 (.op 5 .e (.op 6 .e (.op 7 .e .nil))) (.op 5 .e (.op 3 .e (.op 6 .e (.op 7 .e .nil))))) (.op 5 .e (.fork 3 (.op 4 .e (.op 6 .e (.op 7 .e .nil))) (.op 4 .e (.op 3 .e (.op 6 .e (.op 7 .e .nil)))))))) (.fork 4 (.fork 1 (.fork 3 (.op 5 .e (.op 6 .e (.op 7 .e .nil))) (.op 5 .e (.op 3 .e (.op 6 .e (.op 7 .e .nil))))) (.op 5 .e (.op 1 .e (.op 3 .e (.op 6 .e (.op 7 .e .nil)))))) (.op 5 .e (.fork 1 (.fork 3 (.op 4 .e (.op 6 .e (.op 7 .e .nil))) (.op 4 .e (.op 3 .e (.op 6 .e (.op 7 .e .nil))))) (.op 4 .e (.op 1 .e (.op 3 .e (.op 6 .e (.op 7 .e .nil))))))))))) (by kernel_rfl) (by kernel_rfl) ⟨e0.1,e0.2.1,e0.2.2.1,e0.2.2.2.1,e0.2.2.2.2.1,e0.2.2.2.2.2.1⟩ ?_;have hX:=H1.1.drew;generalize hA:wr.drew=V0 at hX;have HX:=zk hX;change wpT _ _ _ _ _ _ wr.drew;rw [hA];clear hA hX c0 e0;refine vtg rfl rfl ?_;apply ex2;intro w' hw';obtain ⟨q0,q1,q2,q3,q4,q5⟩:=hw';go_simp;rfl;go_simp;refine vtg rfl rfl ?_;apply ex2;intro w' hw';obtain ⟨q0,q1,q2,q3,q4,q5⟩:=hw';go_simp;rfl;go_simp;refine vtf rfl rfl ?_ ?_
   ·go_wp2_with (go_at_call 164;refine (HT.1 _ _ _ HX.1.tab).m2 fun V1 hb=>?_;simp only [Msg.val,QO];have HX:=zk (HX.1.below hb);clear hb);refine ⟨(by obtain ⟨q0,q1,q2,q3,q4,q5,qf⟩:=HX.1.cB6 1 rfl;exact ⟨q0,q1,q2,q3,q4,q5⟩),?_⟩;go_simp;refine vtf rfl rfl ?_ ?_
    ·go_wp2_with (go_at_call 164;refine (HT.1 _ _ _ HX.1.tab).m2 fun V2 hb=>?_;simp only [Msg.val,QO];have HX:=zk (HX.1.below hb);clear hb);refine ⟨(by obtain ⟨q0,q1,q2,q3,q4,q5,qf⟩:=HX.1.cB6 1 rfl;exact ⟨q0,q1,q2,q3,q4,q5⟩),?_⟩;go_simp;refine vtf rfl rfl ?_ ?_;have tg:=Tg.mk 1;exact UV;have tg:=Tg.mk 2;exact KX
    refine vtf rfl rfl ?_ ?_;have tg:=Tg.mk 2;exact UV;have tg:=Tg.mk 5;exact KX
   refine vtf rfl rfl ?_ ?_;have tg:=Tg.mk 3;exact UV;have tg:=Tg.mk 9;exact KX
end Go.Proofs.YtlnghlamnehfjaaGreatDoor.S
