/- Part Q40. -/
import Derived.Test.YtlnghlamnehfjaaGreatDoorQ39
set_option linter.unusedVariables false
set_option linter.unusedSimpArgs false
set_option maxRecDepth 100000
set_option maxHeartbeats 64000000
namespace Go.Proofs.YtlnghlamnehfjaaGreatDoor.S
open Go.RowKit Go.Maps
theorem Te {P:Prop} (h:P:=by
 refine ⟨⟨K4.1.cell 6 3 rfl rfl,K4.1.cell 6 4 rfl rfl,K4.1.cell 6 5 rfl rfl⟩,?_⟩;go_simp;refine vxe rfl rfl rfl ?_;go_wp2_with (go_at_call 41;refine (pnw K4.1).mono ?_;rintro e w10 ⟨bp,rfl,hh⟩;have K5:=zk hh;clear hh);refine ⟨⟨K5.1.cell 7 3 rfl rfl,K5.1.cell 7 4 rfl rfl,K5.1.cell 7 5 rfl rfl⟩,?_⟩;go_simp;first
  |(have ty:Tg 1:=tg;first
     |(refine vxp rfl rfl ?_;apply ex2;intro w';go_simp;rfl;go_simp)
     |(refine vxg (by kernel_rfl) rfl rfl ?_;apply ex2;intro w' hw';obtain ⟨x3',x4',x5'⟩:=hw';go_simp;rfl;go_simp)
    have tg:=Tg.mk 9;exact YX)
  |(have ty:Tg 2:=tg;first
     |(refine vxp rfl rfl ?_;apply ex2;intro w';go_simp;rfl;go_simp)
     |(refine vxg (by kernel_rfl) rfl rfl ?_;apply ex2;intro w' hw';obtain ⟨x3',x4',x5'⟩:=hw';go_simp;rfl;go_simp)
    have tg:=Tg.mk 10;exact YX)
  |(have ty:Tg 3:=tg;first
     |(refine vxp rfl rfl ?_;apply ex2;intro w';go_simp;rfl;go_simp)
     |(refine vxg (by kernel_rfl) rfl rfl ?_;apply ex2;intro w' hw';obtain ⟨x3',x4',x5'⟩:=hw';go_simp;rfl;go_simp)
    have tg:=Tg.mk 11;exact YX)
  |(have ty:Tg 4:=tg;first
     |(refine vxp rfl rfl ?_;apply ex2;intro w';go_simp;rfl;go_simp)
     |(refine vxg (by kernel_rfl) rfl rfl ?_;apply ex2;intro w' hw';obtain ⟨x3',x4',x5'⟩:=hw';go_simp;rfl;go_simp)
    have tg:=Tg.mk 12;exact YX)
  |(have ty:Tg 5:=tg;first
     |(refine vxp rfl rfl ?_;apply ex2;intro w';go_simp;rfl;go_simp)
     |(refine vxg (by kernel_rfl) rfl rfl ?_;apply ex2;intro w' hw';obtain ⟨x3',x4',x5'⟩:=hw';go_simp;rfl;go_simp)
    have tg:=Tg.mk 13;exact YX)
  |(have ty:Tg 6:=tg;first
     |(refine vxp rfl rfl ?_;apply ex2;intro w';go_simp;rfl;go_simp)
     |(refine vxg (by kernel_rfl) rfl rfl ?_;apply ex2;intro w' hw';obtain ⟨x3',x4',x5'⟩:=hw';go_simp;rfl;go_simp)
    have tg:=Tg.mk 14;exact YX)
  |(have ty:Tg 7:=tg;first
     |(refine vxp rfl rfl ?_;apply ex2;intro w';go_simp;rfl;go_simp)
     |(refine vxg (by kernel_rfl) rfl rfl ?_;apply ex2;intro w' hw';obtain ⟨x3',x4',x5'⟩:=hw';go_simp;rfl;go_simp)
    have tg:=Tg.mk 15;exact YX)
  |(have ty:Tg 8:=tg;first
     |(refine vxp rfl rfl ?_;apply ex2;intro w';go_simp;rfl;go_simp)
     |(refine vxg (by kernel_rfl) rfl rfl ?_;apply ex2;intro w' hw';obtain ⟨x3',x4',x5'⟩:=hw';go_simp;rfl;go_simp)
    have tg:=Tg.mk 16;exact YX)
  |(have ty:Tg 9:=tg;first
     |(refine vxp rfl rfl ?_;apply ex2;intro w';go_simp;rfl;go_simp)
     |(refine vxg (by kernel_rfl) rfl rfl ?_;apply ex2;intro w' hw';obtain ⟨x3',x4',x5'⟩:=hw';go_simp;rfl;go_simp)
    have tg:=Tg.mk 17;exact YX)
  |(have ty:Tg 10:=tg;first
     |(refine vxp rfl rfl ?_;apply ex2;intro w';go_simp;rfl;go_simp)
     |(refine vxg (by kernel_rfl) rfl rfl ?_;apply ex2;intro w' hw';obtain ⟨x3',x4',x5'⟩:=hw';go_simp;rfl;go_simp)
    have tg:=Tg.mk 18;exact YX)
  |(have ty:Tg 11:=tg;first
     |(refine vxp rfl rfl ?_;apply ex2;intro w';go_simp;rfl;go_simp)
     |(refine vxg (by kernel_rfl) rfl rfl ?_;apply ex2;intro w' hw';obtain ⟨x3',x4',x5'⟩:=hw';go_simp;rfl;go_simp)
    have tg:=Tg.mk 19;exact YX)
  |(have ty:Tg 12:=tg;first
     |(refine vxp rfl rfl ?_;apply ex2;intro w';go_simp;rfl;go_simp)
     |(refine vxg (by kernel_rfl) rfl rfl ?_;apply ex2;intro w' hw';obtain ⟨x3',x4',x5'⟩:=hw';go_simp;rfl;go_simp)
    have tg:=Tg.mk 20;exact YX)):P:=h
theorem YX {P:Prop} (h:P:=by
 refine vxx rfl rfl rfl ?_;go_wp2_with fail;refine ⟨trivial,?_⟩;go_simp;refine vtg rfl rfl ?_;apply ex2;intro w' hw';go_simp;rfl;go_simp;refine vtn ?_;go_simp;first
  |(have ty:Tg 1:=tg;exact ⟨rfl,_,bd,bc,br,bs,bp,bt,bf,rfl,(K5.1.new (.cells #[bd,.pointer none,.pointer none,bs,.pointer none,.pointer none,.pointer none,bp,.map (some bt),.map (some bf)] 69)).sel (p:= [_,_,_,_,_,_,_,_,_,_,_,_]) [0,5,6,4,3,2,1,7,8,9,10,11] 12 rfl (by decide)⟩)
  |(have ty:Tg 2:=tg;exact ⟨rfl,_,bd,bc,br,bs,bp,bt,bf,rfl,(K5.1.new (.cells #[bd,.pointer none,.pointer none,bs,.pointer none,.pointer none,.pointer none,bp,.map (some bt),.map (some bf)] 69)).sel (p:= [_,_,_,_,_,_,_,_,_,_,_,_]) [0,5,6,4,3,1,2,7,8,9,10,11] 12 rfl (by decide)⟩)
  |(have ty:Tg 3:=tg;exact ⟨rfl,_,bd,bc,br,bs,bp,bt,bf,rfl,(K5.1.new (.cells #[bd,.pointer none,.pointer none,bs,.pointer none,.pointer none,.pointer none,bp,.map (some bt),.map (some bf)] 69)).sel (p:= [_,_,_,_,_,_,_,_,_,_,_,_]) [0,5,6,4,2,3,1,7,8,9,10,11] 12 rfl (by decide)⟩)
  |(have ty:Tg 4:=tg;exact ⟨rfl,_,bd,bc,br,bs,bp,bt,bf,rfl,(K5.1.new (.cells #[bd,.pointer none,.pointer none,bs,.pointer none,.pointer none,.pointer none,bp,.map (some bt),.map (some bf)] 69)).sel (p:= [_,_,_,_,_,_,_,_,_,_,_,_]) [0,5,6,4,2,1,3,7,8,9,10,11] 12 rfl (by decide)⟩)
  |(have ty:Tg 5:=tg;exact ⟨rfl,_,bd,bc,br,bs,bp,bt,bf,rfl,(K5.1.new (.cells #[bd,.pointer none,.pointer none,bs,.pointer none,.pointer none,.pointer none,bp,.map (some bt),.map (some bf)] 69)).sel (p:= [_,_,_,_,_,_,_,_,_,_,_,_]) [0,5,6,3,2,4,1,7,8,9,10,11] 12 rfl (by decide)⟩)
  |(have ty:Tg 6:=tg;exact ⟨rfl,_,bd,bc,br,bs,bp,bt,bf,rfl,(K5.1.new (.cells #[bd,.pointer none,.pointer none,bs,.pointer none,.pointer none,.pointer none,bp,.map (some bt),.map (some bf)] 69)).sel (p:= [_,_,_,_,_,_,_,_,_,_,_,_]) [0,5,6,3,2,1,4,7,8,9,10,11] 12 rfl (by decide)⟩)
  |(have ty:Tg 7:=tg;exact ⟨rfl,_,bd,bc,br,bs,bp,bt,bf,rfl,(K5.1.new (.cells #[bd,.pointer none,.pointer none,bs,.pointer none,.pointer none,.pointer none,bp,.map (some bt),.map (some bf)] 69)).sel (p:= [_,_,_,_,_,_,_,_,_,_,_,_]) [0,4,5,3,2,7,1,6,8,9,10,11] 12 rfl (by decide)⟩)
  |(have ty:Tg 8:=tg;exact ⟨rfl,_,bd,bc,br,bs,bp,bt,bf,rfl,(K5.1.new (.cells #[bd,.pointer none,.pointer none,bs,.pointer none,.pointer none,.pointer none,bp,.map (some bt),.map (some bf)] 69)).sel (p:= [_,_,_,_,_,_,_,_,_,_,_,_]) [0,4,5,3,2,1,7,6,8,9,10,11] 12 rfl (by decide)⟩)
  |(have ty:Tg 9:=tg;exact ⟨rfl,_,bd,bc,br,bs,bp,bt,bf,rfl,(K5.1.new (.cells #[bd,.pointer none,.pointer none,bs,.pointer none,.pointer none,.pointer none,bp,.map (some bt),.map (some bf)] 69)).sel (p:= [_,_,_,_,_,_,_,_,_,_,_,_]) [0,5,6,4,1,3,2,7,8,9,10,11] 12 rfl (by decide)⟩)
  |(have ty:Tg 10:=tg;exact ⟨rfl,_,bd,bc,br,bs,bp,bt,bf,rfl,(K5.1.new (.cells #[bd,.pointer none,.pointer none,bs,.pointer none,.pointer none,.pointer none,bp,.map (some bt),.map (some bf)] 69)).sel (p:= [_,_,_,_,_,_,_,_,_,_,_,_]) [0,5,6,4,1,2,3,7,8,9,10,11] 12 rfl (by decide)⟩)
  |(have ty:Tg 11:=tg;exact ⟨rfl,_,bd,bc,br,bs,bp,bt,bf,rfl,(K5.1.new (.cells #[bd,.pointer none,.pointer none,bs,.pointer none,.pointer none,.pointer none,bp,.map (some bt),.map (some bf)] 69)).sel (p:= [_,_,_,_,_,_,_,_,_,_,_,_]) [0,5,6,3,1,4,2,7,8,9,10,11] 12 rfl (by decide)⟩)
  |(have ty:Tg 12:=tg;exact ⟨rfl,_,bd,bc,br,bs,bp,bt,bf,rfl,(K5.1.new (.cells #[bd,.pointer none,.pointer none,bs,.pointer none,.pointer none,.pointer none,bp,.map (some bt),.map (some bf)] 69)).sel (p:= [_,_,_,_,_,_,_,_,_,_,_,_]) [0,5,6,2,1,4,3,7,8,9,10,11] 12 rfl (by decide)⟩)
  |(have ty:Tg 13:=tg;exact ⟨rfl,_,bd,bc,br,bs,bp,bt,bf,rfl,(K5.1.new (.cells #[bd,.pointer none,.pointer none,bs,.pointer none,.pointer none,.pointer none,bp,.map (some bt),.map (some bf)] 69)).sel (p:= [_,_,_,_,_,_,_,_,_,_,_,_]) [0,5,6,3,1,2,4,7,8,9,10,11] 12 rfl (by decide)⟩)
  |(have ty:Tg 14:=tg;exact ⟨rfl,_,bd,bc,br,bs,bp,bt,bf,rfl,(K5.1.new (.cells #[bd,.pointer none,.pointer none,bs,.pointer none,.pointer none,.pointer none,bp,.map (some bt),.map (some bf)] 69)).sel (p:= [_,_,_,_,_,_,_,_,_,_,_,_]) [0,5,6,2,1,3,4,7,8,9,10,11] 12 rfl (by decide)⟩)
  |(have ty:Tg 15:=tg;exact ⟨rfl,_,bd,bc,br,bs,bp,bt,bf,rfl,(K5.1.new (.cells #[bd,.pointer none,.pointer none,bs,.pointer none,.pointer none,.pointer none,bp,.map (some bt),.map (some bf)] 69)).sel (p:= [_,_,_,_,_,_,_,_,_,_,_,_]) [0,4,5,3,1,7,2,6,8,9,10,11] 12 rfl (by decide)⟩)
  |(have ty:Tg 16:=tg;exact ⟨rfl,_,bd,bc,br,bs,bp,bt,bf,rfl,(K5.1.new (.cells #[bd,.pointer none,.pointer none,bs,.pointer none,.pointer none,.pointer none,bp,.map (some bt),.map (some bf)] 69)).sel (p:= [_,_,_,_,_,_,_,_,_,_,_,_]) [0,4,5,2,1,7,3,6,8,9,10,11] 12 rfl (by decide)⟩)
  |(have ty:Tg 17:=tg;exact ⟨rfl,_,bd,bc,br,bs,bp,bt,bf,rfl,(K5.1.new (.cells #[bd,.pointer none,.pointer none,bs,.pointer none,.pointer none,.pointer none,bp,.map (some bt),.map (some bf)] 69)).sel (p:= [_,_,_,_,_,_,_,_,_,_,_,_]) [0,3,4,2,1,7,6,5,8,9,10,11] 12 rfl (by decide)⟩)
  |(have ty:Tg 18:=tg;exact ⟨rfl,_,bd,bc,br,bs,bp,bt,bf,rfl,(K5.1.new (.cells #[bd,.pointer none,.pointer none,bs,.pointer none,.pointer none,.pointer none,bp,.map (some bt),.map (some bf)] 69)).sel (p:= [_,_,_,_,_,_,_,_,_,_,_,_]) [0,4,5,3,1,2,7,6,8,9,10,11] 12 rfl (by decide)⟩)
  |(have ty:Tg 19:=tg;exact ⟨rfl,_,bd,bc,br,bs,bp,bt,bf,rfl,(K5.1.new (.cells #[bd,.pointer none,.pointer none,bs,.pointer none,.pointer none,.pointer none,bp,.map (some bt),.map (some bf)] 69)).sel (p:= [_,_,_,_,_,_,_,_,_,_,_,_]) [0,4,5,2,1,3,7,6,8,9,10,11] 12 rfl (by decide)⟩)
  |(have ty:Tg 20:=tg;exact ⟨rfl,_,bd,bc,br,bs,bp,bt,bf,rfl,(K5.1.new (.cells #[bd,.pointer none,.pointer none,bs,.pointer none,.pointer none,.pointer none,bp,.map (some bt),.map (some bf)] 69)).sel (p:= [_,_,_,_,_,_,_,_,_,_,_,_]) [0,3,4,2,1,6,7,5,8,9,10,11] 12 rfl (by decide)⟩)):P:=h
theorem Qgg {P:Prop} (h:P:=by
 go_wp2_with (go_at_call 41;refine (pnw K3.1).mono ?_;rintro e w10 ⟨bp,rfl,hh⟩;have K4:=zk hh;clear hh);refine ⟨⟨K4.1.cell 6 3 rfl rfl,K4.1.cell 6 4 rfl rfl,K4.1.cell 6 5 rfl rfl⟩,?_⟩;go_simp;refine vxe rfl rfl rfl ?_;go_wp2_with fail;have K5:=zk (Heap.XO K4.1);generalize hV:World.alloc _ _=V5 at *;first
  |(have ty:Tg 1:=tg;generalize w10.heap.size=bf at *;have tg:=Tg.mk 2;exact Qbd)
  |(have ty:Tg 2:=tg;generalize w10.heap.size=bt at *;have tg:=Tg.mk 3;exact Qbd)
  |(have ty:Tg 3:=tg;generalize w10.heap.size=bf at *;have tg:=Tg.mk 4;exact Qbd)
  |(have ty:Tg 4:=tg;generalize w10.heap.size=bt at *;have tg:=Tg.mk 5;exact Qbd)
  |(have ty:Tg 5:=tg;generalize w10.heap.size=bf at *;have tg:=Tg.mk 6;exact Qbd)
  |(have ty:Tg 6:=tg;generalize w10.heap.size=bt at *;have tg:=Tg.mk 7;exact Qbd)):P:=h
theorem Qf2 {P:Prop} (h:P:=by
 refine ⟨⟨K3.1.cell 5 3 rfl rfl,K3.1.cell 5 4 rfl rfl,K3.1.cell 5 5 rfl rfl⟩,?_⟩;go_simp;refine vxe rfl rfl rfl ?_;go_wp2_with (go_at_call 40;refine (Qcg K3.1 4096 (by omega) (by omega)).mono ?_;rintro e w9 ⟨bs,rfl,hh⟩;have K4:=zk hh;clear hh);first
  |(have ty:Tg 1:=tg;have tg:=Tg.mk 4;exact Te)
  |(have ty:Tg 2:=tg;have tg:=Tg.mk 6;exact Te)
  |(have ty:Tg 3:=tg;have tg:=Tg.mk 8;exact Te)
  |(have ty:Tg 4:=tg;have tg:=Tg.mk 9;exact Te)
  |(have ty:Tg 5:=tg;have tg:=Tg.mk 11;exact Te)
  |(have ty:Tg 6:=tg;have tg:=Tg.mk 12;exact Te)):P:=h
theorem Qpu {P:Prop} (h:P:=by
 clear h5 HN;go_wp2_with fail;refine wro (fun W=>W.cell? ⟨n0,4,none⟩=some (.int .i64 4096)) [(0,.f),(1,.f),(2,.f),(3,.f),(4,.f),(5,.f),(6,.s),(8,.f),(9,.f),(7,.e),(10,.f),(11,.e)] x4 ?_;iterate 9
  first
   |(refine vg rfl rfl ?_;apply ex2;intro w' hw';go_simp;rfl;go_simp)
   |(refine vs_ rfl (fun K hK=>?_);go_simp;refine hK _ ?_;clear hK K)
 refine ve rfl rfl ?_;first
  |(have ty:Tg 1:=tg;go_wp2_with (go_at_call 43;refine (Qih K5.1.drew 4 9 4096 (by omega) (by omega) (by omega) (by omega) (by omega) (by omega)).mono ?_;rintro e w6 ⟨v0,rfl,hh⟩;have K6:=zk hh;clear hh;have y0:=K6.1.KZ 3 rfl;have hly:=K6.1.lt 3 rfl);refine ⟨K6.1.cell 11 4 rfl rfl,?_⟩;go_simp;first
     |(refine vg rfl rfl ?_;apply ex2;intro w' hw';go_simp;rfl;go_simp)
     |(refine vs_ rfl (fun K hK=>?_);go_simp;refine hK _ ?_;clear hK K)
    refine ve rfl rfl ?_;go_wp2_with fail;have K7:=zk (K6.1.sAt 3 4 (.pointer (some ⟨v0,0,none⟩)) rfl);refine ⟨K7.1.cell 11 4 rfl rfl,?_⟩;go_simp;refine vn ?_;go_simp;go_wp2_with fail;go_roundg (3-(0+1))
    case measure=>have:=HG.1;omega
    case rel=>exact ⟨0+1,by go_num,by omega,⟨by omega⟩,⟨⟨v0,K7.1⟩⟩⟩)
  |(have ty:Tg 2:=tg;go_wp2_with (go_at_call 43;refine (Qih K5.1.drew 5 30 4096 (by omega) (by omega) (by omega) (by omega) (by omega) (by omega)).mono ?_;rintro e w6 ⟨v1,rfl,hh⟩;have K6:=zk hh;clear hh;have y0:=K6.1.KZ 4 rfl;have hly:=K6.1.lt 4 rfl);refine ⟨K6.1.cell 12 4 rfl rfl,?_⟩;go_simp;first
     |(refine vg rfl rfl ?_;apply ex2;intro w' hw';go_simp;rfl;go_simp)
     |(refine vs_ rfl (fun K hK=>?_);go_simp;refine hK _ ?_;clear hK K)
    refine ve rfl rfl ?_;go_wp2_with fail;have K7:=zk (K6.1.sAt 4 5 (.pointer (some ⟨v1,0,none⟩)) rfl);refine ⟨K7.1.cell 12 4 rfl rfl,?_⟩;go_simp;refine vn ?_;go_simp;go_wp2_with fail;go_roundg (3-(1+1))
    case measure=>have:=HG.1;omega
    case rel=>exact ⟨1+1,by go_num,by omega,⟨by omega⟩,⟨⟨v0,v1,K7.1⟩⟩⟩)
  |(have ty:Tg 3:=tg;go_wp2_with (go_at_call 43;refine (Qih K5.1.drew 6 4 4096 (by omega) (by omega) (by omega) (by omega) (by omega) (by omega)).mono ?_;rintro e w6 ⟨v2,rfl,hh⟩;have K6:=zk hh;clear hh;have y0:=K6.1.KZ 5 rfl;have hly:=K6.1.lt 5 rfl);refine ⟨K6.1.cell 13 4 rfl rfl,?_⟩;go_simp;first
     |(refine vg rfl rfl ?_;apply ex2;intro w' hw';go_simp;rfl;go_simp)
     |(refine vs_ rfl (fun K hK=>?_);go_simp;refine hK _ ?_;clear hK K)
    refine ve rfl rfl ?_;go_wp2_with fail;have K7:=zk (K6.1.sAt 5 6 (.pointer (some ⟨v2,0,none⟩)) rfl);refine ⟨K7.1.cell 13 4 rfl rfl,?_⟩;go_simp;refine vn ?_;go_simp;go_wp2_with fail;go_roundg (3-(2+1))
    case measure=>have:=HG.1;omega
    case rel=>exact ⟨2+1,by go_num,by omega,⟨by omega⟩,⟨⟨v0,v1,v2,K7.1⟩⟩⟩)):P:=h
theorem Qu5 {P:Prop} (h:P:=by
 go_wp2_with (go_at_call 40;refine (Qcg K2.1 4096 (by omega) (by omega)).mono ?_;rintro e w9 ⟨bs,rfl,hh⟩;have K3:=zk hh;clear hh);refine ⟨⟨K3.1.cell 5 3 rfl rfl,K3.1.cell 5 4 rfl rfl,K3.1.cell 5 5 rfl rfl⟩,?_⟩;go_simp;refine vxf rfl rfl ?_ ?_;first
  |(have ty:Tg 1:=tg;have tg:=Tg.mk 3;exact Qgg;have tg:=Tg.mk 4;exact Qcl)
  |(have ty:Tg 2:=tg;have tg:=Tg.mk 4;exact Qgg;have tg:=Tg.mk 5;exact Qcl)
  |(have ty:Tg 3:=tg;have tg:=Tg.mk 5;exact Qgg;have tg:=Tg.mk 6;exact Qcl)
  |(have ty:Tg 4:=tg;have tg:=Tg.mk 6;exact Qgg;have tg:=Tg.mk 7;exact Qcl)):P:=h
theorem Qcl {P:Prop} (h:P:=by
 refine vxe rfl rfl rfl ?_;go_wp2_with fail;have K4:=zk (Heap.XO K3.1);generalize hV:World.alloc _ _=V4 at *;first
  |(have ty:Tg 1:=tg;generalize w10.heap.size=bf at *;clear hV;refine ⟨⟨K4.1.cell 6 3 rfl rfl,K4.1.cell 6 4 rfl rfl,K4.1.cell 6 5 rfl rfl⟩,?_⟩;go_simp;refine vxe rfl rfl rfl ?_;go_wp2_with fail;have K5:=zk (Heap.XO K4.1);generalize hV:World.alloc _ _=V5 at *;generalize V4.heap.size=bt at *;have tg:=Tg.mk 8;exact Qbd)
  |(have ty:Tg 2:=tg;generalize V3.heap.size=bf at *;clear hV;have tg:=Tg.mk 1;exact Te)
  |(have ty:Tg 3:=tg;generalize V3.heap.size=bt at *;clear hV;have tg:=Tg.mk 2;exact Te)
  |(have ty:Tg 4:=tg;generalize w9.heap.size=bf at *;clear hV;have tg:=Tg.mk 3;exact Te)
  |(have ty:Tg 5:=tg;generalize w9.heap.size=bt at *;clear hV;have tg:=Tg.mk 5;exact Te)
  |(have ty:Tg 6:=tg;generalize w9.heap.size=bf at *;clear hV;have tg:=Tg.mk 7;exact Te)
  |(have ty:Tg 7:=tg;generalize w9.heap.size=bt at *;clear hV;have tg:=Tg.mk 10;exact Te)):P:=h
theorem Qbd {P:Prop} (h:P:=by
 clear hV;refine ⟨⟨K5.1.cell 7 3 rfl rfl,K5.1.cell 7 4 rfl rfl,K5.1.cell 7 5 rfl rfl⟩,?_⟩;go_simp;first
  |(have ty:Tg 1:=tg;first
     |(refine vxp rfl rfl ?_;apply ex2;intro w';go_simp;rfl;go_simp)
     |(refine vxg (by kernel_rfl) rfl rfl ?_;apply ex2;intro w' hw';obtain ⟨x3',x4',x5'⟩:=hw';go_simp;rfl;go_simp)
    have tg:=Tg.mk 1;exact YX)
  |(have ty:Tg 2:=tg;first
     |(refine vxp rfl rfl ?_;apply ex2;intro w';go_simp;rfl;go_simp)
     |(refine vxg (by kernel_rfl) rfl rfl ?_;apply ex2;intro w' hw';obtain ⟨x3',x4',x5'⟩:=hw';go_simp;rfl;go_simp)
    have tg:=Tg.mk 3;exact YX)
  |(have ty:Tg 3:=tg;first
     |(refine vxp rfl rfl ?_;apply ex2;intro w';go_simp;rfl;go_simp)
     |(refine vxg (by kernel_rfl) rfl rfl ?_;apply ex2;intro w' hw';obtain ⟨x3',x4',x5'⟩:=hw';go_simp;rfl;go_simp)
    have tg:=Tg.mk 4;exact YX)
  |(have ty:Tg 4:=tg;first
     |(refine vxp rfl rfl ?_;apply ex2;intro w';go_simp;rfl;go_simp)
     |(refine vxg (by kernel_rfl) rfl rfl ?_;apply ex2;intro w' hw';obtain ⟨x3',x4',x5'⟩:=hw';go_simp;rfl;go_simp)
    have tg:=Tg.mk 5;exact YX)
  |(have ty:Tg 5:=tg;first
     |(refine vxp rfl rfl ?_;apply ex2;intro w';go_simp;rfl;go_simp)
     |(refine vxg (by kernel_rfl) rfl rfl ?_;apply ex2;intro w' hw';obtain ⟨x3',x4',x5'⟩:=hw';go_simp;rfl;go_simp)
    have tg:=Tg.mk 6;exact YX)
  |(have ty:Tg 6:=tg;first
     |(refine vxp rfl rfl ?_;apply ex2;intro w';go_simp;rfl;go_simp)
     |(refine vxg (by kernel_rfl) rfl rfl ?_;apply ex2;intro w' hw';obtain ⟨x3',x4',x5'⟩:=hw';go_simp;rfl;go_simp)
    have tg:=Tg.mk 7;exact YX)
  |(have ty:Tg 7:=tg;first
     |(refine vxp rfl rfl ?_;apply ex2;intro w';go_simp;rfl;go_simp)
     |(refine vxg (by kernel_rfl) rfl rfl ?_;apply ex2;intro w' hw';obtain ⟨x3',x4',x5'⟩:=hw';go_simp;rfl;go_simp)
    have tg:=Tg.mk 8;exact YX)
  |(have ty:Tg 8:=tg;first
     |(refine vxp rfl rfl ?_;apply ex2;intro w';go_simp;rfl;go_simp)
     |(refine vxg (by kernel_rfl) rfl rfl ?_;apply ex2;intro w' hw';obtain ⟨x3',x4',x5'⟩:=hw';go_simp;rfl;go_simp)
    have tg:=Tg.mk 2;exact YX)):P:=h
theorem Ql5 {P:Prop} (h:P:=by
 refine ⟨⟨K2.1.cell 4 3 rfl rfl,K2.1.cell 4 4 rfl rfl,K2.1.cell 4 5 rfl rfl⟩,?_⟩;go_simp;refine vxf rfl rfl ?_ ?_;first
  |(have ty:Tg 1:=tg
    ·go_wp2_with (go_at_call 41;refine (pnw K2.1).mono ?_;rintro e w10 ⟨bp,rfl,hh⟩;have K3:=zk hh;clear hh);refine ⟨⟨K3.1.cell 5 3 rfl rfl,K3.1.cell 5 4 rfl rfl,K3.1.cell 5 5 rfl rfl⟩,?_⟩;go_simp;refine vxf rfl rfl ?_ ?_
     ·go_wp2_with fail;have K4:=zk (Heap.XO K3.1);generalize hV:World.alloc _ _=V4 at *;generalize w10.heap.size=bt at *;clear hV;refine ⟨⟨K4.1.cell 6 3 rfl rfl,K4.1.cell 6 4 rfl rfl,K4.1.cell 6 5 rfl rfl⟩,?_⟩;go_simp;refine vxe rfl rfl rfl ?_;go_wp2_with fail;have K5:=zk (Heap.XO K4.1);generalize hV:World.alloc _ _=V5 at *;generalize V4.heap.size=bf at *;have tg:=Tg.mk 1;exact Qbd
     have tg:=Tg.mk 1;exact Qcl
    ·refine vxf rfl rfl ?_ ?_
     ·go_wp2_with fail;have K3:=zk (Heap.XO K2.1);generalize hV:World.alloc _ _=V3 at *;generalize w9.heap.size=bt at *;clear hV;refine ⟨⟨K3.1.cell 5 3 rfl rfl,K3.1.cell 5 4 rfl rfl,K3.1.cell 5 5 rfl rfl⟩,?_⟩;go_simp;refine vxf rfl rfl ?_ ?_;have tg:=Tg.mk 1;exact Qgg;have tg:=Tg.mk 2;exact Qcl
     ·refine vxe rfl rfl rfl ?_;go_wp2_with fail;have K3:=zk (Heap.XO K2.1);generalize hV:World.alloc _ _=V3 at *;generalize w9.heap.size=bf at *;clear hV;refine ⟨⟨K3.1.cell 5 3 rfl rfl,K3.1.cell 5 4 rfl rfl,K3.1.cell 5 5 rfl rfl⟩,?_⟩;go_simp;refine vxf rfl rfl ?_ ?_;have tg:=Tg.mk 2;exact Qgg;have tg:=Tg.mk 3;exact Qcl)
  |(have ty:Tg 2:=tg;have tg:=Tg.mk 1;exact Qu5
    ·refine vxe rfl rfl rfl ?_;go_wp2_with fail;have K3:=zk (Heap.XO K2.1);generalize hV:World.alloc _ _=V3 at *;generalize V2.heap.size=bf at *;clear hV;have tg:=Tg.mk 1;exact Qf2)
  |(have ty:Tg 3:=tg;have tg:=Tg.mk 2;exact Qu5
    ·refine vxe rfl rfl rfl ?_;go_wp2_with fail;have K3:=zk (Heap.XO K2.1);generalize hV:World.alloc _ _=V3 at *;generalize V2.heap.size=bt at *;clear hV;have tg:=Tg.mk 2;exact Qf2)
  |(have ty:Tg 4:=tg;have tg:=Tg.mk 3;exact Qu5
    ·refine vxe rfl rfl rfl ?_;go_wp2_with fail;have K3:=zk (Heap.XO K2.1);generalize hV:World.alloc _ _=V3 at *;generalize w6.heap.size=bf at *;clear hV;have tg:=Tg.mk 3;exact Qf2)
  |(have ty:Tg 5:=tg;have tg:=Tg.mk 4;exact Qu5
    ·refine vxe rfl rfl rfl ?_;go_wp2_with fail;have K3:=zk (Heap.XO K2.1);generalize hV:World.alloc _ _=V3 at *;generalize w6.heap.size=bt at *;clear hV;have tg:=Tg.mk 5;exact Qf2)):P:=h
def NewQ (w0:World) (R:List SA) (g1 c1 g2 c2 g3 c3 n0:Nat) (tries:Int) (e:Exit) (a:Act) (W:World):Prop:=
 e=.normal∧∃b bd bc br bs bp bt bf:Nat,a= {tmps:=((.agg #[.slice (some ⟨g1,0,none⟩) 2 c1,.slice (some ⟨g2,0,none⟩) 2 c2,.slice (some ⟨g3,0,none⟩) 3 c3,.int .i64 5,.int .i64 4096,tries])::(.pointer (some ⟨n0,0,none⟩))::(.pointer none)::(.int .i64 0)::(.pointer (some ⟨b,0,none⟩))::undef::undef::(.agg #[.slice (some ⟨g1,0,none⟩) 2 c1,.slice (some ⟨g2,0,none⟩) 2 c2,.slice (some ⟨g3,0,none⟩) 3 c3,.int .i64 5,.int .i64 4096,tries])::(.bool true)::(.bool false)::(.pointer (some ⟨n0,3,none⟩))::(.int .i64 5)::(.pointer (some ⟨n0,4,none⟩))::(.int .i64 4096)::(.pointer (some ⟨n0,5,none⟩))::(.int .i64 tries)::(.pointer (some ⟨bd,0,none⟩))::(.pointer (some ⟨n0,4,none⟩))::(.int .i64 4096)::(.pointer (some ⟨bs,0,none⟩))::(.pointer (some ⟨bp,0,none⟩))::(.map (some bt))::(.map (some bf))::(.agg #[bd,.pointer none,.pointer none,bs,.pointer none,.pointer none,.pointer none,bp,.map (some bt),.map (some bf)])::(.pointer (some ⟨b,0,none⟩))::undef::undef::undef::undef::undef::undef::undef::undef::undef::undef::undef::undef::undef::undef::undef::undef::undef::undef::undef::undef::undef::undef::undef::undef::undef::undef::undef::undef::undef::undef::undef::undef::undef::undef::undef::undef::undef::undef::undef::undef::undef::undef::undef::undef:: []).toArray,defers:= []}∧Heap w0 ([.pts b (.cells #[bd,.pointer none,.pointer none,bs,.pointer none,.pointer none,.pointer none,bp,.map (some bt),.map (some bf)] 69),.pts bd (.cells #[bc,.map (some br)] 72),.Xu bc (Qb.init tries).c,.Xk bs (Qb.init tries).s,.post bp (Qb.init tries).p,.map bt [],.map bf [],.marks br,.pts n0 (.cells #[.slice (some ⟨g1,0,none⟩) 2 c1,.slice (some ⟨g2,0,none⟩) 2 c2,.slice (some ⟨g3,0,none⟩) 3 c3,.int .i64 5,.int .i64 4096,tries] 55),.slc (.slice (some ⟨g1,0,none⟩) 2 c1) 3 1 2 [.int .i64 60,.int .i64 5],.slc (.slice (some ⟨g2,0,none⟩) 2 c2) 3 1 2 [.int .i64 900,.int .i64 40],.slc (.slice (some ⟨g3,0,none⟩) 3 c3) 3 1 3 [.int .i64 9,.int .i64 30,.int .i64 4]]++R) W
def NewL (w0:World) (R:List SA) (g1 c1 g2 c2 g3 c3 n0:Nat) (tries:Int) (b bd bc br bs bp bt bf k0 k1:Nat) (W:World):Nat→Prop
 |0=>Heap w0 ([.keeper k1 (Qb.init tries).k1,.keeper k0 (Qb.init tries).k0,.pts b (.cells #[bd,k0,k1,bs,.pointer none,.pointer none,.pointer none,bp,.map (some bt),.map (some bf)] 69),.pts bd (.cells #[bc,.map (some br)] 72),.Xu bc (Qb.init tries).c,.Xk bs (Qb.init tries).s,.post bp (Qb.init tries).p,.map bt [],.map bf [],.marks br,.pts n0 (.cells #[.slice (some ⟨g1,0,none⟩) 2 c1,.slice (some ⟨g2,0,none⟩) 2 c2,.slice (some ⟨g3,0,none⟩) 3 c3,.int .i64 5,.int .i64 4096,tries] 55),.slc (.slice (some ⟨g1,0,none⟩) 2 c1) 3 1 2 [.int .i64 60,.int .i64 5],.slc (.slice (some ⟨g2,0,none⟩) 2 c2) 3 1 2 [.int .i64 900,.int .i64 40],.slc (.slice (some ⟨g3,0,none⟩) 3 c3) 3 1 3 [.int .i64 9,.int .i64 30,.int .i64 4]]++R) W
 |1=>∃v0:Nat,Heap w0 ([.service v0 (Qb.init tries).v0,.keeper k1 (Qb.init tries).k1,.keeper k0 (Qb.init tries).k0,.pts b (.cells #[bd,k0,k1,bs,v0,.pointer none,.pointer none,bp,.map (some bt),.map (some bf)] 69),.pts bd (.cells #[bc,.map (some br)] 72),.Xu bc (Qb.init tries).c,.Xk bs (Qb.init tries).s,.post bp (Qb.init tries).p,.map bt [],.map bf [],.marks br,.pts n0 (.cells #[.slice (some ⟨g1,0,none⟩) 2 c1,.slice (some ⟨g2,0,none⟩) 2 c2,.slice (some ⟨g3,0,none⟩) 3 c3,.int .i64 5,.int .i64 4096,tries] 55),.slc (.slice (some ⟨g1,0,none⟩) 2 c1) 3 1 2 [.int .i64 60,.int .i64 5],.slc (.slice (some ⟨g2,0,none⟩) 2 c2) 3 1 2 [.int .i64 900,.int .i64 40],.slc (.slice (some ⟨g3,0,none⟩) 3 c3) 3 1 3 [.int .i64 9,.int .i64 30,.int .i64 4]]++R) W
 |2=>∃v0 v1:Nat,Heap w0 ([.service v1 (Qb.init tries).v1,.service v0 (Qb.init tries).v0,.keeper k1 (Qb.init tries).k1,.keeper k0 (Qb.init tries).k0,.pts b (.cells #[bd,k0,k1,bs,v0,v1,.pointer none,bp,.map (some bt),.map (some bf)] 69),.pts bd (.cells #[bc,.map (some br)] 72),.Xu bc (Qb.init tries).c,.Xk bs (Qb.init tries).s,.post bp (Qb.init tries).p,.map bt [],.map bf [],.marks br,.pts n0 (.cells #[.slice (some ⟨g1,0,none⟩) 2 c1,.slice (some ⟨g2,0,none⟩) 2 c2,.slice (some ⟨g3,0,none⟩) 3 c3,.int .i64 5,.int .i64 4096,tries] 55),.slc (.slice (some ⟨g1,0,none⟩) 2 c1) 3 1 2 [.int .i64 60,.int .i64 5],.slc (.slice (some ⟨g2,0,none⟩) 2 c2) 3 1 2 [.int .i64 900,.int .i64 40],.slc (.slice (some ⟨g3,0,none⟩) 3 c3) 3 1 3 [.int .i64 9,.int .i64 30,.int .i64 4]]++R) W
 |_=>∃v0 v1 v2:Nat,Heap w0 ([.service v2 (Qb.init tries).v2,.service v1 (Qb.init tries).v1,.service v0 (Qb.init tries).v0,.keeper k1 (Qb.init tries).k1,.keeper k0 (Qb.init tries).k0,.pts b (.cells #[bd,k0,k1,bs,v0,v1,v2,bp,.map (some bt),.map (some bf)] 69),.pts bd (.cells #[bc,.map (some br)] 72),.Xu bc (Qb.init tries).c,.Xk bs (Qb.init tries).s,.post bp (Qb.init tries).p,.map bt [],.map bf [],.marks br,.pts n0 (.cells #[.slice (some ⟨g1,0,none⟩) 2 c1,.slice (some ⟨g2,0,none⟩) 2 c2,.slice (some ⟨g3,0,none⟩) 3 c3,.int .i64 5,.int .i64 4096,tries] 55),.slc (.slice (some ⟨g1,0,none⟩) 2 c1) 3 1 2 [.int .i64 60,.int .i64 5],.slc (.slice (some ⟨g2,0,none⟩) 2 c2) 3 1 2 [.int .i64 900,.int .i64 40],.slc (.slice (some ⟨g3,0,none⟩) 3 c3) 3 1 3 [.int .i64 9,.int .i64 30,.int .i64 4]]++R) W
theorem Heap.Qri {w0 w:World} {R:List SA} {bt:Nat} (h:Heap w0 (.map bt []::R) w):Heap w0 (.trace bt::R) w:=
 Heap.Yr (f:=fun x:(Int→Value)×IM (List (Int×Int))=>.when (∀p∈x.2,VS p.2) (.book bt x.1 (fun (k:Int) (l:List (Int×Int))=>.slc (x.1 k) 193 2 l.length (Xi l)) x.2)) ((fun _=>.slice none 0 0),[]) (Heap.QZ (by simp) (Heap.Zq (val:=fun _=>.slice none 0 0) (give:=fun (k:Int) (l:List (Int×Int))=>.slc (.slice none 0 0) 193 2 l.length (Xi l)) Ql.nil (h.ZM.frt 1 rfl)))
theorem Qg3 {w0 w:World} {R:List SA} (g1 c1 g2 c2 g3 c3:Nat) (tries:Int) (h:Heap w0 (.slc (.slice (some ⟨g1,0,none⟩) 2 c1) 3 1 2 [.int .i64 60,.int .i64 5]::.slc (.slice (some ⟨g2,0,none⟩) 2 c2) 3 1 2 [.int .i64 900,.int .i64 40]::.slc (.slice (some ⟨g3,0,none⟩) 3 c3) 3 1 3 [.int .i64 9,.int .i64 30,.int .i64 4]::R) w) (h0:1≤tries) (h1:tries≤20):
 Calls Tryz.prog 21 #[.agg #[.slice (some ⟨g1,0,none⟩) 2 c1,.slice (some ⟨g2,0,none⟩) 2 c2,.slice (some ⟨g3,0,none⟩) 3 c3,.int .i64 5,.int .i64 4096,tries]] w fun e w'=>∃q:HA,e=.returned (.tuple #[q.b,.int .i64 0])∧Heap w0 ((Qb.init tries).on q R) w':=by
 have h3:=h.new (.cells #[.slice (some ⟨g1,0,none⟩) 2 c1,.slice (some ⟨g2,0,none⟩) 2 c2,.slice (some ⟨g3,0,none⟩) 3 c3,.int .i64 5,.int .i64 4096,tries] 55);have HM:=zk (QAs g1 c1 g2 c2 g3 c3 tries (h3.frt 0 rfl).drop h0 h1);have HB:=zk h3;obtain ⟨x0,x1,x2,x3,x4,x5,xf⟩:=h3.cB6 0 rfl;have hlx:=h3.lt 0 rfl;have hmm:= @run_makeMap Tryz.prog;clear h h3;go_enter Tryz.func21,Tryz.ntmps21;go_wp2_with fail;refine HM.1.m2 fun w1 hb=>?_;have H1:=zk (HB.1.below hb);clear hb HB HM x0 x1 x2 x3 x4 x5 xf hlx;generalize w.heap.size=n0 at *;obtain ⟨x0,x1,x2,x3,x4,x5,xf⟩:=H1.1.cB6 0 rfl;have hlx:=H1.1.lt 0 rfl;go_wp2_with fail;refine wp_mono (Q:=NewQ w0 R g1 c1 g2 c2 g3 c3 n0 tries) ?first ?rest
 case first=>
  clear x0 x1 x2 xf hlx;refine wrx (fun W=>W.cell? ⟨n0,3,none⟩=some (.int .i64 5)∧W.cell? ⟨n0,4,none⟩=some (.int .i64 4096)∧W.cell? ⟨n0,5,none⟩=some (.int .i64 tries)) [14] (.op 0 .f (.op 1 .f (.op 2 .f (.op 3 .f (.op 4 .f (.op 5 .f (.op 7 .f (.op 8 .f (.fork 6 (.fork 9 (.fork 10 (.fork 11 (.op 12 .e (.op 13 .f (.op 14 .e (.op 15 .f .nil)))) (.op 12 .e (.op 11 .e (.op 13 .f (.op 14 .e (.op 15 .f .nil)))))) (.fork 11 (.fork 10 (.op 12 .e (.op 13 .f (.op 14 .e (.op 15 .f .nil)))) (.op 12 .e (.op 10 .e (.op 13 .f (.op 14 .e (.op 15 .f .nil)))))) (.op 12 .e (.fork 10 (.op 11 .e (.op 13 .f (.op 14 .e (.op 15 .f .nil)))) (.op 11 .e (.op 10 .e (.op 13 .f (.op 14 .e (.op 15 .f .nil))))))))) (.fork 11 (.fork 9 (.fork 10 (.op 12 .e (.op 13 .f (.op 14 .e (.op 15 .f .nil)))) (.op 12 .e (.op 10 .e (.op 13 .f (.op 14 .e (.op 15 .f .nil)))))) (.op 12 .e (.op 9 .e (.op 10 .e (.op 13 .f (.op 14 .e (.op 15 .f .nil))))))) (.op 12 .e (.fork 9 (.fork 10 (.op 11 .e (.op 13 .f (.op 14 .e (.op 15 .f .nil)))) (.op 11 .e (.op 10 .e (.op 13 .f (.op 14 .e (.op 15 .f .nil)))))) (.op 11 .e (.op 9 .e (.op 10 .e (.op 13 .f (.op 14 .e (.op 15 .f .nil)))))))))) (.fork 11 (.fork 6 (.fork 9 (.fork 10 (.op 12 .e (.op 13 .f (.op 14 .e (.op 15 .f .nil)))) (.op 12 .e (.op 10 .e (.op 13 .f (.op 14 .e (.op 15 .f .nil)))))) (.op 12 .e (.op 9 .e (.op 10 .e (.op 13 .f (.op 14 .e (.op 15 .f .nil))))))) (.op 12 .e (.op 6 .e (.op 9 .e (.op 10 .e (.op 13 .f (.op 14 .e (.op 15 .f .nil)))))))) (.op 12 .e (.fork 6 (.fork 9 (.fork 10 (.op 11 .e (.op 13 .f (.op 14 .e (.op 15 .f .nil)))) (.op 11 .e (.op 10 .e (.op 13 .f (.op 14 .e (.op 15 .f .nil)))))) (.op 11 .e (.op 9 .e (.op 10 .e (.op 13 .f (.op 14 .e (.op 15 .f .nil))))))) (.op 11 .e (.op 6 .e (.op 9 .e (.op 10 .e (.op 13 .f (.op 14 .e (.op 15 .f .nil))))))))))))))))))) (by kernel_rfl) (by kernel_rfl) ⟨x3,x4,x5⟩ ?_;iterate 8
   first
    |(refine vxp rfl rfl ?_;apply ex2;intro w';go_simp;rfl;go_simp)
    |(refine vxg (by kernel_rfl) rfl rfl ?_;apply ex2;intro w' hw';obtain ⟨x3',x4',x5'⟩:=hw';go_simp;rfl;go_simp)
  refine vxf rfl rfl ?_ ?_
  ·go_wp2_with (go_at_call 39;refine (Dp H1.1.drew 5 4096 tries (by omega) (by omega) (by omega) (by omega) h0 h1).mono ?_;rintro e w6 ⟨bd,bc,br,rfl,hh⟩;have K1:=zk hh;clear hh);refine ⟨⟨K1.1.cell 3 3 rfl rfl,K1.1.cell 3 4 rfl rfl,K1.1.cell 3 5 rfl rfl⟩,?_⟩;go_simp;refine vxf rfl rfl ?_ ?_
   ·go_wp2_with (go_at_call 40;refine (Qcg K1.1 4096 (by omega) (by omega)).mono ?_;rintro e w9 ⟨bs,rfl,hh⟩;have K2:=zk hh;clear hh);have tg:=Tg.mk 1;exact Ql5
   ·refine vxf rfl rfl ?_ ?_
    ·go_wp2_with fail;have K2:=zk (Heap.XO K1.1);generalize hV:World.alloc _ _=V2 at *;generalize w6.heap.size=bt at *;clear hV;have tg:=Tg.mk 2;exact Ql5
    ·refine vxe rfl rfl rfl ?_;go_wp2_with fail;have K2:=zk (Heap.XO K1.1);generalize hV:World.alloc _ _=V2 at *;generalize w6.heap.size=bf at *;clear hV;have tg:=Tg.mk 3;exact Ql5
  ·refine vxf rfl rfl ?_ ?_
   ·go_wp2_with fail;have K1:=zk (Heap.drew (Heap.XO H1.1));generalize hW2:World.drew (World.alloc _ _)=W2 at *;generalize w1.heap.size=bt at *;clear hW2;refine ⟨⟨K1.1.cell 1 3 rfl rfl,K1.1.cell 1 4 rfl rfl,K1.1.cell 1 5 rfl rfl⟩,?_⟩;go_simp;refine vxf rfl rfl ?_ ?_
    ·go_wp2_with (go_at_call 39;refine (Dp K1.1 5 4096 tries (by omega) (by omega) (by omega) (by omega) h0 h1).mono ?_;rintro e w6 ⟨bd,bc,br,rfl,hh⟩;have K2:=zk hh;clear hh);have tg:=Tg.mk 4;exact Ql5
    ·refine vxe rfl rfl rfl ?_;go_wp2_with fail;have K2:=zk (Heap.XO K1.1);generalize hV:World.alloc _ _=V2 at *;generalize W2.heap.size=bf at *;clear hV;refine ⟨⟨K2.1.cell 2 3 rfl rfl,K2.1.cell 2 4 rfl rfl,K2.1.cell 2 5 rfl rfl⟩,?_⟩;go_simp;refine vxe rfl rfl rfl ?_;go_wp2_with (go_at_call 39;refine (Dp K2.1 5 4096 tries (by omega) (by omega) (by omega) (by omega) h0 h1).mono ?_;rintro e w6 ⟨bd,bc,br,rfl,hh⟩;have K3:=zk hh;clear hh);have tg:=Tg.mk 4;exact Qf2
   ·refine vxe rfl rfl rfl ?_;go_wp2_with fail;have K1:=zk (Heap.drew (Heap.XO H1.1));generalize hW2:World.drew (World.alloc _ _)=W2 at *;generalize w1.heap.size=bf at *;clear hW2;refine ⟨⟨K1.1.cell 1 3 rfl rfl,K1.1.cell 1 4 rfl rfl,K1.1.cell 1 5 rfl rfl⟩,?_⟩;go_simp;refine vxf rfl rfl ?_ ?_
    ·go_wp2_with (go_at_call 39;refine (Dp K1.1 5 4096 tries (by omega) (by omega) (by omega) (by omega) h0 h1).mono ?_;rintro e w6 ⟨bd,bc,br,rfl,hh⟩;have K2:=zk hh;clear hh);have tg:=Tg.mk 5;exact Ql5
    ·refine vxe rfl rfl rfl ?_;go_wp2_with fail;have K2:=zk (Heap.XO K1.1);generalize hV:World.alloc _ _=V2 at *;generalize W2.heap.size=bt at *;clear hV;refine ⟨⟨K2.1.cell 2 3 rfl rfl,K2.1.cell 2 4 rfl rfl,K2.1.cell 2 5 rfl rfl⟩,?_⟩;go_simp;refine vxe rfl rfl rfl ?_;go_wp2_with (go_at_call 39;refine (Dp K2.1 5 4096 tries (by omega) (by omega) (by omega) (by omega) h0 h1).mono ?_;rintro e w6 ⟨bd,bc,br,rfl,hh⟩;have K3:=zk hh;clear hh);have tg:=Tg.mk 6;exact Qf2
 case rest=>
  rintro e a w2 ⟨rfl,b,bd,bc,br,bs,bp,bt,bf,rfl,h2⟩;have H2:=zk h2;clear h2 H1 x3 x4 x5;obtain ⟨x0,x1,x2,x3,x4,x5,xf⟩:=H2.1.cB6 8 rfl;have hlx:=H2.1.lt 8 rfl;go_wp2_with fail;refine wro (fun W=>W.cell? ⟨n0,0,none⟩=some (.slice (some ⟨g1,0,none⟩) 2 c1)∧W.cell? ⟨n0,1,none⟩=some (.slice (some ⟨g2,0,none⟩) 2 c2)∧W.cell? ⟨n0,4,none⟩=some (.int .i64 4096)) [(0,.f),(1,.f),(2,.f),(3,.s),(4,.f),(5,.s),(7,.f),(8,.f),(9,.f),(10,.f),(12,.f),(13,.f),(16,.f),(17,.f),(6,.e),(11,.e),(14,.f),(15,.e),(18,.f),(19,.e)] ⟨x0,x1,x4⟩ ?_;iterate 14
   first
    |(refine vg rfl rfl ?_;apply ex2;intro w' hw';obtain ⟨x0',x1',x4'⟩:=hw';go_simp;rfl;go_simp)
    |(refine vs_ rfl (fun K hK=>?_);go_simp;refine hK _ ?_;clear hK K)
  refine ve rfl rfl ?_;go_wp2_with (go_at_call 42;refine (Qq2 H2.1.drew 1 4096 _ (.inl rfl) (H2.1.drew.row 9 rfl) (by omega) (by omega)).mono ?_;rintro e w3 ⟨k0,rfl,hh⟩;have K1:=zk hh;clear hh);refine ⟨⟨K1.1.cell 9 0 rfl rfl,K1.1.cell 9 1 rfl rfl,K1.1.cell 9 4 rfl rfl⟩,?_⟩;go_simp;refine ve rfl rfl ?_;go_wp2_with (go_at_call 42;refine (Qq2 K1.1 2 4096 _ (.inr rfl) (K1.1.row 11 rfl) (by omega) (by omega)).mono ?_;rintro e w4 ⟨k1,rfl,hh⟩;have K2:=zk hh;clear hh;have y0:=K2.1.KZ 2 rfl;have hly:=K2.1.lt 2 rfl);refine ⟨⟨K2.1.cell 10 0 rfl rfl,K2.1.cell 10 1 rfl rfl,K2.1.cell 10 4 rfl rfl⟩,?_⟩;go_simp;first
   |(refine vg rfl rfl ?_;apply ex2;intro w' hw';obtain ⟨x0',x1',x4'⟩:=hw';go_simp;rfl;go_simp)
   |(refine vs_ rfl (fun K hK=>?_);go_simp;refine hK _ ?_;clear hK K)
  refine ve rfl rfl ?_;go_wp2_with fail;have K3:=zk (K2.1.sAt 2 1 (.pointer (some ⟨k0,0,none⟩)) rfl);clear y0 hly;have y0:=K3.1.KZ 2 rfl;have hly:=K3.1.lt 2 rfl;refine ⟨⟨K3.1.cell 10 0 rfl rfl,K3.1.cell 10 1 rfl rfl,K3.1.cell 10 4 rfl rfl⟩,?_⟩;go_simp;first
   |(refine vg rfl rfl ?_;apply ex2;intro w' hw';obtain ⟨x0',x1',x4'⟩:=hw';go_simp;rfl;go_simp)
   |(refine vs_ rfl (fun K hK=>?_);go_simp;refine hK _ ?_;clear hK K)
  refine ve rfl rfl ?_;go_wp2_with fail;have K4:=zk (K3.1.sAt 2 2 (.pointer (some ⟨k1,0,none⟩)) rfl);refine ⟨⟨K4.1.cell 10 0 rfl rfl,K4.1.cell 10 1 rfl rfl,K4.1.cell 10 4 rfl rfl⟩,?_⟩;go_simp;refine vn ?_;go_simp;go_wp2_with fail
  go_loopg [5,6,43] 3 (fun gk p5 p6 u wr=>∃k:Nat,u=.int .i64 k∧k≤3∧As (gk+k=3)∧As (NewL w0 R g1 c1 g2 c2 g3 c3 n0 tries b bd bc br bs bp bt bf k0 k1 wr k))
  case atStart=>exact ⟨0,rfl,by omega,⟨rfl⟩,⟨K4.1⟩⟩
  case round=>
   obtain ⟨k,rfl,hk,HG,HN⟩:=hrel;clear K1 K2 K3 K4 H2 x0 x1 x2 x3 x4 x5 xf hlx y0 hly;have hcase:k=0∨k=1∨k=2∨k=3:=by omega
   rcases hcase with rfl|rfl|rfl|rfl;obtain h5:=HN.1;have K5:=zk h5;obtain ⟨x0,x1,x2,x3,x4,x5,xf⟩:=h5.cB6 10 rfl;have hlx:=h5.lt 10 rfl;have z0:wr.cell? ⟨g3,0,none⟩=some (.int .i64 9):=(h5.row 13 rfl).cells (g:=g3) rfl 0 _ rfl;have tg:=Tg.mk 1;exact Qpu;obtain ⟨v0,h5⟩:=HN.1;have K5:=zk h5;obtain ⟨x0,x1,x2,x3,x4,x5,xf⟩:=h5.cB6 11 rfl;have hlx:=h5.lt 11 rfl;have z1:wr.cell? ⟨g3,1,none⟩=some (.int .i64 30):=(h5.row 14 rfl).cells (g:=g3) rfl 1 _ rfl;have tg:=Tg.mk 2;exact Qpu;obtain ⟨v0,v1,h5⟩:=HN.1;have K5:=zk h5;obtain ⟨x0,x1,x2,x3,x4,x5,xf⟩:=h5.cB6 12 rfl;have hlx:=h5.lt 12 rfl;have z2:wr.cell? ⟨g3,2,none⟩=some (.int .i64 4):=(h5.row 15 rfl).cells (g:=g3) rfl 2 _ rfl;have tg:=Tg.mk 3;exact Qpu
   ·obtain ⟨v0,v1,v2,h5⟩:=HN.1;go_wp2_with fail;refine bodyPost_ret (v:=.tuple #[b,.int .i64 0]) (by simp [results,Tryz.results21,go_sem]) rfl ⟨⟨b,bd,bc,k0,k1,bs,v0,v1,v2,bp,bt,bf,br⟩,rfl,?_⟩;have h6:=Heap.Qri (h5.frt 10 rfl);have h7:=Heap.Ur (m:= []) Ql.nil (h6.frt 11 rfl);exact h7.sel (p:= [_,_,_,_,_,_,_,_,_,_,_,_,_,_,_,_,_]) [7,8,9,6,5,10,4,3,2,11,1,0,12] 17 rfl (by decide)
theorem final_ok (s:Int) (w:World):CE 20 #[.int .i64 s] w (.bool (decide (2≤s)&&decide (s≤5))):=by
 by_cases h2:2≤s
 ·by_cases h5:s≤5
  ·go_enter Tryz.func20,Tryz.ntmps20;go_wp2_with fail;go_ret;simp [h2,h5]
  ·go_enter Tryz.func20,Tryz.ntmps20;go_wp2_with fail;go_ret;simp [h2,h5]
 ·go_enter Tryz.func20,Tryz.ntmps20;go_wp2_with fail;go_ret;simp [h2];omega
section
variable {w0 w:World} {q:HA} {H:Qb} {R:List SA}
theorem QE7 (h:Heap w0 (H.on q R) w) {i:Int} (hi:i=1∨i=2) (id:Int) (h0:1≤id) (h1:id≤999):
 CE 17 #[(q.kp i),id] w (.int .i64 (mgi (H.kn i).st id)):=by
 rcases hi with rfl|rfl;exact Qdv (h.frt 3 rfl) id h0 h1;exact Qdv (h.frt 4 rfl) id h0 h1
theorem kdown_on (h:Heap w0 (H.on q R) w) {i:Int} (hi:i=1∨i=2):
 CE 19 #[(q.kp i)] w (.bool (H.kn i).j.down):=by
 rcases hi with rfl|rfl;exact XL (h.frt 3 rfl);exact XL (h.frt 4 rfl)
theorem Quc (h:Heap w0 (H.on q R) w) (id:Int) (h0:1≤id) (h1:id≤999):
 CH 28 #[q.bc,id] w (.int .i64 (H.c.state id)) w0 (H.on q R):=by
 obtain ⟨bj,A,h2⟩:=(h.frt 2 rfl).VD;refine (Qt7 h2 id h0 h1).m2 fun w' h3=>?_;have h4:=Heap.Xy (bj:=bj) (A:=A) h3;exact ⟨rfl,h4.sel (p:= [_,_,_,_,_,_,_,_,_,_,_,_,_]) [1,2,0,3,4,5,6,7,8,9,10,11,12] 13 rfl (by decide)⟩
theorem Qgd (h:Heap w0 (H.on q R) w) (id:Int) (h0:1≤id) (h1:id≤999) (hs:H.c.state id≠0):
 CH 12 #[q.bd,id] w (.int .i64 (H.c.state id)) w0 (H.on q R):=by
 have d0:=h.cell 1 0 rfl rfl;have hlb:=h.lt 1 rfl;have HC:=zk (Quc h id h0 h1);generalize H.c.state id=s at *;have hb:(s==0)=false:=by simpa using hs
 clear h hs;go_enter Tryz.func12,Tryz.ntmps12;go_wp2_with (go_at_call 28;refine HC.1.m2 fun w2 h2=>?_;have H2:=zk h2;clear h2 d0 hlb);go_ret;exact ⟨rfl,H2.1⟩
theorem Qu3 (h:Heap w0 (H.on q R) w) (t:Qn) (ht:H.k1.book=.money t):
 Calls Tryz.prog 23 #[q.k1] w fun e w'=>∃bb,e=.returned (.pointer (some ⟨bb,0,none⟩))∧Calls Tryz.prog 24 #[bb] w' (fun e w2=>e=.returned (.int .i64 t.till)∧w'=w2)∧Heap w0 R w':=by
 obtain ⟨bj,h2⟩:=(h.frt 4 rfl).YA;refine (Qrv h2 t ht).mono ?_;rintro e w' ⟨g,cap,bb,bm,rfl,h3⟩;have h4:Heap w0 R w':=h3.sel (p:= [_,_,_,_,_,_,_,_,_,_,_,_,_,_,_,_,_]) [] 17 rfl (by decide);rw [ht] at h3;exact ⟨bb,rfl,QBa (h3.frt 2 rfl),h4⟩
end
section
variable {w0 w:World} {R:List SA}
theorem Qzq (h:Heap w0 R w) (t:Int):Calls Tryz.prog 6 #[.int .i64 t] w fun e w'=>∃q:HA,e=.returned (.pointer (some ⟨q.b,0,none⟩))∧Heap w0 ((Qb.init (2+u64 t%5)).on q R) w':=by
 have H:=zk h;clear h;have h0:1≤2+u64 t%5:=by omega
 have h1:2+u64 t%5≤20:=by omega
 go_enter Tryz.func6,Tryz.ntmps6;go_wp2_with (first
  |(go_at_call 22;refine (Qke H.1 t).mono ?_;rintro e w2 ⟨g1,c1,g2,c2,g3,c3,rfl,h2⟩;have H2:=zk h2;clear h2)
  |(go_at_call 21;refine (Qg3 g1 c1 g2 c2 g3 c3 _ H2.1 h0 h1).mono ?_;rintro e w3 ⟨q,rfl,h3⟩;have H3:=zk h3;clear h3))
 go_ret;exact ⟨q,rfl,H3.1⟩
end
def QG.QEd:QG→Int
 |.money t=>t.till
 |.goods _=>1
theorem Qkc:FN.c.state 3=6:=by kernel_rfl
theorem Qnh:FN.k1.book.QEd=0:=by kernel_rfl
theorem Qnn:∃t,FN.k1.book=.money t∧t.till=0:=by
 have h:=Qnh;cases hb:FN.k1.book with
 |goods s=>rw [hb] at h;cases h
 |money t=>rw [hb] at h;exact ⟨t,rfl,h⟩
theorem Qgb:Qao.ok:=⟨by decide,by decide,by decide,by decide,by decide,by decide,by decide,by decide,by decide,by decide,by decide,by simp [Qao],by simp [Qao]⟩
section
variable {w0 w:World} {R:List SA}
theorem Qjy (h:Heap w0 R w):CH 8 #[] w (.bool true) w0 R:=by
 have H:=zk h;clear h;have e3:(2:Int)+u64 1%5=3:=by decide
 have HFI:=zk (FY (tries:=3) (by decide) (by decide));have HFS:=zk (HFI.1.XQ Qgb);have HAW:As ((Qb.settle 60 ((Qb.init 3).XQ Qao).2).2=FN):=⟨rfl⟩;obtain ⟨t,ht,ht0⟩:=Qnn;have HT:=zk ht;have HST:=zk Qkc;clear ht;generalize FN=AW at *;go_enter Tryz.func8,Tryz.ntmps8;go_wp2_with (first
  |(go_at_call 22;refine (Qke H.1 1).mono ?_;rintro e w2 ⟨g1,c1,g2,c2,g3,c3,rfl,h2⟩;rw [e3];have H2:=zk h2;clear h2)
  |(go_at_call 21;refine (Qg3 g1 c1 g2 c2 g3 c3 3 H2.1 (by decide) (by decide)).mono ?_;rintro e w3 ⟨q,rfl,h3⟩;have H3:=zk (h3.nRw 131 2);clear h3)
  |(go_at_call 18;refine (Qgk (node:=0) (cid:=0) (i:=0) (yes:=false) (o:=Qao) (sp:=none) (sk:=0) HFI.1 (H3.1.sel (p:= [_,_,_,_,_,_,_,_,_,_,_,_,_,_]) [1,2,3,4,5,6,7,8,9,10,11,12,13,0] 14 rfl (by decide)) Qgb).m1 fun w4 H4=>?_)
  |(go_at_call 10;refine (Qgl HFS.1 H4.1 60 (by decide)).mono ?_;rintro e w5 ⟨rfl,h5, -⟩;rw [HAW.1] at h5;have H5:=zk h5;clear h5)
  |(go_at_call 11;refine (Qby H5.1).m0 ?_)
  |(go_at_call 12;refine (Qgd H5.1 3 (by decide) (by decide) (by rw [HST.1];decide)).mono ?_;rintro e w6 ⟨rfl,h6⟩;rw [HST.1];have H6:=zk h6;clear h6)
  |(go_at_call 16;refine (UK H6.1 2 (.inr rfl)).m0 ?_;simp only [HA.kp,Int.reduceEq,if_false])
  |(go_at_call 23;refine (Qu3 H6.1 t HT.1).mono ?_;rintro e w7 ⟨bb,rfl,h7,h8⟩;have H7:=zk h7;have H8:=zk (h8.drop);clear h7 h8)
  |(go_at_call 24;refine H7.1.m0 ?_;rw [ht0]))
 go_ret;exact ⟨rfl,H8.1⟩
end
def UC (w:World) (v:Value) (l:List Sp):Prop:=∃sp sk,v=.slice sp l.length sk∧∀j (hj:j<l.length),∃g,sp=some g∧g.block<w.heap.size∧w.cell? ⟨(g.add (j*2)).block,(g.add (j*2)).off+1,none⟩=some (.int .i64 (l[j]'hj).n)
theorem add_block (ad:Addr) (n:Nat):(ad.add n).block=ad.block:=by unfold Addr.add;split<;>rfl
theorem UC.below {w W:World} {v:Value} {l:List Sp} (h:UC w v l) (hb:Below w.heap.size w W):UC W v l:=by
 obtain ⟨sp,sk,e,hc⟩:=h;refine ⟨sp,sk,e,fun j hj=>?_⟩;obtain ⟨g,e1,e2,e3⟩:=hc j hj;exact ⟨g,e1,Nat.lt_of_lt_of_le e2 hb.size,by rw [hb.cell (by show (g.add (j*2)).block<_;rw [add_block];exact e2)];exact e3⟩
structure Qae (w:World) (ad:Addr) (d:XT) (v:Value):Prop where
 blk:ad.block<w.heap.size
 c0:w.cell? ad=some (.int .i64 d.dO)
 c1:w.cell? ⟨ad.block,ad.off+1,none⟩=some (.int .i64 d.i)
 c2:w.cell? ⟨ad.block,ad.off+2,none⟩=some (.int .i64 d.QQ)
 c3:w.cell? ⟨ad.block,ad.off+3,none⟩=some (.int .i64 d.o.id)
 c4:w.cell? ⟨ad.block,ad.off+4,none⟩=some (.int .i64 d.o.item)
 c5:w.cell? ⟨ad.block,ad.off+5,none⟩=some (.int .i64 d.o.qty)
 c6:w.cell? ⟨ad.block,ad.off+6,none⟩=some (.int .i64 d.o.client)
 c7:w.cell? ⟨ad.block,ad.off+7,none⟩=some (.int .i64 d.o.price)
 c8:w.cell? ⟨ad.block,ad.off+8,none⟩=some v
 c9:w.cell? ⟨ad.block,ad.off+9,none⟩=some (.bool d.yes)
 st:UC w v d.o.steps
theorem Qae.below {w W:World} {ad:Addr} {d:XT} {v:Value} (h:Qae w ad d v) (hb:Below w.heap.size w W):Qae W ad d v:=by
 have key:∀p:Addr,p.block=ad.block→W.cell? p=w.cell? p:=fun p hp=>hb.cell (by rw [hp];exact h.blk);exact ⟨Nat.lt_of_lt_of_le h.blk hb.size,(key ad rfl).trans h.c0,(key ⟨ad.block,ad.off+1,none⟩ rfl).trans h.c1,(key ⟨ad.block,ad.off+2,none⟩ rfl).trans h.c2,(key ⟨ad.block,ad.off+3,none⟩ rfl).trans h.c3,(key ⟨ad.block,ad.off+4,none⟩ rfl).trans h.c4,(key ⟨ad.block,ad.off+5,none⟩ rfl).trans h.c5,(key ⟨ad.block,ad.off+6,none⟩ rfl).trans h.c6,(key ⟨ad.block,ad.off+7,none⟩ rfl).trans h.c7,(key ⟨ad.block,ad.off+8,none⟩ rfl).trans h.c8,(key ⟨ad.block,ad.off+9,none⟩ rfl).trans h.c9,h.st.below hb⟩
def Us (w:World) (a:Option Addr) (cap:Nat) (ds:List XT):Prop:=ds.length≤cap∧cap≤maxLen∧∀i (hi:i<ds.length),∃ad v,a=some ad∧Qae w (ad.add (i*10)) (ds[i]'hi) v
theorem Us.below {w W:World} {a:Option Addr} {cap:Nat} {ds:List XT} (h:Us w a cap ds) (hb:Below w.heap.size w W):Us W a cap ds:=by
 refine ⟨h.1,h.2.1,fun i hi=>?_⟩;obtain ⟨ad,v,e,hd⟩:=h.2.2 i hi;exact ⟨ad,v,e,hd.below hb⟩
def Light (ds:List XT):Prop:=ds.length≤150∧∀d∈ds,d.o.steps.length≤5
def Qig (w0:World) (R:List SA) (ds:List XT) (e:Ending) (w':World):Prop:=∃b,e=.returned (.bool b)∧Heap w0 R w'∧(b=true→Light ds)
section
variable {w0 w:World} {R:List SA}
theorem Qy1 {a:Option Addr} {cap:Nat} {ds:List XT} (hd:Us w0 a cap ds) (h:Heap w0 R w):
 Calls Tryz.prog 7 #[.slice a ds.length cap] w (Qig w0 R ds):=by
 have HH:=zk h;have HD:=zk hd;have hml:ds.length≤maxLen:=Nat.le_trans hd.1 hd.2.1;unfold maxLen at hml;clear h hd;go_enter Tryz.func7,Tryz.ntmps7;go_wp2_with fail
 go_loopg [3,4,7] ds.length (fun gk a3 a4 u wr=>∃k:Nat,u=.int .i64 k∧k≤ds.length∧As (gk+k=ds.length)∧As (Heap w0 R wr)∧As (k≤150∧∀i (hi:i<k) (hi2:i<ds.length),(ds[i]'hi2).o.steps.length≤5))
 case atStart=>exact ⟨0,rfl,Nat.zero_le _,⟨rfl⟩,HH,⟨by omega,fun i hi=>by omega⟩⟩
 case round=>
  obtain ⟨k,rfl,hk,HG,HR,HL⟩:=hrel;clear HH;by_cases hlt:k<ds.length
  ·obtain ⟨ad,v,rfl,hda⟩:=(HD.1.below (HR.1.bel)).2.2 k hlt;have HLK:=zk hlt;have HEQ:As (∀i (hi:i<k+1) (hi2:i<ds.length),i<k∨ds[i]'hi2=ds[k]'hlt):=⟨fun i hi hi2=>by
    by_cases e:i<k;exact .inl e;obtain rfl:i=k:=by omega
    exact .inr rfl⟩
   have HN:=zk (HR.1.new (.cells #[.int .i64 (ds[k]'hlt).dO,.int .i64 (ds[k]'hlt).i,.int .i64 (ds[k]'hlt).QQ,.int .i64 (ds[k]'hlt).o.id,.int .i64 (ds[k]'hlt).o.item,.int .i64 (ds[k]'hlt).o.qty,.int .i64 (ds[k]'hlt).o.client,.int .i64 (ds[k]'hlt).o.price,v,.bool (ds[k]'hlt).yes] 58));generalize ds[k]'hlt=d at *;obtain ⟨hblk,c0,c1,c2,c3,c4,c5,c6,c7,c8,c9,hst⟩:=hda;obtain ⟨sp,sk,rfl, -⟩:=hst;by_cases h150:(150:Int)≤k
   ·go_wp2_with fail;go_ret;exact (⟨false,rfl,HN.1.drop,fun e=>(by cases e)⟩:Qig w0 R ds _ _)
   ·by_cases h5:d.o.steps.length≤5
    ·have hb5:¬((5:Int)<(d.o.steps.length:Int)):=by omega
     go_wp2_with fail;go_roundg (ds.length-(k+1))
     case measure=>have:=HG.1;omega
     case rel=>
      refine ⟨k+1,by go_num,by omega,⟨by omega⟩,⟨HN.1.drop⟩,⟨by omega,fun i hi hi2=>?_⟩⟩;rcases HEQ.1 i hi hi2 with e|e;exact HL.1.2 i e hi2;rw [e];exact h5
    ·have hb5:((5:Int)<(d.o.steps.length:Int)):=by omega
     go_wp2_with fail;go_ret;exact (⟨false,rfl,HN.1.drop,fun e=>(by cases e)⟩:Qig w0 R ds _ _)
  ·obtain rfl:k=ds.length:=by omega
   go_wp2_with fail;go_ret;refine (⟨true,rfl,HR.1,fun _=>⟨HL.1.1,fun d hd=>?_⟩⟩:Qig w0 R ds _ _);obtain ⟨i,hi,rfl⟩:=List.getElem_of_mem hd;exact HL.1.2 i hi hi
end
theorem QC8 {P:Prop} (h:P:=by
 clear hW3;clear x0 hlx;have E1:=zk e1;clear e1 e2 e3 e4;clear HB;have H4:As (Heap w0 (.slc (.slice none 0 0) 131 2 0 []::.pts n2 (.cells #[.int .i64 (tid o.id),.int .i64 (S.u64 o.item%3),.int .i64 (1+S.u64 o.qty%9),.int .i64 (S.u64 o.client%3),.int .i64 (1+S.u64 o.price%50),.slice none 0 0] 32)::.pts n1 (.cells #[.int .i64 0,.int .i64 0,.int .i64 0,.int .i64 0,.int .i64 0,.slice none 0 0] 32)::.pts n0 (.cells #[o.id,o.item,o.qty,o.client,o.price,.slice sp o.steps.length sk] 32)::R) W3):=⟨H3.1.nRw 131 2⟩;clear H3;go_wp2_with fail
 go_loopg [4,31] 3 (fun gk a4 u wr=>∃(k:Nat) (vL:Value),u=.int .i64 k∧k≤3∧As (gk+k=3)∧As (Heap w0 (.slc vL 131 2 (YQ o k).length (Qs (YQ o k))::.pts n2 (.cells #[.int .i64 (tid o.id),.int .i64 (S.u64 o.item%3),.int .i64 (1+S.u64 o.qty%9),.int .i64 (S.u64 o.client%3),.int .i64 (1+S.u64 o.price%50),vL] 32)::.pts n1 (.cells #[.int .i64 0,.int .i64 0,.int .i64 0,.int .i64 0,.int .i64 0,.slice none 0 0] 32)::.pts n0 (.cells #[o.id,o.item,o.qty,o.client,o.price,.slice sp o.steps.length sk] 32)::R) wr))
 case atStart=>exact ⟨0,.slice none 0 0,rfl,Nat.zero_le _,⟨rfl⟩,H4⟩
 case round=>
  obtain ⟨k,vL,rfl,hk,HG,HR⟩:=hrel;clear H4;obtain ⟨vp,vk,rfl⟩:=vS2 (HR.1.row 0 rfl);have x0:=HR.1.cB6 3 rfl;have hlx:=HR.1.lt 3 rfl;have y0:=HR.1.cB6 1 rfl;have hly:=HR.1.lt 1 rfl;have HKL:=zk (Qcz o k);by_cases hlt:k<3
  ·have HSU:=zk (Qk5 o hlt);have HKI:As (∀x:Int,x=((k+1:Nat):Int)↔x=(k:Int)+1):=⟨fun x=>by omega⟩;by_cases hls:k<o.steps.length
   ·have hls':(k:Int)<(o.steps.length:Int):=by omega
    obtain ⟨g,rfl,hgb,hcn⟩:=HSC.1 _ HR.1 k hls;have HSS:As (QA o k=if (o.steps[k]'hls).n%4=0 then [] else [⟨4+((k:Int)+S.u64 o.item%3)%3,1+S.u64 (o.steps[k]'hls).n%4⟩]):=⟨by unfold QA;rw [List.getElem?_eq_getElem hls]⟩;have HNC:As (∀W {l:List SA},Heap w0 l W→W.cell? ⟨(g.add (k*2)).block,(g.add (k*2)).off+1,none⟩=some (.int .i64 (o.steps[k]'hls).n)):=⟨fun W l hW=>by
     obtain ⟨g',e, -,hc⟩:=HSC.1 W hW k hls;cases e;exact hc⟩
    generalize (o.steps[k]'hls).n=sn at *;by_cases hz:sn%4=0;rw [if_pos hz] at HSS;have hz2:sn.tmod 4=0:=Int.tmod_eq_zero_of_dvd (Int.dvd_of_emod_eq_zero hz);exact QCt
    ·rw [if_neg hz] at HSS;have hz2:¬sn.tmod 4=0:=fun e=>hz (Int.emod_eq_zero_of_dvd (Int.dvd_of_tmod_eq_zero e));have e5:wrap64 (4+(wrap64 ((k:Int)+wrap64 ((IntKind.u64.wrap o.item).tmod 3))).tmod 3)=4+((k:Int)+S.u64 o.item%3)%3:=by
      rw [E1.1,wsm (x:=(k:Int)+S.u64 o.item%3) (by omega) (by omega),Int.tmod_eq_emod_of_nonneg (by omega),wsm (by omega) (by omega)]
     have e6:wrap64 (1+wrap64 ((IntKind.u64.wrap sn).tmod 4))=1+S.u64 sn%4:=by rw [XP,wsm (x:=S.u64 sn%4) (by omega) (by omega),wsm (by omega) (by omega)]
     have E56:=zk (And.intro e5 e6);clear e5 e6;obtain ⟨i0,hi0,hi1,hi2,hi3⟩:=info_parts Qis;have HI:=zk (And.intro hi0 (And.intro hi1 (And.intro hi2 hi3)));clear hi0 hi1 hi2 hi3;go_wp2_with fail;refine wrx (fun W=>W.cell? ⟨n2,5,none⟩=some (.slice vp (YQ o k).length vk)∧W.cell? ⟨n0,1,none⟩=some (.int .i64 o.item)∧W.cell? ⟨n0,5,none⟩=some (.slice (some g) o.steps.length sk)∧W.cell? ⟨(g.add (k*2)).block,(g.add (k*2)).off+1,none⟩=some (.int .i64 sn)) [25] (.op 0 .f (.op 1 .f (.op 2 .f (.op 3 .f (.op 4 .f (.op 5 .f (.op 6 .f (.op 7 .f (.op 8 .f (.op 9 .f (.op 10 .f (.op 11 .f (.op 12 .f (.op 13 .f (.op 14 .f (.op 15 .f (.op 16 .f (.op 17 .f (.op 18 .f (.op 19 .f (.op 20 .f (.op 21 .f (.op 22 .e (.op 23 .e (.op 24 .f (.op 25 .e .nil)))))))))))))))))))))))))) (by kernel_rfl) (by kernel_rfl) ⟨y0.2.2.2.2.2.1,x0.2.1,x0.2.2.2.2.2.1,hcn⟩ ?_;iterate 22
      first
       |(refine vxp rfl rfl ?_;apply ex2;intro w';go_simp;rfl;go_simp)
       |(refine vxg (by kernel_rfl) rfl rfl ?_;apply ex2;intro w' hw';obtain ⟨q0,q1,q2,q3⟩:=hw';go_simp;rfl;go_simp)
     refine vxe rfl rfl rfl ?_;go_wp2_with fail;have H2:=zk ((HR.1.new (.cells #[.int .i64 (wrap64 (4+(wrap64 ((k:Int)+wrap64 ((IntKind.u64.wrap o.item).tmod 3))).tmod 3)),.int .i64 (wrap64 (1+wrap64 ((IntKind.u64.wrap sn).tmod 4)))] 131)).drew);refine ⟨⟨H2.1.cell 2 5 rfl rfl,H2.1.cell 4 1 rfl rfl,H2.1.cell 4 5 rfl rfl,HNC.1 _ H2.1⟩,?_⟩;go_simp;refine vxe rfl rfl rfl ?_;refine wla H2.1 1 _ 131 2 (YQ o k).length _ rfl rfl _ _ 30 rfl _ _ 16 Tryz.underlying30 HI.1.1 HI.1.2.1 HI.1.2.2.1 HI.1.2.2.2 rfl (by decide) rfl ⟨wr.heap.size,0,none⟩ 1 1 [.int .i64 (wrap64 (4+(wrap64 ((k:Int)+wrap64 ((IntKind.u64.wrap o.item).tmod 3))).tmod 3)),.int .i64 (wrap64 (1+wrap64 ((IntKind.u64.wrap sn).tmod 4)))] rfl rfl (fun j u hu=>by rw [addr_add];exact H2.1.cell 0 j rfl (by simpa using hu)) (by simp [Value.oneCell']) (by have:=HKL.1;omega) (by decide) (by omega) ?_;intro g2 cap2 w5 h5 _;have H5:=zk h5;clear h5;go_wp2_with fail;refine ⟨⟨H5.1.cell 2 5 rfl rfl,H5.1.cell 4 1 rfl rfl,H5.1.cell 4 5 rfl rfl,HNC.1 _ H5.1⟩,?_⟩;go_simp;first
      |(refine vxp rfl rfl ?_;apply ex2;intro w';go_simp;rfl;go_simp)
      |(refine vxg (by kernel_rfl) rfl rfl ?_;apply ex2;intro w' hw';obtain ⟨q0,q1,q2,q3⟩:=hw';go_simp;rfl;go_simp)
     refine vxx rfl rfl rfl ?_;clear y0 hly;have y0:=H5.1.cB6 2 rfl;have hly:=H5.1.lt 2 rfl;go_wp2_with fail;refine ⟨trivial,?_⟩;go_simp;refine vtn ?_;go_simp;go_wp2_with fail;go_roundg (3-(k+1))
     case measure=>have:=HG.1;omega
     case rel=>
      refine ⟨k+1,.slice (some ⟨g2,0,none⟩) ((YQ o k).length+1) cap2,by go_num,by omega,⟨by omega⟩,⟨?_⟩⟩;have h6:=(H5.1.sAt 2 5 (.slice (some ⟨g2,0,none⟩) ((YQ o k).length+1) cap2) rfl).sel (p:= [_,_,_,_,_]) [1,2,3,4] 5 rfl (by decide);rw [E56.1.1,E56.1.2] at h6;rw [HSU.1,HSS.1];simpa [Qs,Sp.cells] using h6
   have hls':¬(k:Int)<(o.steps.length:Int):=by omega
   have HSS:As (QA o k= []):=⟨by unfold QA;rw [List.getElem?_eq_none (by omega)]⟩;exact QCt
  ·obtain rfl:k=3:=by omega
   have z0:=HR.1.cB6 2 rfl;have hlz:=HR.1.lt 2 rfl;have H7:=zk ((HR.1.frt 2 rfl).set6 (.int .i64 (tid o.id)) (.int .i64 (S.u64 o.item%3)) (.int .i64 (1+S.u64 o.qty%9)) (.int .i64 (S.u64 o.client%3)) (.int .i64 (1+S.u64 o.price%50)) (.slice vp (YQ o 3).length vk));go_wp2_with fail;have p0:=H7.1.cB6 0 rfl;have hlp:=H7.1.lt 0 rfl;rw [←Qym];refine bodyPost_ret (v:=.agg #[.int .i64 (tid o.id),.int .i64 (S.u64 o.item%3),.int .i64 (1+S.u64 o.qty%9),.int .i64 (S.u64 o.client%3),.int .i64 (1+S.u64 o.price%50),.slice vp (YQ o 3).length vk]) ?_ rfl ⟨vp,vk,rfl,H7.1.sel (p:= [_,_,_,_]) [1] 4 rfl (by decide)⟩;simp [results,Tryz.results44,go_sem,p0]):P:=h
theorem QCt {P:Prop} (h:P:=by
 go_wp2_with fail;go_roundg (3-(k+1))
 case measure=>have:=HG.1;omega
 case rel=>
  refine ⟨k+1,.slice vp (YQ o k).length vk,by go_num,by omega,⟨by omega⟩,⟨?_⟩⟩;rw [HSU.1,HSS.1,List.append_nil];exact HR.1):P:=h
def YQ (o:Od):Nat→List Sp
 |0=> []
 |k+1=>YQ o k++QA o k
theorem Qk5 (o:Od) {k:Nat} (h:k<3):YQ o (k+1)=YQ o k++QA o k:=rfl
theorem Qcz (o:Od):∀k,(YQ o k).length≤k
 |0=>Nat.le_refl _
 |k+1=>by
  have h1:=Qcz o k;have h2:=ZB o k;simp only [YQ,List.length_append];omega
theorem Qym (o:Od):YQ o 3=(small o).steps:=by
 show (([]++QA o 0)++QA o 1)++QA o 2=_
 simp [small]
section
variable {w0 w:World} {R:List SA}
theorem Tu (h:Heap w0 R w) (o:Od) (v:Value) (hs:UC w0 v o.steps):
 Calls Tryz.prog 44 #[o.val v] w fun e w'=>∃sp sk,e=.returned ((small o).val (.slice sp (small o).steps.length sk))∧Heap w0 (.slc (.slice sp (small o).steps.length sk) 131 2 (small o).steps.length (Qs (small o).steps)::R) w':=by
 obtain ⟨sp,sk,rfl,hsc⟩:=hs;have HSC:As (∀W {l:List SA},Heap w0 l W→∀j (hj:j<o.steps.length),∃g,sp=some g∧g.block<W.heap.size∧W.cell? ⟨(g.add (j*2)).block,(g.add (j*2)).off+1,none⟩=some (.int .i64 (o.steps[j]'hj).n)):=⟨fun W l hW j hj=>by
  obtain ⟨g,e1,e2,e3⟩:=hsc j hj;exact ⟨g,e1,Nat.lt_of_lt_of_le e2 hW.bel.size,by rw [hW.bel.cell (by show (g.add (j*2)).block<_;rw [add_block];exact e2)];exact e3⟩⟩
 clear hsc;have e1:wrap64 ((IntKind.u64.wrap o.item).tmod 3)=u64 o.item%3:=by rw [XP,wsm (by omega) (by omega)]
 have e2:wrap64 (1+wrap64 ((IntKind.u64.wrap o.qty).tmod 9))=1+u64 o.qty%9:=by rw [XP,wsm (x:=u64 o.qty%9) (by omega) (by omega),wsm (by omega) (by omega)]
 have e3:wrap64 ((IntKind.u64.wrap o.client).tmod 3)=u64 o.client%3:=by rw [XP,wsm (by omega) (by omega)]
 have e4:wrap64 (1+wrap64 ((IntKind.u64.wrap o.price).tmod 50))=1+u64 o.price%50:=by rw [XP,wsm (x:=u64 o.price%50) (by omega) (by omega),wsm (by omega) (by omega)]
 have h3:=Heap.nAt (n:=w.heap.size+1) (h.new (.cells #[o.id,o.item,o.qty,o.client,o.price,.slice sp o.steps.length sk] 32)) (.cells #[.int .i64 0,.int .i64 0,.int .i64 0,.int .i64 0,.int .i64 0,.slice none 0 0] 32) (by simp);have HB:=zk h3;have x0:=h3.cB6 1 rfl;have hlx:=h3.lt 1 rfl;clear h h3;unfold Od.val;go_enter Tryz.func44,Tryz.ntmps44;go_wp2_with fail;generalize hW:World.alloc _ _=W1 at *;clear hW;generalize w.heap.size+1=n1 at *;generalize w.heap.size=n0 at *;refine wrx (fun W=>W.cell? ⟨n0,0,none⟩=some (.int .i64 o.id)∧W.cell? ⟨n0,1,none⟩=some (.int .i64 o.item)∧W.cell? ⟨n0,2,none⟩=some (.int .i64 o.qty)∧W.cell? ⟨n0,3,none⟩=some (.int .i64 o.client)∧W.cell? ⟨n0,4,none⟩=some (.int .i64 o.price)) [27] (.op 0 .f (.op 1 .f (.op 3 .f (.op 4 .f (.op 5 .f (.op 6 .f (.op 7 .f (.op 8 .f (.op 9 .f (.op 10 .f (.op 11 .f (.op 12 .f (.op 13 .f (.op 14 .f (.op 15 .f (.op 16 .f (.op 17 .f (.op 18 .f (.op 19 .f (.op 20 .f (.op 21 .f (.op 22 .f (.op 23 .f (.op 24 .f (.fork 2 (.op 25 .f (.op 26 .e (.op 27 .e .nil))) (.op 26 .e (.op 2 .e (.op 25 .f (.op 27 .e .nil))))))))))))))))))))))))))))) (by kernel_rfl) (by kernel_rfl) ⟨x0.1,x0.2.1,x0.2.2.1,x0.2.2.2.1,x0.2.2.2.2.1⟩ ?_;iterate 24
  first
   |(refine vxp rfl rfl ?_;apply ex2;intro w';go_simp;rfl;go_simp)
   |(refine vxg (by kernel_rfl) rfl rfl ?_;apply ex2;intro w' hw';obtain ⟨q0,q1,q2,q3,q4⟩:=hw';go_simp;rfl;go_simp)
 refine vxf rfl rfl ?_ ?_
 ·go_wp2_with (go_at_call 45;refine (JS _ _).m0 ?_);refine ⟨⟨x0.1,x0.2.1,x0.2.2.1,x0.2.2.2.1,x0.2.2.2.2.1⟩,?_⟩;go_simp;first
   |(refine vxp rfl rfl ?_;apply ex2;intro w';go_simp;rfl;go_simp)
   |(refine vxg (by kernel_rfl) rfl rfl ?_;apply ex2;intro w' hw';obtain ⟨q0,q1,q2,q3,q4⟩:=hw';go_simp;rfl;go_simp)
  refine vxe rfl rfl rfl ?_;go_wp2_with fail;have H2:=zk (HB.1.drew.new (.cells #[.int .i64 0,.int .i64 0,.int .i64 0,.int .i64 0,.int .i64 0,.slice none 0 0] 32));refine ⟨⟨H2.1.cell 2 0 rfl rfl,H2.1.cell 2 1 rfl rfl,H2.1.cell 2 2 rfl rfl,H2.1.cell 2 3 rfl rfl,H2.1.cell 2 4 rfl rfl⟩,?_⟩;go_simp;refine vxx rfl rfl rfl ?_;go_wp2_with fail;refine ⟨trivial,?_⟩;go_simp;refine vtn ?_;go_simp;have H3:As (Heap w0 (.pts W1.heap.size (.cells #[.int .i64 (tid o.id),.int .i64 (u64 o.item%3),.int .i64 (1+u64 o.qty%9),.int .i64 (u64 o.client%3),.int .i64 (1+u64 o.price%50),.slice none 0 0] 32)::.pts n1 (.cells #[.int .i64 0,.int .i64 0,.int .i64 0,.int .i64 0,.int .i64 0,.slice none 0 0] 32)::.pts n0 (.cells #[o.id,o.item,o.qty,o.client,o.price,.slice sp o.steps.length sk] 32)::R) (W1.alloc (.cells #[.int .i64 (tid o.id),.int .i64 (u64 o.item%3),.int .i64 (1+u64 o.qty%9),.int .i64 (u64 o.client%3),.int .i64 (1+u64 o.price%50),.slice none 0 0] 32)).drew):=⟨(HB.1.new _).drew⟩;generalize hW3:World.drew (World.alloc _ _)=W3 at *;generalize W1.heap.size=n2 at *;exact QC8
 ·refine vxe rfl rfl rfl ?_;go_wp2_with fail;have H2:=zk (Heap.drew (HB.1.new (.cells #[.int .i64 0,.int .i64 0,.int .i64 0,.int .i64 0,.int .i64 0,.slice none 0 0] 32)));generalize hW2:World.drew (World.alloc _ _)=W2 at *;generalize W1.heap.size=n2 at *;clear hW2;refine ⟨⟨H2.1.cell 2 0 rfl rfl,H2.1.cell 2 1 rfl rfl,H2.1.cell 2 2 rfl rfl,H2.1.cell 2 3 rfl rfl,H2.1.cell 2 4 rfl rfl⟩,?_⟩;go_simp;refine vxe rfl rfl rfl ?_;go_wp2_with (go_at_call 45;refine (JS _ _).m0 ?_);refine ⟨⟨H2.1.cell 2 0 rfl rfl,H2.1.cell 2 1 rfl rfl,H2.1.cell 2 2 rfl rfl,H2.1.cell 2 3 rfl rfl,H2.1.cell 2 4 rfl rfl⟩,?_⟩;go_simp;first
   |(refine vxp rfl rfl ?_;apply ex2;intro w';go_simp;rfl;go_simp)
   |(refine vxg (by kernel_rfl) rfl rfl ?_;apply ex2;intro w' hw';obtain ⟨q0,q1,q2,q3,q4⟩:=hw';go_simp;rfl;go_simp)
  refine vxx rfl rfl rfl ?_;have y0:=H2.1.cB6 0 rfl;have hly:=H2.1.lt 0 rfl;go_wp2_with fail;refine ⟨trivial,?_⟩;go_simp;refine vtn ?_;go_simp;have H3:=zk (H2.1.set6 (.int .i64 (tid o.id)) (.int .i64 (u64 o.item%3)) (.int .i64 (1+u64 o.qty%9)) (.int .i64 (u64 o.client%3)) (.int .i64 (1+u64 o.price%50)) (.slice none 0 0));clear y0 hly;generalize hW3:World.setCell _ _ _=W3 at *;exact QC8
end
theorem Qxh {P:Prop} (h:P:=by
 show Heap w0 (H.on q (.slc (.slice none 0 0) 131 2 0 []::R)) _
 exact (H7.1.nRw 131 2).sel (p:= [_,_,_,_,_,_,_,_,_,_,_,_,_,_,_,_]) [2,3,4,5,6,7,8,9,10,11,12,13,14,0] 16 rfl (by decide)):P:=h
theorem Tw {P:Prop} (h:P:=by
 have tg:=Tg.mk 7;exact Ta):P:=h
theorem QDz {P:Prop} (h:P:=by
 have tg:=Tg.mk 8;exact Ta):P:=h
theorem QBz {P:Prop} (h:P:=by
 have tg:=Tg.mk 9;exact Ta):P:=h
theorem QCq {P:Prop} (h:P:=by
 have tg:=Tg.mk 10;exact Ta):P:=h
theorem QCv {P:Prop} (h:P:=by
 have tg:=Tg.mk 11;exact Ta):P:=h
theorem QCd {P:Prop} (h:P:=by
 have tg:=Tg.mk 12;exact Ta):P:=h
theorem Qhf {P:Prop} (h:P:=by
 rw [if_neg (by omega)];rw [if_neg (by omega)];rw [if_neg (by omega)];rw [if_neg (by omega)];rw [if_pos (by omega)]):P:=h
theorem QB9 {P:Prop} (h:P:=by
 rw [hm] at ht;have tg:=Tg.mk 9;exact Dq):P:=h
theorem Ta {P:Prop} (h:P:=by
 go_enter Tryz.func25,Tryz.ntmps25;go_wp2_with fail;generalize hW:World.alloc _ _=W1 at *;clear hW;generalize w.heap.size+1=n1 at *;generalize w.heap.size=n0 at *;go_wp2_with (first
  |(go_at_call 14;refine HPO.1.m0 ?_)
  |(go_at_call 15;refine HLN.1.m0 ?_)
  |(go_at_call 45;refine (JS _ _).m0 ?_)
  |(go_at_call 44;refine (Tu HB.1 d.o _ HST.1).mono ?_;rintro e w2 ⟨sp2,sk2,rfl,h2⟩;simp only [Od.val];clear y0 hly;have y0:=h2.cA1 14 rfl;have hly:=h2.lt 14 rfl;have H2:=zk h2;clear h2))
 first
  |(have ty:Tg 1:=tg;have H7:=zk ((HB.1.frt 13 rfl).ZI (.int .i64 6) (.int .i64 0) (.int .i64 0) (.int .i64 0) (.bool false) (.int .i64 0) (.int .i64 0) (.int .i64 0) (.int .i64 0) (.int .i64 0) (.slice none 0 0));have p0:=H7.1.cA1 0 rfl;have hlp:=H7.1.lt 0 rfl;refine bodyPost_ret (v:=.agg #[.int .i64 6,.int .i64 0,.int .i64 0,.int .i64 0,.bool false,.int .i64 0,.int .i64 0,.int .i64 0,.int .i64 0,.int .i64 0,.slice none 0 0]) ?_ rfl ?_
    ·simp [results,Tryz.results25,go_sem,p0]
    unfold TQ;refine ⟨none,0,?_,?_⟩;exact rfl;exact Qxh)
  |(have ty:Tg 2:=tg;have H7:=zk ((HB.1.frt 13 rfl).ZI (.int .i64 7) (.int .i64 0) (.int .i64 0) (.int .i64 0) (.bool false) (.int .i64 0) (.int .i64 0) (.int .i64 0) (.int .i64 0) (.int .i64 0) (.slice none 0 0));have p0:=H7.1.cA1 0 rfl;have hlp:=H7.1.lt 0 rfl;refine bodyPost_ret (v:=.agg #[.int .i64 7,.int .i64 0,.int .i64 0,.int .i64 0,.bool false,.int .i64 0,.int .i64 0,.int .i64 0,.int .i64 0,.int .i64 0,.slice none 0 0]) ?_ rfl ?_
    ·simp [results,Tryz.results25,go_sem,p0]
    unfold TQ;refine ⟨none,0,?_,?_⟩;exact rfl;exact Qxh)
  |(have ty:Tg 3:=tg;have H7:=zk ((HB.1.frt 13 rfl).ZI (.int .i64 5) (.int .i64 0) (.int .i64 0) (.int .i64 0) (.bool false) (.int .i64 0) (.int .i64 0) (.int .i64 0) (.int .i64 0) (.int .i64 0) (.slice none 0 0));have p0:=H7.1.cA1 0 rfl;have hlp:=H7.1.lt 0 rfl;refine bodyPost_ret (v:=.agg #[.int .i64 5,.int .i64 0,.int .i64 0,.int .i64 0,.bool false,.int .i64 0,.int .i64 0,.int .i64 0,.int .i64 0,.int .i64 0,.slice none 0 0]) ?_ rfl ?_
    ·simp [results,Tryz.results25,go_sem,p0]
    unfold TQ;refine ⟨none,0,?_,?_⟩;exact rfl;exact Qxh)
  |(have ty:Tg 4:=tg;have H7:=zk ((HB.1.frt 13 rfl).ZI (.int .i64 6) (.int .i64 0) (.int .i64 0) (.int .i64 (wrap64 ((IntKind.u64.wrap d.i).tmod (n:Int)))) (.bool false) (.int .i64 0) (.int .i64 0) (.int .i64 0) (.int .i64 0) (.int .i64 0) (.slice none 0 0));have p0:=H7.1.cA1 0 rfl;have hlp:=H7.1.lt 0 rfl;refine bodyPost_ret (v:=.agg #[.int .i64 6,.int .i64 0,.int .i64 0,.int .i64 (wrap64 ((IntKind.u64.wrap d.i).tmod (n:Int))),.bool false,.int .i64 0,.int .i64 0,.int .i64 0,.int .i64 0,.int .i64 0,.slice none 0 0]) ?_ rfl ?_
    ·simp [results,Tryz.results25,go_sem,p0]
    unfold TQ;refine ⟨none,0,?_,?_⟩;rw [EP.1];rfl;exact Qxh)
  |(have ty:Tg 5:=tg;have H7:=zk ((HB.1.frt 13 rfl).ZI (.int .i64 7) (.int .i64 0) (.int .i64 0) (.int .i64 (wrap64 ((IntKind.u64.wrap d.i).tmod (n:Int)))) (.bool false) (.int .i64 0) (.int .i64 0) (.int .i64 0) (.int .i64 0) (.int .i64 0) (.slice none 0 0));have p0:=H7.1.cA1 0 rfl;have hlp:=H7.1.lt 0 rfl;refine bodyPost_ret (v:=.agg #[.int .i64 7,.int .i64 0,.int .i64 0,.int .i64 (wrap64 ((IntKind.u64.wrap d.i).tmod (n:Int))),.bool false,.int .i64 0,.int .i64 0,.int .i64 0,.int .i64 0,.int .i64 0,.slice none 0 0]) ?_ rfl ?_
    ·simp [results,Tryz.results25,go_sem,p0]
    unfold TQ;refine ⟨none,0,?_,?_⟩;rw [EP.1];rfl;exact Qxh)
  |(have ty:Tg 6:=tg;have H7:=zk ((HB.1.frt 13 rfl).ZI (.int .i64 5) (.int .i64 0) (.int .i64 0) (.int .i64 (wrap64 ((IntKind.u64.wrap d.i).tmod (n:Int)))) (.bool false) (.int .i64 0) (.int .i64 0) (.int .i64 0) (.int .i64 0) (.int .i64 0) (.slice none 0 0));have p0:=H7.1.cA1 0 rfl;have hlp:=H7.1.lt 0 rfl;refine bodyPost_ret (v:=.agg #[.int .i64 5,.int .i64 0,.int .i64 0,.int .i64 (wrap64 ((IntKind.u64.wrap d.i).tmod (n:Int))),.bool false,.int .i64 0,.int .i64 0,.int .i64 0,.int .i64 0,.int .i64 0,.slice none 0 0]) ?_ rfl ?_
    ·simp [results,Tryz.results25,go_sem,p0]
    unfold TQ;refine ⟨none,0,?_,?_⟩;rw [EP.1];rfl;exact Qxh)
  |(have ty:Tg 7:=tg;have H7:=zk ((HB.1.frt 13 rfl).ZI (.int .i64 10) (.int .i64 (wrap64 ((IntKind.u64.wrap d.i).tmod 7))) (.int .i64 0) (.int .i64 0) (.bool false) (.int .i64 0) (.int .i64 0) (.int .i64 0) (.int .i64 0) (.int .i64 0) (.slice none 0 0));have p0:=H7.1.cA1 0 rfl;have hlp:=H7.1.lt 0 rfl;refine bodyPost_ret (v:=.agg #[.int .i64 10,.int .i64 (wrap64 ((IntKind.u64.wrap d.i).tmod 7)),.int .i64 0,.int .i64 0,.bool false,.int .i64 0,.int .i64 0,.int .i64 0,.int .i64 0,.int .i64 0,.slice none 0 0]) ?_ rfl ?_
    ·simp [results,Tryz.results25,go_sem,p0]
    unfold TQ;refine ⟨none,0,?_,?_⟩;rw [E7.1];rfl;exact Qxh)
  |(have ty:Tg 8:=tg;refine wro (fun W=>W.cell? ⟨n0,1,none⟩=some (.int .i64 d.i)∧W.cell? ⟨n0,2,none⟩=some (.int .i64 d.QQ)∧W.cell? ⟨n0,9,none⟩=some (.bool d.yes)) [(0,.f),(1,.f),(2,.f),(3,.f),(4,.f),(5,.f),(6,.f),(7,.s),(8,.e),(9,.f),(10,.e)] ⟨x1,x2,x9⟩ ?_;iterate 8
     first
      |(refine vg rfl rfl ?_;apply ex2;intro w' hw';obtain ⟨q1,q2,q9⟩:=hw';go_simp;rfl;go_simp)
      |(refine vs_ rfl (fun K hK=>?_);go_simp;refine hK _ ?_;clear hK K)
    refine ve rfl rfl ?_;go_wp2_with (go_at_call 45;refine (JS _ _).m0 ?_);refine ⟨⟨x1,x2,x9⟩,?_⟩;go_simp;first
     |(refine vg rfl rfl ?_;apply ex2;intro w' hw';obtain ⟨q1,q2,q9⟩:=hw';go_simp;rfl;go_simp)
     |(refine vs_ rfl (fun K hK=>?_);go_simp;refine hK _ ?_;clear hK K)
    refine ve rfl rfl ?_;go_wp2_with fail;have H7:=zk ((HB.1.frt 13 rfl).ZI (.int .i64 8) (.int .i64 (wrap64 (1+wrap64 ((IntKind.u64.wrap d.QQ).tmod 2)))) (.int .i64 (tid d.i)) (.int .i64 0) (.bool false) (.int .i64 0) (.int .i64 0) (.int .i64 0) (.int .i64 0) (.int .i64 0) (.slice none 0 0)).drew;refine ⟨⟨H7.1.cell 14 1 rfl rfl,H7.1.cell 14 2 rfl rfl,H7.1.cell 14 9 rfl rfl⟩,?_⟩;go_simp;refine vn ?_;go_simp;go_wp2_with fail;have p0:=H7.1.cA1 0 rfl;have hlp:=H7.1.lt 0 rfl;refine bodyPost_ret (v:=.agg #[.int .i64 8,.int .i64 (wrap64 (1+wrap64 ((IntKind.u64.wrap d.QQ).tmod 2))),.int .i64 (tid d.i),.int .i64 0,.bool false,.int .i64 0,.int .i64 0,.int .i64 0,.int .i64 0,.int .i64 0,.slice none 0 0]) ?_ rfl ?_
    ·simp [results,Tryz.results25,go_sem,p0]
    unfold TQ;refine ⟨none,0,?_,?_⟩;rw [E2.1];rfl;exact Qxh)
  |(have ty:Tg 9:=tg;have H7:=zk ((H2.1.frt 14 rfl).ZI (.int .i64 1) (.int .i64 0) (.int .i64 0) (.int .i64 0) (.bool false) (.int .i64 (small d.o).id) (.int .i64 (small d.o).item) (.int .i64 (small d.o).qty) (.int .i64 (small d.o).client) (.int .i64 (small d.o).price) (.slice sp2 (small d.o).steps.length sk2));have p0:=H7.1.cA1 0 rfl;have hlp:=H7.1.lt 0 rfl;refine bodyPost_ret (v:=.agg #[.int .i64 1,.int .i64 0,.int .i64 0,.int .i64 0,.bool false,.int .i64 (small d.o).id,.int .i64 (small d.o).item,.int .i64 (small d.o).qty,.int .i64 (small d.o).client,.int .i64 (small d.o).price,.slice sp2 (small d.o).steps.length sk2]) ?_ rfl ?_
    ·simp [results,Tryz.results25,go_sem,p0]
    unfold TQ;refine ⟨sp2,sk2,rfl,?_⟩;exact H7.1.sel (p:= [_,_,_,_,_,_,_,_,_,_,_,_,_,_,_,_]) [2,3,4,5,6,7,8,9,10,11,12,13,14,1] 16 rfl (by decide))
  |(have ty:Tg 10:=tg;have H7:=zk ((HB.1.frt 13 rfl).ZI (.int .i64 9) (.int .i64 (wrap64 ((IntKind.u64.wrap d.i).tmod 7))) (.int .i64 d.QQ) (.int .i64 (wrap64 ((IntKind.u64.wrap d.QQ).tmod 4))) (.bool false) (.int .i64 0) (.int .i64 0) (.int .i64 0) (.int .i64 0) (.int .i64 0) (.slice none 0 0));have p0:=H7.1.cA1 0 rfl;have hlp:=H7.1.lt 0 rfl;refine bodyPost_ret (v:=.agg #[.int .i64 9,.int .i64 (wrap64 ((IntKind.u64.wrap d.i).tmod 7)),d.QQ,.int .i64 (wrap64 ((IntKind.u64.wrap d.QQ).tmod 4)),.bool false,.int .i64 0,.int .i64 0,.int .i64 0,.int .i64 0,.int .i64 0,.slice none 0 0]) ?_ rfl ?_
    ·simp [results,Tryz.results25,go_sem,p0]
    unfold TQ;refine ⟨none,0,?_,?_⟩;rw [E7.1,E4.1];rfl;exact Qxh)
  |(have ty:Tg 11:=tg;have H7:=zk ((HB.1.frt 13 rfl).ZI (.int .i64 2) (.int .i64 0) (.int .i64 (tid d.i)) (.int .i64 0) (.bool false) (.int .i64 0) (.int .i64 0) (.int .i64 0) (.int .i64 0) (.int .i64 0) (.slice none 0 0));have p0:=H7.1.cA1 0 rfl;have hlp:=H7.1.lt 0 rfl;refine bodyPost_ret (v:=.agg #[.int .i64 2,.int .i64 0,.int .i64 (tid d.i),.int .i64 0,.bool false,.int .i64 0,.int .i64 0,.int .i64 0,.int .i64 0,.int .i64 0,.slice none 0 0]) ?_ rfl ?_
    ·simp [results,Tryz.results25,go_sem,p0]
    unfold TQ;refine ⟨none,0,?_,?_⟩;exact rfl;exact Qxh)
  |(have ty:Tg 12:=tg;have H7:=zk ((HB.1.frt 13 rfl).ZI (.int .i64 8) (.int .i64 0) (.int .i64 (tid d.i)) (.int .i64 0) (.bool false) (.int .i64 0) (.int .i64 0) (.int .i64 0) (.int .i64 0) (.int .i64 0) (.slice none 0 0));have p0:=H7.1.cA1 0 rfl;have hlp:=H7.1.lt 0 rfl;refine bodyPost_ret (v:=.agg #[.int .i64 8,.int .i64 0,.int .i64 (tid d.i),.int .i64 0,.bool false,.int .i64 0,.int .i64 0,.int .i64 0,.int .i64 0,.int .i64 0,.slice none 0 0]) ?_ rfl ?_
    ·simp [results,Tryz.results25,go_sem,p0]
    unfold TQ;refine ⟨none,0,?_,?_⟩;exact rfl;exact Qxh)):P:=h
theorem Dq {P:Prop} (h:P:=by
 generalize H.p.l.length=n at *;have hnp:(0:Int)<(n:Int):=by omega
 have EP:As (wrap64 ((IntKind.u64.wrap d.i).tmod (n:Int))=u64 d.i%(n:Int)):=⟨by
  have hb:=Int.emod_nonneg (u64 d.i) (by omega:(n:Int)≠0);have hb2:=Int.emod_lt_of_pos (u64 d.i) hnp;rw [XP,wsm (by omega) (by omega)]⟩
 have hnw:¬IntKind.u64.wrap (n:Int)=0:=by rw [IntKind.wrap_u64];omega
 first
  |(have ty:Tg 1:=tg;exact QBz)
  |(have ty:Tg 2:=tg;exact QCv)
  |(have ty:Tg 3:=tg;have tg:=Tg.mk 4;exact Ta)
  |(have ty:Tg 4:=tg;have tg:=Tg.mk 5;exact Ta)
  |(have ty:Tg 5:=tg;exact QCd)
  |(have ty:Tg 6:=tg;exact QDz)
  |(have ty:Tg 7:=tg;exact QCq)
  |(have ty:Tg 8:=tg;have tg:=Tg.mk 6;exact Ta)
  |(have ty:Tg 9:=tg;exact Tw)):P:=h
def Cmd.val (c:Cmd) (v:Value):Value:=.agg #[c.kind,c.node,c.id,c.i,.bool c.yes,c.o.id,c.o.item,c.o.qty,c.o.client,c.o.price,v]
def TQ (w0:World) (q:HA) (H:Qb) (R:List SA) (c:Cmd) (e:Ending) (w':World):Prop:=∃sp sk,e=.returned (c.val (.slice sp c.o.steps.length sk))∧Heap w0 (H.on q (.slc (.slice sp c.o.steps.length sk) 131 2 c.o.steps.length (Qs c.o.steps)::R)) w'
theorem Jy {H:Qb} (i:Int) (h:H.p.l.length=0):H.pick i=0:=by unfold Qb.pick;rw [if_pos h]
theorem DR {H:Qb} (i:Int) (h:¬H.p.l.length=0):H.pick i=u64 i%(H.p.l.length:Int):=by unfold Qb.pick;rw [if_neg h]
theorem Qw5 (H:Qb) (d:XT) (force:Bool) (h:u64 d.dO%14=0):H.cmd d force=⟨1,0,0,0,false,small d.o⟩:=by
 unfold Qb.cmd;rw [if_pos (by omega)]
theorem Qv0 (H:Qb) (d:XT) (force:Bool) (h:u64 d.dO%14=1):H.cmd d force=⟨2,0,tid d.i,0,false,Od.none⟩:=by
 unfold Qb.cmd;rw [if_neg (by omega)];rw [if_pos (by omega)]
theorem Qms (H:Qb) (d:XT) (h:u64 d.dO%14=2):H.cmd d true=⟨3,1+u64 d.QQ%2,tid d.i,0,d.yes,Od.none⟩:=by
 unfold Qb.cmd;rw [if_neg (by omega)];rw [if_neg (by omega)];rw [if_pos (by omega)];rw [if_pos rfl]
theorem Qnd (H:Qb) (d:XT) (h:u64 d.dO%14=2):H.cmd d false=⟨5,0,0,H.pick d.i,false,Od.none⟩:=by
 unfold Qb.cmd;rw [if_neg (by omega)];rw [if_neg (by omega)];rw [if_pos (by omega)];rw [if_neg (by decide)]
theorem Qv2 (H:Qb) (d:XT) (force:Bool) (h:u64 d.dO%14=3):H.cmd d force=⟨6,0,0,H.pick d.i,false,Od.none⟩:=by
 unfold Qb.cmd;rw [if_neg (by omega)];rw [if_neg (by omega)];rw [if_neg (by omega)];rw [if_pos (by omega)]
theorem Qw7 (H:Qb) (d:XT) (force:Bool) (h:u64 d.dO%14=4):H.cmd d force=⟨7,0,0,H.pick d.i,false,Od.none⟩:=by
 unfold Qb.cmd;exact Qhf
theorem Qwr (H:Qb) (d:XT) (force:Bool) (h:u64 d.dO%14=5):H.cmd d force=⟨8,0,tid d.i,0,false,Od.none⟩:=by
 unfold Qb.cmd;rw [if_neg (by omega)];exact Qhf
theorem Qv3 (H:Qb) (d:XT) (force:Bool) (h:u64 d.dO%14=6):H.cmd d force=⟨8,1+u64 d.QQ%2,tid d.i,0,false,Od.none⟩:=by
 unfold Qb.cmd;rw [if_neg (by omega)];rw [if_neg (by omega)];exact Qhf
theorem Qyv (H:Qb) (d:XT) (force:Bool) (h:u64 d.dO%14=7):H.cmd d force=⟨9,u64 d.i%7,d.QQ,u64 d.QQ%4,false,Od.none⟩:=by
 unfold Qb.cmd;rw [if_neg (by omega)];rw [if_neg (by omega)];rw [if_neg (by omega)];exact Qhf
theorem Qy7 (H:Qb) (d:XT) (force:Bool) (h:u64 d.dO%14=8):H.cmd d force=⟨10,u64 d.i%7,0,0,false,Od.none⟩:=by
 unfold Qb.cmd;rw [if_neg (by omega)];rw [if_neg (by omega)];rw [if_neg (by omega)];rw [if_neg (by omega)];exact Qhf
theorem Qvc (H:Qb) (d:XT) (force:Bool) (h:u64 d.dO%14=9):H.cmd d force=⟨10,u64 d.i%7,0,0,false,Od.none⟩:=by
 unfold Qb.cmd;rw [if_neg (by omega)];rw [if_neg (by omega)];rw [if_neg (by omega)];rw [if_neg (by omega)];exact Qhf
theorem Qpg (H:Qb) (d:XT) (force:Bool) (h:10≤u64 d.dO%14):H.cmd d force=⟨5,0,0,H.pick d.i,false,Od.none⟩:=by
 unfold Qb.cmd;rw [if_neg (by omega)];rw [if_neg (by omega)];rw [if_neg (by omega)];rw [if_neg (by omega)];rw [if_neg (by omega)];rw [if_neg (by omega)];rw [if_neg (by omega)];rw [if_neg (by omega)];rw [if_neg (by omega)]
section
variable {w0 w:World} {q:HA} {H:Qb} {R:List SA}
theorem Qnc (h:Heap w0 (H.on q R) w) (d:XT) (v:Value) (hs:UC w0 v d.o.steps) (force:Bool):
 Calls Tryz.prog 25 #[q.b,.agg #[d.dO,d.i,d.QQ,d.o.id,d.o.item,d.o.qty,d.o.client,d.o.price,v,.bool d.yes],.bool force] w (TQ w0 q H R (H.cmd d force)):=by
 have HST:=zk hs;obtain ⟨sp,sk,rfl, -⟩:=hs;have hn:H.p.l.length≤256:=by
  have:=(h.frt 9 rfl).YU.1;have h1:=this.2.1;have h2:=this.2.2.1;omega
 have h3:=(Heap.nAt (n:=w.heap.size+1) (h.new (.cells #[d.dO,d.i,d.QQ,d.o.id,d.o.item,d.o.qty,d.o.client,d.o.price,.slice sp d.o.steps.length sk,.bool d.yes] 58)) (.cells #[.int .i64 0,.int .i64 0,.int .i64 0,.int .i64 0,.bool false,.int .i64 0,.int .i64 0,.int .i64 0,.int .i64 0,.int .i64 0,.slice none 0 0] 45) (by simp)).Qeh;have HB:=zk h3;have HLN:=zk (Qif h3);have HPO:=zk (Qmq h3);have x0:=h3.cell 14 0 rfl rfl;have x1:=h3.cell 14 1 rfl rfl;have x2:=h3.cell 14 2 rfl rfl;have x3:=h3.cell 14 3 rfl rfl;have x4:=h3.cell 14 4 rfl rfl;have x5:=h3.cell 14 5 rfl rfl;have x6:=h3.cell 14 6 rfl rfl;have x7:=h3.cell 14 7 rfl rfl;have x8:=h3.cell 14 8 rfl rfl;have x9:=h3.cell 14 9 rfl rfl;have hlx:=h3.lt 14 rfl;have y0:=h3.cA1 13 rfl;have hly:=h3.lt 13 rfl;clear h h3;have hm:u64 d.dO%14=0∨u64 d.dO%14=1∨u64 d.dO%14=2∨u64 d.dO%14=3∨u64 d.dO%14=4∨u64 d.dO%14=5∨u64 d.dO%14=6∨u64 d.dO%14=7∨u64 d.dO%14=8∨u64 d.dO%14=9∨10≤u64 d.dO%14:=by omega
 have ht:(IntKind.u64.wrap d.dO).tmod 14=u64 d.dO%14:=XP _ _;have E2:As ((wrap64 (1+wrap64 ((IntKind.u64.wrap d.QQ).tmod 2)))=1+u64 d.QQ%2):=⟨by rw [XP,wsm (x:=u64 d.QQ%2) (by omega) (by omega),wsm (by omega) (by omega)]⟩;have E7:As ((wrap64 ((IntKind.u64.wrap d.i).tmod 7))=u64 d.i%7):=⟨by rw [XP,wsm (by omega) (by omega)]⟩;have E4:As ((wrap64 ((IntKind.u64.wrap d.QQ).tmod 4))=u64 d.QQ%4):=⟨by rw [XP,wsm (by omega) (by omega)]⟩;by_cases hz:H.p.l.length=0
 ·rcases hm with hm|hm|hm|hm|hm|hm|hm|hm|hm|hm|hm
  ·skip;rw [Qw5 H d force hm];rw [hm] at ht;rw [hz] at HLN;exact QBz
  ·skip;rw [Qv0 H d force hm];rw [hm] at ht;rw [hz] at HLN;exact QCv
  ·cases force with
   |true=>
    rw [Qms H d hm];rw [hm] at ht;rw [hz] at HLN;go_enter Tryz.func25,Tryz.ntmps25;go_wp2_with fail;generalize hW:World.alloc _ _=W1 at *;clear hW;generalize w.heap.size+1=n1 at *;generalize w.heap.size=n0 at *;go_wp2_with (first
     |(go_at_call 14;refine HPO.1.m0 ?_)
     |(go_at_call 15;refine HLN.1.m0 ?_)
     |(go_at_call 45;refine (JS _ _).m0 ?_)
     |(go_at_call 44;refine (Tu HB.1 d.o _ HST.1).mono ?_;rintro e w2 ⟨sp2,sk2,rfl,h2⟩;simp only [Od.val];clear y0 hly;have y0:=h2.cA1 14 rfl;have hly:=h2.lt 14 rfl;have H2:=zk h2;clear h2))
    refine wro (fun W=>W.cell? ⟨n0,1,none⟩=some (.int .i64 d.i)∧W.cell? ⟨n0,2,none⟩=some (.int .i64 d.QQ)∧W.cell? ⟨n0,9,none⟩=some (.bool d.yes)) [(0,.f),(1,.f),(2,.f),(3,.f),(4,.f),(5,.f),(6,.f),(7,.s),(9,.f),(10,.f),(8,.e),(11,.f),(12,.e)] ⟨x1,x2,x9⟩ ?_;iterate 10
     first
      |(refine vg rfl rfl ?_;apply ex2;intro w' hw';obtain ⟨q1,q2,q9⟩:=hw';go_simp;rfl;go_simp)
      |(refine vs_ rfl (fun K hK=>?_);go_simp;refine hK _ ?_;clear hK K)
    refine ve rfl rfl ?_;go_wp2_with (go_at_call 45;refine (JS _ _).m0 ?_);refine ⟨⟨x1,x2,x9⟩,?_⟩;go_simp;first
     |(refine vg rfl rfl ?_;apply ex2;intro w' hw';obtain ⟨q1,q2,q9⟩:=hw';go_simp;rfl;go_simp)
     |(refine vs_ rfl (fun K hK=>?_);go_simp;refine hK _ ?_;clear hK K)
    refine ve rfl rfl ?_;go_wp2_with fail;have H7:=zk ((HB.1.frt 13 rfl).ZI (.int .i64 3) (.int .i64 (wrap64 (1+wrap64 ((IntKind.u64.wrap d.QQ).tmod 2)))) (.int .i64 (tid d.i)) (.int .i64 0) (.bool d.yes) (.int .i64 0) (.int .i64 0) (.int .i64 0) (.int .i64 0) (.int .i64 0) (.slice none 0 0)).drew;refine ⟨⟨H7.1.cell 14 1 rfl rfl,H7.1.cell 14 2 rfl rfl,H7.1.cell 14 9 rfl rfl⟩,?_⟩;go_simp;refine vn ?_;go_simp;go_wp2_with fail;have p0:=H7.1.cA1 0 rfl;have hlp:=H7.1.lt 0 rfl;refine bodyPost_ret (v:=.agg #[.int .i64 3,.int .i64 (wrap64 (1+wrap64 ((IntKind.u64.wrap d.QQ).tmod 2))),.int .i64 (tid d.i),.int .i64 0,.bool d.yes,.int .i64 0,.int .i64 0,.int .i64 0,.int .i64 0,.int .i64 0,.slice none 0 0]) ?_ rfl ?_
    ·simp [results,Tryz.results25,go_sem,p0]
    unfold TQ;refine ⟨none,0,?_,?_⟩;rw [E2.1];rfl;exact Qxh
   |false=>
    rw [Qnd H d hm];rw [Jy d.i hz];rw [hm] at ht;rw [hz] at HLN;go_enter Tryz.func25,Tryz.ntmps25;go_wp2_with fail;generalize hW:World.alloc _ _=W1 at *;clear hW;generalize w.heap.size+1=n1 at *;generalize w.heap.size=n0 at *;go_wp2_with (first
     |(go_at_call 14;refine HPO.1.m0 ?_)
     |(go_at_call 15;refine HLN.1.m0 ?_)
     |(go_at_call 45;refine (JS _ _).m0 ?_)
     |(go_at_call 44;refine (Tu HB.1 d.o _ HST.1).mono ?_;rintro e w2 ⟨sp2,sk2,rfl,h2⟩;simp only [Od.val];clear y0 hly;have y0:=h2.cA1 14 rfl;have hly:=h2.lt 14 rfl;have H2:=zk h2;clear h2))
    have H7:=zk ((HB.1.frt 13 rfl).ZI (.int .i64 5) (.int .i64 0) (.int .i64 0) (.int .i64 0) (.bool false) (.int .i64 0) (.int .i64 0) (.int .i64 0) (.int .i64 0) (.int .i64 0) (.slice none 0 0));have p0:=H7.1.cA1 0 rfl;have hlp:=H7.1.lt 0 rfl;refine bodyPost_ret (v:=.agg #[.int .i64 5,.int .i64 0,.int .i64 0,.int .i64 0,.bool false,.int .i64 0,.int .i64 0,.int .i64 0,.int .i64 0,.int .i64 0,.slice none 0 0]) ?_ rfl ?_
    ·simp [results,Tryz.results25,go_sem,p0]
    unfold TQ;refine ⟨none,0,?_,?_⟩;exact rfl;exact Qxh
  ·skip;rw [Qv2 H d force hm];rw [Jy d.i hz];rw [hm] at ht;rw [hz] at HLN;have tg:=Tg.mk 1;exact Ta
  ·skip;rw [Qw7 H d force hm];rw [Jy d.i hz];rw [hm] at ht;rw [hz] at HLN;have tg:=Tg.mk 2;exact Ta
  ·skip;rw [Qwr H d force hm];rw [hm] at ht;rw [hz] at HLN;exact QCd
  ·skip;rw [Qv3 H d force hm];rw [hm] at ht;rw [hz] at HLN;exact QDz
  ·skip;rw [Qyv H d force hm];rw [hm] at ht;rw [hz] at HLN;exact QCq
  ·skip;rw [Qy7 H d force hm];rw [hm] at ht;rw [hz] at HLN;exact Tw
  ·skip;rw [Qvc H d force hm];rw [hm] at ht;rw [hz] at HLN;exact Tw
  ·skip;rw [Qpg H d force hm];rw [Jy d.i hz];have hne:(u64 d.dO%14==0)=false∧(u64 d.dO%14==1)=false:=by constructor<;>simp<;>omega
   rw [hz] at HLN;have tg:=Tg.mk 3;exact Ta
 ·rcases hm with hm|hm|hm|hm|hm|hm|hm|hm|hm|hm|hm
  ·skip;rw [Qw5 H d force hm];rw [hm] at ht;have tg:=Tg.mk 1;exact Dq
  ·skip;rw [Qv0 H d force hm];rw [hm] at ht;have tg:=Tg.mk 2;exact Dq
  ·cases force with
   |true=>
    rw [Qms H d hm];rw [hm] at ht;generalize H.p.l.length=n at *;have hnp:(0:Int)<(n:Int):=by omega
    have EP:As (wrap64 ((IntKind.u64.wrap d.i).tmod (n:Int))=u64 d.i%(n:Int)):=⟨by
     have hb:=Int.emod_nonneg (u64 d.i) (by omega:(n:Int)≠0);have hb2:=Int.emod_lt_of_pos (u64 d.i) hnp;rw [XP,wsm (by omega) (by omega)]⟩
    have hnw:¬IntKind.u64.wrap (n:Int)=0:=by rw [IntKind.wrap_u64];omega
    go_enter Tryz.func25,Tryz.ntmps25;go_wp2_with fail;generalize hW:World.alloc _ _=W1 at *;clear hW;generalize w.heap.size+1=n1 at *;generalize w.heap.size=n0 at *;go_wp2_with (first
     |(go_at_call 14;refine HPO.1.m0 ?_)
     |(go_at_call 15;refine HLN.1.m0 ?_)
     |(go_at_call 45;refine (JS _ _).m0 ?_)
     |(go_at_call 44;refine (Tu HB.1 d.o _ HST.1).mono ?_;rintro e w2 ⟨sp2,sk2,rfl,h2⟩;simp only [Od.val];clear y0 hly;have y0:=h2.cA1 14 rfl;have hly:=h2.lt 14 rfl;have H2:=zk h2;clear h2))
    refine wro (fun W=>W.cell? ⟨n0,1,none⟩=some (.int .i64 d.i)∧W.cell? ⟨n0,2,none⟩=some (.int .i64 d.QQ)∧W.cell? ⟨n0,9,none⟩=some (.bool d.yes)) [(0,.f),(1,.f),(2,.f),(3,.f),(4,.f),(5,.f),(6,.f),(7,.s),(9,.f),(10,.f),(8,.e),(11,.f),(12,.e)] ⟨x1,x2,x9⟩ ?_;iterate 10
     first
      |(refine vg rfl rfl ?_;apply ex2;intro w' hw';obtain ⟨q1,q2,q9⟩:=hw';go_simp;rfl;go_simp)
      |(refine vs_ rfl (fun K hK=>?_);go_simp;refine hK _ ?_;clear hK K)
    refine ve rfl rfl ?_;go_wp2_with (go_at_call 45;refine (JS _ _).m0 ?_);refine ⟨⟨x1,x2,x9⟩,?_⟩;go_simp;first
     |(refine vg rfl rfl ?_;apply ex2;intro w' hw';obtain ⟨q1,q2,q9⟩:=hw';go_simp;rfl;go_simp)
     |(refine vs_ rfl (fun K hK=>?_);go_simp;refine hK _ ?_;clear hK K)
    refine ve rfl rfl ?_;go_wp2_with fail;have H7:=zk ((HB.1.frt 13 rfl).ZI (.int .i64 3) (.int .i64 (wrap64 (1+wrap64 ((IntKind.u64.wrap d.QQ).tmod 2)))) (.int .i64 (tid d.i)) (.int .i64 0) (.bool d.yes) (.int .i64 0) (.int .i64 0) (.int .i64 0) (.int .i64 0) (.int .i64 0) (.slice none 0 0)).drew;refine ⟨⟨H7.1.cell 14 1 rfl rfl,H7.1.cell 14 2 rfl rfl,H7.1.cell 14 9 rfl rfl⟩,?_⟩;go_simp;refine vn ?_;go_simp;go_wp2_with fail;have p0:=H7.1.cA1 0 rfl;have hlp:=H7.1.lt 0 rfl;refine bodyPost_ret (v:=.agg #[.int .i64 3,.int .i64 (wrap64 (1+wrap64 ((IntKind.u64.wrap d.QQ).tmod 2))),.int .i64 (tid d.i),.int .i64 0,.bool d.yes,.int .i64 0,.int .i64 0,.int .i64 0,.int .i64 0,.int .i64 0,.slice none 0 0]) ?_ rfl ?_
    ·simp [results,Tryz.results25,go_sem,p0]
    unfold TQ;refine ⟨none,0,?_,?_⟩;rw [E2.1];rfl;exact Qxh
   |false=>
    rw [Qnd H d hm];rw [DR d.i hz];rw [hm] at ht;generalize H.p.l.length=n at *;have hnp:(0:Int)<(n:Int):=by omega
    have EP:As (wrap64 ((IntKind.u64.wrap d.i).tmod (n:Int))=u64 d.i%(n:Int)):=⟨by
     have hb:=Int.emod_nonneg (u64 d.i) (by omega:(n:Int)≠0);have hb2:=Int.emod_lt_of_pos (u64 d.i) hnp;rw [XP,wsm (by omega) (by omega)]⟩
    have hnw:¬IntKind.u64.wrap (n:Int)=0:=by rw [IntKind.wrap_u64];omega
    go_enter Tryz.func25,Tryz.ntmps25;go_wp2_with fail;generalize hW:World.alloc _ _=W1 at *;clear hW;generalize w.heap.size+1=n1 at *;generalize w.heap.size=n0 at *;go_wp2_with (first
     |(go_at_call 14;refine HPO.1.m0 ?_)
     |(go_at_call 15;refine HLN.1.m0 ?_)
     |(go_at_call 45;refine (JS _ _).m0 ?_)
     |(go_at_call 44;refine (Tu HB.1 d.o _ HST.1).mono ?_;rintro e w2 ⟨sp2,sk2,rfl,h2⟩;simp only [Od.val];clear y0 hly;have y0:=h2.cA1 14 rfl;have hly:=h2.lt 14 rfl;have H2:=zk h2;clear h2))
    have H7:=zk ((HB.1.frt 13 rfl).ZI (.int .i64 5) (.int .i64 0) (.int .i64 0) (.int .i64 (wrap64 ((IntKind.u64.wrap d.i).tmod (n:Int)))) (.bool false) (.int .i64 0) (.int .i64 0) (.int .i64 0) (.int .i64 0) (.int .i64 0) (.slice none 0 0));have p0:=H7.1.cA1 0 rfl;have hlp:=H7.1.lt 0 rfl;refine bodyPost_ret (v:=.agg #[.int .i64 5,.int .i64 0,.int .i64 0,.int .i64 (wrap64 ((IntKind.u64.wrap d.i).tmod (n:Int))),.bool false,.int .i64 0,.int .i64 0,.int .i64 0,.int .i64 0,.int .i64 0,.slice none 0 0]) ?_ rfl ?_
    ·simp [results,Tryz.results25,go_sem,p0]
    unfold TQ;refine ⟨none,0,?_,?_⟩;rw [EP.1];rfl;exact Qxh
  ·skip;rw [Qv2 H d force hm];rw [DR d.i hz];rw [hm] at ht;have tg:=Tg.mk 3;exact Dq
  ·skip;rw [Qw7 H d force hm];rw [DR d.i hz];rw [hm] at ht;have tg:=Tg.mk 4;exact Dq
  ·skip;rw [Qwr H d force hm];rw [hm] at ht;have tg:=Tg.mk 5;exact Dq
  ·skip;rw [Qv3 H d force hm];rw [hm] at ht;have tg:=Tg.mk 6;exact Dq
  ·skip;rw [Qyv H d force hm];rw [hm] at ht;have tg:=Tg.mk 7;exact Dq
  ·skip;rw [Qy7 H d force hm];exact QB9
  ·skip;rw [Qvc H d force hm];exact QB9
  ·skip;rw [Qpg H d force hm];rw [DR d.i hz];have hne:(u64 d.dO%14==0)=false∧(u64 d.dO%14==1)=false:=by constructor<;>simp<;>omega
   have tg:=Tg.mk 8;exact Dq
end
theorem Heap.QD3 {w0 w:World} {q:HA} {H:Qb} {l l':List SA} (h:Heap w0 (H.on q l) w) (e:l.Perm l'):Heap w0 (H.on q l') w:=by
 refine h.perm ?_;unfold Qb.on;exact .cons _ (.cons _ (.cons _ (.cons _ (.cons _ (.cons _ (.cons _ (.cons _ (.cons _ (.cons _ (.cons _ (.cons _ (.cons _ e))))))))))))
section
variable {w0 w:World} {q:HA} {H:Qb} {R:List SA}
theorem QEk (hf:Qz H) (d:XT) (force:Bool) {sp:Option Addr} {sk:Nat} (h:Heap w0 (H.on q (.slc (.slice sp (H.cmd d force).o.steps.length sk) 131 2 (H.cmd d force).o.steps.length (Qs (H.cmd d force).o.steps)::R)) w):
 CH 18 #[q.b,(H.cmd d force).val (.slice sp (H.cmd d force).o.steps.length sk)] w (.int .i64 (H.act (H.cmd d force)).1) w0 ((H.act (H.cmd d force)).2.on q (.slc (.slice sp (H.cmd d force).o.steps.length sk) 131 2 (H.cmd d force).o.steps.length (Qs (H.cmd d force).o.steps)::R)):=by
 have hm:u64 d.dO%14=0∨u64 d.dO%14=1∨u64 d.dO%14=2∨u64 d.dO%14=3∨u64 d.dO%14=4∨u64 d.dO%14=5∨u64 d.dO%14=6∨u64 d.dO%14=7∨u64 d.dO%14=8∨u64 d.dO%14=9∨10≤u64 d.dO%14:=by omega
 have t:=Qix d.i;have hu:0≤u64 d.QQ%2∧u64 d.QQ%2<2:=by omega
 have h7:0≤u64 d.i%7∧u64 d.i%7<7:=by omega
 rcases hm with hm|hm|hm|hm|hm|hm|hm|hm|hm|hm|hm;rw [Qw5 H d force hm] at h⊢;exact Qgk hf h (Qks d.o);rw [Qv0 H d force hm] at h⊢;exact Qsn hf h (by simp only;omega) (by simp only;omega);cases force;rw [Qnd H d hm] at h⊢;exact Qlb hf h;rw [Qms H d hm] at h⊢;exact Qu7 hf h (by simp only;omega) (by simp only;omega) (by simp only;omega);rw [Qv2 H d force hm] at h⊢;exact Qxk hf h;rw [Qw7 H d force hm] at h⊢;exact Qx6 hf h;rw [Qwr H d force hm] at h⊢;exact Qp6 hf h (.inl rfl) (by simp only;omega) (by simp only;omega);rw [Qv3 H d force hm] at h⊢;have hn:1+u64 d.QQ%2=0∨1+u64 d.QQ%2=1∨1+u64 d.QQ%2=2:=by omega
 exact Qp6 hf h hn (by simp only;omega) (by simp only;omega);rw [Qyv H d force hm] at h⊢;exact Qur hf h (by simp only;omega) (by simp only;omega);rw [Qy7 H d force hm] at h⊢;exact Qce hf h (by simp only;omega) (by simp only;omega);rw [Qvc H d force hm] at h⊢;exact Qce hf h (by simp only;omega) (by simp only;omega);rw [Qpg H d force hm] at h⊢;exact Qlb hf h
end
def Qb.Ul (force:Bool) (x:Qb×List Od) (d:XT):Qb×List Od:=
 ((x.1.act (x.1.cmd d force)).2,if (x.1.act (x.1.cmd d force)).1=0∧(x.1.cmd d force).kind=1 then x.2++ [(x.1.cmd d force).o] else x.2)
def Qb.JX (H:Qb) (force:Bool) (ds:List XT):Qb×List Od:=ds.foldl (Qb.Ul force) (H,[])
def Qb.VL (H:Qb) (force:Bool) (ds:List XT) (k:Nat):Qb×List Od:=H.JX force (ds.take k)
theorem Qnl (H:Qb) (force:Bool) {ds:List XT} {k:Nat} (hk:k<ds.length):H.VL force ds (k+1)=Qb.Ul force (H.VL force ds k) (ds[k]'hk):=by
 unfold Qb.VL Qb.JX;rw [List.take_succ_eq_append_getElem hk,List.foldl_append];rfl
theorem Qor {H:Qb} (h:Qz H) (force:Bool) (ds:List XT):∀k,Qz (H.VL force ds k).1:=by
 intro k;unfold Qb.VL Qb.JX;generalize ds.take k=l;have key:∀(l:List XT) (x:Qb×List Od),Qz x.1→Qz (l.foldl (Qb.Ul force) x).1:=by
  intro l
  induction l with
  |nil=>intro x hx;exact hx
  |cons d r ih=>intro x hx;exact ih _ (hx.act (Qxw _ _ _))
 exact key l (H,[]) h
theorem Qso (H:Qb) (force:Bool) (ds:List XT):∀k,(H.VL force ds k).2.length≤k:=by
 intro k;unfold Qb.VL Qb.JX;have key:∀(l:List XT) (x:Qb×List Od),(l.foldl (Qb.Ul force) x).2.length≤x.2.length+l.length:=by
  intro l
  induction l with
  |nil=>intro x;exact Nat.le_refl _
  |cons d r ih=>
   intro x;have h1:=ih (Qb.Ul force x d);have h2:(Qb.Ul force x d).2.length≤x.2.length+1:=by
    unfold Qb.Ul;simp only;split;simp;omega
   simp only [List.foldl_cons,List.length_cons];omega
 have:=key (ds.take k) (H,[]);rw [List.length_take] at this;simp only [List.length_nil] at this;omega
def Yj (l:List (Od×Value)):List Value:=l.flatMap fun p=> [.int .i64 p.1.id,.int .i64 p.1.item,.int .i64 p.1.qty,.int .i64 p.1.client,.int .i64 p.1.price,p.2]
theorem QE1:(Tryz.prog.info? 32).map (fun i=>(i.zero,i.size,i.bytes))=some (some (.agg #[.int .i64 0,.int .i64 0,.int .i64 0,.int .i64 0,.int .i64 0,.slice none 0 0]),6,64):=by kernel_rfl
def Qwh (w0:World) (q:HA) (R:List SA) (x:Qb×List Od) (v:Value) (L:List (Od×Value)) (w:World):Prop:=L.map (·.1)=x.2∧(∀p∈L,∃sp n sk,p.2=.slice sp n sk)∧Heap w0 (.slc v 32 6 L.length (Yj L)::x.1.on q R) w
def QCx (w0:World) (q:HA) (R:List SA) (x:Qb×List Od) (e:Ending) (w':World):Prop:=∃v L,e=.returned v∧Qwh w0 q R x v L w'
section
variable {w0 w:World} {q:HA} {H:Qb} {R:List SA}
theorem Qzi {a:Option Addr} {cap:Nat} {ds:List XT} (hd:Us w0 a cap ds) (hf:Qz H) (h:Heap w0 (H.on q R) w) (force:Bool) (hl:ds.length≤150):
 Calls Tryz.prog 9 #[q.b,.slice a ds.length cap,.bool force] w (QCx w0 q R (H.JX force ds)):=by
 have HD:=zk hd;have H0:=zk (h.nRw 32 6);have HFK:=zk (Qor hf force ds);have HLK:=zk (Qso H force ds);have HSK:As (∀k (hk:k<ds.length),H.VL force ds (k+1)=Qb.Ul force (H.VL force ds k) (ds[k]'hk)):=⟨fun k hk=>Qnl H force hk⟩;have HEND:As (H.VL force ds ds.length=H.JX force ds):=⟨by unfold Qb.VL;rw [List.take_length]⟩;have H0z:As (Qwh w0 q R (H.VL force ds 0) (.slice none 0 0) [] w):=⟨rfl,by simp,H0.1⟩;obtain ⟨i0,hi0,hi1,hi2,hi3⟩:=info_parts QE1;have HI:=zk (And.intro hi0 (And.intro hi1 (And.intro hi2 hi3)));clear hi0 hi1 hi2 hi3;clear h hd hf H0;generalize H.JX force ds=XE at *;go_enter Tryz.func9,Tryz.ntmps9;go_wp2_with fail
 go_loopg [7,9,10,13] ds.length (fun gk v a9 a10 u wr=>∃(k:Nat) (L:List (Od×Value)),u=.int .i64 k∧k≤ds.length∧As (gk+k=ds.length)∧As (Qwh w0 q R (H.VL force ds k) v L wr))
 case atStart=>exact ⟨0,[],rfl,Nat.zero_le _,⟨rfl⟩,H0z⟩
 case round=>
  obtain ⟨k,L,rfl,hk,HG,HR⟩:=hrel;clear H0z;have HLL:As (L.length≤k):=⟨by have:=HLK.1 k;have h2:=congrArg List.length HR.1.1;simp at h2;omega⟩;obtain ⟨vp,vk,rfl⟩:=vS2 (HR.1.2.2.row 0 rfl);by_cases hlt:k<ds.length
  ·have HSU:=zk (HSK.1 k hlt);have HFI:=zk (HFK.1 k);generalize H.VL force ds k=X at *;obtain ⟨G,os⟩:=X;have HRH:As (Heap w0 (.slc (.slice vp L.length vk) 32 6 L.length (Yj L)::G.on q R) wr):=⟨HR.1.2.2⟩;obtain ⟨a1,v,rfl,hd0⟩:=HD.1.2.2 k hlt;have hda:=hd0.below HRH.1.bel;have HST:=zk hd0.st;have HLE:As (L.map (·.1)=os∧∀p∈L,∃sp n sk,p.2=.slice sp n sk):=⟨HR.1.1,HR.1.2.1⟩;have HFG:As (Qz G):=⟨HFI.1⟩;clear HR HFI hd0;generalize ds[k]'hlt=d at *;have HN:=zk ((HRH.1.new (.cells #[d.dO,d.i,d.QQ,d.o.id,d.o.item,d.o.qty,d.o.client,d.o.price,v,.bool d.yes] 58)).Qeh);obtain ⟨hblk,c0,c1,c2,c3,c4,c5,c6,c7,c8,c9,hst⟩:=hda;obtain ⟨sp,sk,rfl, -⟩:=hst;go_wp2_with (first
    |(go_at_call 25;refine (Qnc HN.1 d _ HST.1 force).mono ?_;rintro e w2 ⟨sp2,sk2,rfl,h2⟩;unfold Cmd.val;have H2:=zk h2;have H3:=zk ((h2.new (.cells #[.int .i64 (G.cmd d force).kind,.int .i64 (G.cmd d force).node,.int .i64 (G.cmd d force).id,.int .i64 (G.cmd d force).i,.bool (G.cmd d force).yes,.int .i64 (G.cmd d force).o.id,.int .i64 (G.cmd d force).o.item,.int .i64 (G.cmd d force).o.qty,.int .i64 (G.cmd d force).o.client,.int .i64 (G.cmd d force).o.price,.slice sp2 (G.cmd d force).o.steps.length sk2] 45)).boxed);clear h2 c0 c1 c2 c3 c4 c5 c6 c7 c8 c9))
   have HDC:=zk (QEk HFG.1 d force (H3.1.QD3 (.swap _ _ _)));unfold Qb.Ul at HSU;simp only at HSU;generalize G.cmd d force=c at *;generalize G.act c=A at *;obtain ⟨r,G'⟩:=A;obtain ⟨ck,cn,ci,cj,cy,co⟩:=c;simp only at HSU HDC H3 H2⊢;have hn2:=H3.1.lt 13 rfl;by_cases hr:r=0
   ·subst hr;by_cases hk1:ck=1
    ·subst hk1;go_wp2_with (first
      |(go_at_call 18;refine HDC.1.m2 fun w4 h4=>?_;have H4:=zk h4;have z0:=h4.cA1 14 rfl;have hlz:=h4.lt 14 rfl;clear h4)
      |(at_builtin;refine wla (H4.1.new (.cells #[co.id,co.item,co.qty,co.client,co.price,.slice sp2 co.steps.length sk2] 32)) 17 _ 32 6 L.length _ rfl rfl _ _ 27 rfl _ _ 64 Tryz.underlying27 HI.1.1 HI.1.2.1 HI.1.2.2.1 HI.1.2.2.2 rfl (by decide) rfl ⟨w4.heap.size,0,none⟩ 1 1 [.int .i64 co.id,.int .i64 co.item,.int .i64 co.qty,.int .i64 co.client,.int .i64 co.price,.slice sp2 co.steps.length sk2] rfl rfl (fun j u hu=>by rw [addr_add];exact (H4.1.new (.cells #[co.id,co.item,co.qty,co.client,co.price,.slice sp2 co.steps.length sk2] 32)).cell 0 j rfl (by simpa using hu)) (by simp [Value.oneCell']) (by have:=HLL.1;omega) (by decide) (by omega) ?_;intro g2 cap2 w5 h5 _;have H5:=zk h5;clear h5))
     go_roundg (ds.length-(k+1))
     case measure=>have:=HG.1;omega
     case rel=>
      refine ⟨k+1,L++ [(co,.slice sp2 co.steps.length sk2)],by go_num,by omega,⟨by omega⟩,⟨?_⟩⟩;rw [HSU.1,if_pos (by simp)];refine ⟨by rw [List.map_append,HLE.1.1];rfl,fun p hp=>?_,?_⟩;rcases List.mem_append.1 hp with h|h;exact HLE.1.2 p h;rw [List.mem_singleton.1 h];exact ⟨_,_,_,rfl⟩;have h6:=H5.1.sel (p:= [_,_,_,_,_,_,_,_,_,_,_,_,_,_,_,_,_,_]) [17,1,2,3,4,5,6,7,8,9,10,11,12,13] 18 rfl (by decide);unfold Yj at h6⊢;rw [List.flatMap_append,List.length_append];exact h6
    ·have hkb:(ck==1)=false:=by simpa using hk1
     have HKN:=zk hk1;go_wp2_with (first
      |(go_at_call 18;refine HDC.1.m2 fun w4 h4=>?_;have H4:=zk h4;have z0:=h4.cA1 14 rfl;have hlz:=h4.lt 14 rfl;clear h4))
     go_roundg (ds.length-(k+1))
     case measure=>have:=HG.1;omega
     case rel=>
      refine ⟨k+1,L,by go_num,by omega,⟨by omega⟩,⟨?_⟩⟩;rw [HSU.1,if_neg (fun e=>HKN.1 e.2)];exact ⟨HLE.1.1,HLE.1.2,H4.1.sel (p:= [_,_,_,_,_,_,_,_,_,_,_,_,_,_,_,_,_]) [16,0,1,2,3,4,5,6,7,8,9,10,11,12] 17 rfl (by decide)⟩
   ·have hrb:(r==0)=false:=by simpa using hr
    have HRN:=zk hr;go_wp2_with (first
     |(go_at_call 18;refine HDC.1.m2 fun w4 h4=>?_;have H4:=zk h4;have z0:=h4.cA1 14 rfl;have hlz:=h4.lt 14 rfl;clear h4))
    go_roundg (ds.length-(k+1))
    case measure=>have:=HG.1;omega
    case rel=>
     refine ⟨k+1,L,by go_num,by omega,⟨by omega⟩,⟨?_⟩⟩;rw [HSU.1,if_neg (fun e=>HRN.1 e.1)];exact ⟨HLE.1.1,HLE.1.2,H4.1.sel (p:= [_,_,_,_,_,_,_,_,_,_,_,_,_,_,_,_,_]) [16,0,1,2,3,4,5,6,7,8,9,10,11,12] 17 rfl (by decide)⟩
  ·obtain rfl:k=ds.length:=by omega
   go_wp2_with fail;go_ret;rw [←HEND.1];exact (⟨_,L,rfl,HR.1⟩:QCx w0 q R _ _ _)
end
end Go.Proofs.YtlnghlamnehfjaaGreatDoor.S
