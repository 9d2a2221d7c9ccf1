/- Contracts and plain laws of the program, part N49. -/
import Derived.Test.YtlnghlamnehfjaaGreatDoorN46
import Derived.Test.YtlnghlamnehfjaaGreatDoorN47
import Derived.Test.YtlnghlamnehfjaaGreatDoorN48
set_option linter.unusedVariables false
set_option linter.unusedSimpArgs false
set_option maxRecDepth 100000
set_option maxHeartbeats 64000000
namespace Go.Proofs.YtlnghlamnehfjaaGreatDoor.S
open Go.RowKit Go.Maps
theorem final_ok (s:Int) (w:World):Calls Tryz.prog 20 #[.int .i64 s] w fun e w'=>e=.returned (.bool (decide (2≤s)&&decide (s≤5)))∧w=w':=by
 by_cases h2:2≤s
 ·by_cases h5:s≤5
  ·go_enter Tryz.func20,Tryz.ntmps20;go_wp2_with (fail);go_ret;simp [h2,h5]
  ·go_enter Tryz.func20,Tryz.ntmps20;go_wp2_with (fail);go_ret;simp [h2,h5]
 ·go_enter Tryz.func20,Tryz.ntmps20;go_wp2_with (fail);go_ret;simp [h2];omega
section
variable {w0 w:World} {q:HA} {H:Harb} {R:List SA}
theorem kstate_on (h:Heap w0 (H.on q R) w) {i:Int} (hi:i=1∨i=2) (id:Int) (h0:1≤id) (h1:id≤999):
 Calls Tryz.prog 17 #[.pointer (some ⟨q.kp i,0,none⟩),.int .i64 id] w fun e w'=>e=.returned (.int .i64 (mgi (H.kn i).st id))∧w=w':=by
 rcases hi with rfl|rfl
 ·exact kstate_k (h.frt 3 rfl) id h0 h1
 ·exact kstate_k (h.frt 4 rfl) id h0 h1
theorem kdown_on (h:Heap w0 (H.on q R) w) {i:Int} (hi:i=1∨i=2):
 Calls Tryz.prog 19 #[.pointer (some ⟨q.kp i,0,none⟩)] w fun e w'=>e=.returned (.bool (H.kn i).j.down)∧w=w':=by
 rcases hi with rfl|rfl
 ·exact kdown_ok (h.frt 3 rfl)
 ·exact kdown_ok (h.frt 4 rfl)
theorem cstate_on (h:Heap w0 (H.on q R) w) (id:Int) (h0:1≤id) (h1:id≤999):
 Calls Tryz.prog 28 #[.pointer (some ⟨q.bc,0,none⟩),.int .i64 id] w fun e w'=>e=.returned (.int .i64 (H.c.state id))∧Heap w0 (H.on q R) w':=by
 obtain ⟨bj,A,h2⟩:=(h.frt 2 rfl).cha_of;refine (cstate_ok h2 id h0 h1).mono ?_;rintro e w' ⟨rfl,h3⟩;have h4:=Heap.cha_to (bj:=bj) (A:=A) h3;exact ⟨rfl,h4.sel (p:= [_,_,_,_,_,_,_,_,_,_,_,_,_]) [1,2,0,3,4,5,6,7,8,9,10,11,12] 13 rfl (by decide)⟩
theorem status_ok (h:Heap w0 (H.on q R) w) (id:Int) (h0:1≤id) (h1:id≤999) (hs:H.c.state id≠0):
 Calls Tryz.prog 12 #[.pointer (some ⟨q.bd,0,none⟩),.int .i64 id] w fun e w'=>e=.returned (.int .i64 (H.c.state id))∧Heap w0 (H.on q R) w':=by
 have d0:=h.cell 1 0 rfl rfl;have hlb:=h.lt 1 rfl;have HC:=zk (cstate_on h id h0 h1);generalize H.c.state id=s at *;have hb:(s==0)=false:=by simpa using hs
 clear h hs;go_enter Tryz.func12,Tryz.ntmps12;go_wp2_with (go_at_call 28;refine HC.out.mono ?_;rintro e w2 ⟨rfl,h2⟩;have H2:=zk h2;clear h2 d0 hlb);go_ret;exact ⟨rfl,H2.out⟩
theorem money_on (h:Heap w0 (H.on q R) w) (t:PurseB) (ht:H.k1.book=.money t):
 Calls Tryz.prog 23 #[.pointer (some ⟨q.k1,0,none⟩)] w fun e w'=>∃bb,e=.returned (.pointer (some ⟨bb,0,none⟩))∧Calls Tryz.prog 24 #[.pointer (some ⟨bb,0,none⟩)] w' (fun e w2=>e=.returned (.int .i64 t.till)∧w'=w2)∧Heap w0 R w':=by
 obtain ⟨bj,h2⟩:=(h.frt 4 rfl).kpx_of;refine (kmoney_ok h2 t ht).mono ?_;rintro e w' ⟨g,cap,bb,bm,rfl,h3⟩;have h4:Heap w0 R w':=h3.sel (p:= [_,_,_,_,_,_,_,_,_,_,_,_,_,_,_,_,_]) [] 17 rfl (by decide);rw [ht] at h3;exact ⟨bb,rfl,till_ok (h3.frt 2 rfl),h4⟩
end
section
variable {w0 w:World} {R:List SA}
theorem made_ok (h:Heap w0 R w) (t:Int):Calls Tryz.prog 6 #[.int .i64 t] w fun e w'=>∃q:HA,e=.returned (.pointer (some ⟨q.b,0,none⟩))∧Heap w0 ((Harb.init (2+u64 t%5)).on q R) w':=by
 have H:=zk h;clear h;have h0:1≤2+u64 t%5:=by omega
 have h1:2+u64 t%5≤20:=by omega
 go_enter Tryz.func6,Tryz.ntmps6;go_wp2_with (first
  |(go_at_call 22;refine (setup_ok H.out t).mono ?_;rintro e w2 ⟨g1,c1,g2,c2,g3,c3,rfl,h2⟩;have H2:=zk h2;clear h2)
  |(go_at_call 21;refine (hnew_h_ok g1 c1 g2 c2 g3 c3 _ H2.out h0 h1).mono ?_;rintro e w3 ⟨q,rfl,h3⟩;have H3:=zk h3;clear h3))
 go_ret;exact ⟨q,rfl,H3.out⟩
end
def BookM.tillOf:BookM→Int
 |.money t=>t.till
 |.goods _=>1
theorem awake_state:awakeH.c.state 3=6:=by kernel_rfl
theorem awake_till:awakeH.k1.book.tillOf=0:=by kernel_rfl
theorem awake_book:∃t,awakeH.k1.book=.money t∧t.till=0:=by
 have h:=awake_till;cases hb:awakeH.k1.book with
 |goods s=>rw [hb] at h;cases h
 |money t=>rw [hb] at h;exact ⟨t,rfl,h⟩
theorem awakeO_ok:awakeO.ok:=⟨by decide,by decide,by decide,by decide,by decide,by decide,by decide,by decide,by decide,by decide,by decide,by simp [awakeO],by simp [awakeO]⟩
section
variable {w0 w:World} {R:List SA}
theorem awake_ok (h:Heap w0 R w):Calls Tryz.prog 8 #[] w fun e w'=>e=.returned (.bool true)∧Heap w0 R w':=by
 have H:=zk h;clear h;have e3:(2:Int)+u64 1%5=3:=by decide
 have HFI:=zk (init_fine (tries:=3) (by decide) (by decide));have HFS:=zk (HFI.out.submit awakeO_ok);have HAW:As ((Harb.settle 60 ((Harb.init 3).submit awakeO).2).2=awakeH):=⟨rfl⟩;obtain ⟨t,ht,ht0⟩:=awake_book;have HT:=zk ht;have HST:=zk awake_state;clear ht;generalize awakeH=AW at *;go_enter Tryz.func8,Tryz.ntmps8;go_wp2_with (first
  |(go_at_call 22;refine (setup_ok H.out 1).mono ?_;rintro e w2 ⟨g1,c1,g2,c2,g3,c3,rfl,h2⟩;rw [e3];have H2:=zk h2;clear h2)
  |(go_at_call 21;refine (hnew_h_ok g1 c1 g2 c2 g3 c3 3 H2.out (by decide) (by decide)).mono ?_;rintro e w3 ⟨q,rfl,h3⟩;have H3:=zk (h3.nRw 131 2);clear h3)
  |(go_at_call 18;refine (do_submit (node:=0) (cid:=0) (i:=0) (yes:=false) (o:=awakeO) (sp:=none) (sk:=0) HFI.out (H3.out.sel (p:= [_,_,_,_,_,_,_,_,_,_,_,_,_,_]) [1,2,3,4,5,6,7,8,9,10,11,12,13,0] 14 rfl (by decide)) awakeO_ok).mono ?_;rintro e w4 ⟨rfl,h4⟩;have H4:=zk h4;clear h4)
  |(go_at_call 10;refine (settle_ok HFS.out H4.out 60 (by decide)).mono ?_;rintro e w5 ⟨rfl,h5, -⟩;rw [HAW.out] at h5;have H5:=zk h5;clear h5)
  |(go_at_call 11;refine (desk_ok H5.out).mono ?_;rintro e w' ⟨rfl,rfl⟩)
  |(go_at_call 12;refine (status_ok H5.out 3 (by decide) (by decide) (by rw [HST.out];decide)).mono ?_;rintro e w6 ⟨rfl,h6⟩;rw [HST.out];have H6:=zk h6;clear h6)
  |(go_at_call 16;refine (hkeeper_ok H6.out 2 (.inr rfl)).mono ?_;rintro e w' ⟨rfl,rfl⟩;simp only [HA.kp,Int.reduceEq,if_false])
  |(go_at_call 23;refine (money_on H6.out t HT.out).mono ?_;rintro e w7 ⟨bb,rfl,h7,h8⟩;have H7:=zk h7;have H8:=zk (h8.drop);clear h7 h8)
  |(go_at_call 24;refine H7.out.mono ?_;rintro e w' ⟨rfl,rfl⟩;rw [ht0]))
 go_ret;exact ⟨rfl,H8.out⟩
end
def StepsAt (w:World) (v:Value) (l:List Sp):Prop:=∃sp sk,v=.slice sp l.length sk∧∀j (hj:j<l.length),∃g,sp=some g∧g.block<w.heap.size∧w.cell? ⟨(g.add (j*2)).block,(g.add (j*2)).off+1,none⟩=some (.int .i64 (l[j]'hj).n)
theorem add_block (ad:Addr) (n:Nat):(ad.add n).block=ad.block:=by unfold Addr.add;split<;>rfl
theorem StepsAt.below {w W:World} {v:Value} {l:List Sp} (h:StepsAt w v l) (hb:Below w.heap.size w W):StepsAt W v l:=by
 obtain ⟨sp,sk,e,hc⟩:=h;refine ⟨sp,sk,e,fun j hj=>?_⟩;obtain ⟨g,e1,e2,e3⟩:=hc j hj;exact ⟨g,e1,Nat.lt_of_lt_of_le e2 hb.size,by rw [hb.cell (by show (g.add (j*2)).block<_;rw [add_block];exact e2)];exact e3⟩
structure DeedAt (w:World) (ad:Addr) (d:Deed) (v:Value):Prop where
 blk:ad.block<w.heap.size
 c0:w.cell? ad=some (.int .i64 d.dO)
 c1:w.cell? ⟨ad.block,ad.off+1,none⟩=some (.int .i64 d.i)
 c2:w.cell? ⟨ad.block,ad.off+2,none⟩=some (.int .i64 d.torn)
 c3:w.cell? ⟨ad.block,ad.off+3,none⟩=some (.int .i64 d.o.id)
 c4:w.cell? ⟨ad.block,ad.off+4,none⟩=some (.int .i64 d.o.item)
 c5:w.cell? ⟨ad.block,ad.off+5,none⟩=some (.int .i64 d.o.qty)
 c6:w.cell? ⟨ad.block,ad.off+6,none⟩=some (.int .i64 d.o.client)
 c7:w.cell? ⟨ad.block,ad.off+7,none⟩=some (.int .i64 d.o.price)
 c8:w.cell? ⟨ad.block,ad.off+8,none⟩=some v
 c9:w.cell? ⟨ad.block,ad.off+9,none⟩=some (.bool d.yes)
 st:StepsAt w v d.o.steps
theorem DeedAt.below {w W:World} {ad:Addr} {d:Deed} {v:Value} (h:DeedAt w ad d v) (hb:Below w.heap.size w W):DeedAt W ad d v:=by
 have key:∀p:Addr,p.block=ad.block→W.cell? p=w.cell? p:=fun p hp=>hb.cell (by rw [hp];exact h.blk);exact ⟨Nat.lt_of_lt_of_le h.blk hb.size,(key ad rfl).trans h.c0,(key ⟨ad.block,ad.off+1,none⟩ rfl).trans h.c1,(key ⟨ad.block,ad.off+2,none⟩ rfl).trans h.c2,(key ⟨ad.block,ad.off+3,none⟩ rfl).trans h.c3,(key ⟨ad.block,ad.off+4,none⟩ rfl).trans h.c4,(key ⟨ad.block,ad.off+5,none⟩ rfl).trans h.c5,(key ⟨ad.block,ad.off+6,none⟩ rfl).trans h.c6,(key ⟨ad.block,ad.off+7,none⟩ rfl).trans h.c7,(key ⟨ad.block,ad.off+8,none⟩ rfl).trans h.c8,(key ⟨ad.block,ad.off+9,none⟩ rfl).trans h.c9,h.st.below hb⟩
def DeedsAt (w:World) (a:Option Addr) (cap:Nat) (ds:List Deed):Prop:=ds.length≤cap∧cap≤maxLen∧∀i (hi:i<ds.length),∃ad v,a=some ad∧DeedAt w (ad.add (i*10)) (ds[i]'hi) v
theorem DeedsAt.below {w W:World} {a:Option Addr} {cap:Nat} {ds:List Deed} (h:DeedsAt w a cap ds) (hb:Below w.heap.size w W):DeedsAt W a cap ds:=by
 refine ⟨h.1,h.2.1,fun i hi=>?_⟩;obtain ⟨ad,v,e,hd⟩:=h.2.2 i hi;exact ⟨ad,v,e,hd.below hb⟩
def Light (ds:List Deed):Prop:=ds.length≤150∧∀d∈ds,d.o.steps.length≤5
def LightQ (w0:World) (R:List SA) (ds:List Deed) (e:Ending) (w':World):Prop:=∃b,e=.returned (.bool b)∧Heap w0 R w'∧(b=true→Light ds)
section
variable {w0 w:World} {R:List SA}
theorem light_ok {a:Option Addr} {cap:Nat} {ds:List Deed} (hd:DeedsAt w0 a cap ds) (h:Heap w0 R w):
 Calls Tryz.prog 7 #[.slice a ds.length cap] w (LightQ w0 R ds):=by
 have HH:=zk h;have HD:=zk hd;have hml:ds.length≤maxLen:=Nat.le_trans hd.1 hd.2.1;unfold maxLen at hml;clear h hd;go_enter Tryz.func7,Tryz.ntmps7;go_wp2_with (fail)
 go_loopg [3,4,7] ds.length (fun gk a3 a4 u wr=>∃k:Nat,u=.int .i64 k∧k≤ds.length∧As (gk+k=ds.length)∧As (Heap w0 R wr)∧As (k≤150∧∀i (hi:i<k) (hi2:i<ds.length),(ds[i]'hi2).o.steps.length≤5))
 case atStart=>exact ⟨0,rfl,Nat.zero_le _,⟨rfl⟩,HH,⟨by omega,fun i hi=>by omega⟩⟩
 case round=>
  obtain ⟨k,rfl,hk,HG,HR,HL⟩:=hrel;clear HH;by_cases hlt:k<ds.length
  ·obtain ⟨ad,v,rfl,hda⟩:=(HD.out.below (HR.out.bel)).2.2 k hlt;have HLK:=zk hlt;have HEQ:As (∀i (hi:i<k+1) (hi2:i<ds.length),i<k∨ds[i]'hi2=ds[k]'hlt):=⟨fun i hi hi2=>by
    by_cases e:i<k
    ·exact .inl e
    ·obtain rfl:i=k:=by omega
     exact .inr rfl⟩
   have HN:=zk (HR.out.new (.cells #[.int .i64 (ds[k]'hlt).dO,.int .i64 (ds[k]'hlt).i,.int .i64 (ds[k]'hlt).torn,.int .i64 (ds[k]'hlt).o.id,.int .i64 (ds[k]'hlt).o.item,.int .i64 (ds[k]'hlt).o.qty,.int .i64 (ds[k]'hlt).o.client,.int .i64 (ds[k]'hlt).o.price,v,.bool (ds[k]'hlt).yes] 58));generalize ds[k]'hlt=d at *;obtain ⟨hblk,c0,c1,c2,c3,c4,c5,c6,c7,c8,c9,hst⟩:=hda;obtain ⟨sp,sk,rfl, -⟩:=hst;by_cases h150:(150:Int)≤k
   ·go_wp2_with (fail);go_ret;exact (⟨false,rfl,HN.out.drop,fun e=>(by cases e)⟩:LightQ w0 R ds _ _)
   ·by_cases h5:d.o.steps.length≤5
    ·have hb5:¬((5:Int)<(d.o.steps.length:Int)):=by omega
     go_wp2_with (fail);go_roundg (ds.length-(k+1))
     case measure=>have:=HG.out;omega
     case rel=>
      refine ⟨k+1,by go_num,by omega,⟨by omega⟩,⟨HN.out.drop⟩,⟨by omega,fun i hi hi2=>?_⟩⟩;rcases HEQ.out i hi hi2 with e|e
      ·exact HL.out.2 i e hi2
      ·rw [e];exact h5
    ·have hb5:((5:Int)<(d.o.steps.length:Int)):=by omega
     go_wp2_with (fail);go_ret;exact (⟨false,rfl,HN.out.drop,fun e=>(by cases e)⟩:LightQ w0 R ds _ _)
  ·obtain rfl:k=ds.length:=by omega
   go_wp2_with (fail);go_ret;refine (⟨true,rfl,HR.out,fun _=>⟨HL.out.1,fun d hd=>?_⟩⟩:LightQ w0 R ds _ _);obtain ⟨i,hi,rfl⟩:=List.getElem_of_mem hd;exact HL.out.2 i hi hi
end
theorem zTd21 {P:Prop} (h:P:=by
 clear hW3;clear x0 x1 x2 x3 x4 x5 xf hlx;have E1:=zk e1;clear e1 e2 e3 e4;clear HB;have H4:As (Heap w0 (.slc (.slice none 0 0) 131 2 0 []::.pts n2 (.cells #[.int .i64 (tid o.id),.int .i64 (S.u64 o.item%3),.int .i64 (1+S.u64 o.qty%9),.int .i64 (S.u64 o.client%3),.int .i64 (1+S.u64 o.price%50),.slice none 0 0] 32)::.pts n1 (.cells #[.int .i64 0,.int .i64 0,.int .i64 0,.int .i64 0,.int .i64 0,.slice none 0 0] 32)::.pts n0 (.cells #[.int .i64 o.id,.int .i64 o.item,.int .i64 o.qty,.int .i64 o.client,.int .i64 o.price,.slice sp o.steps.length sk] 32)::R) W3):=⟨H3.out.nRw 131 2⟩;clear H3;go_wp2_with (fail)
 go_loopg [4,31] 3 (fun gk a4 u wr=>∃(k:Nat) (vL:Value),u=.int .i64 k∧k≤3∧As (gk+k=3)∧As (Heap w0 (.slc vL 131 2 (smallK o k).length (scells (smallK o k))::.pts n2 (.cells #[.int .i64 (tid o.id),.int .i64 (S.u64 o.item%3),.int .i64 (1+S.u64 o.qty%9),.int .i64 (S.u64 o.client%3),.int .i64 (1+S.u64 o.price%50),vL] 32)::.pts n1 (.cells #[.int .i64 0,.int .i64 0,.int .i64 0,.int .i64 0,.int .i64 0,.slice none 0 0] 32)::.pts n0 (.cells #[.int .i64 o.id,.int .i64 o.item,.int .i64 o.qty,.int .i64 o.client,.int .i64 o.price,.slice sp o.steps.length sk] 32)::R) wr))
 case atStart=>exact ⟨0,.slice none 0 0,rfl,Nat.zero_le _,⟨rfl⟩,H4⟩
 case round=>
  obtain ⟨k,vL,rfl,hk,HG,HR⟩:=hrel;clear H4;obtain ⟨vp,vk,rfl⟩:=vS2 (HR.out.row 0 rfl);obtain ⟨x0,x1,x2,x3,x4,x5,xf⟩:=HR.out.cB6 3 rfl;have hlx:=HR.out.lt 3 rfl;obtain ⟨y0,y1,y2,y3,y4,y5,yf⟩:=HR.out.cB6 1 rfl;have hly:=HR.out.lt 1 rfl;have HKL:=zk (smallK_len o k);by_cases hlt:k<3
  ·have HSU:=zk (smallK_succ o hlt);have HKI:As (∀x:Int,x=((k+1:Nat):Int)↔x=(k:Int)+1):=⟨fun x=>by omega⟩;by_cases hls:k<o.steps.length
   ·have hls':(k:Int)<(o.steps.length:Int):=by omega
    obtain ⟨g,rfl,hgb,hcn⟩:=HSC.out _ HR.out k hls;have HSS:As (smallStep o k=if (o.steps[k]'hls).n%4=0 then [] else [⟨4+((k:Int)+S.u64 o.item%3)%3,1+S.u64 (o.steps[k]'hls).n%4⟩]):=⟨by unfold smallStep;rw [List.getElem?_eq_getElem hls]⟩;have HNC:As (∀W {l:List SA},Heap w0 l W→W.cell? ⟨(g.add (k*2)).block,(g.add (k*2)).off+1,none⟩=some (.int .i64 (o.steps[k]'hls).n)):=⟨fun W l hW=>by
     obtain ⟨g',e, -,hc⟩:=HSC.out W hW k hls;cases e;exact hc⟩
    generalize (o.steps[k]'hls).n=sn at *;by_cases hz:sn%4=0
    ·rw [if_pos hz] at HSS;have hz2:sn.tmod 4=0:=Int.tmod_eq_zero_of_dvd (Int.dvd_of_emod_eq_zero hz);go_wp2_with (fail);go_roundg (3-(k+1))
     case measure=>have:=HG.out;omega
     case rel=>
      refine ⟨k+1,.slice vp (smallK o k).length vk,by go_num,by omega,⟨by omega⟩,⟨?_⟩⟩;rw [HSU.out,HSS.out,List.append_nil];exact HR.out
    ·rw [if_neg hz] at HSS;have hz2:¬sn.tmod 4=0:=fun e=>hz (Int.emod_eq_zero_of_dvd (Int.dvd_of_tmod_eq_zero e));have e5:wrap64 (4+(wrap64 ((k:Int)+wrap64 ((IntKind.u64.wrap o.item).tmod 3))).tmod 3)=4+((k:Int)+S.u64 o.item%3)%3:=by
      rw [E1.out,wsm (x:=(k:Int)+S.u64 o.item%3) (by omega) (by omega),Int.tmod_eq_emod_of_nonneg (by omega),wsm (by omega) (by omega)]
     have e6:wrap64 (1+wrap64 ((IntKind.u64.wrap sn).tmod 4))=1+S.u64 sn%4:=by rw [u64_tmod,wsm (x:=S.u64 sn%4) (by omega) (by omega),wsm (by omega) (by omega)]
     have E56:=zk (And.intro e5 e6);clear e5 e6;obtain ⟨i0,hi0,hi1,hi2,hi3⟩:=info_parts info131;have HI:=zk (And.intro hi0 (And.intro hi1 (And.intro hi2 hi3)));clear hi0 hi1 hi2 hi3;go_wp2_with (fail);refine wrx (fun W=>W.cell? ⟨n2,5,none⟩=some (.slice vp (smallK o k).length vk)∧W.cell? ⟨n0,1,none⟩=some (.int .i64 o.item)∧W.cell? ⟨n0,5,none⟩=some (.slice (some g) o.steps.length sk)∧W.cell? ⟨(g.add (k*2)).block,(g.add (k*2)).off+1,none⟩=some (.int .i64 sn)) [25] (.op 0 .f (.op 1 .f (.op 2 .f (.op 3 .f (.op 4 .f (.op 5 .f (.op 6 .f (.op 7 .f (.op 8 .f (.op 9 .f (.op 10 .f (.op 11 .f (.op 12 .f (.op 13 .f (.op 14 .f (.op 15 .f (.op 16 .f (.op 17 .f (.op 18 .f (.op 19 .f (.op 20 .f (.op 21 .f (.op 22 .e (.op 23 .e (.op 24 .f (.op 25 .e .nil)))))))))))))))))))))))))) (by kernel_rfl) (by kernel_rfl) ⟨y5,x1,x5,hcn⟩ ?_;iterate 22
      first
       |(refine vxp rfl rfl ?_;apply ex2;intro w';go_simp;rfl;go_simp)
       |(refine vxg (by kernel_rfl) rfl rfl ?_;apply ex2;intro w' hw';obtain ⟨q0,q1,q2,q3⟩:=hw';go_simp;rfl;go_simp)
     refine vxe rfl rfl rfl ?_;go_wp2_with (fail);have H2:=zk ((HR.out.new (.cells #[.int .i64 (wrap64 (4+(wrap64 ((k:Int)+wrap64 ((IntKind.u64.wrap o.item).tmod 3))).tmod 3)),.int .i64 (wrap64 (1+wrap64 ((IntKind.u64.wrap sn).tmod 4)))] 131)).drew);refine ⟨⟨H2.out.cell 2 5 rfl rfl,H2.out.cell 4 1 rfl rfl,H2.out.cell 4 5 rfl rfl,HNC.out _ H2.out⟩,?_⟩;go_simp;refine vxe rfl rfl rfl ?_;refine wla H2.out 1 _ 131 2 (smallK o k).length _ rfl rfl _ _ 30 rfl _ _ 16 Tryz.underlying30 HI.out.1 HI.out.2.1 HI.out.2.2.1 HI.out.2.2.2 rfl (by decide) rfl ⟨wr.heap.size,0,none⟩ 1 1 [.int .i64 (wrap64 (4+(wrap64 ((k:Int)+wrap64 ((IntKind.u64.wrap o.item).tmod 3))).tmod 3)),.int .i64 (wrap64 (1+wrap64 ((IntKind.u64.wrap sn).tmod 4)))] rfl rfl (fun j u hu=>by rw [addr_add];exact H2.out.cell 0 j rfl (by simpa using hu)) (by simp [Value.oneCell']) (by have:=HKL.out;omega) (by decide) (by omega) ?_;intro g2 cap2 w5 h5 _;have H5:=zk h5;clear h5;go_wp2_with (fail);refine ⟨⟨H5.out.cell 2 5 rfl rfl,H5.out.cell 4 1 rfl rfl,H5.out.cell 4 5 rfl rfl,HNC.out _ H5.out⟩,?_⟩;go_simp;first
      |(refine vxp rfl rfl ?_;apply ex2;intro w';go_simp;rfl;go_simp)
      |(refine vxg (by kernel_rfl) rfl rfl ?_;apply ex2;intro w' hw';obtain ⟨q0,q1,q2,q3⟩:=hw';go_simp;rfl;go_simp)
     refine vxx rfl rfl rfl ?_;clear y0 y1 y2 y3 y4 y5 yf hly;obtain ⟨y0,y1,y2,y3,y4,y5,yf⟩:=H5.out.cB6 2 rfl;have hly:=H5.out.lt 2 rfl;go_wp2_with (fail);refine ⟨trivial,?_⟩;go_simp;refine vtn ?_;go_simp;go_wp2_with (fail);go_roundg (3-(k+1))
     case measure=>have:=HG.out;omega
     case rel=>
      refine ⟨k+1,.slice (some ⟨g2,0,none⟩) ((smallK o k).length+1) cap2,by go_num,by omega,⟨by omega⟩,⟨?_⟩⟩;have h6:=(H5.out.sAt 2 5 (.slice (some ⟨g2,0,none⟩) ((smallK o k).length+1) cap2) rfl).sel (p:= [_,_,_,_,_]) [1,2,3,4] 5 rfl (by decide);rw [E56.out.1,E56.out.2] at h6;rw [HSU.out,HSS.out];simpa [scells,Sp.cells] using h6
   ·have hls':¬(k:Int)<(o.steps.length:Int):=by omega
    have HSS:As (smallStep o k= []):=⟨by unfold smallStep;rw [List.getElem?_eq_none (by omega)]⟩;go_wp2_with (fail);go_roundg (3-(k+1))
    case measure=>have:=HG.out;omega
    case rel=>
     refine ⟨k+1,.slice vp (smallK o k).length vk,by go_num,by omega,⟨by omega⟩,⟨?_⟩⟩;rw [HSU.out,HSS.out,List.append_nil];exact HR.out
  ·obtain rfl:k=3:=by omega
   obtain ⟨z0,z1,z2,z3,z4,z5,zf⟩:=HR.out.cB6 2 rfl;have hlz:=HR.out.lt 2 rfl;have H7:=zk ((HR.out.frt 2 rfl).set6 (.int .i64 (tid o.id)) (.int .i64 (S.u64 o.item%3)) (.int .i64 (1+S.u64 o.qty%9)) (.int .i64 (S.u64 o.client%3)) (.int .i64 (1+S.u64 o.price%50)) (.slice vp (smallK o 3).length vk));go_wp2_with (fail);obtain ⟨p0,p1,p2,p3,p4,p5,pf⟩:=H7.out.cB6 0 rfl;have hlp:=H7.out.lt 0 rfl;rw [←smallK_3];refine bodyPost_ret (v:=.agg #[.int .i64 (tid o.id),.int .i64 (S.u64 o.item%3),.int .i64 (1+S.u64 o.qty%9),.int .i64 (S.u64 o.client%3),.int .i64 (1+S.u64 o.price%50),.slice vp (smallK o 3).length vk]) ?_ rfl ⟨vp,vk,rfl,H7.out.sel (p:= [_,_,_,_]) [1] 4 rfl (by decide)⟩;simp [results,Tryz.results44,go_sem,p0,p1,p2,p3,p4,p5]):P:=h
def smallK (o:Od):Nat→List Sp
 |0=> []
 |k+1=>smallK o k++smallStep o k
theorem smallK_succ (o:Od) {k:Nat} (h:k<3):smallK o (k+1)=smallK o k++smallStep o k:=rfl
theorem smallK_len (o:Od):∀k,(smallK o k).length≤k
 |0=>Nat.le_refl _
 |k+1=>by
  have h1:=smallK_len o k;have h2:=smallStep_len o k;simp only [smallK,List.length_append];omega
theorem smallK_3 (o:Od):smallK o 3=(small o).steps:=by
 show (([]++smallStep o 0)++smallStep o 1)++smallStep o 2=_
 simp [small]
section
variable {w0 w:World} {R:List SA}
theorem small_on (h:Heap w0 R w) (o:Od) (v:Value) (hs:StepsAt w0 v o.steps):
 Calls Tryz.prog 44 #[o.val v] w fun e w'=>∃sp sk,e=.returned ((small o).val (.slice sp (small o).steps.length sk))∧Heap w0 (.slc (.slice sp (small o).steps.length sk) 131 2 (small o).steps.length (scells (small o).steps)::R) w':=by
 obtain ⟨sp,sk,rfl,hsc⟩:=hs;have HSC:As (∀W {l:List SA},Heap w0 l W→∀j (hj:j<o.steps.length),∃g,sp=some g∧g.block<W.heap.size∧W.cell? ⟨(g.add (j*2)).block,(g.add (j*2)).off+1,none⟩=some (.int .i64 (o.steps[j]'hj).n)):=⟨fun W l hW j hj=>by
  obtain ⟨g,e1,e2,e3⟩:=hsc j hj;exact ⟨g,e1,Nat.lt_of_lt_of_le e2 hW.bel.size,by rw [hW.bel.cell (by show (g.add (j*2)).block<_;rw [add_block];exact e2)];exact e3⟩⟩
 clear hsc;have e1:wrap64 ((IntKind.u64.wrap o.item).tmod 3)=u64 o.item%3:=by rw [u64_tmod,wsm (by omega) (by omega)]
 have e2:wrap64 (1+wrap64 ((IntKind.u64.wrap o.qty).tmod 9))=1+u64 o.qty%9:=by rw [u64_tmod,wsm (x:=u64 o.qty%9) (by omega) (by omega),wsm (by omega) (by omega)]
 have e3:wrap64 ((IntKind.u64.wrap o.client).tmod 3)=u64 o.client%3:=by rw [u64_tmod,wsm (by omega) (by omega)]
 have e4:wrap64 (1+wrap64 ((IntKind.u64.wrap o.price).tmod 50))=1+u64 o.price%50:=by rw [u64_tmod,wsm (x:=u64 o.price%50) (by omega) (by omega),wsm (by omega) (by omega)]
 have h3:=Heap.nAt (n:=w.heap.size+1) (h.new (.cells #[.int .i64 o.id,.int .i64 o.item,.int .i64 o.qty,.int .i64 o.client,.int .i64 o.price,.slice sp o.steps.length sk] 32)) (.cells #[.int .i64 0,.int .i64 0,.int .i64 0,.int .i64 0,.int .i64 0,.slice none 0 0] 32) (by simp);have HB:=zk h3;obtain ⟨x0,x1,x2,x3,x4,x5,xf⟩:=h3.cB6 1 rfl;have hlx:=h3.lt 1 rfl;clear h h3;unfold Od.val;go_enter Tryz.func44,Tryz.ntmps44;go_wp2_with (fail);generalize hW:World.alloc _ _=W1 at *;clear hW;generalize w.heap.size+1=n1 at *;generalize w.heap.size=n0 at *;refine wrx (fun W=>W.cell? ⟨n0,0,none⟩=some (.int .i64 o.id)∧W.cell? ⟨n0,1,none⟩=some (.int .i64 o.item)∧W.cell? ⟨n0,2,none⟩=some (.int .i64 o.qty)∧W.cell? ⟨n0,3,none⟩=some (.int .i64 o.client)∧W.cell? ⟨n0,4,none⟩=some (.int .i64 o.price)) [27] (.op 0 .f (.op 1 .f (.op 3 .f (.op 4 .f (.op 5 .f (.op 6 .f (.op 7 .f (.op 8 .f (.op 9 .f (.op 10 .f (.op 11 .f (.op 12 .f (.op 13 .f (.op 14 .f (.op 15 .f (.op 16 .f (.op 17 .f (.op 18 .f (.op 19 .f (.op 20 .f (.op 21 .f (.op 22 .f (.op 23 .f (.op 24 .f (.fork 2 (.op 25 .f (.op 26 .e (.op 27 .e .nil))) (.op 26 .e (.op 2 .e (.op 25 .f (.op 27 .e .nil))))))))))))))))))))))))))))) (by kernel_rfl) (by kernel_rfl) ⟨x0,x1,x2,x3,x4⟩ ?_;iterate 24
  first
   |(refine vxp rfl rfl ?_;apply ex2;intro w';go_simp;rfl;go_simp)
   |(refine vxg (by kernel_rfl) rfl rfl ?_;apply ex2;intro w' hw';obtain ⟨q0,q1,q2,q3,q4⟩:=hw';go_simp;rfl;go_simp)
 refine vxf rfl rfl ?_ ?_
 ·go_wp2_with (go_at_call 45;refine (id_ok _ _).mono ?_;rintro e w' ⟨rfl,rfl⟩);refine ⟨⟨x0,x1,x2,x3,x4⟩,?_⟩;go_simp;first
   |(refine vxp rfl rfl ?_;apply ex2;intro w';go_simp;rfl;go_simp)
   |(refine vxg (by kernel_rfl) rfl rfl ?_;apply ex2;intro w' hw';obtain ⟨q0,q1,q2,q3,q4⟩:=hw';go_simp;rfl;go_simp)
  refine vxe rfl rfl rfl ?_;go_wp2_with (fail);have H2:=zk (HB.out.drew.new (.cells #[.int .i64 0,.int .i64 0,.int .i64 0,.int .i64 0,.int .i64 0,.slice none 0 0] 32));refine ⟨⟨H2.out.cell 2 0 rfl rfl,H2.out.cell 2 1 rfl rfl,H2.out.cell 2 2 rfl rfl,H2.out.cell 2 3 rfl rfl,H2.out.cell 2 4 rfl rfl⟩,?_⟩;go_simp;refine vxx rfl rfl rfl ?_;go_wp2_with (fail);refine ⟨trivial,?_⟩;go_simp;refine vtn ?_;go_simp;have H3:As (Heap w0 (.pts W1.heap.size (.cells #[.int .i64 (tid o.id),.int .i64 (u64 o.item%3),.int .i64 (1+u64 o.qty%9),.int .i64 (u64 o.client%3),.int .i64 (1+u64 o.price%50),.slice none 0 0] 32)::.pts n1 (.cells #[.int .i64 0,.int .i64 0,.int .i64 0,.int .i64 0,.int .i64 0,.slice none 0 0] 32)::.pts n0 (.cells #[.int .i64 o.id,.int .i64 o.item,.int .i64 o.qty,.int .i64 o.client,.int .i64 o.price,.slice sp o.steps.length sk] 32)::R) (W1.alloc (.cells #[.int .i64 (tid o.id),.int .i64 (u64 o.item%3),.int .i64 (1+u64 o.qty%9),.int .i64 (u64 o.client%3),.int .i64 (1+u64 o.price%50),.slice none 0 0] 32)).drew):=⟨(HB.out.new _).drew⟩;generalize hW3:World.drew (World.alloc _ _)=W3 at *;generalize W1.heap.size=n2 at *;exact zTd21
 ·refine vxe rfl rfl rfl ?_;go_wp2_with (fail);have H2:=zk (Heap.drew (HB.out.new (.cells #[.int .i64 0,.int .i64 0,.int .i64 0,.int .i64 0,.int .i64 0,.slice none 0 0] 32)));generalize hW2:World.drew (World.alloc _ _)=W2 at *;generalize W1.heap.size=n2 at *;clear hW2;refine ⟨⟨H2.out.cell 2 0 rfl rfl,H2.out.cell 2 1 rfl rfl,H2.out.cell 2 2 rfl rfl,H2.out.cell 2 3 rfl rfl,H2.out.cell 2 4 rfl rfl⟩,?_⟩;go_simp;refine vxe rfl rfl rfl ?_;go_wp2_with (go_at_call 45;refine (id_ok _ _).mono ?_;rintro e w' ⟨rfl,rfl⟩);refine ⟨⟨H2.out.cell 2 0 rfl rfl,H2.out.cell 2 1 rfl rfl,H2.out.cell 2 2 rfl rfl,H2.out.cell 2 3 rfl rfl,H2.out.cell 2 4 rfl rfl⟩,?_⟩;go_simp;first
   |(refine vxp rfl rfl ?_;apply ex2;intro w';go_simp;rfl;go_simp)
   |(refine vxg (by kernel_rfl) rfl rfl ?_;apply ex2;intro w' hw';obtain ⟨q0,q1,q2,q3,q4⟩:=hw';go_simp;rfl;go_simp)
  refine vxx rfl rfl rfl ?_;obtain ⟨y0,y1,y2,y3,y4,y5,yf⟩:=H2.out.cB6 0 rfl;have hly:=H2.out.lt 0 rfl;go_wp2_with (fail);refine ⟨trivial,?_⟩;go_simp;refine vtn ?_;go_simp;have H3:=zk (H2.out.set6 (.int .i64 (tid o.id)) (.int .i64 (u64 o.item%3)) (.int .i64 (1+u64 o.qty%9)) (.int .i64 (u64 o.client%3)) (.int .i64 (1+u64 o.price%50)) (.slice none 0 0));clear y0 y1 y2 y3 y4 y5 yf hly;generalize hW3:World.setCell _ _ _=W3 at *;exact zTd21
end
theorem zTd31 {P:Prop} (h:P:=by
 go_enter Tryz.func25,Tryz.ntmps25;go_wp2_with (fail);generalize hW:World.alloc _ _=W1 at *;clear hW;generalize w.heap.size+1=n1 at *;generalize w.heap.size=n0 at *;go_wp2_with (first
  |(go_at_call 14;refine HPO.out.mono ?_;rintro e w' ⟨rfl,rfl⟩)
  |(go_at_call 15;refine HLN.out.mono ?_;rintro e w' ⟨rfl,rfl⟩)
  |(go_at_call 45;refine (id_ok _ _).mono ?_;rintro e w' ⟨rfl,rfl⟩)
  |(go_at_call 44;refine (small_on HB.out d.o _ HST.out).mono ?_;rintro e w2 ⟨sp2,sk2,rfl,h2⟩;simp only [Od.val];clear y0 y1 y2 y3 y4 y5 y6 y7 y8 y9 y10 yf hly;obtain ⟨y0,y1,y2,y3,y4,y5,y6,y7,y8,y9,y10,yf⟩:=h2.cA1 14 rfl;have hly:=h2.lt 14 rfl;have H2:=zk h2;clear h2))
 have H7:=zk ((HB.out.frt 13 rfl).set11 (.int .i64 10) (.int .i64 (wrap64 ((IntKind.u64.wrap d.i).tmod 7))) (.int .i64 0) (.int .i64 0) (.bool false) (.int .i64 0) (.int .i64 0) (.int .i64 0) (.int .i64 0) (.int .i64 0) (.slice none 0 0));obtain ⟨p0,p1,p2,p3,p4,p5,p6,p7,p8,p9,p10,pf⟩:=H7.out.cA1 0 rfl;have hlp:=H7.out.lt 0 rfl;refine bodyPost_ret (v:=.agg #[.int .i64 10,.int .i64 (wrap64 ((IntKind.u64.wrap d.i).tmod 7)),.int .i64 0,.int .i64 0,.bool false,.int .i64 0,.int .i64 0,.int .i64 0,.int .i64 0,.int .i64 0,.slice none 0 0]) ?_ rfl ?_
 ·simp [results,Tryz.results25,go_sem,p0,p1,p2,p3,p4,p5,p6,p7,p8,p9,p10]
 ·unfold CmdQ;refine ⟨none,0,?_,?_⟩
  ·rw [E7.out];rfl
  ·show Heap w0 (H.on q (.slc (.slice none 0 0) 131 2 0 []::R)) _
   exact (H7.out.nRw 131 2).sel (p:= [_,_,_,_,_,_,_,_,_,_,_,_,_,_,_,_]) [2,3,4,5,6,7,8,9,10,11,12,13,14,0] 16 rfl (by decide)):P:=h
theorem zTd32 {P:Prop} (h:P:=by
 show Heap w0 (H.on q (.slc (.slice none 0 0) 131 2 0 []::R)) _
 exact (H7.out.nRw 131 2).sel (p:= [_,_,_,_,_,_,_,_,_,_,_,_,_,_,_,_]) [2,3,4,5,6,7,8,9,10,11,12,13,14,0] 16 rfl (by decide)):P:=h
theorem zTd33 {P:Prop} (h:P:=by
 go_enter Tryz.func25,Tryz.ntmps25;go_wp2_with (fail);generalize hW:World.alloc _ _=W1 at *;clear hW;generalize w.heap.size+1=n1 at *;generalize w.heap.size=n0 at *;go_wp2_with (first
  |(go_at_call 14;refine HPO.out.mono ?_;rintro e w' ⟨rfl,rfl⟩)
  |(go_at_call 15;refine HLN.out.mono ?_;rintro e w' ⟨rfl,rfl⟩)
  |(go_at_call 45;refine (id_ok _ _).mono ?_;rintro e w' ⟨rfl,rfl⟩)
  |(go_at_call 44;refine (small_on HB.out d.o _ HST.out).mono ?_;rintro e w2 ⟨sp2,sk2,rfl,h2⟩;simp only [Od.val];clear y0 y1 y2 y3 y4 y5 y6 y7 y8 y9 y10 yf hly;obtain ⟨y0,y1,y2,y3,y4,y5,y6,y7,y8,y9,y10,yf⟩:=h2.cA1 14 rfl;have hly:=h2.lt 14 rfl;have H2:=zk h2;clear h2))
 refine wro (fun W=>W.cell? ⟨n0,1,none⟩=some (.int .i64 d.i)∧W.cell? ⟨n0,2,none⟩=some (.int .i64 d.torn)∧W.cell? ⟨n0,9,none⟩=some (.bool d.yes)) [(0,.f),(1,.f),(2,.f),(3,.f),(4,.f),(5,.f),(6,.f),(7,.s),(8,.e),(9,.f),(10,.e)] ⟨x1,x2,x9⟩ ?_;iterate 8
  first
   |(refine vg rfl rfl ?_;apply ex2;intro w' hw';obtain ⟨q1,q2,q9⟩:=hw';go_simp;rfl;go_simp)
   |(refine vs_ rfl (fun K hK=>?_);go_simp;refine hK _ ?_;clear hK K)
 refine ve rfl rfl ?_;go_wp2_with (go_at_call 45;refine (id_ok _ _).mono ?_;rintro e w' ⟨rfl,rfl⟩);refine ⟨⟨x1,x2,x9⟩,?_⟩;go_simp;first
  |(refine vg rfl rfl ?_;apply ex2;intro w' hw';obtain ⟨q1,q2,q9⟩:=hw';go_simp;rfl;go_simp)
  |(refine vs_ rfl (fun K hK=>?_);go_simp;refine hK _ ?_;clear hK K)
 refine ve rfl rfl ?_;go_wp2_with (fail);have H7:=zk ((HB.out.frt 13 rfl).set11 (.int .i64 8) (.int .i64 (wrap64 (1+wrap64 ((IntKind.u64.wrap d.torn).tmod 2)))) (.int .i64 (tid d.i)) (.int .i64 0) (.bool false) (.int .i64 0) (.int .i64 0) (.int .i64 0) (.int .i64 0) (.int .i64 0) (.slice none 0 0)).drew;refine ⟨⟨H7.out.cell 14 1 rfl rfl,H7.out.cell 14 2 rfl rfl,H7.out.cell 14 9 rfl rfl⟩,?_⟩;go_simp;refine vn ?_;go_simp;go_wp2_with (fail);obtain ⟨p0,p1,p2,p3,p4,p5,p6,p7,p8,p9,p10,pf⟩:=H7.out.cA1 0 rfl;have hlp:=H7.out.lt 0 rfl;refine bodyPost_ret (v:=.agg #[.int .i64 8,.int .i64 (wrap64 (1+wrap64 ((IntKind.u64.wrap d.torn).tmod 2))),.int .i64 (tid d.i),.int .i64 0,.bool false,.int .i64 0,.int .i64 0,.int .i64 0,.int .i64 0,.int .i64 0,.slice none 0 0]) ?_ rfl ?_
 ·simp [results,Tryz.results25,go_sem,p0,p1,p2,p3,p4,p5,p6,p7,p8,p9,p10]
 ·unfold CmdQ;refine ⟨none,0,?_,?_⟩
  ·rw [E2.out];rfl
  ·exact zTd32):P:=h
theorem zTd34 {P:Prop} (h:P:=by
 go_enter Tryz.func25,Tryz.ntmps25;go_wp2_with (fail);generalize hW:World.alloc _ _=W1 at *;clear hW;generalize w.heap.size+1=n1 at *;generalize w.heap.size=n0 at *;go_wp2_with (first
  |(go_at_call 14;refine HPO.out.mono ?_;rintro e w' ⟨rfl,rfl⟩)
  |(go_at_call 15;refine HLN.out.mono ?_;rintro e w' ⟨rfl,rfl⟩)
  |(go_at_call 45;refine (id_ok _ _).mono ?_;rintro e w' ⟨rfl,rfl⟩)
  |(go_at_call 44;refine (small_on HB.out d.o _ HST.out).mono ?_;rintro e w2 ⟨sp2,sk2,rfl,h2⟩;simp only [Od.val];clear y0 y1 y2 y3 y4 y5 y6 y7 y8 y9 y10 yf hly;obtain ⟨y0,y1,y2,y3,y4,y5,y6,y7,y8,y9,y10,yf⟩:=h2.cA1 14 rfl;have hly:=h2.lt 14 rfl;have H2:=zk h2;clear h2))
 have H7:=zk ((H2.out.frt 14 rfl).set11 (.int .i64 1) (.int .i64 0) (.int .i64 0) (.int .i64 0) (.bool false) (.int .i64 (small d.o).id) (.int .i64 (small d.o).item) (.int .i64 (small d.o).qty) (.int .i64 (small d.o).client) (.int .i64 (small d.o).price) (.slice sp2 (small d.o).steps.length sk2));obtain ⟨p0,p1,p2,p3,p4,p5,p6,p7,p8,p9,p10,pf⟩:=H7.out.cA1 0 rfl;have hlp:=H7.out.lt 0 rfl;refine bodyPost_ret (v:=.agg #[.int .i64 1,.int .i64 0,.int .i64 0,.int .i64 0,.bool false,.int .i64 (small d.o).id,.int .i64 (small d.o).item,.int .i64 (small d.o).qty,.int .i64 (small d.o).client,.int .i64 (small d.o).price,.slice sp2 (small d.o).steps.length sk2]) ?_ rfl ?_
 ·simp [results,Tryz.results25,go_sem,p0,p1,p2,p3,p4,p5,p6,p7,p8,p9,p10]
 ·unfold CmdQ;refine ⟨sp2,sk2,rfl,?_⟩;exact H7.out.sel (p:= [_,_,_,_,_,_,_,_,_,_,_,_,_,_,_,_]) [2,3,4,5,6,7,8,9,10,11,12,13,14,1] 16 rfl (by decide)):P:=h
theorem zTd35 {P:Prop} (h:P:=by
 go_enter Tryz.func25,Tryz.ntmps25;go_wp2_with (fail);generalize hW:World.alloc _ _=W1 at *;clear hW;generalize w.heap.size+1=n1 at *;generalize w.heap.size=n0 at *;go_wp2_with (first
  |(go_at_call 14;refine HPO.out.mono ?_;rintro e w' ⟨rfl,rfl⟩)
  |(go_at_call 15;refine HLN.out.mono ?_;rintro e w' ⟨rfl,rfl⟩)
  |(go_at_call 45;refine (id_ok _ _).mono ?_;rintro e w' ⟨rfl,rfl⟩)
  |(go_at_call 44;refine (small_on HB.out d.o _ HST.out).mono ?_;rintro e w2 ⟨sp2,sk2,rfl,h2⟩;simp only [Od.val];clear y0 y1 y2 y3 y4 y5 y6 y7 y8 y9 y10 yf hly;obtain ⟨y0,y1,y2,y3,y4,y5,y6,y7,y8,y9,y10,yf⟩:=h2.cA1 14 rfl;have hly:=h2.lt 14 rfl;have H2:=zk h2;clear h2))
 have H7:=zk ((HB.out.frt 13 rfl).set11 (.int .i64 9) (.int .i64 (wrap64 ((IntKind.u64.wrap d.i).tmod 7))) (.int .i64 d.torn) (.int .i64 (wrap64 ((IntKind.u64.wrap d.torn).tmod 4))) (.bool false) (.int .i64 0) (.int .i64 0) (.int .i64 0) (.int .i64 0) (.int .i64 0) (.slice none 0 0));obtain ⟨p0,p1,p2,p3,p4,p5,p6,p7,p8,p9,p10,pf⟩:=H7.out.cA1 0 rfl;have hlp:=H7.out.lt 0 rfl;refine bodyPost_ret (v:=.agg #[.int .i64 9,.int .i64 (wrap64 ((IntKind.u64.wrap d.i).tmod 7)),.int .i64 d.torn,.int .i64 (wrap64 ((IntKind.u64.wrap d.torn).tmod 4)),.bool false,.int .i64 0,.int .i64 0,.int .i64 0,.int .i64 0,.int .i64 0,.slice none 0 0]) ?_ rfl ?_
 ·simp [results,Tryz.results25,go_sem,p0,p1,p2,p3,p4,p5,p6,p7,p8,p9,p10]
 ·unfold CmdQ;refine ⟨none,0,?_,?_⟩
  ·rw [E7.out,E4.out];rfl
  ·exact zTd32):P:=h
theorem zTd36 {P:Prop} (h:P:=by
 go_enter Tryz.func25,Tryz.ntmps25;go_wp2_with (fail);generalize hW:World.alloc _ _=W1 at *;clear hW;generalize w.heap.size+1=n1 at *;generalize w.heap.size=n0 at *;go_wp2_with (first
  |(go_at_call 14;refine HPO.out.mono ?_;rintro e w' ⟨rfl,rfl⟩)
  |(go_at_call 15;refine HLN.out.mono ?_;rintro e w' ⟨rfl,rfl⟩)
  |(go_at_call 45;refine (id_ok _ _).mono ?_;rintro e w' ⟨rfl,rfl⟩)
  |(go_at_call 44;refine (small_on HB.out d.o _ HST.out).mono ?_;rintro e w2 ⟨sp2,sk2,rfl,h2⟩;simp only [Od.val];clear y0 y1 y2 y3 y4 y5 y6 y7 y8 y9 y10 yf hly;obtain ⟨y0,y1,y2,y3,y4,y5,y6,y7,y8,y9,y10,yf⟩:=h2.cA1 14 rfl;have hly:=h2.lt 14 rfl;have H2:=zk h2;clear h2))
 have H7:=zk ((HB.out.frt 13 rfl).set11 (.int .i64 2) (.int .i64 0) (.int .i64 (tid d.i)) (.int .i64 0) (.bool false) (.int .i64 0) (.int .i64 0) (.int .i64 0) (.int .i64 0) (.int .i64 0) (.slice none 0 0));obtain ⟨p0,p1,p2,p3,p4,p5,p6,p7,p8,p9,p10,pf⟩:=H7.out.cA1 0 rfl;have hlp:=H7.out.lt 0 rfl;refine bodyPost_ret (v:=.agg #[.int .i64 2,.int .i64 0,.int .i64 (tid d.i),.int .i64 0,.bool false,.int .i64 0,.int .i64 0,.int .i64 0,.int .i64 0,.int .i64 0,.slice none 0 0]) ?_ rfl ?_
 ·simp [results,Tryz.results25,go_sem,p0,p1,p2,p3,p4,p5,p6,p7,p8,p9,p10]
 ·unfold CmdQ;refine ⟨none,0,?_,?_⟩
  ·exact rfl
  ·exact zTd32):P:=h
theorem zTd37 {P:Prop} (h:P:=by
 go_enter Tryz.func25,Tryz.ntmps25;go_wp2_with (fail);generalize hW:World.alloc _ _=W1 at *;clear hW;generalize w.heap.size+1=n1 at *;generalize w.heap.size=n0 at *;go_wp2_with (first
  |(go_at_call 14;refine HPO.out.mono ?_;rintro e w' ⟨rfl,rfl⟩)
  |(go_at_call 15;refine HLN.out.mono ?_;rintro e w' ⟨rfl,rfl⟩)
  |(go_at_call 45;refine (id_ok _ _).mono ?_;rintro e w' ⟨rfl,rfl⟩)
  |(go_at_call 44;refine (small_on HB.out d.o _ HST.out).mono ?_;rintro e w2 ⟨sp2,sk2,rfl,h2⟩;simp only [Od.val];clear y0 y1 y2 y3 y4 y5 y6 y7 y8 y9 y10 yf hly;obtain ⟨y0,y1,y2,y3,y4,y5,y6,y7,y8,y9,y10,yf⟩:=h2.cA1 14 rfl;have hly:=h2.lt 14 rfl;have H2:=zk h2;clear h2))
 have H7:=zk ((HB.out.frt 13 rfl).set11 (.int .i64 8) (.int .i64 0) (.int .i64 (tid d.i)) (.int .i64 0) (.bool false) (.int .i64 0) (.int .i64 0) (.int .i64 0) (.int .i64 0) (.int .i64 0) (.slice none 0 0));obtain ⟨p0,p1,p2,p3,p4,p5,p6,p7,p8,p9,p10,pf⟩:=H7.out.cA1 0 rfl;have hlp:=H7.out.lt 0 rfl;refine bodyPost_ret (v:=.agg #[.int .i64 8,.int .i64 0,.int .i64 (tid d.i),.int .i64 0,.bool false,.int .i64 0,.int .i64 0,.int .i64 0,.int .i64 0,.int .i64 0,.slice none 0 0]) ?_ rfl ?_
 ·simp [results,Tryz.results25,go_sem,p0,p1,p2,p3,p4,p5,p6,p7,p8,p9,p10]
 ·unfold CmdQ;refine ⟨none,0,?_,?_⟩
  ·exact rfl
  ·exact zTd32):P:=h
theorem zTd38 {P:Prop} (h:P:=by
 rw [if_neg (by omega)];rw [if_neg (by omega)];rw [if_neg (by omega)];rw [if_neg (by omega)];rw [if_pos (by omega)]):P:=h
theorem zTd39 {P:Prop} (h:P:=by
 rw [hm] at ht;generalize H.p.l.length=n at *;have hnp:(0:Int)<(n:Int):=by omega
 have EP:As (wrap64 ((IntKind.u64.wrap d.i).tmod (n:Int))=u64 d.i%(n:Int)):=⟨by
  have hb:=Int.emod_nonneg (u64 d.i) (by omega:(n:Int)≠0);have hb2:=Int.emod_lt_of_pos (u64 d.i) hnp;rw [u64_tmod,wsm (by omega) (by omega)]⟩
 have hnw:¬IntKind.u64.wrap (n:Int)=0:=by rw [IntKind.wrap_u64];omega
 exact zTd31):P:=h
def Cmd.val (c:Cmd) (v:Value):Value:=.agg #[.int .i64 c.kind,.int .i64 c.node,.int .i64 c.id,.int .i64 c.i,.bool c.yes,.int .i64 c.o.id,.int .i64 c.o.item,.int .i64 c.o.qty,.int .i64 c.o.client,.int .i64 c.o.price,v]
def CmdQ (w0:World) (q:HA) (H:Harb) (R:List SA) (c:Cmd) (e:Ending) (w':World):Prop:=∃sp sk,e=.returned (c.val (.slice sp c.o.steps.length sk))∧Heap w0 (H.on q (.slc (.slice sp c.o.steps.length sk) 131 2 c.o.steps.length (scells c.o.steps)::R)) w'
theorem pick_zero {H:Harb} (i:Int) (h:H.p.l.length=0):H.pick i=0:=by unfold Harb.pick;rw [if_pos h]
theorem pick_pos {H:Harb} (i:Int) (h:¬H.p.l.length=0):H.pick i=u64 i%(H.p.l.length:Int):=by unfold Harb.pick;rw [if_neg h]
theorem cmd_0 (H:Harb) (d:Deed) (force:Bool) (h:u64 d.dO%14=0):H.cmd d force=⟨1,0,0,0,false,small d.o⟩:=by
 unfold Harb.cmd;rw [if_pos (by omega)]
theorem cmd_1 (H:Harb) (d:Deed) (force:Bool) (h:u64 d.dO%14=1):H.cmd d force=⟨2,0,tid d.i,0,false,Od.none⟩:=by
 unfold Harb.cmd;rw [if_neg (by omega)];rw [if_pos (by omega)]
theorem cmd_2t (H:Harb) (d:Deed) (h:u64 d.dO%14=2):H.cmd d true=⟨3,1+u64 d.torn%2,tid d.i,0,d.yes,Od.none⟩:=by
 unfold Harb.cmd;rw [if_neg (by omega)];rw [if_neg (by omega)];rw [if_pos (by omega)];rw [if_pos rfl]
theorem cmd_2f (H:Harb) (d:Deed) (h:u64 d.dO%14=2):H.cmd d false=⟨5,0,0,H.pick d.i,false,Od.none⟩:=by
 unfold Harb.cmd;rw [if_neg (by omega)];rw [if_neg (by omega)];rw [if_pos (by omega)];rw [if_neg (by decide)]
theorem cmd_3 (H:Harb) (d:Deed) (force:Bool) (h:u64 d.dO%14=3):H.cmd d force=⟨6,0,0,H.pick d.i,false,Od.none⟩:=by
 unfold Harb.cmd;rw [if_neg (by omega)];rw [if_neg (by omega)];rw [if_neg (by omega)];rw [if_pos (by omega)]
theorem cmd_4 (H:Harb) (d:Deed) (force:Bool) (h:u64 d.dO%14=4):H.cmd d force=⟨7,0,0,H.pick d.i,false,Od.none⟩:=by
 unfold Harb.cmd;exact zTd38
theorem cmd_5 (H:Harb) (d:Deed) (force:Bool) (h:u64 d.dO%14=5):H.cmd d force=⟨8,0,tid d.i,0,false,Od.none⟩:=by
 unfold Harb.cmd;rw [if_neg (by omega)];exact zTd38
theorem cmd_6 (H:Harb) (d:Deed) (force:Bool) (h:u64 d.dO%14=6):H.cmd d force=⟨8,1+u64 d.torn%2,tid d.i,0,false,Od.none⟩:=by
 unfold Harb.cmd;rw [if_neg (by omega)];rw [if_neg (by omega)];exact zTd38
theorem cmd_7 (H:Harb) (d:Deed) (force:Bool) (h:u64 d.dO%14=7):H.cmd d force=⟨9,u64 d.i%7,d.torn,u64 d.torn%4,false,Od.none⟩:=by
 unfold Harb.cmd;rw [if_neg (by omega)];rw [if_neg (by omega)];rw [if_neg (by omega)];exact zTd38
theorem cmd_8 (H:Harb) (d:Deed) (force:Bool) (h:u64 d.dO%14=8):H.cmd d force=⟨10,u64 d.i%7,0,0,false,Od.none⟩:=by
 unfold Harb.cmd;rw [if_neg (by omega)];rw [if_neg (by omega)];rw [if_neg (by omega)];rw [if_neg (by omega)];exact zTd38
theorem cmd_9 (H:Harb) (d:Deed) (force:Bool) (h:u64 d.dO%14=9):H.cmd d force=⟨10,u64 d.i%7,0,0,false,Od.none⟩:=by
 unfold Harb.cmd;rw [if_neg (by omega)];rw [if_neg (by omega)];rw [if_neg (by omega)];rw [if_neg (by omega)];exact zTd38
theorem cmd_10 (H:Harb) (d:Deed) (force:Bool) (h:10≤u64 d.dO%14):H.cmd d force=⟨5,0,0,H.pick d.i,false,Od.none⟩:=by
 unfold Harb.cmd;rw [if_neg (by omega)];rw [if_neg (by omega)];rw [if_neg (by omega)];rw [if_neg (by omega)];rw [if_neg (by omega)];rw [if_neg (by omega)];rw [if_neg (by omega)];rw [if_neg (by omega)];rw [if_neg (by omega)]
section
variable {w0 w:World} {q:HA} {H:Harb} {R:List SA}
theorem command_ok (h:Heap w0 (H.on q R) w) (d:Deed) (v:Value) (hs:StepsAt w0 v d.o.steps) (force:Bool):
 Calls Tryz.prog 25 #[.pointer (some ⟨q.b,0,none⟩),.agg #[.int .i64 d.dO,.int .i64 d.i,.int .i64 d.torn,.int .i64 d.o.id,.int .i64 d.o.item,.int .i64 d.o.qty,.int .i64 d.o.client,.int .i64 d.o.price,v,.bool d.yes],.bool force] w (CmdQ w0 q H R (H.cmd d force)):=by
 have HST:=zk hs;obtain ⟨sp,sk,rfl, -⟩:=hs;have hn:H.p.l.length≤256:=by
  have:=(h.frt 9 rfl).open_post.1;have h1:=this.2.1;have h2:=this.2.2.1;omega
 have h3:=(Heap.nAt (n:=w.heap.size+1) (h.new (.cells #[.int .i64 d.dO,.int .i64 d.i,.int .i64 d.torn,.int .i64 d.o.id,.int .i64 d.o.item,.int .i64 d.o.qty,.int .i64 d.o.client,.int .i64 d.o.price,.slice sp d.o.steps.length sk,.bool d.yes] 58)) (.cells #[.int .i64 0,.int .i64 0,.int .i64 0,.int .i64 0,.bool false,.int .i64 0,.int .i64 0,.int .i64 0,.int .i64 0,.int .i64 0,.slice none 0 0] 45) (by simp)).boxed2;have HB:=zk h3;have HLN:=zk (len_on h3);have HPO:=zk (hpost_ok h3);have x0:=h3.cell 14 0 rfl rfl;have x1:=h3.cell 14 1 rfl rfl;have x2:=h3.cell 14 2 rfl rfl;have x3:=h3.cell 14 3 rfl rfl;have x4:=h3.cell 14 4 rfl rfl;have x5:=h3.cell 14 5 rfl rfl;have x6:=h3.cell 14 6 rfl rfl;have x7:=h3.cell 14 7 rfl rfl;have x8:=h3.cell 14 8 rfl rfl;have x9:=h3.cell 14 9 rfl rfl;have hlx:=h3.lt 14 rfl;obtain ⟨y0,y1,y2,y3,y4,y5,y6,y7,y8,y9,y10,yf⟩:=h3.cA1 13 rfl;have hly:=h3.lt 13 rfl;clear h h3;have hm:u64 d.dO%14=0∨u64 d.dO%14=1∨u64 d.dO%14=2∨u64 d.dO%14=3∨u64 d.dO%14=4∨u64 d.dO%14=5∨u64 d.dO%14=6∨u64 d.dO%14=7∨u64 d.dO%14=8∨u64 d.dO%14=9∨10≤u64 d.dO%14:=by omega
 have ht:(IntKind.u64.wrap d.dO).tmod 14=u64 d.dO%14:=u64_tmod _ _;have E2:As ((wrap64 (1+wrap64 ((IntKind.u64.wrap d.torn).tmod 2)))=1+u64 d.torn%2):=⟨by rw [u64_tmod,wsm (x:=u64 d.torn%2) (by omega) (by omega),wsm (by omega) (by omega)]⟩;have E7:As ((wrap64 ((IntKind.u64.wrap d.i).tmod 7))=u64 d.i%7):=⟨by rw [u64_tmod,wsm (by omega) (by omega)]⟩;have E4:As ((wrap64 ((IntKind.u64.wrap d.torn).tmod 4))=u64 d.torn%4):=⟨by rw [u64_tmod,wsm (by omega) (by omega)]⟩;by_cases hz:H.p.l.length=0
 ·rcases hm with hm|hm|hm|hm|hm|hm|hm|hm|hm|hm|hm
  ·skip;rw [cmd_0 H d force hm];rw [hm] at ht;rw [hz] at HLN;exact zTd34
  ·skip;rw [cmd_1 H d force hm];rw [hm] at ht;rw [hz] at HLN;exact zTd36
  ·cases force with
   |true=>
    rw [cmd_2t H d hm];rw [hm] at ht;rw [hz] at HLN;go_enter Tryz.func25,Tryz.ntmps25;go_wp2_with (fail);generalize hW:World.alloc _ _=W1 at *;clear hW;generalize w.heap.size+1=n1 at *;generalize w.heap.size=n0 at *;go_wp2_with (first
     |(go_at_call 14;refine HPO.out.mono ?_;rintro e w' ⟨rfl,rfl⟩)
     |(go_at_call 15;refine HLN.out.mono ?_;rintro e w' ⟨rfl,rfl⟩)
     |(go_at_call 45;refine (id_ok _ _).mono ?_;rintro e w' ⟨rfl,rfl⟩)
     |(go_at_call 44;refine (small_on HB.out d.o _ HST.out).mono ?_;rintro e w2 ⟨sp2,sk2,rfl,h2⟩;simp only [Od.val];clear y0 y1 y2 y3 y4 y5 y6 y7 y8 y9 y10 yf hly;obtain ⟨y0,y1,y2,y3,y4,y5,y6,y7,y8,y9,y10,yf⟩:=h2.cA1 14 rfl;have hly:=h2.lt 14 rfl;have H2:=zk h2;clear h2))
    refine wro (fun W=>W.cell? ⟨n0,1,none⟩=some (.int .i64 d.i)∧W.cell? ⟨n0,2,none⟩=some (.int .i64 d.torn)∧W.cell? ⟨n0,9,none⟩=some (.bool d.yes)) [(0,.f),(1,.f),(2,.f),(3,.f),(4,.f),(5,.f),(6,.f),(7,.s),(9,.f),(10,.f),(8,.e),(11,.f),(12,.e)] ⟨x1,x2,x9⟩ ?_;iterate 10
     first
      |(refine vg rfl rfl ?_;apply ex2;intro w' hw';obtain ⟨q1,q2,q9⟩:=hw';go_simp;rfl;go_simp)
      |(refine vs_ rfl (fun K hK=>?_);go_simp;refine hK _ ?_;clear hK K)
    refine ve rfl rfl ?_;go_wp2_with (go_at_call 45;refine (id_ok _ _).mono ?_;rintro e w' ⟨rfl,rfl⟩);refine ⟨⟨x1,x2,x9⟩,?_⟩;go_simp;first
     |(refine vg rfl rfl ?_;apply ex2;intro w' hw';obtain ⟨q1,q2,q9⟩:=hw';go_simp;rfl;go_simp)
     |(refine vs_ rfl (fun K hK=>?_);go_simp;refine hK _ ?_;clear hK K)
    refine ve rfl rfl ?_;go_wp2_with (fail);have H7:=zk ((HB.out.frt 13 rfl).set11 (.int .i64 3) (.int .i64 (wrap64 (1+wrap64 ((IntKind.u64.wrap d.torn).tmod 2)))) (.int .i64 (tid d.i)) (.int .i64 0) (.bool d.yes) (.int .i64 0) (.int .i64 0) (.int .i64 0) (.int .i64 0) (.int .i64 0) (.slice none 0 0)).drew;refine ⟨⟨H7.out.cell 14 1 rfl rfl,H7.out.cell 14 2 rfl rfl,H7.out.cell 14 9 rfl rfl⟩,?_⟩;go_simp;refine vn ?_;go_simp;go_wp2_with (fail);obtain ⟨p0,p1,p2,p3,p4,p5,p6,p7,p8,p9,p10,pf⟩:=H7.out.cA1 0 rfl;have hlp:=H7.out.lt 0 rfl;refine bodyPost_ret (v:=.agg #[.int .i64 3,.int .i64 (wrap64 (1+wrap64 ((IntKind.u64.wrap d.torn).tmod 2))),.int .i64 (tid d.i),.int .i64 0,.bool d.yes,.int .i64 0,.int .i64 0,.int .i64 0,.int .i64 0,.int .i64 0,.slice none 0 0]) ?_ rfl ?_
    ·simp [results,Tryz.results25,go_sem,p0,p1,p2,p3,p4,p5,p6,p7,p8,p9,p10]
    ·unfold CmdQ;refine ⟨none,0,?_,?_⟩
     ·rw [E2.out];rfl
     ·exact zTd32
   |false=>
    rw [cmd_2f H d hm];rw [pick_zero d.i hz];rw [hm] at ht;rw [hz] at HLN;go_enter Tryz.func25,Tryz.ntmps25;go_wp2_with (fail);generalize hW:World.alloc _ _=W1 at *;clear hW;generalize w.heap.size+1=n1 at *;generalize w.heap.size=n0 at *;go_wp2_with (first
     |(go_at_call 14;refine HPO.out.mono ?_;rintro e w' ⟨rfl,rfl⟩)
     |(go_at_call 15;refine HLN.out.mono ?_;rintro e w' ⟨rfl,rfl⟩)
     |(go_at_call 45;refine (id_ok _ _).mono ?_;rintro e w' ⟨rfl,rfl⟩)
     |(go_at_call 44;refine (small_on HB.out d.o _ HST.out).mono ?_;rintro e w2 ⟨sp2,sk2,rfl,h2⟩;simp only [Od.val];clear y0 y1 y2 y3 y4 y5 y6 y7 y8 y9 y10 yf hly;obtain ⟨y0,y1,y2,y3,y4,y5,y6,y7,y8,y9,y10,yf⟩:=h2.cA1 14 rfl;have hly:=h2.lt 14 rfl;have H2:=zk h2;clear h2))
    have H7:=zk ((HB.out.frt 13 rfl).set11 (.int .i64 5) (.int .i64 0) (.int .i64 0) (.int .i64 0) (.bool false) (.int .i64 0) (.int .i64 0) (.int .i64 0) (.int .i64 0) (.int .i64 0) (.slice none 0 0));obtain ⟨p0,p1,p2,p3,p4,p5,p6,p7,p8,p9,p10,pf⟩:=H7.out.cA1 0 rfl;have hlp:=H7.out.lt 0 rfl;refine bodyPost_ret (v:=.agg #[.int .i64 5,.int .i64 0,.int .i64 0,.int .i64 0,.bool false,.int .i64 0,.int .i64 0,.int .i64 0,.int .i64 0,.int .i64 0,.slice none 0 0]) ?_ rfl ?_
    ·simp [results,Tryz.results25,go_sem,p0,p1,p2,p3,p4,p5,p6,p7,p8,p9,p10]
    ·unfold CmdQ;refine ⟨none,0,?_,?_⟩
     ·exact rfl
     ·exact zTd32
  ·skip;rw [cmd_3 H d force hm];rw [pick_zero d.i hz];rw [hm] at ht;rw [hz] at HLN;go_enter Tryz.func25,Tryz.ntmps25;go_wp2_with (fail);generalize hW:World.alloc _ _=W1 at *;clear hW;generalize w.heap.size+1=n1 at *;generalize w.heap.size=n0 at *;go_wp2_with (first
    |(go_at_call 14;refine HPO.out.mono ?_;rintro e w' ⟨rfl,rfl⟩)
    |(go_at_call 15;refine HLN.out.mono ?_;rintro e w' ⟨rfl,rfl⟩)
    |(go_at_call 45;refine (id_ok _ _).mono ?_;rintro e w' ⟨rfl,rfl⟩)
    |(go_at_call 44;refine (small_on HB.out d.o _ HST.out).mono ?_;rintro e w2 ⟨sp2,sk2,rfl,h2⟩;simp only [Od.val];clear y0 y1 y2 y3 y4 y5 y6 y7 y8 y9 y10 yf hly;obtain ⟨y0,y1,y2,y3,y4,y5,y6,y7,y8,y9,y10,yf⟩:=h2.cA1 14 rfl;have hly:=h2.lt 14 rfl;have H2:=zk h2;clear h2))
   have H7:=zk ((HB.out.frt 13 rfl).set11 (.int .i64 6) (.int .i64 0) (.int .i64 0) (.int .i64 0) (.bool false) (.int .i64 0) (.int .i64 0) (.int .i64 0) (.int .i64 0) (.int .i64 0) (.slice none 0 0));obtain ⟨p0,p1,p2,p3,p4,p5,p6,p7,p8,p9,p10,pf⟩:=H7.out.cA1 0 rfl;have hlp:=H7.out.lt 0 rfl;refine bodyPost_ret (v:=.agg #[.int .i64 6,.int .i64 0,.int .i64 0,.int .i64 0,.bool false,.int .i64 0,.int .i64 0,.int .i64 0,.int .i64 0,.int .i64 0,.slice none 0 0]) ?_ rfl ?_
   ·simp [results,Tryz.results25,go_sem,p0,p1,p2,p3,p4,p5,p6,p7,p8,p9,p10]
   ·unfold CmdQ;refine ⟨none,0,?_,?_⟩
    ·exact rfl
    ·exact zTd32
  ·skip;rw [cmd_4 H d force hm];rw [pick_zero d.i hz];rw [hm] at ht;rw [hz] at HLN;go_enter Tryz.func25,Tryz.ntmps25;go_wp2_with (fail);generalize hW:World.alloc _ _=W1 at *;clear hW;generalize w.heap.size+1=n1 at *;generalize w.heap.size=n0 at *;go_wp2_with (first
    |(go_at_call 14;refine HPO.out.mono ?_;rintro e w' ⟨rfl,rfl⟩)
    |(go_at_call 15;refine HLN.out.mono ?_;rintro e w' ⟨rfl,rfl⟩)
    |(go_at_call 45;refine (id_ok _ _).mono ?_;rintro e w' ⟨rfl,rfl⟩)
    |(go_at_call 44;refine (small_on HB.out d.o _ HST.out).mono ?_;rintro e w2 ⟨sp2,sk2,rfl,h2⟩;simp only [Od.val];clear y0 y1 y2 y3 y4 y5 y6 y7 y8 y9 y10 yf hly;obtain ⟨y0,y1,y2,y3,y4,y5,y6,y7,y8,y9,y10,yf⟩:=h2.cA1 14 rfl;have hly:=h2.lt 14 rfl;have H2:=zk h2;clear h2))
   have H7:=zk ((HB.out.frt 13 rfl).set11 (.int .i64 7) (.int .i64 0) (.int .i64 0) (.int .i64 0) (.bool false) (.int .i64 0) (.int .i64 0) (.int .i64 0) (.int .i64 0) (.int .i64 0) (.slice none 0 0));obtain ⟨p0,p1,p2,p3,p4,p5,p6,p7,p8,p9,p10,pf⟩:=H7.out.cA1 0 rfl;have hlp:=H7.out.lt 0 rfl;refine bodyPost_ret (v:=.agg #[.int .i64 7,.int .i64 0,.int .i64 0,.int .i64 0,.bool false,.int .i64 0,.int .i64 0,.int .i64 0,.int .i64 0,.int .i64 0,.slice none 0 0]) ?_ rfl ?_
   ·simp [results,Tryz.results25,go_sem,p0,p1,p2,p3,p4,p5,p6,p7,p8,p9,p10]
   ·unfold CmdQ;refine ⟨none,0,?_,?_⟩
    ·exact rfl
    ·exact zTd32
  ·skip;rw [cmd_5 H d force hm];rw [hm] at ht;rw [hz] at HLN;exact zTd37
  ·skip;rw [cmd_6 H d force hm];rw [hm] at ht;rw [hz] at HLN;exact zTd33
  ·skip;rw [cmd_7 H d force hm];rw [hm] at ht;rw [hz] at HLN;exact zTd35
  ·skip;rw [cmd_8 H d force hm];rw [hm] at ht;rw [hz] at HLN;exact zTd31
  ·skip;rw [cmd_9 H d force hm];rw [hm] at ht;rw [hz] at HLN;exact zTd31
  ·skip;rw [cmd_10 H d force hm];rw [pick_zero d.i hz];have hne:(u64 d.dO%14==0)=false∧(u64 d.dO%14==1)=false:=by constructor<;>simp<;>omega
   rw [hz] at HLN;go_enter Tryz.func25,Tryz.ntmps25;go_wp2_with (fail);generalize hW:World.alloc _ _=W1 at *;clear hW;generalize w.heap.size+1=n1 at *;generalize w.heap.size=n0 at *;go_wp2_with (first
    |(go_at_call 14;refine HPO.out.mono ?_;rintro e w' ⟨rfl,rfl⟩)
    |(go_at_call 15;refine HLN.out.mono ?_;rintro e w' ⟨rfl,rfl⟩)
    |(go_at_call 45;refine (id_ok _ _).mono ?_;rintro e w' ⟨rfl,rfl⟩)
    |(go_at_call 44;refine (small_on HB.out d.o _ HST.out).mono ?_;rintro e w2 ⟨sp2,sk2,rfl,h2⟩;simp only [Od.val];clear y0 y1 y2 y3 y4 y5 y6 y7 y8 y9 y10 yf hly;obtain ⟨y0,y1,y2,y3,y4,y5,y6,y7,y8,y9,y10,yf⟩:=h2.cA1 14 rfl;have hly:=h2.lt 14 rfl;have H2:=zk h2;clear h2))
   have H7:=zk ((HB.out.frt 13 rfl).set11 (.int .i64 5) (.int .i64 0) (.int .i64 0) (.int .i64 0) (.bool false) (.int .i64 0) (.int .i64 0) (.int .i64 0) (.int .i64 0) (.int .i64 0) (.slice none 0 0));obtain ⟨p0,p1,p2,p3,p4,p5,p6,p7,p8,p9,p10,pf⟩:=H7.out.cA1 0 rfl;have hlp:=H7.out.lt 0 rfl;refine bodyPost_ret (v:=.agg #[.int .i64 5,.int .i64 0,.int .i64 0,.int .i64 0,.bool false,.int .i64 0,.int .i64 0,.int .i64 0,.int .i64 0,.int .i64 0,.slice none 0 0]) ?_ rfl ?_
   ·simp [results,Tryz.results25,go_sem,p0,p1,p2,p3,p4,p5,p6,p7,p8,p9,p10]
   ·unfold CmdQ;refine ⟨none,0,?_,?_⟩
    ·exact rfl
    ·exact zTd32
 ·rcases hm with hm|hm|hm|hm|hm|hm|hm|hm|hm|hm|hm
  ·skip;rw [cmd_0 H d force hm];rw [hm] at ht;generalize H.p.l.length=n at *;have hnp:(0:Int)<(n:Int):=by omega
   have EP:As (wrap64 ((IntKind.u64.wrap d.i).tmod (n:Int))=u64 d.i%(n:Int)):=⟨by
    have hb:=Int.emod_nonneg (u64 d.i) (by omega:(n:Int)≠0);have hb2:=Int.emod_lt_of_pos (u64 d.i) hnp;rw [u64_tmod,wsm (by omega) (by omega)]⟩
   have hnw:¬IntKind.u64.wrap (n:Int)=0:=by rw [IntKind.wrap_u64];omega
   exact zTd34
  ·skip;rw [cmd_1 H d force hm];rw [hm] at ht;generalize H.p.l.length=n at *;have hnp:(0:Int)<(n:Int):=by omega
   have EP:As (wrap64 ((IntKind.u64.wrap d.i).tmod (n:Int))=u64 d.i%(n:Int)):=⟨by
    have hb:=Int.emod_nonneg (u64 d.i) (by omega:(n:Int)≠0);have hb2:=Int.emod_lt_of_pos (u64 d.i) hnp;rw [u64_tmod,wsm (by omega) (by omega)]⟩
   have hnw:¬IntKind.u64.wrap (n:Int)=0:=by rw [IntKind.wrap_u64];omega
   exact zTd36
  ·cases force with
   |true=>
    rw [cmd_2t H d hm];rw [hm] at ht;generalize H.p.l.length=n at *;have hnp:(0:Int)<(n:Int):=by omega
    have EP:As (wrap64 ((IntKind.u64.wrap d.i).tmod (n:Int))=u64 d.i%(n:Int)):=⟨by
     have hb:=Int.emod_nonneg (u64 d.i) (by omega:(n:Int)≠0);have hb2:=Int.emod_lt_of_pos (u64 d.i) hnp;rw [u64_tmod,wsm (by omega) (by omega)]⟩
    have hnw:¬IntKind.u64.wrap (n:Int)=0:=by rw [IntKind.wrap_u64];omega
    go_enter Tryz.func25,Tryz.ntmps25;go_wp2_with (fail);generalize hW:World.alloc _ _=W1 at *;clear hW;generalize w.heap.size+1=n1 at *;generalize w.heap.size=n0 at *;go_wp2_with (first
     |(go_at_call 14;refine HPO.out.mono ?_;rintro e w' ⟨rfl,rfl⟩)
     |(go_at_call 15;refine HLN.out.mono ?_;rintro e w' ⟨rfl,rfl⟩)
     |(go_at_call 45;refine (id_ok _ _).mono ?_;rintro e w' ⟨rfl,rfl⟩)
     |(go_at_call 44;refine (small_on HB.out d.o _ HST.out).mono ?_;rintro e w2 ⟨sp2,sk2,rfl,h2⟩;simp only [Od.val];clear y0 y1 y2 y3 y4 y5 y6 y7 y8 y9 y10 yf hly;obtain ⟨y0,y1,y2,y3,y4,y5,y6,y7,y8,y9,y10,yf⟩:=h2.cA1 14 rfl;have hly:=h2.lt 14 rfl;have H2:=zk h2;clear h2))
    refine wro (fun W=>W.cell? ⟨n0,1,none⟩=some (.int .i64 d.i)∧W.cell? ⟨n0,2,none⟩=some (.int .i64 d.torn)∧W.cell? ⟨n0,9,none⟩=some (.bool d.yes)) [(0,.f),(1,.f),(2,.f),(3,.f),(4,.f),(5,.f),(6,.f),(7,.s),(9,.f),(10,.f),(8,.e),(11,.f),(12,.e)] ⟨x1,x2,x9⟩ ?_;iterate 10
     first
      |(refine vg rfl rfl ?_;apply ex2;intro w' hw';obtain ⟨q1,q2,q9⟩:=hw';go_simp;rfl;go_simp)
      |(refine vs_ rfl (fun K hK=>?_);go_simp;refine hK _ ?_;clear hK K)
    refine ve rfl rfl ?_;go_wp2_with (go_at_call 45;refine (id_ok _ _).mono ?_;rintro e w' ⟨rfl,rfl⟩);refine ⟨⟨x1,x2,x9⟩,?_⟩;go_simp;first
     |(refine vg rfl rfl ?_;apply ex2;intro w' hw';obtain ⟨q1,q2,q9⟩:=hw';go_simp;rfl;go_simp)
     |(refine vs_ rfl (fun K hK=>?_);go_simp;refine hK _ ?_;clear hK K)
    refine ve rfl rfl ?_;go_wp2_with (fail);have H7:=zk ((HB.out.frt 13 rfl).set11 (.int .i64 3) (.int .i64 (wrap64 (1+wrap64 ((IntKind.u64.wrap d.torn).tmod 2)))) (.int .i64 (tid d.i)) (.int .i64 0) (.bool d.yes) (.int .i64 0) (.int .i64 0) (.int .i64 0) (.int .i64 0) (.int .i64 0) (.slice none 0 0)).drew;refine ⟨⟨H7.out.cell 14 1 rfl rfl,H7.out.cell 14 2 rfl rfl,H7.out.cell 14 9 rfl rfl⟩,?_⟩;go_simp;refine vn ?_;go_simp;go_wp2_with (fail);obtain ⟨p0,p1,p2,p3,p4,p5,p6,p7,p8,p9,p10,pf⟩:=H7.out.cA1 0 rfl;have hlp:=H7.out.lt 0 rfl;refine bodyPost_ret (v:=.agg #[.int .i64 3,.int .i64 (wrap64 (1+wrap64 ((IntKind.u64.wrap d.torn).tmod 2))),.int .i64 (tid d.i),.int .i64 0,.bool d.yes,.int .i64 0,.int .i64 0,.int .i64 0,.int .i64 0,.int .i64 0,.slice none 0 0]) ?_ rfl ?_
    ·simp [results,Tryz.results25,go_sem,p0,p1,p2,p3,p4,p5,p6,p7,p8,p9,p10]
    ·unfold CmdQ;refine ⟨none,0,?_,?_⟩
     ·rw [E2.out];rfl
     ·exact zTd32
   |false=>
    rw [cmd_2f H d hm];rw [pick_pos d.i hz];rw [hm] at ht;generalize H.p.l.length=n at *;have hnp:(0:Int)<(n:Int):=by omega
    have EP:As (wrap64 ((IntKind.u64.wrap d.i).tmod (n:Int))=u64 d.i%(n:Int)):=⟨by
     have hb:=Int.emod_nonneg (u64 d.i) (by omega:(n:Int)≠0);have hb2:=Int.emod_lt_of_pos (u64 d.i) hnp;rw [u64_tmod,wsm (by omega) (by omega)]⟩
    have hnw:¬IntKind.u64.wrap (n:Int)=0:=by rw [IntKind.wrap_u64];omega
    go_enter Tryz.func25,Tryz.ntmps25;go_wp2_with (fail);generalize hW:World.alloc _ _=W1 at *;clear hW;generalize w.heap.size+1=n1 at *;generalize w.heap.size=n0 at *;go_wp2_with (first
     |(go_at_call 14;refine HPO.out.mono ?_;rintro e w' ⟨rfl,rfl⟩)
     |(go_at_call 15;refine HLN.out.mono ?_;rintro e w' ⟨rfl,rfl⟩)
     |(go_at_call 45;refine (id_ok _ _).mono ?_;rintro e w' ⟨rfl,rfl⟩)
     |(go_at_call 44;refine (small_on HB.out d.o _ HST.out).mono ?_;rintro e w2 ⟨sp2,sk2,rfl,h2⟩;simp only [Od.val];clear y0 y1 y2 y3 y4 y5 y6 y7 y8 y9 y10 yf hly;obtain ⟨y0,y1,y2,y3,y4,y5,y6,y7,y8,y9,y10,yf⟩:=h2.cA1 14 rfl;have hly:=h2.lt 14 rfl;have H2:=zk h2;clear h2))
    have H7:=zk ((HB.out.frt 13 rfl).set11 (.int .i64 5) (.int .i64 0) (.int .i64 0) (.int .i64 (wrap64 ((IntKind.u64.wrap d.i).tmod (n:Int)))) (.bool false) (.int .i64 0) (.int .i64 0) (.int .i64 0) (.int .i64 0) (.int .i64 0) (.slice none 0 0));obtain ⟨p0,p1,p2,p3,p4,p5,p6,p7,p8,p9,p10,pf⟩:=H7.out.cA1 0 rfl;have hlp:=H7.out.lt 0 rfl;refine bodyPost_ret (v:=.agg #[.int .i64 5,.int .i64 0,.int .i64 0,.int .i64 (wrap64 ((IntKind.u64.wrap d.i).tmod (n:Int))),.bool false,.int .i64 0,.int .i64 0,.int .i64 0,.int .i64 0,.int .i64 0,.slice none 0 0]) ?_ rfl ?_
    ·simp [results,Tryz.results25,go_sem,p0,p1,p2,p3,p4,p5,p6,p7,p8,p9,p10]
    ·unfold CmdQ;refine ⟨none,0,?_,?_⟩
     ·rw [EP.out];rfl
     ·exact zTd32
  ·skip;rw [cmd_3 H d force hm];rw [pick_pos d.i hz];rw [hm] at ht;generalize H.p.l.length=n at *;have hnp:(0:Int)<(n:Int):=by omega
   have EP:As (wrap64 ((IntKind.u64.wrap d.i).tmod (n:Int))=u64 d.i%(n:Int)):=⟨by
    have hb:=Int.emod_nonneg (u64 d.i) (by omega:(n:Int)≠0);have hb2:=Int.emod_lt_of_pos (u64 d.i) hnp;rw [u64_tmod,wsm (by omega) (by omega)]⟩
   have hnw:¬IntKind.u64.wrap (n:Int)=0:=by rw [IntKind.wrap_u64];omega
   go_enter Tryz.func25,Tryz.ntmps25;go_wp2_with (fail);generalize hW:World.alloc _ _=W1 at *;clear hW;generalize w.heap.size+1=n1 at *;generalize w.heap.size=n0 at *;go_wp2_with (first
    |(go_at_call 14;refine HPO.out.mono ?_;rintro e w' ⟨rfl,rfl⟩)
    |(go_at_call 15;refine HLN.out.mono ?_;rintro e w' ⟨rfl,rfl⟩)
    |(go_at_call 45;refine (id_ok _ _).mono ?_;rintro e w' ⟨rfl,rfl⟩)
    |(go_at_call 44;refine (small_on HB.out d.o _ HST.out).mono ?_;rintro e w2 ⟨sp2,sk2,rfl,h2⟩;simp only [Od.val];clear y0 y1 y2 y3 y4 y5 y6 y7 y8 y9 y10 yf hly;obtain ⟨y0,y1,y2,y3,y4,y5,y6,y7,y8,y9,y10,yf⟩:=h2.cA1 14 rfl;have hly:=h2.lt 14 rfl;have H2:=zk h2;clear h2))
   have H7:=zk ((HB.out.frt 13 rfl).set11 (.int .i64 6) (.int .i64 0) (.int .i64 0) (.int .i64 (wrap64 ((IntKind.u64.wrap d.i).tmod (n:Int)))) (.bool false) (.int .i64 0) (.int .i64 0) (.int .i64 0) (.int .i64 0) (.int .i64 0) (.slice none 0 0));obtain ⟨p0,p1,p2,p3,p4,p5,p6,p7,p8,p9,p10,pf⟩:=H7.out.cA1 0 rfl;have hlp:=H7.out.lt 0 rfl;refine bodyPost_ret (v:=.agg #[.int .i64 6,.int .i64 0,.int .i64 0,.int .i64 (wrap64 ((IntKind.u64.wrap d.i).tmod (n:Int))),.bool false,.int .i64 0,.int .i64 0,.int .i64 0,.int .i64 0,.int .i64 0,.slice none 0 0]) ?_ rfl ?_
   ·simp [results,Tryz.results25,go_sem,p0,p1,p2,p3,p4,p5,p6,p7,p8,p9,p10]
   ·unfold CmdQ;refine ⟨none,0,?_,?_⟩
    ·rw [EP.out];rfl
    ·exact zTd32
  ·skip;rw [cmd_4 H d force hm];rw [pick_pos d.i hz];rw [hm] at ht;generalize H.p.l.length=n at *;have hnp:(0:Int)<(n:Int):=by omega
   have EP:As (wrap64 ((IntKind.u64.wrap d.i).tmod (n:Int))=u64 d.i%(n:Int)):=⟨by
    have hb:=Int.emod_nonneg (u64 d.i) (by omega:(n:Int)≠0);have hb2:=Int.emod_lt_of_pos (u64 d.i) hnp;rw [u64_tmod,wsm (by omega) (by omega)]⟩
   have hnw:¬IntKind.u64.wrap (n:Int)=0:=by rw [IntKind.wrap_u64];omega
   go_enter Tryz.func25,Tryz.ntmps25;go_wp2_with (fail);generalize hW:World.alloc _ _=W1 at *;clear hW;generalize w.heap.size+1=n1 at *;generalize w.heap.size=n0 at *;go_wp2_with (first
    |(go_at_call 14;refine HPO.out.mono ?_;rintro e w' ⟨rfl,rfl⟩)
    |(go_at_call 15;refine HLN.out.mono ?_;rintro e w' ⟨rfl,rfl⟩)
    |(go_at_call 45;refine (id_ok _ _).mono ?_;rintro e w' ⟨rfl,rfl⟩)
    |(go_at_call 44;refine (small_on HB.out d.o _ HST.out).mono ?_;rintro e w2 ⟨sp2,sk2,rfl,h2⟩;simp only [Od.val];clear y0 y1 y2 y3 y4 y5 y6 y7 y8 y9 y10 yf hly;obtain ⟨y0,y1,y2,y3,y4,y5,y6,y7,y8,y9,y10,yf⟩:=h2.cA1 14 rfl;have hly:=h2.lt 14 rfl;have H2:=zk h2;clear h2))
   have H7:=zk ((HB.out.frt 13 rfl).set11 (.int .i64 7) (.int .i64 0) (.int .i64 0) (.int .i64 (wrap64 ((IntKind.u64.wrap d.i).tmod (n:Int)))) (.bool false) (.int .i64 0) (.int .i64 0) (.int .i64 0) (.int .i64 0) (.int .i64 0) (.slice none 0 0));obtain ⟨p0,p1,p2,p3,p4,p5,p6,p7,p8,p9,p10,pf⟩:=H7.out.cA1 0 rfl;have hlp:=H7.out.lt 0 rfl;refine bodyPost_ret (v:=.agg #[.int .i64 7,.int .i64 0,.int .i64 0,.int .i64 (wrap64 ((IntKind.u64.wrap d.i).tmod (n:Int))),.bool false,.int .i64 0,.int .i64 0,.int .i64 0,.int .i64 0,.int .i64 0,.slice none 0 0]) ?_ rfl ?_
   ·simp [results,Tryz.results25,go_sem,p0,p1,p2,p3,p4,p5,p6,p7,p8,p9,p10]
   ·unfold CmdQ;refine ⟨none,0,?_,?_⟩
    ·rw [EP.out];rfl
    ·exact zTd32
  ·skip;rw [cmd_5 H d force hm];rw [hm] at ht;generalize H.p.l.length=n at *;have hnp:(0:Int)<(n:Int):=by omega
   have EP:As (wrap64 ((IntKind.u64.wrap d.i).tmod (n:Int))=u64 d.i%(n:Int)):=⟨by
    have hb:=Int.emod_nonneg (u64 d.i) (by omega:(n:Int)≠0);have hb2:=Int.emod_lt_of_pos (u64 d.i) hnp;rw [u64_tmod,wsm (by omega) (by omega)]⟩
   have hnw:¬IntKind.u64.wrap (n:Int)=0:=by rw [IntKind.wrap_u64];omega
   exact zTd37
  ·skip;rw [cmd_6 H d force hm];rw [hm] at ht;generalize H.p.l.length=n at *;have hnp:(0:Int)<(n:Int):=by omega
   have EP:As (wrap64 ((IntKind.u64.wrap d.i).tmod (n:Int))=u64 d.i%(n:Int)):=⟨by
    have hb:=Int.emod_nonneg (u64 d.i) (by omega:(n:Int)≠0);have hb2:=Int.emod_lt_of_pos (u64 d.i) hnp;rw [u64_tmod,wsm (by omega) (by omega)]⟩
   have hnw:¬IntKind.u64.wrap (n:Int)=0:=by rw [IntKind.wrap_u64];omega
   exact zTd33
  ·skip;rw [cmd_7 H d force hm];rw [hm] at ht;generalize H.p.l.length=n at *;have hnp:(0:Int)<(n:Int):=by omega
   have EP:As (wrap64 ((IntKind.u64.wrap d.i).tmod (n:Int))=u64 d.i%(n:Int)):=⟨by
    have hb:=Int.emod_nonneg (u64 d.i) (by omega:(n:Int)≠0);have hb2:=Int.emod_lt_of_pos (u64 d.i) hnp;rw [u64_tmod,wsm (by omega) (by omega)]⟩
   have hnw:¬IntKind.u64.wrap (n:Int)=0:=by rw [IntKind.wrap_u64];omega
   exact zTd35
  ·skip;rw [cmd_8 H d force hm];exact zTd39
  ·skip;rw [cmd_9 H d force hm];exact zTd39
  ·skip;rw [cmd_10 H d force hm];rw [pick_pos d.i hz];have hne:(u64 d.dO%14==0)=false∧(u64 d.dO%14==1)=false:=by constructor<;>simp<;>omega
   generalize H.p.l.length=n at *;have hnp:(0:Int)<(n:Int):=by omega
   have EP:As (wrap64 ((IntKind.u64.wrap d.i).tmod (n:Int))=u64 d.i%(n:Int)):=⟨by
    have hb:=Int.emod_nonneg (u64 d.i) (by omega:(n:Int)≠0);have hb2:=Int.emod_lt_of_pos (u64 d.i) hnp;rw [u64_tmod,wsm (by omega) (by omega)]⟩
   have hnw:¬IntKind.u64.wrap (n:Int)=0:=by rw [IntKind.wrap_u64];omega
   go_enter Tryz.func25,Tryz.ntmps25;go_wp2_with (fail);generalize hW:World.alloc _ _=W1 at *;clear hW;generalize w.heap.size+1=n1 at *;generalize w.heap.size=n0 at *;go_wp2_with (first
    |(go_at_call 14;refine HPO.out.mono ?_;rintro e w' ⟨rfl,rfl⟩)
    |(go_at_call 15;refine HLN.out.mono ?_;rintro e w' ⟨rfl,rfl⟩)
    |(go_at_call 45;refine (id_ok _ _).mono ?_;rintro e w' ⟨rfl,rfl⟩)
    |(go_at_call 44;refine (small_on HB.out d.o _ HST.out).mono ?_;rintro e w2 ⟨sp2,sk2,rfl,h2⟩;simp only [Od.val];clear y0 y1 y2 y3 y4 y5 y6 y7 y8 y9 y10 yf hly;obtain ⟨y0,y1,y2,y3,y4,y5,y6,y7,y8,y9,y10,yf⟩:=h2.cA1 14 rfl;have hly:=h2.lt 14 rfl;have H2:=zk h2;clear h2))
   have H7:=zk ((HB.out.frt 13 rfl).set11 (.int .i64 5) (.int .i64 0) (.int .i64 0) (.int .i64 (wrap64 ((IntKind.u64.wrap d.i).tmod (n:Int)))) (.bool false) (.int .i64 0) (.int .i64 0) (.int .i64 0) (.int .i64 0) (.int .i64 0) (.slice none 0 0));obtain ⟨p0,p1,p2,p3,p4,p5,p6,p7,p8,p9,p10,pf⟩:=H7.out.cA1 0 rfl;have hlp:=H7.out.lt 0 rfl;refine bodyPost_ret (v:=.agg #[.int .i64 5,.int .i64 0,.int .i64 0,.int .i64 (wrap64 ((IntKind.u64.wrap d.i).tmod (n:Int))),.bool false,.int .i64 0,.int .i64 0,.int .i64 0,.int .i64 0,.int .i64 0,.slice none 0 0]) ?_ rfl ?_
   ·simp [results,Tryz.results25,go_sem,p0,p1,p2,p3,p4,p5,p6,p7,p8,p9,p10]
   ·unfold CmdQ;refine ⟨none,0,?_,?_⟩
    ·rw [EP.out];rfl
    ·exact zTd32
end
theorem Heap.onPerm {w0 w:World} {q:HA} {H:Harb} {l l':List SA} (h:Heap w0 (H.on q l) w) (e:l.Perm l'):Heap w0 (H.on q l') w:=by
 refine h.perm ?_;unfold Harb.on;exact .cons _ (.cons _ (.cons _ (.cons _ (.cons _ (.cons _ (.cons _ (.cons _ (.cons _ (.cons _ (.cons _ (.cons _ (.cons _ e))))))))))))
section
variable {w0 w:World} {q:HA} {H:Harb} {R:List SA}
theorem do_cmd (hf:Fine H) (d:Deed) (force:Bool) {sp:Option Addr} {sk:Nat} (h:Heap w0 (H.on q (.slc (.slice sp (H.cmd d force).o.steps.length sk) 131 2 (H.cmd d force).o.steps.length (scells (H.cmd d force).o.steps)::R)) w):
 Calls Tryz.prog 18 #[.pointer (some ⟨q.b,0,none⟩),(H.cmd d force).val (.slice sp (H.cmd d force).o.steps.length sk)] w fun e w'=>e=.returned (.int .i64 (H.act (H.cmd d force)).1)∧Heap w0 ((H.act (H.cmd d force)).2.on q (.slc (.slice sp (H.cmd d force).o.steps.length sk) 131 2 (H.cmd d force).o.steps.length (scells (H.cmd d force).o.steps)::R)) w':=by
 have hm:u64 d.dO%14=0∨u64 d.dO%14=1∨u64 d.dO%14=2∨u64 d.dO%14=3∨u64 d.dO%14=4∨u64 d.dO%14=5∨u64 d.dO%14=6∨u64 d.dO%14=7∨u64 d.dO%14=8∨u64 d.dO%14=9∨10≤u64 d.dO%14:=by omega
 have t:=tid_in d.i;have hu:0≤u64 d.torn%2∧u64 d.torn%2<2:=by omega
 have h7:0≤u64 d.i%7∧u64 d.i%7<7:=by omega
 rcases hm with hm|hm|hm|hm|hm|hm|hm|hm|hm|hm|hm
 ·rw [cmd_0 H d force hm] at h⊢;exact do_submit hf h (small_ok d.o)
 ·rw [cmd_1 H d force hm] at h⊢;exact do_cancel hf h (by simp only;omega) (by simp only;omega)
 ·cases force
  ·rw [cmd_2f H d hm] at h⊢;exact do_take5 hf h
  ·rw [cmd_2t H d hm] at h⊢;exact do_force hf h (by simp only;omega) (by simp only;omega) (by simp only;omega)
 ·rw [cmd_3 H d force hm] at h⊢;exact do_take6 hf h
 ·rw [cmd_4 H d force hm] at h⊢;exact do_take7 hf h
 ·rw [cmd_5 H d force hm] at h⊢;exact do_ring hf h (.inl rfl) (by simp only;omega) (by simp only;omega)
 ·rw [cmd_6 H d force hm] at h⊢;have hn:1+u64 d.torn%2=0∨1+u64 d.torn%2=1∨1+u64 d.torn%2=2:=by omega
  exact do_ring hf h hn (by simp only;omega) (by simp only;omega)
 ·rw [cmd_7 H d force hm] at h⊢;exact do_power9 hf h (by simp only;omega) (by simp only;omega)
 ·rw [cmd_8 H d force hm] at h⊢;exact do_power10 hf h (by simp only;omega) (by simp only;omega)
 ·rw [cmd_9 H d force hm] at h⊢;exact do_power10 hf h (by simp only;omega) (by simp only;omega)
 ·rw [cmd_10 H d force hm] at h⊢;exact do_take5 hf h
end
def Harb.stepD (force:Bool) (x:Harb×List Od) (d:Deed):Harb×List Od:=
 ((x.1.act (x.1.cmd d force)).2,if (x.1.act (x.1.cmd d force)).1=0∧(x.1.cmd d force).kind=1 then x.2++ [(x.1.cmd d force).o] else x.2)
def Harb.playH (H:Harb) (force:Bool) (ds:List Deed):Harb×List Od:=ds.foldl (Harb.stepD force) (H,[])
def Harb.playK (H:Harb) (force:Bool) (ds:List Deed) (k:Nat):Harb×List Od:=H.playH force (ds.take k)
theorem playK_succ (H:Harb) (force:Bool) {ds:List Deed} {k:Nat} (hk:k<ds.length):H.playK force ds (k+1)=Harb.stepD force (H.playK force ds k) (ds[k]'hk):=by
 unfold Harb.playK Harb.playH;rw [List.take_succ_eq_append_getElem hk,List.foldl_append];rfl
theorem playK_fine {H:Harb} (h:Fine H) (force:Bool) (ds:List Deed):∀k,Fine (H.playK force ds k).1:=by
 intro k;unfold Harb.playK Harb.playH;generalize ds.take k=l;have key:∀(l:List Deed) (x:Harb×List Od),Fine x.1→Fine (l.foldl (Harb.stepD force) x).1:=by
  intro l
  induction l with
  |nil=>intro x hx;exact hx
  |cons d r ih=>intro x hx;exact ih _ (hx.act (cmd_ok _ _ _))
 exact key l (H,[]) h
theorem playK_len (H:Harb) (force:Bool) (ds:List Deed):∀k,(H.playK force ds k).2.length≤k:=by
 intro k;unfold Harb.playK Harb.playH;have key:∀(l:List Deed) (x:Harb×List Od),(l.foldl (Harb.stepD force) x).2.length≤x.2.length+l.length:=by
  intro l
  induction l with
  |nil=>intro x;exact Nat.le_refl _
  |cons d r ih=>
   intro x;have h1:=ih (Harb.stepD force x d);have h2:(Harb.stepD force x d).2.length≤x.2.length+1:=by
    unfold Harb.stepD;simp only;split
    ·simp
    ·omega
   simp only [List.foldl_cons,List.length_cons];omega
 have:=key (ds.take k) (H,[]);rw [List.length_take] at this;simp only [List.length_nil] at this;omega
def ocells (l:List (Od×Value)):List Value:=l.flatMap fun p=> [.int .i64 p.1.id,.int .i64 p.1.item,.int .i64 p.1.qty,.int .i64 p.1.client,.int .i64 p.1.price,p.2]
theorem info32:(Tryz.prog.info? 32).map (fun i=>(i.zero,i.size,i.bytes))=some (some (.agg #[.int .i64 0,.int .i64 0,.int .i64 0,.int .i64 0,.int .i64 0,.slice none 0 0]),6,64):=by kernel_rfl
def Began (w0:World) (q:HA) (R:List SA) (x:Harb×List Od) (v:Value) (L:List (Od×Value)) (w:World):Prop:=L.map (·.1)=x.2∧(∀p∈L,∃sp n sk,p.2=.slice sp n sk)∧Heap w0 (.slc v 32 6 L.length (ocells L)::x.1.on q R) w
def PlayQ (w0:World) (q:HA) (R:List SA) (x:Harb×List Od) (e:Ending) (w':World):Prop:=∃v L,e=.returned v∧Began w0 q R x v L w'
section
variable {w0 w:World} {q:HA} {H:Harb} {R:List SA}
theorem play_ok {a:Option Addr} {cap:Nat} {ds:List Deed} (hd:DeedsAt w0 a cap ds) (hf:Fine H) (h:Heap w0 (H.on q R) w) (force:Bool) (hl:ds.length≤150):
 Calls Tryz.prog 9 #[.pointer (some ⟨q.b,0,none⟩),.slice a ds.length cap,.bool force] w (PlayQ w0 q R (H.playH force ds)):=by
 have HD:=zk hd;have H0:=zk (h.nRw 32 6);have HFK:=zk (playK_fine hf force ds);have HLK:=zk (playK_len H force ds);have HSK:As (∀k (hk:k<ds.length),H.playK force ds (k+1)=Harb.stepD force (H.playK force ds k) (ds[k]'hk)):=⟨fun k hk=>playK_succ H force hk⟩;have HEND:As (H.playK force ds ds.length=H.playH force ds):=⟨by unfold Harb.playK;rw [List.take_length]⟩;have H0z:As (Began w0 q R (H.playK force ds 0) (.slice none 0 0) [] w):=⟨rfl,by simp,H0.out⟩;obtain ⟨i0,hi0,hi1,hi2,hi3⟩:=info_parts info32;have HI:=zk (And.intro hi0 (And.intro hi1 (And.intro hi2 hi3)));clear hi0 hi1 hi2 hi3;clear h hd hf H0;generalize H.playH force ds=XE at *;go_enter Tryz.func9,Tryz.ntmps9;go_wp2_with (fail)
 go_loopg [7,9,10,13] ds.length (fun gk v a9 a10 u wr=>∃(k:Nat) (L:List (Od×Value)),u=.int .i64 k∧k≤ds.length∧As (gk+k=ds.length)∧As (Began w0 q R (H.playK force ds k) v L wr))
 case atStart=>exact ⟨0,[],rfl,Nat.zero_le _,⟨rfl⟩,H0z⟩
 case round=>
  obtain ⟨k,L,rfl,hk,HG,HR⟩:=hrel;clear H0z;have HLL:As (L.length≤k):=⟨by have:=HLK.out k;have h2:=congrArg List.length HR.out.1;simp at h2;omega⟩;obtain ⟨vp,vk,rfl⟩:=vS2 (HR.out.2.2.row 0 rfl);by_cases hlt:k<ds.length
  ·have HSU:=zk (HSK.out k hlt);have HFI:=zk (HFK.out k);generalize H.playK force ds k=X at *;obtain ⟨G,os⟩:=X;have HRH:As (Heap w0 (.slc (.slice vp L.length vk) 32 6 L.length (ocells L)::G.on q R) wr):=⟨HR.out.2.2⟩;obtain ⟨a1,v,rfl,hd0⟩:=HD.out.2.2 k hlt;have hda:=hd0.below HRH.out.bel;have HST:=zk hd0.st;have HLE:As (L.map (·.1)=os∧∀p∈L,∃sp n sk,p.2=.slice sp n sk):=⟨HR.out.1,HR.out.2.1⟩;have HFG:As (Fine G):=⟨HFI.out⟩;clear HR HFI hd0;generalize ds[k]'hlt=d at *;have HN:=zk ((HRH.out.new (.cells #[.int .i64 d.dO,.int .i64 d.i,.int .i64 d.torn,.int .i64 d.o.id,.int .i64 d.o.item,.int .i64 d.o.qty,.int .i64 d.o.client,.int .i64 d.o.price,v,.bool d.yes] 58)).boxed2);obtain ⟨hblk,c0,c1,c2,c3,c4,c5,c6,c7,c8,c9,hst⟩:=hda;obtain ⟨sp,sk,rfl, -⟩:=hst;go_wp2_with (first
    |(go_at_call 25;refine (command_ok HN.out d _ HST.out force).mono ?_;rintro e w2 ⟨sp2,sk2,rfl,h2⟩;unfold Cmd.val;have H2:=zk h2;have H3:=zk ((h2.new (.cells #[.int .i64 (G.cmd d force).kind,.int .i64 (G.cmd d force).node,.int .i64 (G.cmd d force).id,.int .i64 (G.cmd d force).i,.bool (G.cmd d force).yes,.int .i64 (G.cmd d force).o.id,.int .i64 (G.cmd d force).o.item,.int .i64 (G.cmd d force).o.qty,.int .i64 (G.cmd d force).o.client,.int .i64 (G.cmd d force).o.price,.slice sp2 (G.cmd d force).o.steps.length sk2] 45)).boxed);clear h2 c0 c1 c2 c3 c4 c5 c6 c7 c8 c9))
   have HDC:=zk (do_cmd HFG.out d force (H3.out.onPerm (.swap _ _ _)));unfold Harb.stepD at HSU;simp only at HSU;generalize G.cmd d force=c at *;generalize G.act c=A at *;obtain ⟨r,G'⟩:=A;obtain ⟨ck,cn,ci,cj,cy,co⟩:=c;simp only at HSU HDC H3 H2⊢;have hn2:=H3.out.lt 13 rfl;by_cases hr:r=0
   ·subst hr;by_cases hk1:ck=1
    ·subst hk1;go_wp2_with (first
      |(go_at_call 18;refine HDC.out.mono ?_;rintro e w4 ⟨rfl,h4⟩;have H4:=zk h4;obtain ⟨z0,z1,z2,z3,z4,z5,z6,z7,z8,z9,z10,zf⟩:=h4.cA1 14 rfl;have hlz:=h4.lt 14 rfl;clear h4)
      |(at_builtin;refine wla (H4.out.new (.cells #[.int .i64 co.id,.int .i64 co.item,.int .i64 co.qty,.int .i64 co.client,.int .i64 co.price,.slice sp2 co.steps.length sk2] 32)) 17 _ 32 6 L.length _ rfl rfl _ _ 27 rfl _ _ 64 Tryz.underlying27 HI.out.1 HI.out.2.1 HI.out.2.2.1 HI.out.2.2.2 rfl (by decide) rfl ⟨w4.heap.size,0,none⟩ 1 1 [.int .i64 co.id,.int .i64 co.item,.int .i64 co.qty,.int .i64 co.client,.int .i64 co.price,.slice sp2 co.steps.length sk2] rfl rfl (fun j u hu=>by rw [addr_add];exact (H4.out.new (.cells #[.int .i64 co.id,.int .i64 co.item,.int .i64 co.qty,.int .i64 co.client,.int .i64 co.price,.slice sp2 co.steps.length sk2] 32)).cell 0 j rfl (by simpa using hu)) (by simp [Value.oneCell']) (by have:=HLL.out;omega) (by decide) (by omega) ?_;intro g2 cap2 w5 h5 _;have H5:=zk h5;clear h5))
     go_roundg (ds.length-(k+1))
     case measure=>have:=HG.out;omega
     case rel=>
      refine ⟨k+1,L++ [(co,.slice sp2 co.steps.length sk2)],by go_num,by omega,⟨by omega⟩,⟨?_⟩⟩;rw [HSU.out,if_pos (by simp)];refine ⟨by rw [List.map_append,HLE.out.1];rfl,fun p hp=>?_,?_⟩
      ·rcases List.mem_append.1 hp with h|h
       ·exact HLE.out.2 p h
       ·rw [List.mem_singleton.1 h];exact ⟨_,_,_,rfl⟩
      ·have h6:=H5.out.sel (p:= [_,_,_,_,_,_,_,_,_,_,_,_,_,_,_,_,_,_]) [17,1,2,3,4,5,6,7,8,9,10,11,12,13] 18 rfl (by decide);unfold ocells at h6⊢;rw [List.flatMap_append,List.length_append];exact h6
    ·have hkb:(ck==1)=false:=by simpa using hk1
     have HKN:=zk hk1;go_wp2_with (first
      |(go_at_call 18;refine HDC.out.mono ?_;rintro e w4 ⟨rfl,h4⟩;have H4:=zk h4;obtain ⟨z0,z1,z2,z3,z4,z5,z6,z7,z8,z9,z10,zf⟩:=h4.cA1 14 rfl;have hlz:=h4.lt 14 rfl;clear h4))
     go_roundg (ds.length-(k+1))
     case measure=>have:=HG.out;omega
     case rel=>
      refine ⟨k+1,L,by go_num,by omega,⟨by omega⟩,⟨?_⟩⟩;rw [HSU.out,if_neg (fun e=>HKN.out e.2)];exact ⟨HLE.out.1,HLE.out.2,H4.out.sel (p:= [_,_,_,_,_,_,_,_,_,_,_,_,_,_,_,_,_]) [16,0,1,2,3,4,5,6,7,8,9,10,11,12] 17 rfl (by decide)⟩
   ·have hrb:(r==0)=false:=by simpa using hr
    have HRN:=zk hr;go_wp2_with (first
     |(go_at_call 18;refine HDC.out.mono ?_;rintro e w4 ⟨rfl,h4⟩;have H4:=zk h4;obtain ⟨z0,z1,z2,z3,z4,z5,z6,z7,z8,z9,z10,zf⟩:=h4.cA1 14 rfl;have hlz:=h4.lt 14 rfl;clear h4))
    go_roundg (ds.length-(k+1))
    case measure=>have:=HG.out;omega
    case rel=>
     refine ⟨k+1,L,by go_num,by omega,⟨by omega⟩,⟨?_⟩⟩;rw [HSU.out,if_neg (fun e=>HRN.out e.1)];exact ⟨HLE.out.1,HLE.out.2,H4.out.sel (p:= [_,_,_,_,_,_,_,_,_,_,_,_,_,_,_,_,_]) [16,0,1,2,3,4,5,6,7,8,9,10,11,12] 17 rfl (by decide)⟩
  ·obtain rfl:k=ds.length:=by omega
   go_wp2_with (fail);go_ret;rw [←HEND.out];exact (⟨_,L,rfl,HR.out⟩:PlayQ w0 q R _ _ _)
end
theorem zTp51 {P:Prop} (h:P:=by
 go_wp2_with (first
  |(go_at_call 18;refine (HDO2.out _ H6.out).mono ?_;rintro e w10 ⟨rfl,h10⟩;have H10:=zk h10;clear h10)
  |(go_at_call 17;refine (kstate_on H10.out HNR.out (k:Int) (by omega) (by omega)).mono ?_;rintro e w11 ⟨he,rfl⟩;rw [HS2.out] at he;subst he))
 go_roundg (6-k)
 case measure=>have:=HG.out;omega
 case rel=>exact ⟨k+1,G2,by go_num,by omega,by omega,⟨by omega⟩,⟨HF2.out,HC2.out.mono (by omega),H10.out⟩⟩):P:=h
theorem playK_cnt {H:Harb} (h:Cnt 0 H) (force:Bool) (ds:List Deed):Cnt ds.length (H.playH force ds).1:=by
 unfold Harb.playH;have key:∀(l:List Deed) (x:Harb×List Od) (n:Nat),Cnt n x.1→Cnt (n+l.length) (l.foldl (Harb.stepD force) x).1:=by
  intro l
  induction l with
  |nil=>intro x n hx;exact hx
  |cons d r ih=>
   intro x n hx;have:=ih (Harb.stepD force x d) (n+1) (hx.act _);simp only [List.foldl_cons,List.length_cons];exact (show n+1+r.length=n+(r.length+1) by omega)▸this
 have:=key ds (H,[]) 0 h;simpa using this
theorem playH_fine {H:Harb} (h:Fine H) (force:Bool) (ds:List Deed):Fine (H.playH force ds).1:=by
 have:=playK_fine h force ds ds.length;unfold Harb.playK at this
 rwa [List.take_length] at this
theorem node_raw (j:Int):wrap64 (1+wrap64 ((IntKind.u64.wrap j).tmod 2))=1∨wrap64 (1+wrap64 ((IntKind.u64.wrap j).tmod 2))=2:=by
 have e:wrap64 (1+wrap64 ((IntKind.u64.wrap j).tmod 2))=1+u64 j%2:=by rw [u64_tmod,wsm (x:=u64 j%2) (by omega) (by omega),wsm (by omega) (by omega)]
 rw [e];omega
section
variable {w0 w:World} {R:List SA}
theorem topforce_ok {a:Option Addr} {cap:Nat} {ds:List Deed} (hd:DeedsAt w0 a cap ds) (h:Heap w0 R w) (t j:Int) (yes:Bool):
 Calls Tryz.prog 4 #[.int .i64 t,.slice a ds.length cap,.int .i64 j,.bool yes] w fun e w'=>e=.returned (.bool true)∧Below w0.heap.size w0 w':=by
 have HD:=zk hd;have H0:=zk h;have h0:1≤2+u64 t%5:=by omega
 have h1:2+u64 t%5≤20:=by omega
 have HFI:=zk (init_fine h0 h1);have HCI:=zk (init_cnt (2+u64 t%5));have HNR:=zk (node_raw j);clear h hd h0 h1;go_enter Tryz.func4,Tryz.ntmps4;go_wp2_with (first
  |(go_at_call 6;refine (made_ok H0.out t).mono ?_;rintro e w2 ⟨q,rfl,h2⟩;have H2:=zk h2;clear h2)
  |(go_at_call 7;refine (light_ok HD.out H2.out).mono ?_;rintro e w3 ⟨b,rfl,h3,hl⟩;have H3:=zk h3;have HL:=zk hl;clear h3 hl;cases b))
 ·go_wp2_with (first
   |(go_at_call 8;refine (awake_ok H3.out).mono ?_;rintro e w4 ⟨rfl,h4⟩;have H4:=zk h4;clear h4))
  go_ret;exact ⟨rfl,H4.out.bel⟩
 ·generalize Harb.init (2+u64 t%5)=HI at *;have HLI:=zk (HL.out (by simp));have HPF:=zk (playH_fine HFI.out true ds);have HPC:=zk ((playK_cnt HCI.out true ds).mono HLI.out.1);have HPL:=zk (play_ok HD.out HFI.out H3.out true HLI.out.1);generalize HI.playH true ds=X0 at *;obtain ⟨G0,os⟩:=X0;have HPF2:As (Fine G0):=⟨HPF.out⟩;have HPC2:As (Cnt 150 G0):=⟨HPC.out⟩;clear HPF HPC HL;go_wp2_with (first
   |(go_at_call 9;refine HPL.out.mono ?_;rintro e w4 ⟨v,L,rfl, -, -,h4⟩;have H4:=zk (show Heap w0 (G0.on q R) w4 from h4.drop);clear h4)
   |(go_at_call 16;refine (hkeeper_ok H4.out _ HNR.out).mono ?_;rintro e w5 ⟨rfl,rfl⟩))
  generalize wrap64 (1+wrap64 ((IntKind.u64.wrap j).tmod 2))=nd at *
  go_loopg [8,11,12,13,14] 6 (fun gk a8 u a12 a13 a14 wr=>∃(k:Nat) (G:Harb),u=.int .i64 k∧1≤k∧k≤7∧As (gk+k=7)∧As (Fine G∧Cnt (150+2*k) G∧Heap w0 (G.on q R) wr))
  case atStart=>exact ⟨1,G0,rfl,by omega,by omega,⟨rfl⟩,⟨HPF2.out,HPC2.out.mono (by omega),H4.out⟩⟩
  case round=>
   obtain ⟨k,G,rfl,hk1,hk,HG,HR⟩:=hrel;by_cases hlt:k≤6
   ·have HFR:=force_round HR.out.2.1 (by omega) nd (k:Int) HNR.out yes;have HF1:=zk (HR.out.1.force nd (id:=(k:Int)) (by omega) (by omega) yes);have HC1:=zk (HR.out.2.1.forceN nd (k:Int) yes);have HR3:=zk HR.out.2.2;have HDO:As (Calls Tryz.prog 18 #[.pointer (some ⟨q.b,0,none⟩),.agg #[.int .i64 3,.int .i64 nd,.int .i64 k,.int .i64 0,.bool yes,.int .i64 0,.int .i64 0,.int .i64 0,.int .i64 0,.int .i64 0,.slice none 0 0]] wr fun e w'=>e=.returned (.int .i64 (G.force nd k yes).1)∧Heap w0 ((G.force nd k yes).2.on q R) w'):=⟨do_force (o:=Od.none) HR.out.1 HR.out.2.2 HNR.out (by omega) (by omega)⟩;clear HR;generalize G.force nd (k:Int) yes=A at *;obtain ⟨r,G1⟩:=A;simp only at HFR;have HDO2:As (∀W,Heap w0 (G1.on q R) W→Calls Tryz.prog 18 #[.pointer (some ⟨q.b,0,none⟩),.agg #[.int .i64 3,.int .i64 nd,.int .i64 k,.int .i64 0,.bool (!yes),.int .i64 0,.int .i64 0,.int .i64 0,.int .i64 0,.int .i64 0,.slice none 0 0]] W fun e w'=>e=.returned (.int .i64 (G1.force nd k (!yes)).1)∧Heap w0 ((G1.force nd k (!yes)).2.on q R) w'):=⟨fun W hW=>do_force (o:=Od.none) HF1.out hW HNR.out (by omega) (by omega)⟩;have HF2:=zk (HF1.out.force nd (id:=(k:Int)) (by omega) (by omega) (!yes));have HC2:=zk (HC1.out.forceN nd (k:Int) (!yes));generalize G1.force nd (k:Int) (!yes)=B at *;obtain ⟨r2,G2⟩:=B;simp only at HFR;generalize hs0:mgi (G.kn nd).st (k:Int)=s0 at *;generalize hs1:mgi (G1.kn nd).st (k:Int)=s1 at *;generalize hs2:mgi (G2.kn nd).st (k:Int)=s2 at *;have HS0:=zk hs0;have HS1:=zk hs1;have HS2:=zk hs2;clear hs0 hs1 hs2;rcases HFR with ⟨-,rfl,d2⟩|⟨d1,rfl,rfl,s45,rfl,rfl⟩|⟨d1,hs,rfl,rfl,rfl,rfl⟩
    ·have HDN:=zk d2;clear d2;go_wp2_with (first
      |(go_at_call 17;refine (kstate_on HR3.out HNR.out (k:Int) (by omega) (by omega)).mono ?_;rintro e w5 ⟨he,rfl⟩;rw [HS0.out] at he;subst he)
      |(go_at_call 18;refine HDO.out.mono ?_;rintro e w6 ⟨rfl,h6⟩;have H6:=zk h6;clear h6)
      |(go_at_call 19;refine (kdown_on H6.out HNR.out).mono ?_;rintro e w7 ⟨he,rfl⟩;rw [HDN.out] at he;subst he))
     go_roundg (6-k)
     case measure=>have:=HG.out;omega
     case rel=>exact ⟨k+1,G1,by go_num,by omega,by omega,⟨by omega⟩,⟨HF1.out,HC1.out.mono (by omega),H6.out⟩⟩
    ·have HDN:=zk d1;clear d1;have hfin:(decide (2≤s2)&&decide (s2≤5))=true:=by rcases s45 with e|e<;>rw [e]<;>rfl
     have HFN:=zk hfin;clear s45 hfin;have hbb:(s2 != s2)=false:=by simp
     go_wp2_with (first
      |(go_at_call 17;refine (kstate_on HR3.out HNR.out (k:Int) (by omega) (by omega)).mono ?_;rintro e w5 ⟨he,rfl⟩;rw [HS0.out] at he;subst he)
      |(go_at_call 18;refine HDO.out.mono ?_;rintro e w6 ⟨rfl,h6⟩;have H6:=zk h6;clear h6)
      |(go_at_call 19;refine (kdown_on H6.out HNR.out).mono ?_;rintro e w7 ⟨he,rfl⟩;rw [HDN.out] at he;subst he))
     go_wp2_with (first
      |(go_at_call 17;refine (kstate_on H6.out HNR.out (k:Int) (by omega) (by omega)).mono ?_;rintro e w8 ⟨he,rfl⟩;rw [HS1.out] at he;subst he)
      |(go_at_call 20;refine (final_ok s2 _).mono ?_;rintro e w9 ⟨he,rfl⟩;rw [HFN.out] at he;subst he))
     exact zTp51
    ·have HDN:=zk d1;clear d1;have hsb:(s2==1)=false:=by simpa using hs
     clear hs;have hbb:(s2 != s2)=false:=by simp
     go_wp2_with (first
      |(go_at_call 17;refine (kstate_on HR3.out HNR.out (k:Int) (by omega) (by omega)).mono ?_;rintro e w5 ⟨he,rfl⟩;rw [HS0.out] at he;subst he)
      |(go_at_call 18;refine HDO.out.mono ?_;rintro e w6 ⟨rfl,h6⟩;have H6:=zk h6;clear h6)
      |(go_at_call 19;refine (kdown_on H6.out HNR.out).mono ?_;rintro e w7 ⟨he,rfl⟩;rw [HDN.out] at he;subst he))
     go_wp2_with (first
      |(go_at_call 17;refine (kstate_on H6.out HNR.out (k:Int) (by omega) (by omega)).mono ?_;rintro e w8 ⟨he,rfl⟩;rw [HS1.out] at he;subst he))
     exact zTp51
   ·obtain rfl:k=7:=by omega
    go_wp2_with (first
     |(go_at_call 8;refine (awake_ok HR.out.2.2).mono ?_;rintro e w6 ⟨rfl,h6⟩;have H6:=zk h6;clear h6))
    go_ret;exact ⟨rfl,H6.out.bel⟩
end
end Go.Proofs.YtlnghlamnehfjaaGreatDoor.S
