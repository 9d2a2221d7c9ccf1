/- Part Q04. -/
import Derived.Test.YtlnghlamnehfjaaGreatDoorQ02
import Derived.Test.YtlnghlamnehfjaaGreatDoorQ03
set_option linter.unusedVariables false
set_option linter.unusedSimpArgs false
set_option maxRecDepth 100000
set_option maxHeartbeats 64000000
namespace Go.Proofs.YtlnghlamnehfjaaGreatDoor.S
open Go.RowKit Go.Maps
inductive Kd where
 |begin|step|asked|done|undone|yes|turn|ack|damage|shipped|accept
 |ready|no|fyes|fno|did|cant|undid|sent
 deriving DecidableEq,Inhabited
def Kd.str:Kd→ByteArray
 |.begin=>⟨#[98,101,103,105,110]⟩
 |.step=>⟨#[115,116,101,112]⟩
 |.asked=>⟨#[97,115,107,101,100]⟩
 |.done=>⟨#[100,111,110,101]⟩
 |.undone=>⟨#[117,110,100,111,110,101]⟩
 |.yes=>⟨#[121,101,115]⟩
 |.turn=>⟨#[116,117,114,110]⟩
 |.ack=>⟨#[97,99,107]⟩
 |.damage=>⟨#[100,97,109,97,103,101]⟩
 |.shipped=>⟨#[115,104,105,112,112,101,100]⟩
 |.accept=>⟨#[97,99,99,101,112,116]⟩
 |.ready=>⟨#[114,101,97,100,121]⟩
 |.no=>⟨#[110,111]⟩
 |.fyes=>⟨#[102,121,101,115]⟩
 |.fno=>⟨#[102,110,111]⟩
 |.did=>⟨#[100,105,100]⟩
 |.cant=>⟨#[99,97,110,116]⟩
 |.undid=>⟨#[117,110,100,105,100]⟩
 |.sent=>⟨#[115,101,110,116]⟩
structure Entry where
 kd:Kd
 id:Int
 n:List Int
 deriving DecidableEq
def QU (x:Int):Prop:= -1000000000≤x∧x≤1000000000
structure Entry.ok (e:Entry):Prop where
 id0:0≤e.id
 id1:e.id≤999
 len:e.n.length≤4
 num:∀x∈e.n,QU x
def Word (s:ByteArray):Prop:=1≤s.size∧s.size≤8∧∀k (h:k<s.size),97≤s[k].toNat∧s[k].toNat≤122
theorem Kd.word (k:Kd):Word k.str:=by
 cases k<;>exact ⟨by decide,by decide,by decide⟩
theorem Qzg (s:ByteArray) (w:World) (hs:Word s):CE 182 #[.string s] w (.bool true):=by
 obtain ⟨h1,h8,hl⟩:=hs;have HL:=zk hl;clear hl;go_enter Tryz.func182,Tryz.ntmps182;go_wp2
 go_loopg [6] s.size (fun gk v wr=>∃k:Nat,v=.int .i64 k∧k≤s.size∧As (gk+k=s.size)∧wr=w)
 case atStart=>exact ⟨0,rfl,Nat.zero_le _,⟨rfl⟩,rfl⟩
 case round=>
  obtain ⟨k,rfl,hk,HG,rfl⟩:=hrel;by_cases hlt:k<s.size
  ·obtain ⟨b1,b2⟩:=HL.1 k hlt;have d1:decide ((s[k].toNat:Int)<97)=false:=by simp;omega
   have d2:decide ((122:Int)<(s[k].toNat:Int))=false:=by simp;omega
   go_wp2;go_roundg (s.size-(k+1))
   case measure=>have:=HG.1;omega
   case rel=>exact ⟨k+1,by go_num,by omega,⟨by omega⟩,rfl⟩
  ·go_wp2;go_ret;exact ⟨by simp;omega,rfl⟩
theorem QD5 (x:Int) (w:World) (hx:QU x):CE 187 #[.int .i64 x] w (.bool false):=by
 obtain ⟨h1,h2⟩:=hx;go_enter Tryz.func187,Tryz.ntmps187;go_wp2;go_ret;exact ⟨by simp;omega,rfl⟩
theorem Qxu (v:Value) (xs:List Int) (w:World) (hr:w.ownsRow 0 3 1 v xs.length (xs.map (Value.int .i64))) (hx:∀x∈xs,QU x) (hlen:xs.length≤1000):
 CE 140 #[v,.func (.func 187) #[] #[]] w (.int .i64 (-1)):=by
 obtain ⟨a,cap,rfl,hcap⟩:∃a cap,v=.slice a xs.length cap∧∀k,(h:k<xs.length)→∃g,a=some ⟨g,0,none⟩∧w.cell? ⟨g,k,none⟩=some (.int .i64 xs[k]):=by
  rcases hr.2 with ⟨h,h'⟩|⟨g,cap,cur,h,_,h1,h2,h3,h4,h5⟩;exact ⟨none,0,by rw [h,h'],fun k hk=>by omega⟩;refine ⟨_,cap,h,fun k hk=>⟨g,rfl,?_⟩⟩;have:=hr.cells (g:=g) (by rw [h];rfl) k (.int .i64 xs[k]) (by simp [hk])
  rwa [show (⟨g,0,none⟩:Addr).add k=⟨g,k,none⟩ by unfold Addr.add;split<;>simp_all] at this
 have HC:=zk hcap;have HX:=zk hx;clear hr hcap hx;go_enter Tryz.func140,Tryz.ntmps140;go_wp2
 go_loopg [8] xs.length (fun gk u wr=>∃k:Nat,u=.int .i64 k∧k≤xs.length∧As (gk+k=xs.length)∧wr=w)
 case atStart=>exact ⟨0,rfl,Nat.zero_le _,⟨rfl⟩,rfl⟩
 case round=>
  obtain ⟨k,rfl,hk,HG,rfl⟩:=hrel;by_cases hlt:k<xs.length
  ·obtain ⟨g,rfl,hc⟩:=HC.1 k hlt;have hn:=HX.1 xs[k] (List.getElem_mem hlt);generalize xs[k]=x at *;have HN:=zk (QD5 x wr hn);clear hn;go_wp2_with (go_at_call 187;refine (HN.1).m0 ?_);go_roundg (xs.length-(k+1))
   case measure=>have:=HG.1;omega
   case rel=>exact ⟨k+1,by go_num,by omega,⟨by omega⟩,rfl⟩
  ·go_wp2;go_ret;exact ⟨rfl,rfl⟩
theorem Qfc (v:Value) (xs:List Int) (w:World) (hr:w.ownsRow 0 3 1 v xs.length (xs.map (Value.int .i64))) (hx:∀x∈xs,QU x) (hlen:xs.length≤1000):
 CE 111 #[v,.func (.func 187) #[] #[]] w (.bool false):=by
 have HC:=zk (Qxu v xs w hr hx hlen);clear hr hx;go_enter Tryz.func111,Tryz.ntmps111;go_wp2_with (go_at_call 140;refine (HC.1).m0 ?_);go_ret;exact ⟨rfl,rfl⟩
theorem Qkg (v:Value) (xs:List Int) (w:World) (hr:w.ownsRow 0 3 1 v xs.length (xs.map (Value.int .i64))) (hx:∀x∈xs,QU x) (hlen:xs.length≤4):
 CE 183 #[v] w (.bool true):=by
 have HC:=zk (Qfc v xs w hr hx (by omega));obtain ⟨a,cap,rfl⟩:∃a cap,v=.slice a xs.length cap:=by
  rcases hr.2 with ⟨h,h'⟩|⟨g,cap,cur,h,_⟩;exact ⟨none,0,by rw [h,h']⟩;exact ⟨_,cap,h⟩
 clear hr hx;go_enter Tryz.func183,Tryz.ntmps183;go_wp2_with (go_at_call 111;refine (HC.1).m0 ?_);go_ret;exact ⟨rfl,rfl⟩
theorem Qqc (k:Kd) (id:Int) (v:Value) (xs:List Int) (w:World) (hr:w.ownsRow 0 3 1 v xs.length (xs.map (Value.int .i64))) (hok:Entry.ok ⟨k,id,xs⟩):
 Calls Tryz.prog 176 #[.agg #[.string k.str,.int .i64 id,v]] w fun e w'=>e=.returned (.bool true)∧Below w.heap.size w w':=by
 have h0:0≤id:=hok.id0;have h1:id≤999:=hok.id1;have HN:=zk (fun W=>Qzg k.str W k.word);have HM:As (∀o,CE 183 #[v] (w.alloc o) (.bool true)):=⟨fun o=>Qkg v xs _ (hr.alloc o) hok.num hok.len⟩;generalize k.str=s at *;clear hr hok;go_enter Tryz.func176,Tryz.ntmps176;go_wp2_with (first|(go_at_call 182;refine (HN.1 _).m0 ?_)|(go_at_call 183;refine (HM.1 _).m0 ?_));go_ret;exact ⟨rfl,(Below.refl _ _).alloc (Nat.le_refl _) _⟩
theorem QDq:∀(k u:Nat),u<10 ^ (k+1)→Lib.nDigits u≤k+1
 |0,u,h=>by rw [Lib.nDigits_small (by simpa using h)];omega
 |k+1,u,h=>by
  by_cases h':u<10;rw [Lib.nDigits_small h'];omega;rw [Lib.nDigits_big h'];have:=QDq k (u/10) (by rw [Nat.pow_succ] at h;omega);omega
theorem Qdd (u:Nat) (h:u≤1000000000):(Lib.decDigits u).length≤10:=by
 rw [Lib.decDigits_length];exact QDq 9 u (by omega)
theorem Qjg (n:Int) (h:QU n):(Lib.itoa n).length≤11:=by
 obtain ⟨h0,h1⟩:=h;unfold Lib.itoa;split;have:=Qdd n.natAbs (by omega);simp;omega;have:=Qdd n.toNat (by omega);omega
theorem Fg (u:Nat):∀c∈Lib.decDigits u,48≤c.toNat∧c.toNat≤57:=by
 induction u using Nat.strongRecOn with
 |_ u ih=>
  intro c hc;rw [Lib.decDigits] at hc;split at hc;simp only [List.mem_singleton] at hc;subst hc;rw [UInt8.toNat_ofNat'];omega;rcases List.mem_append.1 hc with hc|hc;exact ih _ (by omega) c hc;simp only [List.mem_singleton] at hc;subst hc;rw [UInt8.toNat_ofNat'];omega
theorem Qvl (u:Nat):Lib.decDigits u≠ []:=by
 intro h;have:=Lib.decDigits_length u;have:=Lib.nDigits_pos u;rw [h] at *;simp at *;omega
def NumCh (c:UInt8):Prop:=c=45∨48≤c.toNat∧c.toNat≤57
theorem Qpp (n:Int):∀c∈Lib.itoa n,NumCh c:=by
 intro c hc;unfold Lib.itoa at hc;split at hc;rcases List.mem_cons.1 hc with rfl|hc;exact .inl rfl;exact .inr (Fg _ c hc);exact .inr (Fg _ c hc)
theorem TC:∀(l r:List UInt8) (a m:Nat),Lib.decFrom a l=some m→Lib.decFrom a (l++r)=Lib.decFrom m r
 | [],r,a,m,h=>by simp only [Lib.decFrom,Option.some.injEq] at h;rw [h];rfl
 |c::l,r,a,m,h=>by
  simp only [Lib.decFrom,List.cons_append] at h⊢;cases hd:Lib.digitVal c with
  |none=>rw [hd] at h;cases h
  |some d=>
   rw [hd] at h;exact TC l r _ _ h
theorem Qa7 (d:Nat) (h:d<10):Lib.digitVal (UInt8.ofNat (48+d))=some d:=by
 unfold Lib.digitVal;rw [UInt8.toNat_ofNat',Nat.mod_eq_of_lt (by omega),if_pos (by omega)];congr 1;omega
theorem Qlz (u:Nat):Lib.decFrom 0 (Lib.decDigits u)=some u:=by
 induction u using Nat.strongRecOn with
 |_ u ih=>
  rw [Lib.decDigits];split;simp only [Lib.decFrom,Qa7 u (by assumption)];congr 1;omega;rw [TC _ _ 0 (u/10) (ih _ (by omega))];simp only [Lib.decFrom,Qa7 (u%10) (by omega)];congr 1;omega
theorem Qea (u:Nat):Lib.decNat (Lib.decDigits u)=some u:=by
 unfold Lib.decNat;rw [if_neg (by simpa using Qvl u),Qlz]
theorem Quf (n:Int):Lib.atoi (Lib.itoa n)=some n:=by
 unfold Lib.itoa;split;simp only [Lib.atoi,beq_self_eq_true,if_true,Qea,Option.map_some];congr 1;omega
 ·cases h:Lib.decDigits n.toNat with
  |nil=>exact absurd h (Qvl _)
  |cons c r=>
   have hc:=Fg n.toNat c (by rw [h];simp);have h1:(c==45)=false:=by rw [beq_eq_false_iff_ne];rintro rfl;simp at hc
   have h2:(c==43)=false:=by rw [beq_eq_false_iff_ne];rintro rfl;simp at hc
   simp only [Lib.atoi,h1,h2,Bool.false_eq_true,if_false];rw [←h,Qea,Option.map_some];congr 1;omega
def XW (n:Int):ByteArray:=⟨(Lib.itoa n).toArray⟩
theorem KE (n:Int):(XW n).data.toList=Lib.itoa n:=rfl
theorem Kw (n:Int) (h:QU n):(XW n).size≤11:=by
 have:=Qjg n h;simpa [XW,ByteArray.size] using this
def ZN (s:ByteArray) (l:List Int):ByteArray:=l.foldl (fun s n=>s++(⟨#[32]⟩++XW n)) s
theorem Qpb (s:ByteArray) (l:List Int) (n:Int):ZN s (l++ [n])=ZN s l++(⟨#[32]⟩++XW n):=by simp [ZN,List.foldl_append]
theorem Qo5 (s:ByteArray):∀(l:List Int),(∀n∈l,QU n)→(ZN s l).size≤s.size+12*l.length:=by
 intro l
 induction l generalizing s with
 |nil=>intro _;simp [ZN]
 |cons n l ih=>
  intro h;have h1:=ih (s++(⟨#[32]⟩++XW n)) (fun x hx=>h x (by simp [hx]));have h2:=Kw n (h n (by simp));have e:ZN s (n::l)=ZN (s++(⟨#[32]⟩++XW n)) l:=rfl;rw [e];rw [ByteArray.size_append,ByteArray.size_append] at h1;have h3:(⟨#[32]⟩:ByteArray).size=1:=rfl;rw [h3] at h1;simp only [List.length_cons];omega
def Entry.line (e:Entry):ByteArray:=ZO (ZN e.kd.str (e.id::e.n))
theorem Entry.ok.nums {e:Entry} (h:e.ok):∀n∈e.id::e.n,QU n:=by
 intro n hn;rcases List.mem_cons.1 hn with rfl|hn;have:=h.id0;have:=h.id1;unfold QU;omega;exact h.num n hn
theorem Entry.ok.Qqo {e:Entry} (h:e.ok):(ZN e.kd.str (e.id::e.n)).size≤68:=by
 have:=Qo5 e.kd.str (e.id::e.n) h.nums;have:=h.len;have:=e.kd.word.2.1;simp only [List.length_cons] at *;omega
theorem Entry.ok.QBq {e:Entry} (h:e.ok):e.line.size≤71:=by
 have:=h.Qqo;unfold Entry.line;rw [UU];omega
theorem Qy2 {P:Prop} (h:P:=by
 go_loopg [4,19] (1+xs.length) (fun gk v4 v19 wr=>∃(j:Nat) (t:ByteArray),v19=.int .i64 j∧v4=.string t∧j≤1+xs.length∧As (gk+j=1+xs.length)∧As (t=ZN s ((id::xs).take j))∧t.size≤8+12*j∧As (Below w.heap.size w wr)∧As (wr.ownsRow w.heap.size 3 1 (.slice (some ⟨g2,0,none⟩) (1+xs.length) cap2) (1+xs.length) ((id::xs).map (Value.int .i64))))
 case atStart=>exact ⟨0,s,rfl,rfl,Nat.zero_le _,⟨rfl⟩,⟨rfl⟩,by have:=k.word.2.1;rw [HS.1];omega,HB2,HR2⟩
 case round=>
  clear HB HR HR1 HB2 HR2 k0 k1 k2;obtain ⟨j,t,rfl,rfl,hj,HG,HTX,hts,HB,HR⟩:=hrel;by_cases hlt:j<1+xs.length
  ·have hc:∃y,(id::xs)[j]? =some y:=⟨_,List.getElem?_eq_getElem (by simp;omega)⟩;obtain ⟨y,hy⟩:=hc;have hcell:wr.cell? ⟨g2,j,none⟩=some (.int .i64 y):=by
    have:=HR.1.cells (g:=g2) rfl j (.int .i64 y) (by rw [List.getElem?_map,hy];rfl)
    rwa [show (⟨g2,0,none⟩:Addr).add j=⟨g2,j,none⟩ by unfold Addr.add;split<;>simp_all] at this
   have hyn:QU y:=HOK.1.nums y (List.mem_of_getElem? hy);have HI:=zk (Qqb y wr (Qfz HT.1 HB.1) hyn);have hys:=Kw y hyn;have HTN:As (t++(⟨#[32]⟩++XW y)=ZN s ((id::xs).take (j+1))):=⟨by rw [List.take_add_one,hy];simp only [Option.toList_some];rw [Qpb,←HTX.1]⟩;clear hy hyn;go_wp2_with (go_at_call 177;refine (HI.1).m1 fun w3 HB3=>?_);go_roundg (1+xs.length-(j+1))
   case measure=>have:=HG.1;omega
   case rel=>exact ⟨j+1,_,by go_num,rfl,by omega,⟨by omega⟩,HTN,by rw [ByteArray.size_append,ByteArray.size_append,show (⟨#[32]⟩:ByteArray).size=1 from rfl];omega,⟨HB.1.trans (HB3.1.mono HB.1.size)⟩,⟨QR HR.1 HB3.1⟩⟩
  ·have hj2:j=1+xs.length:=by omega
   have HTE:As (ZO t=Entry.line ⟨k,id,xs⟩):=⟨by rw [HTX.1,List.take_of_length_le (by simp;omega),HS.1];rfl⟩;have HSG:=zk (Qh2 t wr (by omega));clear hj2;go_wp2_with (go_at_call 178;refine (HSG.1).m1 fun w3 HB3=>?_)
   go_ret2
   exact ⟨by rw [←HTE.1];rfl,HB.1.trans (HB3.1.mono HB.1.size)⟩):P:=h
theorem info3:(Tryz.prog.info? 3).map (fun i=>(i.zero,i.size,i.bytes))=some (some (.int .i64 0),1,8):=by kernel_rfl
theorem Qfz {w W:World} (h:Good w) (hb:Below w.heap.size w W):Good W:=by
 unfold Good Lib.TabIs at *;have h0:=h;unfold World.var? at h0;cases hg:Tryz.prog.globalNamed "internal/strconv.uint64pow10" with
 |none=>rw [hg] at h0;cases h0
 |some g=>
  refine var?_below hb hg ?_ h;rw [hg] at h0;simp only [Option.bind_some] at h0;cases hh:w.heap[g]? with
  |none=>rw [hh] at h0;simp at h0
  |some o=>exact (Array.getElem?_eq_some_iff.1 hh).1
theorem Heap.tab {w0 w:World} {l:List SA} (h:Heap w0 l w):Good w:=Qfz h.good h.bel
theorem Qm1 {w:World} (k:Nat) (os:Array Obj):Below w.heap.size w (Sort.grow (w.drewN k) os):=by
 refine ⟨rfl,rfl,rfl,?_,fun j hj=>?_⟩;simp [Sort.grow];simp [Sort.grow,Array.getElem?_append_left hj]
theorem Qqb (n:Int) (w:World) (hg:Good w) (hn:QU n):
 Calls Tryz.prog 177 #[.int .i64 n] w fun e w'=>e=.returned (.string (XW n))∧Below w.heap.size w w':=by
 obtain ⟨h0,h1⟩:=hn;refine (Tryz.strconv_Itoa n (by omega) (by omega) w hg).mono ?_;rintro e w' ⟨rfl,k,os,rfl⟩;exact ⟨rfl,Qm1 k os⟩
theorem Qmf {W:World} (base:Nat) (hbase:base≤W.heap.size) (x:Int) (g:Nat) (hg:W.heap[g]? =some (.cells #[.int .i64 x] 3 (0,0))) (hgb:base≤g) (v:Value) (xs:List Int) (hr:W.ownsRow 0 3 1 v xs.length (xs.map (Value.int .i64))) (hlen:xs.length≤1000) (ty:TypeId):
 ∃g' cap w',(Builtin.append_ #[53,53] ty #[.slice (some ⟨g,0,none⟩) 1 1,v]).run Tryz.prog W=.ok (.slice (some ⟨g',0,none⟩) (1+xs.length) cap) w'∧w'.ownsRow base 3 1 (.slice (some ⟨g',0,none⟩) (1+xs.length) cap) (1+xs.length) ((x::xs).map (Value.int .i64))∧Below base W w':=by
 obtain ⟨i0,hi0,hz0,hz1,hz2⟩:=info_parts info3;have hown:W.ownsRow base 3 1 (.slice (some ⟨g,0,none⟩) 1 1) 1 [.int .i64 x]:=⟨rfl,.inr ⟨g,1,_,rfl,hgb,hg,Nat.le_refl _,by unfold maxLen;omega,rfl,rfl⟩⟩;rcases hr.2 with ⟨rfl,hn⟩|⟨g2,cap2,cur,rfl,_,h1,h2,h3,h4,h5⟩;have hx:xs= []:=List.eq_nil_of_length_eq_zero hn;subst hx;refine ⟨g,1,W,?_,hown,Below.refl _ _⟩;simp [Builtin.append_,run_underlying Tryz.underlying53,sizeOf,typeInfo,hi0,Builtin.lenOf,Builtin.firstCells,loadCells,loadCellsFrom,storeCells];have hc:∀(j:Nat) u,(xs.map (Value.int .i64))[j]? =some u→W.cell? ((⟨g2,0,none⟩:Addr).add j)=some u:=hr.cells (g:=g2) rfl;obtain ⟨v',w',hrun,h6,h7,h8⟩:=run_append_own (P:=Tryz.prog) W base 53 ty 3 i0 _ 1 8 Tryz.underlying53 hi0 hz0 hz1 hz2 rfl (by decide) _ 1 _ hown ⟨g2,0,none⟩ xs.length cap2 _ (by simp) hc (by intro u hu;obtain ⟨y,_,rfl⟩:=List.mem_map.1 hu;rfl) (by unfold maxLen;omega) (by omega) hbase;rcases h6.2 with ⟨_,hn⟩|⟨g',cap,cur',rfl,r⟩;omega;refine ⟨g',cap,w',hrun,h6,⟨h7.os,h7.tape,h7.output,h7.size,fun k hk=>h7.block k (by omega) (fun e=>by have h9:k=g:=Option.some.inj e;omega)⟩⟩
theorem QR {W W':World} {base size n:Nat} {T:TypeId} {v:Value} {xs:List Value} (h:W.ownsRow base T size v n xs) (hb:Below W.heap.size W W'):W'.ownsRow base T size v n xs:=
 h.kept (row:=none) ⟨hb.os,hb.tape,hb.output,hb.size,fun k hk _=>hb.block k hk⟩ (by cases v.ownBlock<;>simp)
theorem TL {w:World} {ops:Array Oper} {rest:List Oper} {o:Oper} {a:Act} {Q:Exit→Act→World→Prop} (hgd:o.guard=none) (s x:Operand)
 (ho:o.op=.call {callee:=.builtin .append,args:= #[s,x],argTypes:= #[53,53]}) (base:Nat) (hbase:base≤w.heap.size) (y:Int) (g:Nat) (hs:a.eval s=.slice (some ⟨g,0,none⟩) 1 1) (hg:w.heap[g]? =some (.cells #[.int .i64 y] 3 (0,0))) (hgb:base≤g)
 (v:Value) (hx:a.eval x=v) (xs:List Int) (hr:w.ownsRow 0 3 1 v xs.length (xs.map (Value.int .i64))) (hlen:xs.length≤1000)
 (hK:∀g' cap w',w'.ownsRow base 3 1 (.slice (some ⟨g',0,none⟩) (1+xs.length) cap) (1+xs.length) ((y::xs).map (Value.int .i64))→Below base w w'→wpList Tryz.prog ops Q rest (a.put o.dst (.slice (some ⟨g',0,none⟩) (1+xs.length) cap)) w'):
 wpList Tryz.prog ops Q (o::rest) a w:=by
 refine wpList_plain hgd fun K hK'=>?_;obtain ⟨g',cap,w',hrun,h1,h2⟩:=Qmf base hbase y g hg hgb v xs hr hlen o.type;unfold Oper.wp execOp;simp only [ho,resolve,invoke,builtin,Sem.run_bind,Sem.run_pure,Result.andThen_ok,List.map_toArray,List.map_cons,List.map_nil,hs,hx,hrun];exact hK' _ _ (hK g' cap w' h1 h2)
theorem QAu (k:Kd) (id:Int) (v:Value) (xs:List Int) (w:World) (hT:Good w) (hr:w.ownsRow 0 3 1 v xs.length (xs.map (Value.int .i64))) (hok:Entry.ok ⟨k,id,xs⟩):
 Calls Tryz.prog 160 #[.agg #[.string k.str,.int .i64 id,v]] w fun e w'=>e=.returned (.tuple #[.string (Entry.line ⟨k,id,xs⟩),.int .i64 0])∧Below w.heap.size w w':=by
 have HM:As (∀o,Calls Tryz.prog 176 #[.agg #[.string k.str,.int .i64 id,v]] (w.alloc o) fun e w'=>e=.returned (.bool true)∧Below (w.alloc o).heap.size (w.alloc o) w'):=⟨fun o=>Qqc k id v xs _ (hr.alloc o) hok⟩;have HOK:=zk hok;have hx4:xs.length≤4:=hok.len;have HT:=zk hT;obtain ⟨vs,hvs⟩:∃vs,vs=xs.map (Value.int .i64):=⟨_,rfl⟩;have HR:As (w.ownsRow 0 3 1 v xs.length (xs.map (Value.int .i64))):=⟨hr⟩;have hsh:(v=.slice none 0 0)∨∃g cap,v=.slice (some ⟨g,0,none⟩) xs.length cap:=by
  rcases hr.2 with ⟨h,_⟩|⟨g,cap,cur,h,_⟩;exact .inl h;exact .inr ⟨g,cap,h⟩
 clear hr hok hT hvs vs;obtain ⟨s,hs⟩:∃s,s=k.str:=⟨_,rfl⟩;rw [←hs] at HM⊢;have HS:=zk hs;clear hs;rcases hsh with rfl|⟨g,cap,rfl⟩
 ·go_enter Tryz.func160,Tryz.ntmps160;go_wp2_with (first|(go_at_call 176;(refine (HM.1 _).m2 fun w1 hb=>?_;have hb1:=((Below.refl w.heap.size w).alloc (Nat.le_refl _) _).trans (hb.mono (B':=w.heap.size) (by simp));have k0:w1.cell? ⟨w.heap.size,0,none⟩=some (.string s):=(hb.cell (p:=⟨w.heap.size,0,none⟩) (by simp)).trans (by simp [go_sem]);have k1:w1.cell? ⟨w.heap.size,1,none⟩=some (.int .i64 id):=(hb.cell (p:=⟨w.heap.size,1,none⟩) (by simp)).trans (by simp [go_sem]);have k2:w1.cell? ⟨w.heap.size,2,none⟩=some (.slice none 0 0):=(hb.cell (p:=⟨w.heap.size,2,none⟩) (by simp)).trans (by simp [go_sem]);have hsz:w.heap.size<w1.heap.size:=Nat.lt_of_lt_of_le (by simp) hb.size;have HB:=zk hb1;have HR1:=zk (QR HR.1 hb1);clear hb hb1))|(at_builtin;(refine TL rfl _ _ rfl w.heap.size (by simp;omega) id w1.heap.size rfl (heap_alloc_new _ _) (by omega) (.slice none 0 0) rfl xs (HR1.1.alloc _) (by omega) ?_;intro g2 cap2 w2 hr2 hb2;have HB2:=zk (HB.1.trans (((Below.refl w.heap.size w1).alloc (by omega) _).trans hb2));have HR2:=zk hr2;clear hr2 hb2)));exact Qy2
 ·go_enter Tryz.func160,Tryz.ntmps160;go_wp2_with (first|(go_at_call 176;(refine (HM.1 _).m2 fun w1 hb=>?_;have hb1:=((Below.refl w.heap.size w).alloc (Nat.le_refl _) _).trans (hb.mono (B':=w.heap.size) (by simp));have k0:w1.cell? ⟨w.heap.size,0,none⟩=some (.string s):=(hb.cell (p:=⟨w.heap.size,0,none⟩) (by simp)).trans (by simp [go_sem]);have k1:w1.cell? ⟨w.heap.size,1,none⟩=some (.int .i64 id):=(hb.cell (p:=⟨w.heap.size,1,none⟩) (by simp)).trans (by simp [go_sem]);have k2:w1.cell? ⟨w.heap.size,2,none⟩=some (.slice (some ⟨g,0,none⟩) xs.length cap):=(hb.cell (p:=⟨w.heap.size,2,none⟩) (by simp)).trans (by simp [go_sem]);have hsz:w.heap.size<w1.heap.size:=Nat.lt_of_lt_of_le (by simp) hb.size;have HB:=zk hb1;have HR1:=zk (QR HR.1 hb1);clear hb hb1))|(at_builtin;(refine TL rfl _ _ rfl w.heap.size (by simp;omega) id w1.heap.size rfl (heap_alloc_new _ _) (by omega) (.slice (some ⟨g,0,none⟩) xs.length cap) rfl xs (HR1.1.alloc _) (by omega) ?_;intro g2 cap2 w2 hr2 hb2;have HB2:=zk (HB.1.trans (((Below.refl w.heap.size w1).alloc (by omega) _).trans hb2));have HR2:=zk hr2;clear hr2 hb2)));exact Qy2
end Go.Proofs.YtlnghlamnehfjaaGreatDoor.S
