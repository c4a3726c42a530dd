/- a part -/
import Derived.Test.YtgocnchjpecafaaPEvx11
import Derived.Test.YtgocnchjpecafaaPEvx13
import Derived.Test.YtgocnchjpecafaaPEvx15
namespace Go.Proofs.Ytgocnchjpecafaa.PEv
open Go.RowKit Go.Proofs.YtgocnchjpecafaaW.PrintWords Go.Proofs.YtgocnchjpecafaaW.PrintLast Go.Proofs.YtgocnchjpecafaaW.PrintMore
attribute [local go_sem] max2_int min2_int max_two min_two max_three min_three max_four min_four
set_option linter.unusedVariables false
set_option linter.unusedSimpArgs false
set_option maxHeartbeats 8000000
set_option maxRecDepth 100000
theorem z16_0 {P:Prop} (h:P:=by(try simp only [List.map_toArray,List.map_cons,List.map_nil]);first|done|rfl):P:=h
theorem r05_Get.info48:(Try.prog.info? 48).map (λi=>(i.zero,i.size,i.bytes))=some (some (.agg #[.int .i64 0,.int .i64 0,.string (⟨#[]⟩:ByteArray),.int .i64 0,.int .i64 0,.string (⟨#[]⟩:ByteArray)]),6,64):=by kernel_rfl
theorem r05_Get.k48_MK (w w':World) (base:Nat) (ok:Nat->Prop) (x:S48) (c:List Value) (h:k48.K w x c):k48.M w' base ok x c:=by
 obtain rfl:=k48_open h
 exact k48_mkM w' base ok x
theorem r05_Get.k48_any (w w':World) (x:S48) (c:List Value) (h:k48.K w x c):k48.K w' x c:=by
 obtain rfl:=k48_open h
 exact k48_mk w' x
def r05_Get.l1:Nat->List (List Int)->List Int->Int->Option (Option (List Int))
 | 0,_,_,_=>none
 | k+1,p,ns,j=>if j<4 then(if 0<=j then((r05_number.f k (Go.Proofs.Ytgocnchjpecafaa.Hand.rdB p j)).bind λx=>if x.2=true then(if ns.length<17592186044416 then r05_Get.l1 k p (ns++[x.1]) (wrap64 (j+1)) else none) else some none) else none) else some (some ns)
def r05_Get.l0:Nat->List (List Int)->List S48->Int->Option (Option (List S48))
 | 0,_,_,_=>none
 | k+1,l,acc,i=>if i<(l.length:Int) then(if 0<=i then((r02_Unpack.f k (Go.Proofs.Ytgocnchjpecafaa.Hand.rdB l i) 6).bind λx=>if (x.1.length:Int)=6 then((r05_Get.l1 k x.1 [] 0).bind λo=>match o with
  | none=>some none
  | some ns=>if 3<(ns.length:Int) then(if acc.length<2199023255552 then r05_Get.l0 k l (acc++[(⟨rd ns 0,rd ns 1,strOfNums (Go.Proofs.Ytgocnchjpecafaa.Hand.rdB x.1 4),rd ns 2,rd ns 3,strOfNums (Go.Proofs.Ytgocnchjpecafaa.Hand.rdB x.1 5)⟩:S48)]) (wrap64 (i+1)) else none) else none) else some none) else none) else some (some acc)
def r05_Get.fail:Int×Int×List Int×List S48×Bool:=(0,0,[],[],false)
def r05_Get.f (k:Nat) (b:List Int):Option (Int×Int×List Int×List S48×Bool) :=
 (r02_Unpack.f k b 18).bind λx=>if (x.1.length:Int)<3 then some r05_Get.fail else
  (r02_Unpack.f k (Go.Proofs.Ytgocnchjpecafaa.Hand.rdB x.1 0) 2).bind λy=>if (y.1.length:Int)=2 then
   ((r05_number.f k (Go.Proofs.Ytgocnchjpecafaa.Hand.rdB y.1 0)).bind λn0=>(r05_number.f k (Go.Proofs.Ytgocnchjpecafaa.Hand.rdB y.1 1)).bind λn1=>(r03_Read.f k (Go.Proofs.Ytgocnchjpecafaa.Hand.rdB x.1 1)).bind λp=>if n0.2=true then(if n1.2=true then
    ((r05_Get.l0 k x.1 [] 2).bind λo=>match o with
     | none=>some r05_Get.fail
     | some es=>(r05_May.f k n0.1 n1.1 p.1 es).bind λm=>if m=true then((r05_Put.f k n0.1 n1.1 p.1 es).bind λc=>(r02_Bytes.f k c b).bind λs=>if s=true then some (n0.1,n1.1,p.1,es,true) else some r05_Get.fail) else some r05_Get.fail)
    else some r05_Get.fail) else some r05_Get.fail)
   else some r05_Get.fail
open Go.Proofs.Ytgocnchjpecafaa.Cards Go.Proofs.Ytgocnchjpecafaa.Hand in
theorem r05_Get.calls (k:Nat) (A0:Option Addr) (c0:Nat) (l0:List Int) (r1 r2:Int) (r3:List Int) (r4:List S48) (r5:Bool) (w:World) (hr0:Kd.C (Kd.int .u8) w A0 l0.length l0) (hc0:l0.length<=c0) (h:r05_Get.f k l0=some (r1,r2,r3,r4,r5)) :
  Calls Try.prog 14 #[.slice A0 l0.length c0] w λe w'=>∃ v2_ v3_:Value,e = .returned (.tuple #[.agg #[.int .i64 r1,.int .i64 r2,v2_,v3_],.bool r5])/\Kd.R (Kd.int .i64) 3 w' w.heap.size (λ_=>True) v2_ r3/\Kd.R k48 48 w' w.heap.size (λ_=>True) v3_ r4/\Below w.heap.size w w':=by
 have hu30:=Try.underlying30
 have hu25:=Try.underlying25
 have hu48:=Try.underlying48
 have HR:=Aside0.mk hr0
 have HC:=Aside0.mk hc0
 have HH:=h
 clear hr0 hc0 h
 go_enter Try.func14,Try.ntmps14
 go_upto_region 1 with (first|((with_reducible refine gate_dst (N:=2) rfl ?_);refine box_event ?hg (N:=2) ?hd (cs:=#[.int .i64 0,.int .i64 0,.slice none 0 0,.slice none 0 0]) (t:=30) ?hr ?_;(case hd=>rfl);(case hg=>rfl);(case hr=>exact z10_10);intro gb hg w3 hbox hb;have HB:=Aside0.mk hb;have BK:=Aside0.mk hbox;have GE:=U (Nat.le_of_eq hg.symm);clear hb hbox hg))
 unfold r05_Get.f at HH
 replace HH:=oB_ HH
 obtain ⟨⟨l,len⟩,h1,HH⟩:=HH
 have H1:=Aside0.mk h1
 have H:=Aside0.mk HH
 clear h1 HH
 go_upto_region 2 with (first|((with_reducible refine gate_callee (f:=53) rfl ?_);refine goesL_ (some 24) rfl rfl Try.func53 z14_15 rfl #[.slice A0 l0.length c0,.int .i64 18] rfl z16_0 ?_;(with_reducible refine(r02_Unpack.calls k _ _ l0 18 l len _ (Kd.C_below HR.out HB.out) HC.out H1.out).mono ?_);rintro e w4 ⟨v4,rfl,ho,hb⟩;refine ⟨_,rfl,?_⟩;replace HB:=U (below_step HB.out hb);replace BK:=U (blk_below BK.out hb);clear hb;obtain ⟨A4,c4,e4⟩:=Kd.S_slice ho;subst e4;have HL:=U (S_Ft ho).2.2;have CL:=U (S_Ft ho).2.1;clear ho))
 have HH:=H.out
 clear H H1
 by_cases cl:(l.length:Int)<3
 ·rw [if_pos cl] at HH
  (simp only [r05_Get.fail,Option.some.injEq,Prod.mk.injEq] at HH;obtain ⟨rfl,rfl,rfl,rfl,rfl⟩:=HH)
  have cl1:decide ((l.length:Int)<3)=true:=dT_ cl
  obtain ⟨hz0,hz1,hz2,hz3,hf0,hf1,hf2,hf3⟩:=cz4_ BK.out
  go_wp2
  (refine bodyPost_ret (results_ct rfl _ _ gb 30 #[.int .i64 0,.int .i64 0,.slice none 0 0,.slice none 0 0] (0,0) _ rfl (put4 BK.out) Try.underlying30 rfl z14_15) rfl ?_;exact ⟨_,_,rfl,Kd.R_nil _ _ _ _ _,Kd.R_nil _ _ _ _ _,below_put4 HB.out GE.out⟩)
 rw [if_neg cl] at HH
 have cl1:decide ((l.length:Int)<3)=false:=dF_ cl
 replace HH:=oB_ HH
 obtain ⟨⟨d,lend⟩,h1,HH⟩:=HH
 have H1:=Aside0.mk h1
 have H:=Aside0.mk HH
 clear h1 HH
 obtain ⟨ad,A6,c6,e6,hx0,hl6,hC6⟩:=at_rdB (Ft_now HL.out) 0 (by omega) (by omega)
 cases e6
 simp only [show(0:Int).toNat=0 from rfl,Nat.reduceMul,Go.Addr.add,↓reduceIte] at hx0
 have q0:(0<l.length)=True:=eq_true (by omega)
 have q1:(1<l.length)=True:=eq_true (by omega)
 have q1i:((1:Int)<(l.length:Int))=True:=eq_true (by omega)
 have HL3:=U (show 2<l.length by omega)
 have HR6:=Aside0.mk hC6
 have HC6:=Aside0.mk hl6
 clear hC6 hl6 cl
 go_upto_region 5 with (first|((with_reducible refine gate_callee (f:=53) rfl ?_);refine goesL_ (some 35) rfl rfl Try.func53 z14_15 rfl #[.slice A6 (rdB l 0).length c6,.int .i64 2] rfl z16_0 ?_;(with_reducible refine(r02_Unpack.calls k _ _ (rdB l 0) 2 d lend _ HR6.out HC6.out H1.out).mono ?_);rintro e w5 ⟨v6,rfl,ho,hb⟩;refine ⟨_,rfl,?_⟩;replace HB:=U (below_step HB.out hb);replace BK:=U (blk_below BK.out hb);replace HL:=U (Ft_below HL.out hb);clear hb;obtain ⟨A7,c7,e7⟩:=Kd.S_slice ho;subst e7;have HD:=U (S_Ft ho).2.2;have CD:=U (S_Ft ho).2.1;clear ho))
 have HH:=H.out
 clear H H1 hx0 HR6 HC6
 by_cases cd:(d.length:Int)=2
 case neg =>
  rw [if_neg cd] at HH
  (simp only [r05_Get.fail,Option.some.injEq,Prod.mk.injEq] at HH;obtain ⟨rfl,rfl,rfl,rfl,rfl⟩:=HH)
  have cd1:((d.length:Int) != 2)=true:=bne_iff_ne.2 cd
  obtain ⟨hz0,hz1,hz2,hz3,hf0,hf1,hf2,hf3⟩:=cz4_ BK.out
  go_wp2
  (refine bodyPost_ret (results_ct rfl _ _ gb 30 #[.int .i64 0,.int .i64 0,.slice none 0 0,.slice none 0 0] (0,0) _ rfl (put4 BK.out) Try.underlying30 rfl z14_15) rfl ?_;exact ⟨_,_,rfl,Kd.R_nil _ _ _ _ _,Kd.R_nil _ _ _ _ _,below_put4 HB.out GE.out⟩)
 rw [if_pos cd] at HH
 have cd1:((d.length:Int) != 2)=false:=by rw [cd];rfl
 replace HH:=oB_ HH
 obtain ⟨⟨rep,ok⟩,h1,HH⟩:=HH
 replace HH:=oB_ HH
 obtain ⟨⟨seq,ok2⟩,h2,HH⟩:=HH
 replace HH:=oB_ HH
 obtain ⟨⟨past,lenp⟩,h3,HH⟩:=HH
 have H1:=Aside0.mk h1
 have H2:=Aside0.mk h2
 have H3:=Aside0.mk h3
 have H:=Aside0.mk HH
 clear h1 h2 h3 HH
 obtain ⟨adl,A9,c9,e9,hx1,hl9,hC9⟩:=at_rdB (Ft_now HL.out) 1 (by omega) (by have:=HL3.out;omega)
 obtain rfl:ad=adl:=by injection e9
 obtain ⟨add,A8,c8,e8,hd0,hl8,hC8⟩:=at_rdB (Ft_now HD.out) 0 (by omega) (by omega)
 cases e8
 obtain ⟨add',A11,c11,e11,hd1,hl11,hC11⟩:=at_rdB (Ft_now HD.out) 1 (by omega) (by omega)
 obtain rfl:add=add':=by injection e11
 simp only [show(1:Int).toNat=1 from rfl,show(0:Int).toNat=0 from rfl,Nat.reduceMul,Nat.reduceEqDiff,Go.Addr.add,↓reduceIte] at hx1 hd0 hd1
 have p0:(0<d.length)=True:=eq_true (by omega)
 have p1:(1<d.length)=True:=eq_true (by omega)
 have p1i:((1:Int)<(d.length:Int))=True:=eq_true (by omega)
 have HR8:=Aside0.mk hC8;have HC8:=Aside0.mk hl8
 have HR9:=Aside0.mk hC9;have HC9:=Aside0.mk hl9
 have HR11:=Aside0.mk hC11;have HC11:=Aside0.mk hl11
 clear hC8 hl8 hC9 hl9 hC11 hl11 e9 e11 cd
 go_upto_region 8 with (first|((with_reducible refine gate_callee (f:=54) rfl ?_);refine goesL_ (some 46) rfl rfl Try.func54 z14_15 rfl #[.slice A8 (rdB d 0).length c8] rfl z16_0 ?_;(with_reducible refine(r05_number.calls k _ _ (rdB d 0) rep ok _ HR8.out HC8.out H1.out).mono ?_);rintro e w6 ⟨rfl,hb⟩;refine ⟨_,rfl,?_⟩;replace HB:=U (below_step HB.out hb);replace BK:=U (blk_below BK.out hb);replace HL:=U (Ft_below HL.out hb);have n3:=pw_cell_below hb hd1;have n4:=pw_cell_below hb hx1;have n5:=U (Kd.C_below HR11.out hb);have n6:=U (Kd.C_below HR9.out hb);clear hd0 hd1 hx1 HR11 HR9;have hd1:=n3;have hx1:=n4;have HR11:=n5;have HR9:=n6;clear n3 n4 n5 n6 hb))
 go_upto_region 9 with (first|((with_reducible refine gate_callee (f:=54) rfl ?_);refine goesL_ (some 53) rfl rfl Try.func54 z14_15 rfl #[.slice A11 (rdB d 1).length c11] rfl z16_0 ?_;(with_reducible refine(r05_number.calls k _ _ (rdB d 1) seq ok2 _ HR11.out HC11.out H2.out).mono ?_);rintro e w6 ⟨rfl,hb⟩;refine ⟨_,rfl,?_⟩;replace HB:=U (below_step HB.out hb);replace BK:=U (blk_below BK.out hb);replace HL:=U (Ft_below HL.out hb);have n4:=pw_cell_below hb hx1;have n6:=U (Kd.C_below HR9.out hb);clear hd1 hx1 HR9;have hx1:=n4;have HR9:=n6;clear n4 n6 hb))
 go_upto_region 10 with (first|((with_reducible refine gate_callee (f:=55) rfl ?_);refine goesL_ (some 60) rfl rfl Try.func55 z14_15 rfl #[.slice A9 (rdB l 1).length c9] rfl z16_0 ?_;(with_reducible refine(r03_Read.calls k _ _ (rdB l 1) past lenp _ HR9.out HC9.out H3.out).mono ?_);rintro e_ w7 ⟨v8,rfl,ho,hb⟩;refine ⟨_,rfl,?_⟩;have HSZ:=U (below_size HB.out);replace HB:=U (below_step HB.out hb);replace BK:=U (blk_below BK.out hb);replace HL:=U (Ft_below HL.out hb);clear hx1 HD hb;obtain ⟨A10,c10,e10⟩:=Kd.R_slice ho;subst e10;have HP:=U (show Rp (Kd.int .i64) 3 w.heap.size _ A10 c10 past from Kd.R_lower ho HSZ.out);have CP:=U (Rp_le HP.out);clear ho HSZ))
 have HH:=H.out
 clear H H1 H2 H3 HR8 HC8 HR9 HC9 HR11 HC11 p0 p1 p1i q0 q1 q1i CD
 cases ok with
 | false =>
  rw [if_neg (show ¬ (false=true) by decide)] at HH
  (simp only [r05_Get.fail,Option.some.injEq,Prod.mk.injEq] at HH;obtain ⟨rfl,rfl,rfl,rfl,rfl⟩:=HH)
  obtain ⟨hz0,hz1,hz2,hz3,hf0,hf1,hf2,hf3⟩:=cz4_ BK.out
  go_wp2
  (refine bodyPost_ret (results_ct rfl _ _ gb 30 #[.int .i64 0,.int .i64 0,.slice none 0 0,.slice none 0 0] (0,0) _ rfl (put4 BK.out) Try.underlying30 rfl z14_15) rfl ?_;exact ⟨_,_,rfl,Kd.R_nil _ _ _ _ _,Kd.R_nil _ _ _ _ _,below_put4 HB.out GE.out⟩)
 | true =>
 rw [if_pos rfl] at HH
 cases ok2 with
 | false =>
  rw [if_neg (show ¬ (false=true) by decide)] at HH
  (simp only [r05_Get.fail,Option.some.injEq,Prod.mk.injEq] at HH;obtain ⟨rfl,rfl,rfl,rfl,rfl⟩:=HH)
  obtain ⟨hz0,hz1,hz2,hz3,hf0,hf1,hf2,hf3⟩:=cz4_ BK.out
  go_wp2
  (refine bodyPost_ret (results_ct rfl _ _ gb 30 #[.int .i64 0,.int .i64 0,.slice none 0 0,.slice none 0 0] (0,0) _ rfl (put4 BK.out) Try.underlying30 rfl z14_15) rfl ?_;exact ⟨_,_,rfl,Kd.R_nil _ _ _ _ _,Kd.R_nil _ _ _ _ _,below_put4 HB.out GE.out⟩)
 | true =>
 rw [if_pos rfl] at HH
 replace HH:=oB_ HH
 obtain ⟨o,h1,HH⟩:=HH
 have H1:=Aside0.mk h1
 have H:=Aside0.mk HH
 clear h1 HH
 go_wp2
 obtain ⟨g,hgx⟩:∃ g,g=w7.heap.size:=⟨_,rfl⟩
 have BO:=U (heap_alloc_new w7 (.cells #[.int .i64 rep,.int .i64 seq,.slice A10 past.length c10,.slice none 0 0] 30))
 have hbx:=below_alloc (Below.refl w7.heap.size w7) (.cells #[.int .i64 rep,.int .i64 seq,.slice A10 past.length c10,.slice none 0 0] 30)
 generalize w7.alloc (.cells #[.int .i64 rep,.int .i64 seq,.slice A10 past.length c10,.slice none 0 0] 30)=w8 at BO hbx ⊢
 have HB1:=U (below_step HB.out hbx);have BK1:=U (blk_below BK.out hbx);have HT1:=U (Ft_below HL.out hbx);have HP1:=U (Rp_below HP.out hbx)
 have GO:=U (show w.heap.size<=g by rw [hgx];exact below_size HB.out)
 have NE:=U (show gb≠g by rw [hgx];exact Nat.ne_of_lt (blk_lt BK.out))
 rw [<-hgx] at BO ⊢
 clear hbx HB BK HL HP hgx
 go_loopg [15] k (λkq v15 w'=>∃ (acc:List S48) (i:Int) (v:Value),v15 = .int .i64 i/\Aside0 (r05_Get.l0 kq l acc i=some o)/\Aside0 (kq<=k)/\Aside0 (w'.heap[g]? = some (.cells #[.int .i64 rep,.int .i64 seq,.slice A10 past.length c10,v] 30 (0,0)))/\Aside0 (Kd.N k48 48 w' w.heap.size (λk=>k≠g) v acc)/\Aside0 (Ft (Kd.slice 5 (Kd.int .u8)) [22,5] w' (some ad) l)/\Aside0 (Rp (Kd.int .i64) 3 w.heap.size w' A10 c10 past)/\Aside0 (w'.heap[gb]? = some (.cells #[.int .i64 0,.int .i64 0,.slice none 0 0,.slice none 0 0] 30 (0,0)))/\Aside0 (Below w.heap.size w w'))
 case atStart=>exact ⟨[],2,.slice none 0 0,rfl,H1,⟨Nat.le_refl _⟩,BO,⟨Kd.N_nil _ _ _ _ _⟩,HT1,HP1,BK1,HB1⟩
 case round =>
 clear H1 BO HT1 HP1 BK1 HB1
 obtain ⟨acc,i,v,rfl,HA,HK,BO,HO,HT,HP,BK,HB⟩:=hrel
 cases gk with
 | zero=>exact absurd HA.out (by simp [r05_Get.l0])
 | succ k1 =>
 have HQ:=HA.out
 clear HA
 simp only [r05_Get.l0] at HQ
 by_cases ci:i<(l.length:Int)
 rotate_left
 ·rw [if_neg ci] at HQ
  obtain rfl:=sI_ HQ
  have HH:=H.out
  clear H
  simp only at HH
  replace HH:=oB_ HH
  obtain ⟨m,h1,HH⟩:=HH
  have HX:=Aside0.mk h1
  clear h1
  have ci1:decide (i<(l.length:Int))=false:=dF_ ci
  have ci2:(i<(l.length:Int))=False:=eq_false ci
  clear ci HT
  obtain ⟨Av,cv,ev⟩:=Kd.N_slice HO.out
  subst ev
  obtain ⟨ho0,ho1,ho2,ho3,_,_,_,_⟩:=cz4_ BO.out
  cases m with
  | false =>
   rw [if_neg (show ¬ (false=true) by decide)] at HH
   (simp only [r05_Get.fail,Option.some.injEq,Prod.mk.injEq] at HH;obtain ⟨rfl,rfl,rfl,rfl,rfl⟩:=HH)
   go_wp2_with (first|((with_reducible refine gate_callee (f:=17) rfl ?_);refine goesL_ (some 140) rfl rfl Try.func17 z14_15 rfl #[.agg #[.int .i64 rep,.int .i64 seq,.slice A10 past.length c10,.slice Av acc.length cv]] rfl z16_0 ?_;(with_reducible refine(r05_May.calls k _ _ _ _ past _ _ acc _ _ (Rp_now HP.out) CP.out (Kd.N_reads' HO.out).2.2 (Kd.N_reads' HO.out).2.1 HX.out).mono ?_);rintro e w12 ⟨rfl,hb⟩;refine ⟨_,rfl,?_⟩;replace HB:=U (below_step HB.out hb);replace BK:=U (blk_below BK.out hb);replace HP:=U (Rp_below HP.out hb);replace HO:=U (Kd.N_below HO.out hb);replace BO:=U (blk_below BO.out hb);clear ho0 ho1 ho2 ho3;clear hb;obtain ⟨hz0,hz1,hz2,hz3,hf0,hf1,hf2,hf3⟩:=cz4_ BK.out;obtain ⟨ho0,ho1,ho2,ho3,_,_,_,_⟩:=cz4_ BO.out))
   (refine bodyPost_ret (results_ct rfl _ _ gb 30 #[.int .i64 0,.int .i64 0,.slice none 0 0,.slice none 0 0] (0,0) _ rfl (put4 BK.out) Try.underlying30 rfl z14_15) rfl ?_;exact ⟨_,_,rfl,Kd.R_nil _ _ _ _ _,Kd.R_nil _ _ _ _ _,below_put4 HB.out GE.out⟩)
  | true =>
  rw [if_pos rfl] at HH
  replace HH:=oB_ HH
  obtain ⟨c,h1,HH⟩:=HH
  replace HH:=oB_ HH
  obtain ⟨s,h2,HH⟩:=HH
  have HY:=Aside0.mk h1
  have HZ:=Aside0.mk h2
  clear h1 h2
  cases s with
  | false =>
   rw [if_neg (show ¬ (false=true) by decide)] at HH
   (simp only [r05_Get.fail,Option.some.injEq,Prod.mk.injEq] at HH;obtain ⟨rfl,rfl,rfl,rfl,rfl⟩:=HH)
   go_wp2_with (first|((with_reducible refine gate_callee (f:=17) rfl ?_);refine goesL_ (some 140) rfl rfl Try.func17 z14_15 rfl #[.agg #[.int .i64 rep,.int .i64 seq,.slice A10 past.length c10,.slice Av acc.length cv]] rfl z16_0 ?_;(with_reducible refine(r05_May.calls k _ _ _ _ past _ _ acc _ _ (Rp_now HP.out) CP.out (Kd.N_reads' HO.out).2.2 (Kd.N_reads' HO.out).2.1 HX.out).mono ?_);rintro e w12 ⟨rfl,hb⟩;refine ⟨_,rfl,?_⟩;replace HB:=U (below_step HB.out hb);replace BK:=U (blk_below BK.out hb);replace HP:=U (Rp_below HP.out hb);replace HO:=U (Kd.N_below HO.out hb);replace BO:=U (blk_below BO.out hb);clear ho0 ho1 ho2 ho3;clear hb;obtain ⟨hz0,hz1,hz2,hz3,hf0,hf1,hf2,hf3⟩:=cz4_ BK.out;obtain ⟨ho0,ho1,ho2,ho3,_,_,_,_⟩:=cz4_ BO.out)|((with_reducible refine gate_callee (f:=28) rfl ?_);(try(refine gate_guard (by rfl) ?_;dsimp only));refine goesL_ (some 144) rfl rfl Try.func28 z14_15 rfl #[.agg #[.int .i64 rep,.int .i64 seq,.slice A10 past.length c10,.slice Av acc.length cv]] rfl z16_0 ?_;(with_reducible refine(r05_Put.calls k _ _ _ _ past _ _ acc _ _ (Rp_now HP.out) CP.out (Kd.N_reads' HO.out).2.2 (Kd.N_reads' HO.out).2.1 HY.out).mono ?_);rintro e w13 ⟨v144,rfl,hr,hb⟩;refine ⟨_,rfl,?_⟩;replace HB:=U (below_step HB.out hb);replace BK:=U (blk_below BK.out hb);replace HP:=U (Rp_below HP.out hb);replace HO:=U (Kd.N_below HO.out hb);replace BO:=U (blk_below BO.out hb);clear ho0 ho1 ho2 ho3;clear hb;obtain ⟨hz0,hz1,hz2,hz3,hf0,hf1,hf2,hf3⟩:=cz4_ BK.out;obtain ⟨ho0,ho1,ho2,ho3,_,_,_,_⟩:=cz4_ BO.out;obtain ⟨A144,c144,e144⟩:=Kd.R_slice hr;subst e144;have HW:=U (Kd.R_reads' hr);clear hr)|((with_reducible refine gate_callee (f:=23) rfl ?_);(try(refine gate_guard (by rfl) ?_;dsimp only));refine goesL_ (some 146) rfl rfl Try.func23 z14_15 rfl #[.slice A144 c.length c144,.slice A0 l0.length c0] rfl z16_0 ?_;(with_reducible refine(r02_Bytes.calls k _ _ c _ _ l0 _ _ HW.out.2.2 HW.out.2.1 (Kd.C_below HR.out HB.out) HC.out HZ.out).mono ?_);rintro e w14 ⟨rfl,hd⟩;refine ⟨_,rfl,?_⟩;have hb:=below_of_drawn hd;clear hd;replace HB:=U (below_step HB.out hb);replace BK:=U (blk_below BK.out hb);replace HP:=U (Rp_below HP.out hb);replace HO:=U (Kd.N_below HO.out hb);replace BO:=U (blk_below BO.out hb);clear ho0 ho1 ho2 ho3;clear hb;obtain ⟨hz0,hz1,hz2,hz3,hf0,hf1,hf2,hf3⟩:=cz4_ BK.out;obtain ⟨ho0,ho1,ho2,ho3,_,_,_,_⟩:=cz4_ BO.out))
   (refine bodyPost_ret (results_ct rfl _ _ gb 30 #[.int .i64 0,.int .i64 0,.slice none 0 0,.slice none 0 0] (0,0) _ rfl (put4 BK.out) Try.underlying30 rfl z14_15) rfl ?_;exact ⟨_,_,rfl,Kd.R_nil _ _ _ _ _,Kd.R_nil _ _ _ _ _,below_put4 HB.out GE.out⟩)
  | true =>
  rw [if_pos rfl] at HH
  simp only [Option.some.injEq,Prod.mk.injEq] at HH
  obtain ⟨rfl,rfl,rfl,rfl,rfl⟩:=HH
  go_wp2_with (first|((with_reducible refine gate_callee (f:=17) rfl ?_);refine goesL_ (some 140) rfl rfl Try.func17 z14_15 rfl #[.agg #[.int .i64 rep,.int .i64 seq,.slice A10 past.length c10,.slice Av acc.length cv]] rfl z16_0 ?_;(with_reducible refine(r05_May.calls k _ _ _ _ past _ _ acc _ _ (Rp_now HP.out) CP.out (Kd.N_reads' HO.out).2.2 (Kd.N_reads' HO.out).2.1 HX.out).mono ?_);rintro e w12 ⟨rfl,hb⟩;refine ⟨_,rfl,?_⟩;replace HB:=U (below_step HB.out hb);replace BK:=U (blk_below BK.out hb);replace HP:=U (Rp_below HP.out hb);replace HO:=U (Kd.N_below HO.out hb);replace BO:=U (blk_below BO.out hb);clear ho0 ho1 ho2 ho3;clear hb;obtain ⟨hz0,hz1,hz2,hz3,hf0,hf1,hf2,hf3⟩:=cz4_ BK.out;obtain ⟨ho0,ho1,ho2,ho3,_,_,_,_⟩:=cz4_ BO.out)|((with_reducible refine gate_callee (f:=28) rfl ?_);(try(refine gate_guard (by rfl) ?_;dsimp only));refine goesL_ (some 144) rfl rfl Try.func28 z14_15 rfl #[.agg #[.int .i64 rep,.int .i64 seq,.slice A10 past.length c10,.slice Av acc.length cv]] rfl z16_0 ?_;(with_reducible refine(r05_Put.calls k _ _ _ _ past _ _ acc _ _ (Rp_now HP.out) CP.out (Kd.N_reads' HO.out).2.2 (Kd.N_reads' HO.out).2.1 HY.out).mono ?_);rintro e w13 ⟨v144,rfl,hr,hb⟩;refine ⟨_,rfl,?_⟩;replace HB:=U (below_step HB.out hb);replace BK:=U (blk_below BK.out hb);replace HP:=U (Rp_below HP.out hb);replace HO:=U (Kd.N_below HO.out hb);replace BO:=U (blk_below BO.out hb);clear ho0 ho1 ho2 ho3;clear hb;obtain ⟨hz0,hz1,hz2,hz3,hf0,hf1,hf2,hf3⟩:=cz4_ BK.out;obtain ⟨ho0,ho1,ho2,ho3,_,_,_,_⟩:=cz4_ BO.out;obtain ⟨A144,c144,e144⟩:=Kd.R_slice hr;subst e144;have HW:=U (Kd.R_reads' hr);clear hr)|((with_reducible refine gate_callee (f:=23) rfl ?_);(try(refine gate_guard (by rfl) ?_;dsimp only));refine goesL_ (some 146) rfl rfl Try.func23 z14_15 rfl #[.slice A144 c.length c144,.slice A0 l0.length c0] rfl z16_0 ?_;(with_reducible refine(r02_Bytes.calls k _ _ c _ _ l0 _ _ HW.out.2.2 HW.out.2.1 (Kd.C_below HR.out HB.out) HC.out HZ.out).mono ?_);rintro e w14 ⟨rfl,hd⟩;refine ⟨_,rfl,?_⟩;have hb:=below_of_drawn hd;clear hd;replace HB:=U (below_step HB.out hb);replace BK:=U (blk_below BK.out hb);replace HP:=U (Rp_below HP.out hb);replace HO:=U (Kd.N_below HO.out hb);replace BO:=U (blk_below BO.out hb);clear ho0 ho1 ho2 ho3;clear hb;obtain ⟨hz0,hz1,hz2,hz3,hf0,hf1,hf2,hf3⟩:=cz4_ BK.out;obtain ⟨ho0,ho1,ho2,ho3,_,_,_,_⟩:=cz4_ BO.out))
  refine bodyPost_ret (results_ct rfl _ _ gb 30 #[.int .i64 rep,.int .i64 seq,.slice A10 past.length c10,.slice Av acc.length cv] (0,0) _ rfl (put4 BK.out) Try.underlying30 rfl z14_15) rfl ?_
  have TB:=typed_of_block BK.out
  exact ⟨_,_,rfl,Rp_put4 rfl HP.out TB (by decide) _ _ _ _,Rp_put4 rfl (Rp_of_N r05_Get.k48_MK HO.out) TB (by decide) _ _ _ _,below_put4 HB.out GE.out⟩
 rw [if_pos ci] at HQ
 by_cases c0_:0<=i
 case neg =>
  rw [if_neg c0_] at HQ
  exact absurd HQ (by simp)
 rw [if_pos c0_] at HQ
 replace HQ:=oB_ HQ
 obtain ⟨⟨p,lenq⟩,h1,HQ⟩:=HQ
 have HE:=Aside0.mk h1
 replace HQ:=Aside0.mk HQ
 clear h1
 obtain ⟨adt,A14,c14,e14,hx,hl14,hC14⟩:=at_rdB (Ft_now HT.out) i c0_ ci
 obtain rfl:ad=adt:=by injection e14
 have ci1:decide (i<(l.length:Int))=true:=dT_ ci
 have ci2:(i<(l.length:Int))=True:=eq_true ci
 have c01:(0<=i)=True:=eq_true c0_
 have HR14:=Aside0.mk hC14
 have HC14:=Aside0.mk hl14
 clear ci c0_ hC14 hl14 e14
 go_upto_region 17 with (first|((with_reducible refine gate_callee (f:=53) rfl ?_);refine goesL_ (some 86) rfl rfl Try.func53 z14_15 rfl #[.slice A14 (rdB l i).length c14,.int .i64 6] rfl z16_0 ?_;(with_reducible refine(r02_Unpack.calls k1 _ _ (rdB l i) 6 p lenq _ HR14.out HC14.out HE.out).mono ?_);rintro e_ w9 ⟨v9,rfl,ho,hb⟩;refine ⟨_,rfl,?_⟩;replace HB:=U (below_step HB.out hb);replace BK:=U (blk_below BK.out hb);replace HT:=U (Ft_below HT.out hb);replace HP:=U (Rp_below HP.out hb);replace HO:=U (Kd.N_below HO.out hb);replace BO:=U (blk_below BO.out hb);clear hb hx;obtain ⟨Ap,cp,ep⟩:=Kd.S_slice ho;subst ep;have HPp:=U (S_Ft ho).2.2;have CPp:=U (S_Ft ho).2.1;clear ho))
 replace HQ:=HQ.out
 clear HE HR14 HC14
 by_cases cp6:(p.length:Int)=6
 case neg =>
  rw [if_neg cp6] at HQ
  obtain rfl:=sI_ HQ
  have HH:=H.out
  simp only at HH
  (simp only [r05_Get.fail,Option.some.injEq,Prod.mk.injEq] at HH;obtain ⟨rfl,rfl,rfl,rfl,rfl⟩:=HH)
  have cp1:((p.length:Int) != 6)=true:=bne_iff_ne.2 cp6
  obtain ⟨hz0,hz1,hz2,hz3,hf0,hf1,hf2,hf3⟩:=cz4_ BK.out
  go_wp2
  (refine bodyPost_ret (results_ct rfl _ _ gb 30 #[.int .i64 0,.int .i64 0,.slice none 0 0,.slice none 0 0] (0,0) _ rfl (put4 BK.out) Try.underlying30 rfl z14_15) rfl ?_;exact ⟨_,_,rfl,Kd.R_nil _ _ _ _ _,Kd.R_nil _ _ _ _ _,below_put4 HB.out GE.out⟩)
 rw [if_pos cp6] at HQ
 have cp1:((p.length:Int) != 6)=false:=by rw [cp6];rfl
 have CP6:=U (show p.length=6 by omega)
 replace HQ:=oB_ HQ
 obtain ⟨o1,h1,HQ⟩:=HQ
 have HE:=Aside0.mk h1
 replace HQ:=Aside0.mk HQ
 clear h1 cp6
 obtain ⟨B0,hB0⟩:∃ B0,B0=w9.heap.size:=⟨_,rfl⟩
 have HPb:=U (Kd.R_mono (Kd.R_bound HP.out) (ok':=λj=>j<B0) (λj hj=>by rw [hB0];exact hj.2.2.1))
 have LB:=U (Nat.le_of_eq hB0)
 go_wp2
 have HN:=U (show Kd.N (Kd.int .i64) 3 (w9.alloc (.cells #[] 3)) w.heap.size (λj=>B0<=j) (.slice (some ⟨w9.heap.size,0,none⟩) 0 0) [] from Kd.R_N (Kd.R_of_own (enc:=Value.int .i64) (h1:=λ_=>rfl) (own_lit w9 w.heap.size 3 .i64 [] (below_size HB.out) (by simp)) (λk hk=>by simp only [Value.ownBlock,Option.some.injEq] at hk;subst hk;exact LB.out)))
 have hb:=below_alloc (Below.refl w9.heap.size w9) (.cells #[] 3)
 generalize w9.alloc (.cells #[] 3)=w10 at HN hb ⊢
 replace HB:=U (below_step HB.out hb);replace BK:=U (blk_below BK.out hb);replace HT:=U (Ft_below HT.out hb);replace HPb:=U (Kd.R_below HPb.out hb);replace HO:=U (Kd.N_below HO.out hb);replace BO:=U (blk_below BO.out hb);replace HPp:=U (Ft_below HPp.out hb);replace LB:=U (Nat.le_trans LB.out hb.size)
 clear hb
 clear HP hB0
 go_loopg [18,19] k1 (λmq v18 v19 w'=>∃ (ns:List Int) (j:Int),v19 = .int .i64 j/\Aside0 (r05_Get.l1 mq p ns j=some o1)/\Aside0 (mq<=k1)/\Aside0 (Kd.N (Kd.int .i64) 3 w' w.heap.size (λj=>B0<=j) v18 ns)/\Aside0 (w'.heap[g]? = some (.cells #[.int .i64 rep,.int .i64 seq,.slice A10 past.length c10,v] 30 (0,0)))/\Aside0 (Kd.N k48 48 w' w.heap.size (λk=>k≠g) v acc)/\Aside0 (Ft (Kd.slice 5 (Kd.int .u8)) [22,5] w' (some ad) l)/\Aside0 (Kd.R (Kd.int .i64) 3 w' w.heap.size (λj=>j<B0) (.slice A10 past.length c10) past)/\Aside0 (w'.heap[gb]? = some (.cells #[.int .i64 0,.int .i64 0,.slice none 0 0,.slice none 0 0] 30 (0,0)))/\Aside0 (Below w.heap.size w w')/\Aside0 (Ft (Kd.slice 5 (Kd.int .u8)) [22,5] w' Ap p)/\Aside0 (B0<=w'.heap.size))
 case atStart=>exact ⟨[],0,rfl,HE,⟨Nat.le_refl _⟩,HN,BO,HO,HT,HPb,BK,HB,HPp,LB⟩
 case round =>
 clear HE HN BO HO HT HPb BK HB HPp LB
 obtain ⟨ns,j,rfl,HA,HM,HN,BO,HO,HT,HPb,BK,HB,HPp,LB⟩:=hrel
 cases gk with
 | zero=>exact absurd HA.out (by simp [r05_Get.l1])
 | succ m1 =>
 have HJ:=HA.out
 clear HA
 simp only [r05_Get.l1] at HJ
 by_cases cj:j<4
 ·rw [if_pos cj] at HJ
  by_cases c0_:0<=j
  case neg =>
   rw [if_neg c0_] at HJ
   exact absurd HJ (by simp)
  rw [if_pos c0_] at HJ
  replace HJ:=oB_ HJ
  obtain ⟨⟨x,right⟩,h1,HJ⟩:=HJ
  have HE:=Aside0.mk h1
  replace HJ:=Aside0.mk HJ
  clear h1
  obtain ⟨adp,A15,c15,e15,hx,hl15,hC15⟩:=at_rdB (Ft_now HPp.out) j c0_ (by have:=CP6.out;omega)
  cases e15
  have cj1:decide (j<4)=true:=dT_ cj
  have cj2:(j<(p.length:Int))=True:=eq_true (by have:=CP6.out;omega)
  have c01:(0<=j)=True:=eq_true c0_
  have HR15:=Aside0.mk hC15
  have HC15:=Aside0.mk hl15
  clear cj c0_ hC15 hl15
  go_upto_region 24 with (first|((with_reducible refine gate_callee (f:=54) rfl ?_);refine goesL_ (some 103) rfl rfl Try.func54 z14_15 rfl #[.slice A15 (rdB p j).length c15] rfl z16_0 ?_;(with_reducible refine(r05_number.calls m1 _ _ (rdB p j) x right _ HR15.out HC15.out HE.out).mono ?_);rintro e_ w11 ⟨rfl,hb⟩;refine ⟨_,rfl,?_⟩;replace HB:=U (below_step HB.out hb);replace BK:=U (blk_below BK.out hb);replace HT:=U (Ft_below HT.out hb);replace HPb:=U (Kd.R_below HPb.out hb);replace HO:=U (Kd.N_below HO.out hb);replace BO:=U (blk_below BO.out hb);replace HPp:=U (Ft_below HPp.out hb);replace LB:=U (Nat.le_trans LB.out hb.size);replace HN:=U (Kd.N_below HN.out hb);clear hb hx))
  replace HJ:=HJ.out
  clear HE HR15 HC15
  cases right with
  | false =>
   rw [if_neg (show ¬ (false=true) by decide)] at HJ
   obtain rfl:=sI_ HJ
   replace HQ:=HQ.out
   simp only at HQ
   obtain rfl:=sI_ HQ
   have HH:=H.out
   simp only at HH
   (simp only [r05_Get.fail,Option.some.injEq,Prod.mk.injEq] at HH;obtain ⟨rfl,rfl,rfl,rfl,rfl⟩:=HH)
   obtain ⟨hz0,hz1,hz2,hz3,hf0,hf1,hf2,hf3⟩:=cz4_ BK.out
   go_wp2
   (refine bodyPost_ret (results_ct rfl _ _ gb 30 #[.int .i64 0,.int .i64 0,.slice none 0 0,.slice none 0 0] (0,0) _ rfl (put4 BK.out) Try.underlying30 rfl z14_15) rfl ?_;exact ⟨_,_,rfl,Kd.R_nil _ _ _ _ _,Kd.R_nil _ _ _ _ _,below_put4 HB.out GE.out⟩)
  | true =>
  rw [if_pos rfl] at HJ
  by_cases cl_:ns.length<17592186044416
  case neg =>
   rw [if_neg cl_] at HJ
   exact absurd HJ (by simp)
  rw [if_pos cl_] at HJ
  have CL2:=Aside0.mk cl_
  have HJ3:=Aside0.mk HJ
  clear cl_ HJ
  obtain ⟨An,cn,en⟩:=Kd.N_slice HN.out
  subst en
  go_wp2_with (first|((with_reducible refine gate_builtin (b:=.append) (xs:=#[.tmp 109,.tmp 111]) rfl ?_);at_builtin;refine Kd.N_append (Kd.int .i64) (w0:=w) w.heap.size rfl (.tmp 109) (.tmp 111) 26 3 (.int .i64 0) 8 rfl Try.underlying26 info3 rfl (by decide) (by decide) (.slice An ns.length cn) ns x [.int .i64 x] (λj=>B0<=j) (λ_=>False) rfl rfl (λ_ _=>rfl) (λ_ hk=>hk.elim) (λk hk=>Nat.le_trans LB.out hk) HN.out HB.out (below_size HB.out) (by have:=CL2.out;omega) ?_;intro v112 w12 ho hb hg hat;have TY:=U (λk (hk:(Value.slice An ns.length cn).ownBlock=some k)=>N_typed' HN.out hk.symm);have OW:=Aside0.mk HN.out.1;have n2:=U (blk_grown BK.out hg (Kd.N_ne HN.out BK.out (by decide)));have n3:=U (Ft_grown HT.out hg TY.out (by decide));have n4:=U (Kd.R_grown HPb.out hg (λk hk he=>by have:=OW.out k he.symm;omega));have n5:=U (N_grown_ty r05_Get.k48_any HO.out hg TY.out (by decide));have n6:=U (blk_grown BO.out hg (Kd.N_ne HN.out BO.out (by decide)));have n7:=U (Ft_grown HPp.out hg TY.out (by decide));have n8:=U (Nat.le_trans LB.out hg.size);clear HB BK HT HPb HO BO HPp LB HN TY OW;have HB:=Aside0.mk hb;have BK:=n2;have HT:=n3;have HPb:=n4;have HO:=n5;have BO:=n6;have HPp:=n7;have LB:=n8;have HN:=Aside0.mk ho;clear n2 n3 n4 n5 n6 n7 n8 hb hg hat ho))
  go_roundg m1
  case measure=>have:=HM.out;omega
  case rel=>exact ⟨ns++[x],wrap64 (j+1),rfl,HJ3,⟨(by have:=HM.out;omega)⟩,HN,BO,HO,HT,HPb,BK,HB,HPp,LB⟩
 rw [if_neg cj] at HJ
 obtain rfl:=sI_ HJ
 have cj1:decide (j<4)=false:=dF_ cj
 replace HQ:=HQ.out
 simp only at HQ
 by_cases cn3:3<(ns.length:Int)
 case neg =>
  rw [if_neg cn3] at HQ
  exact absurd HQ (by simp)
 rw [if_pos cn3] at HQ
 by_cases cl_:acc.length<2199023255552
 case neg =>
  rw [if_neg cl_] at HQ
  exact absurd HQ (by simp)
 rw [if_pos cl_] at HQ
 have CL2:=Aside0.mk cl_
 have CN3:=Aside0.mk cn3
 have HQ3:=Aside0.mk HQ
 clear cl_ HQ cn3 cj
 obtain ⟨An,cn,en⟩:=Kd.N_slice HN.out
 subst en
 obtain ⟨adn,en,_⟩:=Kd.at_int (Kd.N_reads' HN.out).2.2 0 (by omega) (by have:=CN3.out;omega)
 cases en
 obtain ⟨adp,_,_,ep,_⟩:=at_rdB (Ft_now HPp.out) 4 (by omega) (by have:=CP6.out;omega)
 cases ep
 obtain ⟨Av,cv,ev⟩:=Kd.N_slice HO.out
 subst ev
 go_upto_region 27 with (fail)
 obtain ⟨B1,hB1⟩:∃ B1,B1=wr.heap.size:=⟨_,rfl⟩
 have HO1:=U (Kd.N_mono (Kd.N_bound HO.out) (ok':=λk=>k≠g/\k<B1) (λk hk=>⟨hk.1,(by rw [hB1];exact hk.2)⟩))
 have LB1:=U (Nat.le_of_eq hB1)
 have HP:=U (show Rp (Kd.int .i64) 3 w.heap.size wr A10 c10 past from Kd.R_mono HPb.out (λ_ _=>trivial))
 clear HO hB1 HPb LB
 refine region_cards (F:=?F27) 24 (λw'=>Aside0 (w'.heap[g]? = some (.cells #[.int .i64 rep,.int .i64 seq,.slice A10 past.length c10,.slice Av acc.length cv] 30 (0,0)))/\Aside0 (Kd.N (Kd.int .i64) 3 w' w.heap.size (λj=>B0<=j) (.slice (some adn) ns.length cn) ns)/\Aside0 (Ft (Kd.slice 5 (Kd.int .u8)) [22,5] w' (some adp) p)/\Aside0 (Kd.N k48 48 w' w.heap.size (λk=>k≠g/\k<B1) (.slice Av acc.length cv) acc)/\Aside0 (Ft (Kd.slice 5 (Kd.int .u8)) [22,5] w' (some ad) l)/\Aside0 (Rp (Kd.int .i64) 3 w.heap.size w' A10 c10 past)/\Aside0 (w'.heap[gb]? = some (.cells #[.int .i64 0,.int .i64 0,.slice none 0 0,.slice none 0 0] 30 (0,0)))/\Aside0 (Below w.heap.size w w')/\Aside0 (B1<=w'.heap.size))
  [λv _ _ _=>v = .pointer (some ⟨g,3,none⟩),
  λv _ _ _=>v = .slice Av acc.length cv,
  λv _ _ _=>v = .slice (some adn) ns.length cn,
  λv _ _ _=>v = .pointer (some adn),
  λv _ _ _=>v = .int .i64 (rd ns 0),
  λv _ _ _=>v = .slice (some adn) ns.length cn,
  λv _ _ _=>v = .pointer (some ⟨adn.block,adn.off+1,none⟩),
  λv _ _ _=>v = .int .i64 (rd ns 1),
  λv _ _ _=>v = .slice (some adn) ns.length cn,
  λv _ _ _=>v = .pointer (some ⟨adn.block,adn.off+2,none⟩),
  λv _ _ _=>v = .int .i64 (rd ns 2),
  λv _ _ _=>v = .slice (some adn) ns.length cn,
  λv _ _ _=>v = .pointer (some ⟨adn.block,adn.off+3,none⟩),
  λv _ _ _=>v = .int .i64 (rd ns 3),
  λv _ _ _=>v = .slice (some adp) p.length cp,
  λv _ _ _=>v = .pointer (some ⟨adp.block,adp.off+4,none⟩),
  λv_ w' _ _=>∃ A c,v_ = .slice A (rdB p 4).length c/\(Kd.int .u8).C w' A (rdB p 4).length (rdB p 4),
  λv _ _ _=>v = .string (strOfNums (rdB p 4)),
  λv _ _ _=>v = .slice (some adp) p.length cp,
  λv _ _ _=>v = .pointer (some ⟨adp.block,adp.off+5,none⟩),
  λv_ w' _ _=>∃ A c,v_ = .slice A (rdB p 5).length c/\(Kd.int .u8).C w' A (rdB p 5).length (rdB p 5),
  λv _ _ _=>v = .string (strOfNums (rdB p 5)),
  λv _ _ _=>v = .agg #[.int .i64 (rd ns 0),.int .i64 (rd ns 1),.string (strOfNums (rdB p 4)),.int .i64 (rd ns 2),.int .i64 (rd ns 3),.string (strOfNums (rdB p 5))],
  λv_ w' lo hi=>∃ A c,v_ = .slice A 1 c/\Kd.F k48 w' (λj=>lo<=j/\j≠g) A 1 [(⟨rd ns 0,rd ns 1,strOfNums (rdB p 4),rd ns 2,rd ns 3,strOfNums (rdB p 5)⟩:S48)]/\B1<=lo]
  z14_15 z14_15 ?hF27 ?hS027 ?hS27 ?hstay27 ?hsteps27 ?hend27
 case hF27 =>
  intro vs
  simp only [List.take_succ_cons,List.take_zero,fill,if_true,if_false,Act.put,List.setIfInBounds_toArray,List.set_cons_zero,List.set_cons_succ,Nat.reduceAdd,List.contains_cons,List.contains_nil,Nat.reduceBEq,Bool.or_false,Bool.false_or,Bool.not_true,Bool.not_false,Bool.false_eq_true,Bool.or_self,Bool.true_or]
  rfl
 case hS027=>exact ⟨⟨blk_drew BO.out⟩,⟨Kd.N_drew HN.out⟩,⟨Ft_drew HPp.out⟩,⟨Kd.N_drew HO1.out⟩,⟨Ft_drew HT.out⟩,⟨Rp_drew HP.out⟩,⟨blk_drew BK.out⟩,⟨below_drew HB.out⟩,LB1⟩
 case hS27=>exact λw1 w2 hb hs=>⟨⟨blk_below hs.1.out hb⟩,⟨Kd.N_below hs.2.1.out hb⟩,⟨Ft_below hs.2.2.1.out hb⟩,⟨Kd.N_below hs.2.2.2.1.out hb⟩,⟨Ft_below hs.2.2.2.2.1.out hb⟩,⟨Rp_below hs.2.2.2.2.2.1.out hb⟩,⟨blk_below hs.2.2.2.2.2.2.1.out hb⟩,⟨below_step hs.2.2.2.2.2.2.2.1.out hb⟩,⟨Nat.le_trans hs.2.2.2.2.2.2.2.2.out hb.size⟩⟩
 case hstay27=>exact ⟨λ_ _ _ _ _ _ h=>h,λ_ _ _ _ _ _ h=>h,λ_ _ _ _ _ _ h=>h,λ_ _ _ _ _ _ h=>h,λ_ _ _ _ _ _ h=>h,λ_ _ _ _ _ _ h=>h,λ_ _ _ _ _ _ h=>h,λ_ _ _ _ _ _ h=>h,λ_ _ _ _ _ _ h=>h,λ_ _ _ _ _ _ h=>h,λ_ _ _ _ _ _ h=>h,λ_ _ _ _ _ _ h=>h,λ_ _ _ _ _ _ h=>h,λ_ _ _ _ _ _ h=>h,λ_ _ _ _ _ _ h=>h,λ_ _ _ _ _ _ h=>h,λ_ _ _ _ _ hb h=>by obtain ⟨A,c,h1,h2⟩:=h;exact ⟨A,c,h1,Kd.C_below h2 hb⟩,λ_ _ _ _ _ _ h=>h,λ_ _ _ _ _ _ h=>h,λ_ _ _ _ _ _ h=>h,λ_ _ _ _ _ hb h=>by obtain ⟨A,c,h1,h2⟩:=h;exact ⟨A,c,h1,Kd.C_below h2 hb⟩,λ_ _ _ _ _ _ h=>h,λ_ _ _ _ _ _ h=>h,λ_ _ _ _ _ hb h=>by obtain ⟨A,c,h1,h2,h3⟩:=h;exact ⟨A,c,h1,Kd.F_below h2 hb,h3⟩,trivial⟩
 case hsteps27 =>
  refine ⟨?s27_0,?s27_1,?s27_2,?s27_3,?s27_4,?s27_5,?s27_6,?s27_7,?s27_8,?s27_9,?s27_10,?s27_11,?s27_12,?s27_13,?s27_14,?s27_15,?s27_16,?s27_17,?s27_18,?s27_19,?s27_20,?s27_21,?s27_22,?s27_23,trivial⟩
  case s27_0 =>
   intro _ vs lo hi W hs hp
   exact does_val z10_10 ⟨rfl,Below.refl _ _⟩
  case s27_1 =>
   intro _ vs lo hi W hs hp
   have e0:vs 0 = .pointer (some ⟨g,3,none⟩):=hp 0 z14_15 rfl
   have hc_:W.cell? ⟨g,3,none⟩=some (.slice Av acc.length cv):=(blk_cell hs.1.out 3).trans rfl
   exact does_val z10_10 ⟨rfl,Below.refl _ _⟩
  case s27_2 =>
   intro _ vs lo hi W hs hp
   exact does_val z10_10 ⟨rfl,Below.refl _ _⟩
  case s27_3 =>
   intro _ vs lo hi W hs hp
   have e2:vs 2 = .slice (some adn) ns.length cn:=hp 2 z14_15 rfl
   have q_:=CN3.out
   have q0_:(0<ns.length)=True:=eq_true (by omega)
   have q0i_:((0:Int)<(ns.length:Int))=True:=eq_true (by omega)
   clear q_
   exact does_val z10_10 ⟨rfl,Below.refl _ _⟩
  case s27_4 =>
   intro _ vs lo hi W hs hp
   have e3:vs 3 = .pointer (some adn):=hp 3 z14_15 rfl
   obtain ⟨adn',en_,hn0⟩:=Kd.at_int (Kd.N_reads' hs.2.1.out).2.2 0 (by omega) (by have:=CN3.out;omega)
   cases en_
   simp only [show(0:Int).toNat=0 from rfl,Nat.reduceEqDiff,Go.Addr.add,↓reduceIte] at hn0
   exact does_val z10_10 ⟨rfl,Below.refl _ _⟩
  case s27_5 =>
   intro _ vs lo hi W hs hp
   exact does_val z10_10 ⟨rfl,Below.refl _ _⟩
  case s27_6 =>
   intro _ vs lo hi W hs hp
   have e5:vs 5 = .slice (some adn) ns.length cn:=hp 5 z14_15 rfl
   have q_:=CN3.out
   have q0_:(1<ns.length)=True:=eq_true (by omega)
   have q0i_:((1:Int)<(ns.length:Int))=True:=eq_true (by omega)
   clear q_
   exact does_val z10_10 ⟨rfl,Below.refl _ _⟩
  case s27_7 =>
   intro _ vs lo hi W hs hp
   have e6:vs 6 = .pointer (some ⟨adn.block,adn.off+1,none⟩):=hp 6 z14_15 rfl
   obtain ⟨adn',en_,hn0⟩:=Kd.at_int (Kd.N_reads' hs.2.1.out).2.2 1 (by omega) (by have:=CN3.out;omega)
   cases en_
   simp only [show(1:Int).toNat=1 from rfl,Nat.reduceEqDiff,Go.Addr.add,↓reduceIte] at hn0
   exact does_val z10_10 ⟨rfl,Below.refl _ _⟩
  case s27_8 =>
   intro _ vs lo hi W hs hp
   exact does_val z10_10 ⟨rfl,Below.refl _ _⟩
  case s27_9 =>
   intro _ vs lo hi W hs hp
   have e8:vs 8 = .slice (some adn) ns.length cn:=hp 8 z14_15 rfl
   have q_:=CN3.out
   have q0_:(2<ns.length)=True:=eq_true (by omega)
   have q0i_:((2:Int)<(ns.length:Int))=True:=eq_true (by omega)
   clear q_
   exact does_val z10_10 ⟨rfl,Below.refl _ _⟩
  case s27_10 =>
   intro _ vs lo hi W hs hp
   have e9:vs 9 = .pointer (some ⟨adn.block,adn.off+2,none⟩):=hp 9 z14_15 rfl
   obtain ⟨adn',en_,hn0⟩:=Kd.at_int (Kd.N_reads' hs.2.1.out).2.2 2 (by omega) (by have:=CN3.out;omega)
   cases en_
   simp only [show(2:Int).toNat=2 from rfl,Nat.reduceEqDiff,Go.Addr.add,↓reduceIte] at hn0
   exact does_val z10_10 ⟨rfl,Below.refl _ _⟩
  case s27_11 =>
   intro _ vs lo hi W hs hp
   exact does_val z10_10 ⟨rfl,Below.refl _ _⟩
  case s27_12 =>
   intro _ vs lo hi W hs hp
   have e11:vs 11 = .slice (some adn) ns.length cn:=hp 11 z14_15 rfl
   have q_:=CN3.out
   have q0_:(3<ns.length)=True:=eq_true (by omega)
   have q0i_:((3:Int)<(ns.length:Int))=True:=eq_true (by omega)
   clear q_
   exact does_val z10_10 ⟨rfl,Below.refl _ _⟩
  case s27_13 =>
   intro _ vs lo hi W hs hp
   have e12:vs 12 = .pointer (some ⟨adn.block,adn.off+3,none⟩):=hp 12 z14_15 rfl
   obtain ⟨adn',en_,hn0⟩:=Kd.at_int (Kd.N_reads' hs.2.1.out).2.2 3 (by omega) (by have:=CN3.out;omega)
   cases en_
   simp only [show(3:Int).toNat=3 from rfl,Nat.reduceEqDiff,Go.Addr.add,↓reduceIte] at hn0
   exact does_val z10_10 ⟨rfl,Below.refl _ _⟩
  case s27_14 =>
   intro _ vs lo hi W hs hp
   exact does_val z10_10 ⟨rfl,Below.refl _ _⟩
  case s27_15 =>
   intro _ vs lo hi W hs hp
   have e14:vs 14 = .slice (some adp) p.length cp:=hp 14 z14_15 rfl
   have q_:=CP6.out
   have q0_:(4<p.length)=True:=eq_true (by omega)
   have q0i_:((4:Int)<(p.length:Int))=True:=eq_true (by omega)
   clear q_
   exact does_val z10_10 ⟨rfl,Below.refl _ _⟩
  case s27_16 =>
   intro _ vs lo hi W hs hp
   have e15:vs 15 = .pointer (some ⟨adp.block,adp.off+4,none⟩):=hp 15 z14_15 rfl
   obtain ⟨ad_,A_,c_,e_,hx_,hl_,hC_⟩:=at_rdB (Ft_now hs.2.2.1.out) 4 (by omega) (by have:=CP6.out;omega)
   cases e_
   simp only [show(4:Int).toNat=4 from rfl,Nat.reduceEqDiff,Go.Addr.add,↓reduceIte] at hx_
   exact does_val (v:=.slice A_ (rdB p 4).length c_) z10_10 ⟨⟨A_,c_,rfl,hC_⟩,Below.refl _ _⟩
  case s27_17 =>
   intro _ vs lo hi W hs hp
   obtain ⟨A_,c_,e_,hC_⟩:∃ A c,vs 16 = .slice A (rdB p 4).length c/\(Kd.int .u8).C W A (rdB p 4).length (rdB p 4):=hp 16 z14_15 rfl
   have hcv_:=Kd.C_string (P:=Try.prog) (c:=c_) Try.underlying22 Try.underlying5 Try.underlying9 hC_
   clear hC_
   exact does_val z10_10 ⟨rfl,Below.refl _ _⟩
  case s27_18 =>
   intro _ vs lo hi W hs hp
   exact does_val z10_10 ⟨rfl,Below.refl _ _⟩
  case s27_19 =>
   intro _ vs lo hi W hs hp
   have e18:vs 18 = .slice (some adp) p.length cp:=hp 18 z14_15 rfl
   have q_:=CP6.out
   have q0_:(5<p.length)=True:=eq_true (by omega)
   have q0i_:((5:Int)<(p.length:Int))=True:=eq_true (by omega)
   clear q_
   exact does_val z10_10 ⟨rfl,Below.refl _ _⟩
  case s27_20 =>
   intro _ vs lo hi W hs hp
   have e19:vs 19 = .pointer (some ⟨adp.block,adp.off+5,none⟩):=hp 19 z14_15 rfl
   obtain ⟨ad_,A_,c_,e_,hx_,hl_,hC_⟩:=at_rdB (Ft_now hs.2.2.1.out) 5 (by omega) (by have:=CP6.out;omega)
   cases e_
   simp only [show(5:Int).toNat=5 from rfl,Nat.reduceEqDiff,Go.Addr.add,↓reduceIte] at hx_
   exact does_val (v:=.slice A_ (rdB p 5).length c_) z10_10 ⟨⟨A_,c_,rfl,hC_⟩,Below.refl _ _⟩
  case s27_21 =>
   intro _ vs lo hi W hs hp
   obtain ⟨A_,c_,e_,hC_⟩:∃ A c,vs 20 = .slice A (rdB p 5).length c/\(Kd.int .u8).C W A (rdB p 5).length (rdB p 5):=hp 20 z14_15 rfl
   have hcv_:=Kd.C_string (P:=Try.prog) (c:=c_) Try.underlying22 Try.underlying5 Try.underlying9 hC_
   clear hC_
   exact does_val z10_10 ⟨rfl,Below.refl _ _⟩
  case s27_22 =>
   intro _ vs lo hi W hs hp
   have e4:vs 4 = .int .i64 (rd ns 0):=hp 4 z14_15 rfl
   have e7:vs 7 = .int .i64 (rd ns 1):=hp 7 z14_15 rfl
   have e10:vs 10 = .int .i64 (rd ns 2):=hp 10 z14_15 rfl
   have e13:vs 13 = .int .i64 (rd ns 3):=hp 13 z14_15 rfl
   have e17:vs 17 = .string (strOfNums (rdB p 4)):=hp 17 z14_15 rfl
   have e21:vs 21 = .string (strOfNums (rdB p 5)):=hp 21 z14_15 rfl
   exact does_val z10_10 ⟨rfl,Below.refl _ _⟩
  case s27_23 =>
   intro _ vs lo hi W hs hp
   have e22:vs 22 = .agg #[.int .i64 (rd ns 0),.int .i64 (rd ns 1),.string (strOfNums (rdB p 4)),.int .i64 (rd ns 2),.int .i64 (rd ns 3),.string (strOfNums (rdB p 5))]:=hp 22 z14_15 rfl
   exact does_val (v:=.slice (some ⟨W.heap.size,0,none⟩) 1 1) (w1:=W.alloc (.cells #[.int .i64 (rd ns 0),.int .i64 (rd ns 1),.string (strOfNums (rdB p 4)),.int .i64 (rd ns 2),.int .i64 (rd ns 3),.string (strOfNums (rdB p 5))] 48)) z10_10 ⟨⟨_,_,rfl,Kd.F_mono (lit1_F W 48 r05_Get.k48_any (k48_mk W (⟨rd ns 0,rd ns 1,strOfNums (rdB p 4),rd ns 2,rd ns 3,strOfNums (rdB p 5)⟩:S48))) (λj hj=>⟨Nat.le_of_eq hj.symm,(by have:=blk_lt hs.1.out;omega)⟩),hs.2.2.2.2.2.2.2.2.out⟩,below_alloc (Below.refl _ _) _⟩
 case hend27 =>
 intro vs lo hi W hs hp _
 simp only [List.drop_succ_cons,List.drop_zero]
 have e1:vs 1 = .slice Av acc.length cv:=hp 1 (by decide)
 obtain ⟨As,cs,e23,hF,hlo⟩:∃ A c,vs 23 = .slice A 1 c/\Kd.F k48 W (λj=>lo 23<=j/\j≠g) A 1 [(⟨rd ns 0,rd ns 1,strOfNums (rdB p 4),rd ns 2,rd ns 3,strOfNums (rdB p 5)⟩:S48)]/\B1<=lo 23:=hp 23 (by decide)
 rw [e1,e23]
 clear hp e1 e23 BO HN HPp HO1 HT HP BK HB LB1
 obtain ⟨BO,HN,HPp,HO,HT,HP,BK,HB,LB⟩:=hs
 have HF:=Aside0.mk hF
 have OW:=U (λk (hk:(Value.slice Av acc.length cv).ownBlock=some k)=>(show k<B1 from(HO.out.1 k hk).2))
 have HLO:=Aside0.mk hlo
 clear hF hlo
 go_wp2_with (first|((with_reducible refine gate_builtin (b:=.append) (xs:=#[.tmp 114,.tmp 136]) rfl ?_);at_builtin;refine Kd.N_append_rows k48 (w0:=w) w.heap.size rfl (.tmp 114) (.tmp 136) 28 48 (.agg #[.int .i64 0,.int .i64 0,.string (⟨#[]⟩:ByteArray),.int .i64 0,.int .i64 0,.string (⟨#[]⟩:ByteArray)]) 64 rfl Try.underlying28 r05_Get.info48 rfl (by decide) (by decide) (.slice Av acc.length cv) acc [(⟨rd ns 0,rd ns 1,strOfNums (rdB p 4),rd ns 2,rd ns 3,strOfNums (rdB p 5)⟩:S48)] As 1 cs (λk=>k≠g) (λj=>lo 23<=j/\j≠g) rfl rfl (Kd.N_mono HO.out (λ_ hk=>hk.1)) HF.out (λj hj=>⟨hj.2,λhe=>by have h1:=OW.out j he.symm;have h2:=HLO.out;have h3:=hj.1;omega⟩) (λk hk he=>by have:=blk_lt BO.out;omega) HB.out (below_size HB.out) (by have:=CL2.out;omega) ?_;intro v137 w12 ho hb hg hat;have TY:=U (λk (hk:(Value.slice Av acc.length cv).ownBlock=some k)=>N_typed' HO.out hk.symm);have n2:=U (blk_grown BK.out hg (Kd.N_ne HO.out BK.out (by decide)));have n3:=U (Ft_grown HT.out hg TY.out (by decide));have n4:=U (Rp_grown rfl HP.out hg TY.out (by decide));have n6:=U (blk_grown BO.out hg (Kd.N_ne HO.out BO.out (by decide)));clear HB BK HT HP HO BO HPp HN TY OW HF HLO LB;have HB:=Aside0.mk hb;have BK:=n2;have HT:=n3;have HP:=n4;have BO:=n6;have HO:=Aside0.mk ho;clear n2 n3 n4 n6 hb hg hat;have ho3:=(blk_cell BO.out 3).trans (rfl:_=some (Value.slice Av acc.length cv));have hf3:=blk_frozen BO.out 3;obtain ⟨A100,c100,e100⟩:=Kd.N_slice ho;subst e100;clear ho;rw [List.length_append,List.length_singleton] at HO))
 go_roundg k1
 case measure=>have:=HK.out;omega
 case rel=>exact ⟨acc++[(⟨rd ns 0,rd ns 1,strOfNums (rdB p 4),rd ns 2,rd ns 3,strOfNums (rdB p 5)⟩:S48)],wrap64 (i+1),.slice A100 (acc.length+1) c100,rfl,HQ3,⟨(by have:=HK.out;omega)⟩,⟨blk_put (cs:=#[.int .i64 rep,.int .i64 seq,.slice A10 past.length c10,.slice Av acc.length cv]) BO.out 3 _ rfl⟩,⟨Kd.N_far (p:=⟨g,3,none⟩) HO.out (λ_ hk=>hk) _⟩,⟨Ft_set HT.out (typed_of_block BO.out) (by decide) _⟩,⟨Rp_set rfl HP.out (typed_of_block BO.out) (by decide) _⟩,⟨blk_far (p:=⟨g,3,none⟩) BK.out NE.out _⟩,⟨below_set HB.out GO.out⟩⟩
end Go.Proofs.Ytgocnchjpecafaa.PEv
