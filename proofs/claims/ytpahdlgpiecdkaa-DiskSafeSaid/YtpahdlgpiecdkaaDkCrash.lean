/- a part -/
import Derived.Test.YtpahdlgpiecdkaaDkRef3
import Derived.Test.YtpahdlgpiecdkaaDkWalk
namespace Go.Proofs.Ytpahdlgpiecdkaa.Dsk
open Go.RowKit Go.Proofs.YtpahdlgpiecdkaaW.PrintWords Go.Proofs.YtpahdlgpiecdkaaW.PrintLast Go.Proofs.YtpahdlgpiecdkaaW.PrintMore Go.Proofs.Ytpahdlgpiecdkaa.Hand Go.Proofs.Ytpahdlgpiecdkaa.Cards Go.Proofs.Ytpahdlgpiecdkaa.PDk
set_option linter.unusedVariables false
set_option linter.unusedSimpArgs false
attribute [local go_sem] max2_name min2_name max_two min_two
section
variable {w0 W : World} {D : Nat -> Prop} {d : Dk} {A0 A1 : Option Addr} {c0 c1 : Nat}
set_option maxHeartbeats 16000000 in
set_option maxRecDepth 100000 in
theorem refCrash_calls (h:RawV W D A0 A1 c0 c1 d) (hD:∀ k,D k->k<W.heap.size) (hg:d.Good) (A:Option Addr) (m c:Nat) (keep:List Int) (hm:m=keep.length) (hA:Kd.F (Kd.int .i64) W (λk=>¬ D k) A m keep) :
  Calls Try.prog 32 #[dkV A0 A1 c0 c1 d,.slice A m c] W λe w'=>∃ v,e = .returned v/\Is w' D v (d.crash keep)/\Below W.heap.size W w':=by
 have H:=Aside0.mk h
 have HD:=Aside0.mk hD
 have HG:=Aside0.mk hg
 have HM:=Aside0.mk hm
 have HK:=Aside0.mk hA
 clear h hD hg hm hA
 go_enter Try.func32,Try.ntmps32
 go_upto_region 1 with (fail)
 have hb:Below W.heap.size W ((W.alloc (.cells #[Value.slice A0 d.b0.length c0,Value.int .i64 d.s0,Value.slice A1 d.b1.length c1,Value.int .i64 d.s1,Value.int .i64 d.room,Value.int .i64 d.stop,Value.bool d.dead] 43)).alloc (.cells #[Value.slice none 0 0,Value.int .i64 0,Value.slice none 0 0,Value.int .i64 0,Value.int .i64 0,Value.int .i64 0,Value.bool false] 43)):=below_alloc (below_alloc (Below.refl _ _) _) _
 have x4:((W.alloc (.cells #[Value.slice A0 d.b0.length c0,Value.int .i64 d.s0,Value.slice A1 d.b1.length c1,Value.int .i64 d.s1,Value.int .i64 d.room,Value.int .i64 d.stop,Value.bool d.dead] 43)).alloc (.cells #[Value.slice none 0 0,Value.int .i64 0,Value.slice none 0 0,Value.int .i64 0,Value.int .i64 0,Value.int .i64 0,Value.bool false] 43)).heap[W.heap.size]? = some (.cells #[Value.slice A0 d.b0.length c0,Value.int .i64 d.s0,Value.slice A1 d.b1.length c1,Value.int .i64 d.s1,Value.int .i64 d.room,Value.int .i64 d.stop,Value.bool d.dead] 43 (0,0)):=blk_below (heap_alloc_new W _) (below_alloc (Below.refl _ _) _)
 have x8:((W.alloc (.cells #[Value.slice A0 d.b0.length c0,Value.int .i64 d.s0,Value.slice A1 d.b1.length c1,Value.int .i64 d.s1,Value.int .i64 d.room,Value.int .i64 d.stop,Value.bool d.dead] 43)).alloc (.cells #[Value.slice none 0 0,Value.int .i64 0,Value.slice none 0 0,Value.int .i64 0,Value.int .i64 0,Value.int .i64 0,Value.bool false] 43)).heap[W.heap.size+1]? = some (.cells #[Value.slice none 0 0,Value.int .i64 0,Value.slice none 0 0,Value.int .i64 0,Value.int .i64 0,Value.int .i64 0,Value.bool false] 43 (0,0)):=by have h_:=heap_alloc_new (W.alloc (.cells #[Value.slice A0 d.b0.length c0,Value.int .i64 d.s0,Value.slice A1 d.b1.length c1,Value.int .i64 d.s1,Value.int .i64 d.room,Value.int .i64 d.stop,Value.bool d.dead] 43)) (.cells #[Value.slice none 0 0,Value.int .i64 0,Value.slice none 0 0,Value.int .i64 0,Value.int .i64 0,Value.int .i64 0,Value.bool false] 43);rwa [show(W.alloc (.cells #[Value.slice A0 d.b0.length c0,Value.int .i64 d.s0,Value.slice A1 d.b1.length c1,Value.int .i64 d.s1,Value.int .i64 d.room,Value.int .i64 d.stop,Value.bool d.dead] 43)).heap.size=W.heap.size+1 by simp] at h_
 have HB:=Aside0.mk hb
 have X4:=Aside0.mk x4
 have X8:=Aside0.mk x8
 clear hb x4 x8
 generalize (W.alloc (.cells #[Value.slice A0 d.b0.length c0,Value.int .i64 d.s0,Value.slice A1 d.b1.length c1,Value.int .i64 d.s1,Value.int .i64 d.room,Value.int .i64 d.stop,Value.bool d.dead] 43)).alloc (.cells #[Value.slice none 0 0,Value.int .i64 0,Value.slice none 0 0,Value.int .i64 0,Value.int .i64 0,Value.int .i64 0,Value.bool false] 43)=w1 at HB X4 X8 ⊢
 go_wp2
 refine wp_loop_rounds 3 ?_
 rw [rounds_succ]
 have k0:=(blk_cell X4.out 0).trans (rfl:_=some (Value.slice A0 d.b0.length c0))
 have k1:=(blk_cell X4.out 1).trans (rfl:_=some (Value.int .i64 d.s0))
 have k2:=(blk_cell X4.out 2).trans (rfl:_=some (Value.slice A1 d.b1.length c1))
 have k3:=(blk_cell X4.out 3).trans (rfl:_=some (Value.int .i64 d.s1))
 have k4:=(blk_cell X4.out 4).trans (rfl:_=some (Value.int .i64 d.room))
 have k5:=(blk_cell X4.out 5).trans (rfl:_=some (Value.int .i64 d.stop))
 have k6:=(blk_cell X4.out 6).trans (rfl:_=some (Value.bool d.dead))
 go_upto_region 5 with (first|(go_at_call 25;(with_reducible refine Calls.mono (refGet_zero w1 A0 A1 c0 c1 d) ?_);rintro e w4 ⟨rfl,hb⟩;clear k0 k1 k2 k3 k4 k5 k6;have x4:=blk_below X4.out hb;have x8:=blk_below X8.out hb;have hb2:=below_step HB.out hb;clear X4 X8 HB;have X4:=Aside0.mk x4;have X8:=Aside0.mk x8;have HB:=Aside0.mk hb2;clear x4 x8 hb2;clear hb))
 have lt8:=Aside0.mk (blk_lt X8.out)
 have hb:=below_alloc (Below.refl w4.heap.size w4) (.cells #[.slice A0 d.b0.length c0,.int .i64 d.s0] 41)
 have X10:=Aside0.mk (heap_alloc_new w4 (.cells #[.slice A0 d.b0.length c0,.int .i64 d.s0] 41))
 have x4:=blk_below X4.out hb
 have x8:=blk_below X8.out hb
 have hb2:=below_step HB.out hb
 clear X4 X8 HB
 have X4:=Aside0.mk x4
 have X8:=Aside0.mk x8
 have HB:=Aside0.mk hb2
 clear x4 x8 hb2
 clear hb
 obtain ⟨b10,hb10⟩:∃ b10,b10=w4.heap.size:=⟨_,rfl⟩
 generalize w4.alloc (.cells #[.slice A0 d.b0.length c0,.int .i64 d.s0] 41)=w5 at HB X4 X8 X10 ⊢
 rw [<-hb10] at X10 lt8 ⊢
 clear hb10
 have j0:=(blk_cell X10.out 0).trans (rfl:_=some (Value.slice A0 d.b0.length c0))
 have j1:=(blk_cell X10.out 1).trans (rfl:_=some (Value.int .i64 d.s0))
 obtain ⟨kk,hkk⟩:∃ kk,kk=keep.getD 0 0:=⟨_,rfl⟩
 have KK:=Aside0.mk hkk
 clear hkk
 go_upto_region 6 with (fail)
 go_cut [27] (λv27 wx=>v27 = .bool (decide (0<m/\0<kk))/\w5=wx)
 case first =>
  by_cases hk:0<m
  case neg =>
   clear j0 j1
   obtain rfl:m=0:=by omega
   clear hk
   go_wp2
   go_meet
   exact ⟨by simp,rfl⟩
  have hK:=Kd.F_now (HK.out)
  obtain ⟨ad,cs,ea,_,hKK,hc0⟩:=Kd.C_get hK 0 (0:Int) (by omega) (by omega)
  subst ea
  obtain rfl:=hKK
  have kc:W.cell? (ad.add 0)=some (.int .i64 kk):=by rw [KK.out];have hq:=hc0 0 _ rfl;rwa [show((0:Int).toNat*(Kd.int .i64).sz+0)=0 from rfl] at hq
  have kc:=pw_cell_below HB.out kc
  rw [show ad.add 0=ad by first|rfl|(cases ad;rfl)|(cases ad;simp [Addr.add])] at kc
  have k4:(0<m)=True:=eq_true (by omega)
  have k5:((0:Int)<(m:Int))=True:=eq_true (by omega)
  have HKM:=Aside0.mk hk
  clear hc0 hK hk
  go_wp2
  go_meet
  exact ⟨by have h_:=HKM.out;simp [h_],rfl⟩
 case rest =>
 obtain ⟨e27,ew⟩:=hcut
 subst e27
 subst ew
 have hcn:=Dk.cut_in (keep:=keep) (i:=0) HG.out.a0 HG.out.a1
 have HCN:=Aside0.mk hcn
 clear hcn
 go_upto_if 27 with (fail)
 go_cut [7] (λv7 wx=>v7 = .int .i64 (Dk.cutN d.b0 d.s0 keep 0)/\Aside0 (Below w5.heap.size w5 wx))
 case first =>
  generalize hc:decide (0<m/\0<kk)=cb
  cases cb with
  | false =>
   have en:Dk.cutN d.b0 d.s0 keep 0=d.s0:=by
    have h_:=of_decide_eq_false hc
    have h2_:=HM.out
    have h3_:=KK.out
    have h4_:=HG.out.a1
    unfold Dk.cutN Dk.some_ lo hi
    split
    ·rw [<-h3_]
     split<;>split at *<;>omega
    ·omega
   have EN:=Aside0.mk en
   clear en hc
   go_wp2
   go_meet
   exact ⟨by rw [EN.out],⟨Below.refl _ _⟩⟩
  | true =>
  obtain ⟨hm,hq⟩:=of_decide_eq_true hc
  have hw:IntKind.i64.wrap ((d.b0.length:Int) - d.s0)=(d.b0.length:Int) - d.s0:=by have:=HG.out.len0;have:=HG.out.a0;have:=HG.out.a1;rw [i64_w];unfold wrap64;omega
  have hw2:wrap64 ((d.b0.length:Int) - d.s0)=(d.b0.length:Int) - d.s0:=by rw [<-i64_w];exact hw
  have en:Dk.cutN d.b0 d.s0 keep 0=if kk<(d.b0.length:Int) - d.s0 then d.s0+kk else(d.b0.length:Int):=by
   have h2_:=HM.out
   have h3_:=KK.out
   have h4_:=HG.out.a1
   unfold Dk.cutN Dk.some_ lo hi
   rw [if_pos (by omega),<-h3_,if_neg (show ¬ kk<0 by omega)]
   split<;>split<;>omega
  have EN:=Aside0.mk en
  have hK:=Kd.F_now (HK.out)
  obtain ⟨ad,cs,ea,_,hKK,hc0⟩:=Kd.C_get hK 0 (0:Int) (by omega) (by omega)
  subst ea
  obtain rfl:=hKK
  have kc:W.cell? (ad.add 0)=some (.int .i64 kk):=by rw [KK.out];have hq:=hc0 0 _ rfl;rwa [show((0:Int).toNat*(Kd.int .i64).sz+0)=0 from rfl] at hq
  have kc:=pw_cell_below HB.out kc
  rw [show ad.add 0=ad by first|rfl|(cases ad;rfl)|(cases ad;simp [Addr.add])] at kc
  have k4:(0<m)=True:=eq_true (by omega)
  have k5:((0:Int)<(m:Int))=True:=eq_true (by omega)
  have KC:=Aside0.mk kc
  have HQ:=Aside0.mk (And.intro hm hq)
  clear hc0 hK hm hq en hc
  by_cases hz:kk<(d.b0.length:Int) - d.s0
  case pos =>
   have z1:decide (kk<(d.b0.length:Int) - d.s0)=true:=decide_eq_true hz
   have z2:(kk<(d.b0.length:Int) - d.s0)=True:=eq_true hz
   rw [if_pos hz] at EN
   have hw3:IntKind.i64.wrap (d.s0+kk)=d.s0+kk:=by have:=HG.out.len0;have:=HG.out.a0;have:=HQ.out.2;rw [i64_w];unfold wrap64;omega
   have hw4:wrap64 (d.s0+kk)=d.s0+kk:=by rw [<-i64_w];exact hw3
   have HW3:=Aside0.mk hw3
   clear hz hw3
   go_upto_region 8 with (fail)
   go_still_tail 10,(by kernel_rfl)
   change wpList _ _ _ _ _ w5.drew
   clear j0 j1 kc
   have j0:w5.drew.cell? ⟨b10,0,none⟩=_:=(blk_cell X10.out 0).trans (rfl:_=some (Value.slice A0 d.b0.length c0))
   have j1:w5.drew.cell? ⟨b10,1,none⟩=_:=(blk_cell X10.out 1).trans (rfl:_=some (Value.int .i64 d.s0))
   have kc:w5.drew.cell? ad=some (.int .i64 kk):=KC.out
   have bd:=below_drew (Below.refl w5.heap.size w5)
   have BD:=Aside0.mk bd
   clear bd
   generalize w5.drew=wd at j0 j1 kc BD ⊢
   go_upto_region 9 with (fail)
   go_still_tail 7,(by kernel_rfl)
   change wpList _ _ _ _ _ wd.drew
   clear j0 j1 kc
   go_wp2
   go_meet
   exact ⟨by rw [EN.out];first|rfl|rw [HW3.out],⟨below_drew BD.out⟩⟩
  case neg =>
   have z1:decide (kk<(d.b0.length:Int) - d.s0)=false:=decide_eq_false hz
   have z2:(kk<(d.b0.length:Int) - d.s0)=False:=eq_false hz
   rw [if_neg hz] at EN
   clear hz
   go_upto_region 8 with (fail)
   go_still_tail 10,(by kernel_rfl)
   change wpList _ _ _ _ _ w5.drew
   clear j0 j1 kc
   go_wp2
   go_meet
   exact ⟨by rw [EN.out],⟨below_drew (Below.refl _ _)⟩⟩
 case rest =>
 obtain ⟨e7,hbc⟩:=hcut
 subst e7
 have hb:=hbc.out
 clear j0 j1 hbc
 have x10:=blk_below X10.out hb
 clear X10
 have X10:=Aside0.mk x10
 clear x10
 have x4:=blk_below X4.out hb
 have x8:=blk_below X8.out hb
 have hb2:=below_step HB.out hb
 clear X4 X8 HB
 have X4:=Aside0.mk x4
 have X8:=Aside0.mk x8
 have HB:=Aside0.mk hb2
 clear x4 x8 hb2
 clear hb
 obtain ⟨N0,hN⟩:∃ N:Nat,Dk.cutN d.b0 d.s0 keep 0=(N:Int):=⟨(Dk.cutN d.b0 d.s0 keep 0).toNat,by have:=HCN.out;have:=HG.out.a0;omega⟩
 have hNl:N0<=d.b0.length:=by have:=HCN.out;omega
 rw [hN]
 have HN0:=Aside0.mk hN
 have HNL:=Aside0.mk hNl
 clear hN hNl
 go_upto_region 10 with (fail)
 obtain ⟨w6,hw6⟩:∃ w6,w6=wc:=⟨_,rfl⟩
 rw [<-hw6] at HB X4 X8 X10 ⊢
 clear hw6
 have q6:=H.out.step (Step.of_below (D:=D) HB.out)
 have FI:=Aside0.mk q6.f0
 have LI:=Aside0.mk q6.l0
 have FM:=Aside0.mk (show N0<=140737488355328 by have:=HNL.out;have:=HG.out.len0;omega)
 clear q6
 refine region_cards (F:=?Fx0) 11 (λw'=>Aside0 (Below w6.heap.size w6 w'))
  [λv _ _ _=>v = .agg #[Value.slice A0 d.b0.length c0,Value.int .i64 d.s0,Value.slice A1 d.b1.length c1,Value.int .i64 d.s1,Value.int .i64 d.room,Value.int .i64 d.stop,Value.bool d.dead],
  λv _ _ _=>v = .int .i64 0,
  λv w' lo hi=>∃ b,v = .slice (some ⟨b,0,none⟩) 0 0/\w6.heap.size<=b/\w'.heap[b]? = some (.cells #[] 5 (0,0)),
  λv _ _ _=>v = .pointer (some ⟨b10,0,none⟩),
  λv _ _ _=>v = .slice A0 d.b0.length c0,
  λv _ _ _=>v = .int .i64 (N0:Int),
  λv _ _ _=>v = .slice A0 N0 c0,
  λv w' _ _=>U8.R 5 w' w6.heap.size (λ_=>True) v (d.b0.take N0),
  λv _ _ _=>v = .int .i64 (N0:Int),
  λv w' _ _=>∃ A' c',v = .agg #[.slice A' (d.b0.take N0).length c',.int .i64 (N0:Int)]/\U8.R 5 w' w6.heap.size (λ_=>True) (.slice A' (d.b0.take N0).length c') (d.b0.take N0),
  λv w' _ _=>∃ A' c',v = .agg #[Value.slice A' (d.b0.take N0).length c',Value.int .i64 (N0:Int),Value.slice A1 d.b1.length c1,Value.int .i64 d.s1,Value.int .i64 d.room,Value.int .i64 d.stop,Value.bool d.dead]/\U8.R 5 w' w6.heap.size (λ_=>True) (.slice A' (d.b0.take N0).length c') (d.b0.take N0)]
  (by kernel_rfl) (by kernel_rfl) ?hFx0 ?hS0x0 ?hSx0 ?hstayx0 ?hstepsx0 ?hendx0
 case hFx0 =>
  intro vs
  simp only [List.take_succ_cons,List.take_zero,fill,if_true,if_false,Act.put,List.setIfInBounds_toArray,List.set_cons_zero,List.set_cons_succ,Nat.reduceAdd,List.contains_cons,List.contains_nil,Nat.reduceBEq,Bool.or_false,Bool.false_or,Bool.not_true,Bool.not_false,Bool.false_eq_true,Bool.or_self,Bool.true_or]
  rfl
 case hS0x0=>exact ⟨below_drew (Below.refl _ _)⟩
 case hSx0=>exact λw1 w2 hb hs=>⟨below_step hs.out hb⟩
 case hstayx0=>exact ⟨λ_ _ _ _ _ _ h=>h,λ_ _ _ _ _ _ h=>h,λ_ _ _ _ _ hb h=>by obtain ⟨k,q1,q2,q3⟩:=h;exact ⟨k,q1,q2,blk_below q3 hb⟩,λ_ _ _ _ _ _ h=>h,λ_ _ _ _ _ _ h=>h,λ_ _ _ _ _ _ h=>h,λ_ _ _ _ _ _ h=>h,λ_ _ _ _ _ hb h=>Kd.R_below h hb,λ_ _ _ _ _ _ h=>h,λ_ _ _ _ _ hb h=>by obtain ⟨A',c',q1,q2⟩:=h;exact ⟨A',c',q1,Kd.R_below q2 hb⟩,λ_ _ _ _ _ hb h=>by obtain ⟨A',c',q1,q2⟩:=h;exact ⟨A',c',q1,Kd.R_below q2 hb⟩,trivial⟩
 case hstepsx0 =>
  refine ⟨?sx0_0,?sx0_1,?sx0_2,?sx0_3,?sx0_4,?sx0_5,?sx0_6,?sx0_7,?sx0_8,?sx0_9,?sx0_10,trivial⟩
  case sx0_0 =>
   intro _ vs lo hi W_ hs hp
   have X4_:=Aside0.mk (blk_below X4.out hs.out)
   have x0:=(blk_cell X4_.out 0).trans (rfl:_=some (Value.slice A0 d.b0.length c0))
   have x1:=(blk_cell X4_.out 1).trans (rfl:_=some (Value.int .i64 d.s0))
   have x2:=(blk_cell X4_.out 2).trans (rfl:_=some (Value.slice A1 d.b1.length c1))
   have x3:=(blk_cell X4_.out 3).trans (rfl:_=some (Value.int .i64 d.s1))
   have x4:=(blk_cell X4_.out 4).trans (rfl:_=some (Value.int .i64 d.room))
   have x5:=(blk_cell X4_.out 5).trans (rfl:_=some (Value.int .i64 d.stop))
   have x6:=(blk_cell X4_.out 6).trans (rfl:_=some (Value.bool d.dead))
   exact does_val (by first|(go_simp;done)|(go_simp;rfl)) ⟨rfl,Below.refl _ _⟩
  case sx0_1 =>
   intro _ vs lo hi W_ hs hp
   exact does_val (by first|(go_simp;done)|(go_simp;rfl)) ⟨rfl,Below.refl _ _⟩
  case sx0_2 =>
   intro _ vs lo hi W_ hs hp
   exact does_val (v:=.slice (some ⟨W_.heap.size,0,none⟩) 0 0) (w1:=W_.alloc (.cells #[] 5)) (by first|(go_simp;done)|(go_simp;rfl)) ⟨⟨W_.heap.size,rfl,below_size hs.out,heap_alloc_new W_ _⟩,below_alloc (Below.refl _ _) _⟩
  case sx0_3 =>
   intro _ vs lo hi W_ hs hp
   exact does_val (by first|(go_simp;done)|(go_simp;rfl)) ⟨rfl,Below.refl _ _⟩
  case sx0_4 =>
   intro _ vs lo hi W_ hs hp
   have e3:vs 3 = .pointer (some ⟨b10,0,none⟩):=hp 3 (by kernel_rfl) rfl
   have hc:W_.cell? ⟨b10,0,none⟩=some (.slice A0 d.b0.length c0):=(blk_cell (blk_below X10.out hs.out) 0).trans rfl
   exact does_val (by first|(go_simp;done)|(go_simp;rfl)) ⟨rfl,Below.refl _ _⟩
  case sx0_5 =>
   intro _ vs lo hi W_ hs hp
   exact does_val (by first|(go_simp;done)|(go_simp;rfl)) ⟨rfl,Below.refl _ _⟩
  case sx0_6 =>
   intro _ vs lo hi W_ hs hp
   have e4:vs 4 = .slice A0 d.b0.length c0:=hp 4 (by kernel_rfl) rfl
   have e5:vs 5 = .int .i64 (N0:Int):=hp 5 (by kernel_rfl) rfl
   have q1:(N0<=c0)=True:=eq_true (Nat.le_trans HNL.out LI.out)
   exact does_val (by first|(go_simp;done)|(go_simp;rfl)) ⟨rfl,Below.refl _ _⟩
  case sx0_7 =>
   intro _ vs lo hi W_ hs hp
   have e6:vs 6 = .slice A0 N0 c0:=hp 6 (by kernel_rfl) rfl
   obtain ⟨k2,e2,hk2,hx2⟩:∃ k,vs 2 = .slice (some ⟨k,0,none⟩) 0 0/\w6.heap.size<=k/\W_.heap[k]? = some (.cells #[] 5 (0,0)):=hp 2 (by kernel_rfl) rfl
   obtain ⟨vv1,ww1,hrr,hR,hbb⟩:=fresh_append (m:=N0) (c:=c0) (base:=w6.heap.size) hk2 hx2 (below_size hs.out) (by have a_:=Kd.F_now (Kd.F_take (Kd.F_below FI.out hs.out) HNL.out);rw [List.length_take,Nat.min_eq_left HNL.out] at a_;exact a_) FM.out
   exact does_append (s:=.tmp 51) (x:=.tmp 55) rfl (by rw [<-e2];first|rfl|(go_simp;done)) (by rw [<-e6];first|rfl|(go_simp;done)) hrr ⟨hR,hbb⟩
  case sx0_8 =>
   intro _ vs lo hi W_ hs hp
   exact does_val (by first|(go_simp;done)|(go_simp;rfl)) ⟨rfl,Below.refl _ _⟩
  case sx0_9 =>
   intro _ vs lo hi W_ hs hp
   have e8:vs 8 = .int .i64 (N0:Int):=hp 8 (by kernel_rfl) rfl
   have e7:U8.R 5 W_ w6.heap.size (λ_=>True) (vs 7) (d.b0.take N0):=hp 7 (by kernel_rfl) rfl
   obtain ⟨A',c',ev⟩:=Kd.R_slice e7
   rw [ev] at e7
   have E7:=Aside0.mk e7
   clear e7
   generalize (d.b0.take N0).length=ll at ev E7 ⊢
   exact does_val (v:=.agg #[.slice A' ll c',.int .i64 (N0:Int)]) (by first|(go_simp;done)|(go_simp;rfl)) ⟨⟨A',c',rfl,E7.out⟩,Below.refl _ _⟩
  case sx0_10 =>
   intro _ vs lo hi W_ hs hp
   have e0:vs 0 = .agg #[Value.slice A0 d.b0.length c0,Value.int .i64 d.s0,Value.slice A1 d.b1.length c1,Value.int .i64 d.s1,Value.int .i64 d.room,Value.int .i64 d.stop,Value.bool d.dead]:=hp 0 (by kernel_rfl) rfl
   have e1:vs 1 = .int .i64 0:=hp 1 (by kernel_rfl) rfl
   obtain ⟨A',c',e9,hR9⟩:∃ A' c',vs 9 = .agg #[.slice A' (d.b0.take N0).length c',.int .i64 (N0:Int)]/\U8.R 5 W_ w6.heap.size (λ_=>True) (.slice A' (d.b0.take N0).length c') (d.b0.take N0):=hp 9 (by kernel_rfl) rfl
   refine does_call Try.func37 (by kernel_rfl) rfl #[.agg #[Value.slice A0 d.b0.length c0,Value.int .i64 d.s0,Value.slice A1 d.b1.length c1,Value.int .i64 d.s1,Value.int .i64 d.room,Value.int .i64 d.stop,Value.bool d.dead],.int .i64 0,.agg #[.slice A' (d.b0.take N0).length c',.int .i64 (N0:Int)]] rfl rfl (by rw [<-e0,<-e1,<-e9];simp only [List.map_toArray,List.map_cons,List.map_nil];rfl) ?_
   refine(refSet_zero W_ A0 A1 c0 c1 d A' c' (d.b0.take N0) (N0:Int)).mono ?_
   rintro e w' ⟨rfl,hb⟩
   exact ⟨_,rfl,⟨A',c',rfl,Kd.R_below hR9 hb⟩,hb⟩
 case hendx0 =>
 intro vs lo_ hi_ Wc hs hp _
 simp only [List.drop_succ_cons,List.drop_zero]
 obtain ⟨B0,n0,e10,hR⟩:∃ A' c',vs 10 = .agg #[Value.slice A' (d.b0.take N0).length c',Value.int .i64 (N0:Int),Value.slice A1 d.b1.length c1,Value.int .i64 d.s1,Value.int .i64 d.room,Value.int .i64 d.stop,Value.bool d.dead]/\U8.R 5 Wc w6.heap.size (λ_=>True) (.slice A' (d.b0.take N0).length c') (d.b0.take N0):=hp 10 (by decide)
 rw [e10]
 obtain ⟨bb0,hbb⟩:∃ bb,bb=d.b0.take N0:=⟨_,rfl⟩
 rw [<-hbb] at hR ⊢
 have BB0:=Aside0.mk hbb
 have lt6:=Aside0.mk (blk_lt X8.out)
 have hR2:=Kd.R_lower (Kd.R_mono (Kd.R_bound hR) (ok':=λk=>W.heap.size+2<=k) (λk hk=>by have:=lt6.out;have:=hk.2.1;omega)) (below_size HB.out)
 have O0:=Aside0.mk hR2
 have hb:=hs.out
 have x10:=blk_below X10.out hb
 clear X10
 have X10:=Aside0.mk x10
 clear x10
 have x4:=blk_below X4.out hb
 have x8:=blk_below X8.out hb
 have hb2:=below_step HB.out hb
 clear X4 X8 HB
 have X4:=Aside0.mk x4
 have X8:=Aside0.mk x8
 have HB:=Aside0.mk hb2
 clear x4 x8 hb2
 clear hb hs hp e10 hR hR2 hbb
 clear FI LI FM HNL HCN KK X10
 have k0:=(blk_cell X4.out 0).trans (rfl:_=some (Value.slice A0 d.b0.length c0))
 have k1:=(blk_cell X4.out 1).trans (rfl:_=some (Value.int .i64 d.s0))
 have k2:=(blk_cell X4.out 2).trans (rfl:_=some (Value.slice A1 d.b1.length c1))
 have k3:=(blk_cell X4.out 3).trans (rfl:_=some (Value.int .i64 d.s1))
 have k4:=(blk_cell X4.out 4).trans (rfl:_=some (Value.int .i64 d.room))
 have k5:=(blk_cell X4.out 5).trans (rfl:_=some (Value.int .i64 d.stop))
 have k6:=(blk_cell X4.out 6).trans (rfl:_=some (Value.bool d.dead))
 have f0:=blk_frozen X4.out 0
 have f1:=blk_frozen X4.out 1
 have f2:=blk_frozen X4.out 2
 have f3:=blk_frozen X4.out 3
 have f4:=blk_frozen X4.out 4
 have f5:=blk_frozen X4.out 5
 have f6:=blk_frozen X4.out 6
 go_wp2_with (first|((with_reducible refine store_event (t:=43) (p:=2) rfl rfl rfl (w1:=(((((((Wc.setCell ⟨W.heap.size,0,none⟩ (Value.slice B0 bb0.length n0)).setCell ⟨W.heap.size,1,none⟩ (Value.int .i64 (N0:Int))).setCell ⟨W.heap.size,2,none⟩ (Value.slice A1 d.b1.length c1)).setCell ⟨W.heap.size,3,none⟩ (Value.int .i64 d.s1)).setCell ⟨W.heap.size,4,none⟩ (Value.int .i64 d.room)).setCell ⟨W.heap.size,5,none⟩ (Value.int .i64 d.stop)).setCell ⟨W.heap.size,6,none⟩ (Value.bool d.dead))) ?hrun ?_);(case hrun=>first|(go_simp;done)|(go_simp;rfl));intro w11 hw11;have Y_w11:=Aside0.mk (show w11.heap[W.heap.size]? = some (.cells #[Value.slice B0 bb0.length n0,Value.int .i64 (N0:Int),Value.slice A1 d.b1.length c1,Value.int .i64 d.s1,Value.int .i64 d.room,Value.int .i64 d.stop,Value.bool d.dead] 43 (0,0)) by rw [hw11];exact(blk_put ((blk_put ((blk_put ((blk_put ((blk_put ((blk_put ((blk_put (X4.out) 0 (Value.slice B0 bb0.length n0) rfl)) 1 (Value.int .i64 (N0:Int)) rfl)) 2 (Value.slice A1 d.b1.length c1) rfl)) 3 (Value.int .i64 d.s1) rfl)) 4 (Value.int .i64 d.room) rfl)) 5 (Value.int .i64 d.stop) rfl)) 6 (Value.bool d.dead) rfl));have B_w11:=Aside0.mk (show Below W.heap.size W w11 by rw [hw11];exact(below_set ((below_set ((below_set ((below_set ((below_set ((below_set ((below_set (HB.out) (Nat.le_refl _))) (Nat.le_refl _))) (Nat.le_refl _))) (Nat.le_refl _))) (Nat.le_refl _))) (Nat.le_refl _))) (Nat.le_refl _)));have CH_w11:=Aside0.mk (show ∀ k,k≠W.heap.size->w11.heap[k]? = Wc.heap[k]? from λk hk=>by rw [hw11];exact((Below.heap_setCell ((((((Wc.setCell ⟨W.heap.size,0,none⟩ (Value.slice B0 bb0.length n0)).setCell ⟨W.heap.size,1,none⟩ (Value.int .i64 (N0:Int))).setCell ⟨W.heap.size,2,none⟩ (Value.slice A1 d.b1.length c1)).setCell ⟨W.heap.size,3,none⟩ (Value.int .i64 d.s1)).setCell ⟨W.heap.size,4,none⟩ (Value.int .i64 d.room)).setCell ⟨W.heap.size,5,none⟩ (Value.int .i64 d.stop)) ⟨W.heap.size,6,none⟩ (Value.bool d.dead) k hk).trans (((Below.heap_setCell (((((Wc.setCell ⟨W.heap.size,0,none⟩ (Value.slice B0 bb0.length n0)).setCell ⟨W.heap.size,1,none⟩ (Value.int .i64 (N0:Int))).setCell ⟨W.heap.size,2,none⟩ (Value.slice A1 d.b1.length c1)).setCell ⟨W.heap.size,3,none⟩ (Value.int .i64 d.s1)).setCell ⟨W.heap.size,4,none⟩ (Value.int .i64 d.room)) ⟨W.heap.size,5,none⟩ (Value.int .i64 d.stop) k hk).trans (((Below.heap_setCell ((((Wc.setCell ⟨W.heap.size,0,none⟩ (Value.slice B0 bb0.length n0)).setCell ⟨W.heap.size,1,none⟩ (Value.int .i64 (N0:Int))).setCell ⟨W.heap.size,2,none⟩ (Value.slice A1 d.b1.length c1)).setCell ⟨W.heap.size,3,none⟩ (Value.int .i64 d.s1)) ⟨W.heap.size,4,none⟩ (Value.int .i64 d.room) k hk).trans (((Below.heap_setCell (((Wc.setCell ⟨W.heap.size,0,none⟩ (Value.slice B0 bb0.length n0)).setCell ⟨W.heap.size,1,none⟩ (Value.int .i64 (N0:Int))).setCell ⟨W.heap.size,2,none⟩ (Value.slice A1 d.b1.length c1)) ⟨W.heap.size,3,none⟩ (Value.int .i64 d.s1) k hk).trans (((Below.heap_setCell ((Wc.setCell ⟨W.heap.size,0,none⟩ (Value.slice B0 bb0.length n0)).setCell ⟨W.heap.size,1,none⟩ (Value.int .i64 (N0:Int))) ⟨W.heap.size,2,none⟩ (Value.slice A1 d.b1.length c1) k hk).trans (((Below.heap_setCell (Wc.setCell ⟨W.heap.size,0,none⟩ (Value.slice B0 bb0.length n0)) ⟨W.heap.size,1,none⟩ (Value.int .i64 (N0:Int)) k hk).trans (((Below.heap_setCell Wc ⟨W.heap.size,0,none⟩ (Value.slice B0 bb0.length n0) k hk).trans (rfl)))))))))))))));clear hw11;clear k0 k1 k2 k3 k4 k5 k6 f0 f1 f2 f3 f4 f5 f6 X4))
 have X4:=Y_w11
 have x8:=(CH_w11.out (W.heap.size+1) (by omega)).trans X8.out
 clear X8
 have X8:=Aside0.mk x8
 clear x8 HB
 have HB:=B_w11
 have o0:=Kd.R_step O0.out (λk hk _=>CH_w11.out k (by have h_:W.heap.size+2<=k:=hk;omega))
 clear O0
 have O0:=Aside0.mk o0
 clear o0
 rw [rounds_succ]
 have k0:=(blk_cell X4.out 0).trans (rfl:_=some (Value.slice B0 bb0.length n0))
 have k1:=(blk_cell X4.out 1).trans (rfl:_=some (Value.int .i64 (N0:Int)))
 have k2:=(blk_cell X4.out 2).trans (rfl:_=some (Value.slice A1 d.b1.length c1))
 have k3:=(blk_cell X4.out 3).trans (rfl:_=some (Value.int .i64 d.s1))
 have k4:=(blk_cell X4.out 4).trans (rfl:_=some (Value.int .i64 d.room))
 have k5:=(blk_cell X4.out 5).trans (rfl:_=some (Value.int .i64 d.stop))
 have k6:=(blk_cell X4.out 6).trans (rfl:_=some (Value.bool d.dead))
 go_upto_region 5 with (first|(go_at_call 25;(with_reducible refine Calls.mono (refGet_one w11 B0 A1 n0 c1 (⟨bb0,(N0:Int),d.b1,d.s1,d.room,d.stop,d.dead⟩:Dk)) ?_);rintro e w4 ⟨rfl,hb⟩;clear k0 k1 k2 k3 k4 k5 k6;have o0:=Kd.R_below O0.out hb;clear O0;have O0:=Aside0.mk o0;clear o0;have x4:=blk_below X4.out hb;have x8:=blk_below X8.out hb;have hb2:=below_step HB.out hb;clear X4 X8 HB;have X4:=Aside0.mk x4;have X8:=Aside0.mk x8;have HB:=Aside0.mk hb2;clear x4 x8 hb2;clear hb))
 have lt8:=Aside0.mk (blk_lt X8.out)
 have hb:=below_alloc (Below.refl w4.heap.size w4) (.cells #[.slice A1 d.b1.length c1,.int .i64 d.s1] 41)
 have X10:=Aside0.mk (heap_alloc_new w4 (.cells #[.slice A1 d.b1.length c1,.int .i64 d.s1] 41))
 have o0:=Kd.R_below O0.out hb
 clear O0
 have O0:=Aside0.mk o0
 clear o0
 have x4:=blk_below X4.out hb
 have x8:=blk_below X8.out hb
 have hb2:=below_step HB.out hb
 clear X4 X8 HB
 have X4:=Aside0.mk x4
 have X8:=Aside0.mk x8
 have HB:=Aside0.mk hb2
 clear x4 x8 hb2
 clear hb
 obtain ⟨b10,hb10⟩:∃ b10,b10=w4.heap.size:=⟨_,rfl⟩
 generalize w4.alloc (.cells #[.slice A1 d.b1.length c1,.int .i64 d.s1] 41)=w5 at HB X4 X8 X10 O0 ⊢
 rw [<-hb10] at X10 lt8 ⊢
 clear hb10
 have j0:=(blk_cell X10.out 0).trans (rfl:_=some (Value.slice A1 d.b1.length c1))
 have j1:=(blk_cell X10.out 1).trans (rfl:_=some (Value.int .i64 d.s1))
 obtain ⟨kk,hkk⟩:∃ kk,kk=keep.getD 1 0:=⟨_,rfl⟩
 have KK:=Aside0.mk hkk
 clear hkk
 go_upto_region 6 with (fail)
 go_cut [27] (λv27 wx=>v27 = .bool (decide (1<m/\0<kk))/\w5=wx)
 case first =>
  by_cases hk:1<m
  case neg =>
   clear j0 j1
   rcases (by omega:m=0\/m=1) with rfl|rfl
   ·clear hk
    go_wp2
    go_meet
    exact ⟨by simp,rfl⟩
   ·clear hk
    go_wp2
    go_meet
    exact ⟨by simp,rfl⟩
  have hK:=Kd.F_now (HK.out)
  obtain ⟨ad,cs,ea,_,hKK,hc0⟩:=Kd.C_get hK 0 (1:Int) (by omega) (by omega)
  subst ea
  obtain rfl:=hKK
  have kc:W.cell? (ad.add 1)=some (.int .i64 kk):=by rw [KK.out];have hq:=hc0 0 _ rfl;rwa [show((1:Int).toNat*(Kd.int .i64).sz+0)=1 from rfl] at hq
  have kc:=pw_cell_below HB.out kc
  replace kc:w5.cell? ⟨ad.block,ad.off+1,none⟩=some (.int .i64 kk):=kc
  have k4:(1<m)=True:=eq_true (by omega)
  have k5:((1:Int)<(m:Int))=True:=eq_true (by omega)
  have HKM:=Aside0.mk hk
  clear hc0 hK hk
  go_wp2
  go_meet
  exact ⟨by have h_:=HKM.out;simp [h_],rfl⟩
 case rest =>
 obtain ⟨e27,ew⟩:=hcut
 subst e27
 subst ew
 have hcn:=Dk.cut_in (keep:=keep) (i:=1) HG.out.c0 HG.out.c1
 have HCN:=Aside0.mk hcn
 clear hcn
 go_upto_if 27 with (fail)
 go_cut [7] (λv7 wx=>v7 = .int .i64 (Dk.cutN d.b1 d.s1 keep 1)/\Aside0 (Below w5.heap.size w5 wx))
 case first =>
  generalize hc:decide (1<m/\0<kk)=cb
  cases cb with
  | false =>
   have en:Dk.cutN d.b1 d.s1 keep 1=d.s1:=by
    have h_:=of_decide_eq_false hc
    have h2_:=HM.out
    have h3_:=KK.out
    have h4_:=HG.out.c1
    unfold Dk.cutN Dk.some_ lo hi
    split
    ·rw [<-h3_]
     split<;>split at *<;>omega
    ·omega
   have EN:=Aside0.mk en
   clear en hc
   go_wp2
   go_meet
   exact ⟨by rw [EN.out],⟨Below.refl _ _⟩⟩
  | true =>
  obtain ⟨hm,hq⟩:=of_decide_eq_true hc
  have hw:IntKind.i64.wrap ((d.b1.length:Int) - d.s1)=(d.b1.length:Int) - d.s1:=by have:=HG.out.len1;have:=HG.out.c0;have:=HG.out.c1;rw [i64_w];unfold wrap64;omega
  have hw2:wrap64 ((d.b1.length:Int) - d.s1)=(d.b1.length:Int) - d.s1:=by rw [<-i64_w];exact hw
  have en:Dk.cutN d.b1 d.s1 keep 1=if kk<(d.b1.length:Int) - d.s1 then d.s1+kk else(d.b1.length:Int):=by
   have h2_:=HM.out
   have h3_:=KK.out
   have h4_:=HG.out.c1
   unfold Dk.cutN Dk.some_ lo hi
   rw [if_pos (by omega),<-h3_,if_neg (show ¬ kk<0 by omega)]
   split<;>split<;>omega
  have EN:=Aside0.mk en
  have hK:=Kd.F_now (HK.out)
  obtain ⟨ad,cs,ea,_,hKK,hc0⟩:=Kd.C_get hK 0 (1:Int) (by omega) (by omega)
  subst ea
  obtain rfl:=hKK
  have kc:W.cell? (ad.add 1)=some (.int .i64 kk):=by rw [KK.out];have hq:=hc0 0 _ rfl;rwa [show((1:Int).toNat*(Kd.int .i64).sz+0)=1 from rfl] at hq
  have kc:=pw_cell_below HB.out kc
  replace kc:w5.cell? ⟨ad.block,ad.off+1,none⟩=some (.int .i64 kk):=kc
  have k4:(1<m)=True:=eq_true (by omega)
  have k5:((1:Int)<(m:Int))=True:=eq_true (by omega)
  have KC:=Aside0.mk kc
  have HQ:=Aside0.mk (And.intro hm hq)
  clear hc0 hK hm hq en hc
  by_cases hz:kk<(d.b1.length:Int) - d.s1
  case pos =>
   have z1:decide (kk<(d.b1.length:Int) - d.s1)=true:=decide_eq_true hz
   have z2:(kk<(d.b1.length:Int) - d.s1)=True:=eq_true hz
   rw [if_pos hz] at EN
   have hw3:IntKind.i64.wrap (d.s1+kk)=d.s1+kk:=by have:=HG.out.len1;have:=HG.out.c0;have:=HQ.out.2;rw [i64_w];unfold wrap64;omega
   have hw4:wrap64 (d.s1+kk)=d.s1+kk:=by rw [<-i64_w];exact hw3
   have HW3:=Aside0.mk hw3
   clear hz hw3
   go_upto_region 8 with (fail)
   go_still_tail 10,(by kernel_rfl)
   change wpList _ _ _ _ _ w5.drew
   clear j0 j1 kc
   have j0:w5.drew.cell? ⟨b10,0,none⟩=_:=(blk_cell X10.out 0).trans (rfl:_=some (Value.slice A1 d.b1.length c1))
   have j1:w5.drew.cell? ⟨b10,1,none⟩=_:=(blk_cell X10.out 1).trans (rfl:_=some (Value.int .i64 d.s1))
   have kc:w5.drew.cell? ⟨ad.block,ad.off+1,none⟩=some (.int .i64 kk):=KC.out
   have bd:=below_drew (Below.refl w5.heap.size w5)
   have BD:=Aside0.mk bd
   clear bd
   generalize w5.drew=wd at j0 j1 kc BD ⊢
   go_upto_region 9 with (fail)
   go_still_tail 7,(by kernel_rfl)
   change wpList _ _ _ _ _ wd.drew
   clear j0 j1 kc
   go_wp2
   go_meet
   exact ⟨by rw [EN.out];first|rfl|rw [HW3.out],⟨below_drew BD.out⟩⟩
  case neg =>
   have z1:decide (kk<(d.b1.length:Int) - d.s1)=false:=decide_eq_false hz
   have z2:(kk<(d.b1.length:Int) - d.s1)=False:=eq_false hz
   rw [if_neg hz] at EN
   clear hz
   go_upto_region 8 with (fail)
   go_still_tail 10,(by kernel_rfl)
   change wpList _ _ _ _ _ w5.drew
   clear j0 j1 kc
   go_wp2
   go_meet
   exact ⟨by rw [EN.out],⟨below_drew (Below.refl _ _)⟩⟩
 case rest =>
 obtain ⟨e7,hbc⟩:=hcut
 subst e7
 have hb:=hbc.out
 clear j0 j1 hbc
 have o0:=Kd.R_below O0.out hb
 clear O0
 have O0:=Aside0.mk o0
 clear o0
 have x10:=blk_below X10.out hb
 clear X10
 have X10:=Aside0.mk x10
 clear x10
 have x4:=blk_below X4.out hb
 have x8:=blk_below X8.out hb
 have hb2:=below_step HB.out hb
 clear X4 X8 HB
 have X4:=Aside0.mk x4
 have X8:=Aside0.mk x8
 have HB:=Aside0.mk hb2
 clear x4 x8 hb2
 clear hb
 obtain ⟨N1,hN⟩:∃ N:Nat,Dk.cutN d.b1 d.s1 keep 1=(N:Int):=⟨(Dk.cutN d.b1 d.s1 keep 1).toNat,by have:=HCN.out;have:=HG.out.c0;omega⟩
 have hNl:N1<=d.b1.length:=by have:=HCN.out;omega
 rw [hN]
 have HN1:=Aside0.mk hN
 have HNL:=Aside0.mk hNl
 clear hN hNl
 go_upto_region 10 with (fail)
 obtain ⟨w6,hw6⟩:∃ w6,w6=wc:=⟨_,rfl⟩
 rw [<-hw6] at HB X4 X8 X10 O0 ⊢
 clear hw6
 have q6:=H.out.step (Step.of_below (D:=D) HB.out)
 have FI:=Aside0.mk q6.f1
 have LI:=Aside0.mk q6.l1
 have FM:=Aside0.mk (show N1<=140737488355328 by have:=HNL.out;have:=HG.out.len1;omega)
 clear q6
 refine region_cards (F:=?Fx1) 11 (λw'=>Aside0 (Below w6.heap.size w6 w'))
  [λv _ _ _=>v = .agg #[Value.slice B0 bb0.length n0,Value.int .i64 (N0:Int),Value.slice A1 d.b1.length c1,Value.int .i64 d.s1,Value.int .i64 d.room,Value.int .i64 d.stop,Value.bool d.dead],
  λv _ _ _=>v = .int .i64 1,
  λv w' lo hi=>∃ b,v = .slice (some ⟨b,0,none⟩) 0 0/\w6.heap.size<=b/\w'.heap[b]? = some (.cells #[] 5 (0,0)),
  λv _ _ _=>v = .pointer (some ⟨b10,0,none⟩),
  λv _ _ _=>v = .slice A1 d.b1.length c1,
  λv _ _ _=>v = .int .i64 (N1:Int),
  λv _ _ _=>v = .slice A1 N1 c1,
  λv w' _ _=>U8.R 5 w' w6.heap.size (λ_=>True) v (d.b1.take N1),
  λv _ _ _=>v = .int .i64 (N1:Int),
  λv w' _ _=>∃ A' c',v = .agg #[.slice A' (d.b1.take N1).length c',.int .i64 (N1:Int)]/\U8.R 5 w' w6.heap.size (λ_=>True) (.slice A' (d.b1.take N1).length c') (d.b1.take N1),
  λv w' _ _=>∃ A' c',v = .agg #[Value.slice B0 bb0.length n0,Value.int .i64 (N0:Int),Value.slice A' (d.b1.take N1).length c',Value.int .i64 (N1:Int),Value.int .i64 d.room,Value.int .i64 d.stop,Value.bool d.dead]/\U8.R 5 w' w6.heap.size (λ_=>True) (.slice A' (d.b1.take N1).length c') (d.b1.take N1)]
  (by kernel_rfl) (by kernel_rfl) ?hFx1 ?hS0x1 ?hSx1 ?hstayx1 ?hstepsx1 ?hendx1
 case hFx1 =>
  intro vs
  simp only [List.take_succ_cons,List.take_zero,fill,if_true,if_false,Act.put,List.setIfInBounds_toArray,List.set_cons_zero,List.set_cons_succ,Nat.reduceAdd,List.contains_cons,List.contains_nil,Nat.reduceBEq,Bool.or_false,Bool.false_or,Bool.not_true,Bool.not_false,Bool.false_eq_true,Bool.or_self,Bool.true_or]
  rfl
 case hS0x1=>exact ⟨below_drew (Below.refl _ _)⟩
 case hSx1=>exact λw1 w2 hb hs=>⟨below_step hs.out hb⟩
 case hstayx1=>exact ⟨λ_ _ _ _ _ _ h=>h,λ_ _ _ _ _ _ h=>h,λ_ _ _ _ _ hb h=>by obtain ⟨k,q1,q2,q3⟩:=h;exact ⟨k,q1,q2,blk_below q3 hb⟩,λ_ _ _ _ _ _ h=>h,λ_ _ _ _ _ _ h=>h,λ_ _ _ _ _ _ h=>h,λ_ _ _ _ _ _ h=>h,λ_ _ _ _ _ hb h=>Kd.R_below h hb,λ_ _ _ _ _ _ h=>h,λ_ _ _ _ _ hb h=>by obtain ⟨A',c',q1,q2⟩:=h;exact ⟨A',c',q1,Kd.R_below q2 hb⟩,λ_ _ _ _ _ hb h=>by obtain ⟨A',c',q1,q2⟩:=h;exact ⟨A',c',q1,Kd.R_below q2 hb⟩,trivial⟩
 case hstepsx1 =>
  refine ⟨?sx1_0,?sx1_1,?sx1_2,?sx1_3,?sx1_4,?sx1_5,?sx1_6,?sx1_7,?sx1_8,?sx1_9,?sx1_10,trivial⟩
  case sx1_0 =>
   intro _ vs lo hi W_ hs hp
   have X4_:=Aside0.mk (blk_below X4.out hs.out)
   have x0:=(blk_cell X4_.out 0).trans (rfl:_=some (Value.slice B0 bb0.length n0))
   have x1:=(blk_cell X4_.out 1).trans (rfl:_=some (Value.int .i64 (N0:Int)))
   have x2:=(blk_cell X4_.out 2).trans (rfl:_=some (Value.slice A1 d.b1.length c1))
   have x3:=(blk_cell X4_.out 3).trans (rfl:_=some (Value.int .i64 d.s1))
   have x4:=(blk_cell X4_.out 4).trans (rfl:_=some (Value.int .i64 d.room))
   have x5:=(blk_cell X4_.out 5).trans (rfl:_=some (Value.int .i64 d.stop))
   have x6:=(blk_cell X4_.out 6).trans (rfl:_=some (Value.bool d.dead))
   exact does_val (by first|(go_simp;done)|(go_simp;rfl)) ⟨rfl,Below.refl _ _⟩
  case sx1_1 =>
   intro _ vs lo hi W_ hs hp
   exact does_val (by first|(go_simp;done)|(go_simp;rfl)) ⟨rfl,Below.refl _ _⟩
  case sx1_2 =>
   intro _ vs lo hi W_ hs hp
   exact does_val (v:=.slice (some ⟨W_.heap.size,0,none⟩) 0 0) (w1:=W_.alloc (.cells #[] 5)) (by first|(go_simp;done)|(go_simp;rfl)) ⟨⟨W_.heap.size,rfl,below_size hs.out,heap_alloc_new W_ _⟩,below_alloc (Below.refl _ _) _⟩
  case sx1_3 =>
   intro _ vs lo hi W_ hs hp
   exact does_val (by first|(go_simp;done)|(go_simp;rfl)) ⟨rfl,Below.refl _ _⟩
  case sx1_4 =>
   intro _ vs lo hi W_ hs hp
   have e3:vs 3 = .pointer (some ⟨b10,0,none⟩):=hp 3 (by kernel_rfl) rfl
   have hc:W_.cell? ⟨b10,0,none⟩=some (.slice A1 d.b1.length c1):=(blk_cell (blk_below X10.out hs.out) 0).trans rfl
   exact does_val (by first|(go_simp;done)|(go_simp;rfl)) ⟨rfl,Below.refl _ _⟩
  case sx1_5 =>
   intro _ vs lo hi W_ hs hp
   exact does_val (by first|(go_simp;done)|(go_simp;rfl)) ⟨rfl,Below.refl _ _⟩
  case sx1_6 =>
   intro _ vs lo hi W_ hs hp
   have e4:vs 4 = .slice A1 d.b1.length c1:=hp 4 (by kernel_rfl) rfl
   have e5:vs 5 = .int .i64 (N1:Int):=hp 5 (by kernel_rfl) rfl
   have q1:(N1<=c1)=True:=eq_true (Nat.le_trans HNL.out LI.out)
   exact does_val (by first|(go_simp;done)|(go_simp;rfl)) ⟨rfl,Below.refl _ _⟩
  case sx1_7 =>
   intro _ vs lo hi W_ hs hp
   have e6:vs 6 = .slice A1 N1 c1:=hp 6 (by kernel_rfl) rfl
   obtain ⟨k2,e2,hk2,hx2⟩:∃ k,vs 2 = .slice (some ⟨k,0,none⟩) 0 0/\w6.heap.size<=k/\W_.heap[k]? = some (.cells #[] 5 (0,0)):=hp 2 (by kernel_rfl) rfl
   obtain ⟨vv1,ww1,hrr,hR,hbb⟩:=fresh_append (m:=N1) (c:=c1) (base:=w6.heap.size) hk2 hx2 (below_size hs.out) (by have a_:=Kd.F_now (Kd.F_take (Kd.F_below FI.out hs.out) HNL.out);rw [List.length_take,Nat.min_eq_left HNL.out] at a_;exact a_) FM.out
   exact does_append (s:=.tmp 51) (x:=.tmp 55) rfl (by rw [<-e2];first|rfl|(go_simp;done)) (by rw [<-e6];first|rfl|(go_simp;done)) hrr ⟨hR,hbb⟩
  case sx1_8 =>
   intro _ vs lo hi W_ hs hp
   exact does_val (by first|(go_simp;done)|(go_simp;rfl)) ⟨rfl,Below.refl _ _⟩
  case sx1_9 =>
   intro _ vs lo hi W_ hs hp
   have e8:vs 8 = .int .i64 (N1:Int):=hp 8 (by kernel_rfl) rfl
   have e7:U8.R 5 W_ w6.heap.size (λ_=>True) (vs 7) (d.b1.take N1):=hp 7 (by kernel_rfl) rfl
   obtain ⟨A',c',ev⟩:=Kd.R_slice e7
   rw [ev] at e7
   have E7:=Aside0.mk e7
   clear e7
   generalize (d.b1.take N1).length=ll at ev E7 ⊢
   exact does_val (v:=.agg #[.slice A' ll c',.int .i64 (N1:Int)]) (by first|(go_simp;done)|(go_simp;rfl)) ⟨⟨A',c',rfl,E7.out⟩,Below.refl _ _⟩
  case sx1_10 =>
   intro _ vs lo hi W_ hs hp
   have e0:vs 0 = .agg #[Value.slice B0 bb0.length n0,Value.int .i64 (N0:Int),Value.slice A1 d.b1.length c1,Value.int .i64 d.s1,Value.int .i64 d.room,Value.int .i64 d.stop,Value.bool d.dead]:=hp 0 (by kernel_rfl) rfl
   have e1:vs 1 = .int .i64 1:=hp 1 (by kernel_rfl) rfl
   obtain ⟨A',c',e9,hR9⟩:∃ A' c',vs 9 = .agg #[.slice A' (d.b1.take N1).length c',.int .i64 (N1:Int)]/\U8.R 5 W_ w6.heap.size (λ_=>True) (.slice A' (d.b1.take N1).length c') (d.b1.take N1):=hp 9 (by kernel_rfl) rfl
   refine does_call Try.func37 (by kernel_rfl) rfl #[.agg #[Value.slice B0 bb0.length n0,Value.int .i64 (N0:Int),Value.slice A1 d.b1.length c1,Value.int .i64 d.s1,Value.int .i64 d.room,Value.int .i64 d.stop,Value.bool d.dead],.int .i64 1,.agg #[.slice A' (d.b1.take N1).length c',.int .i64 (N1:Int)]] rfl rfl (by rw [<-e0,<-e1,<-e9];simp only [List.map_toArray,List.map_cons,List.map_nil];rfl) ?_
   refine(refSet_one W_ B0 A1 n0 c1 (⟨bb0,(N0:Int),d.b1,d.s1,d.room,d.stop,d.dead⟩:Dk) A' c' (d.b1.take N1) (N1:Int)).mono ?_
   rintro e w' ⟨rfl,hb⟩
   exact ⟨_,rfl,⟨A',c',rfl,Kd.R_below hR9 hb⟩,hb⟩
 case hendx1 =>
 intro vs lo_ hi_ Wc hs hp _
 simp only [List.drop_succ_cons,List.drop_zero]
 obtain ⟨B1,n1,e10,hR⟩:∃ A' c',vs 10 = .agg #[Value.slice B0 bb0.length n0,Value.int .i64 (N0:Int),Value.slice A' (d.b1.take N1).length c',Value.int .i64 (N1:Int),Value.int .i64 d.room,Value.int .i64 d.stop,Value.bool d.dead]/\U8.R 5 Wc w6.heap.size (λ_=>True) (.slice A' (d.b1.take N1).length c') (d.b1.take N1):=hp 10 (by decide)
 rw [e10]
 obtain ⟨bb1,hbb⟩:∃ bb,bb=d.b1.take N1:=⟨_,rfl⟩
 rw [<-hbb] at hR ⊢
 have BB1:=Aside0.mk hbb
 have lt6:=Aside0.mk (blk_lt X8.out)
 have hR2:=Kd.R_lower (Kd.R_mono (Kd.R_bound hR) (ok':=λk=>W.heap.size+2<=k) (λk hk=>by have:=lt6.out;have:=hk.2.1;omega)) (below_size HB.out)
 have O1:=Aside0.mk hR2
 have hb:=hs.out
 have o0:=Kd.R_below O0.out hb
 clear O0
 have O0:=Aside0.mk o0
 clear o0
 have x10:=blk_below X10.out hb
 clear X10
 have X10:=Aside0.mk x10
 clear x10
 have x4:=blk_below X4.out hb
 have x8:=blk_below X8.out hb
 have hb2:=below_step HB.out hb
 clear X4 X8 HB
 have X4:=Aside0.mk x4
 have X8:=Aside0.mk x8
 have HB:=Aside0.mk hb2
 clear x4 x8 hb2
 clear hb hs hp e10 hR hR2 hbb
 clear FI LI FM HNL HCN KK X10
 have k0:=(blk_cell X4.out 0).trans (rfl:_=some (Value.slice B0 bb0.length n0))
 have k1:=(blk_cell X4.out 1).trans (rfl:_=some (Value.int .i64 (N0:Int)))
 have k2:=(blk_cell X4.out 2).trans (rfl:_=some (Value.slice A1 d.b1.length c1))
 have k3:=(blk_cell X4.out 3).trans (rfl:_=some (Value.int .i64 d.s1))
 have k4:=(blk_cell X4.out 4).trans (rfl:_=some (Value.int .i64 d.room))
 have k5:=(blk_cell X4.out 5).trans (rfl:_=some (Value.int .i64 d.stop))
 have k6:=(blk_cell X4.out 6).trans (rfl:_=some (Value.bool d.dead))
 have f0:=blk_frozen X4.out 0
 have f1:=blk_frozen X4.out 1
 have f2:=blk_frozen X4.out 2
 have f3:=blk_frozen X4.out 3
 have f4:=blk_frozen X4.out 4
 have f5:=blk_frozen X4.out 5
 have f6:=blk_frozen X4.out 6
 go_wp2_with (first|((with_reducible refine store_event (t:=43) (p:=2) rfl rfl rfl (w1:=(((((((Wc.setCell ⟨W.heap.size,0,none⟩ (Value.slice B0 bb0.length n0)).setCell ⟨W.heap.size,1,none⟩ (Value.int .i64 (N0:Int))).setCell ⟨W.heap.size,2,none⟩ (Value.slice B1 bb1.length n1)).setCell ⟨W.heap.size,3,none⟩ (Value.int .i64 (N1:Int))).setCell ⟨W.heap.size,4,none⟩ (Value.int .i64 d.room)).setCell ⟨W.heap.size,5,none⟩ (Value.int .i64 d.stop)).setCell ⟨W.heap.size,6,none⟩ (Value.bool d.dead))) ?hrun ?_);(case hrun=>first|(go_simp;done)|(go_simp;rfl));intro w12 hw12;have Y_w12:=Aside0.mk (show w12.heap[W.heap.size]? = some (.cells #[Value.slice B0 bb0.length n0,Value.int .i64 (N0:Int),Value.slice B1 bb1.length n1,Value.int .i64 (N1:Int),Value.int .i64 d.room,Value.int .i64 d.stop,Value.bool d.dead] 43 (0,0)) by rw [hw12];exact(blk_put ((blk_put ((blk_put ((blk_put ((blk_put ((blk_put ((blk_put (X4.out) 0 (Value.slice B0 bb0.length n0) rfl)) 1 (Value.int .i64 (N0:Int)) rfl)) 2 (Value.slice B1 bb1.length n1) rfl)) 3 (Value.int .i64 (N1:Int)) rfl)) 4 (Value.int .i64 d.room) rfl)) 5 (Value.int .i64 d.stop) rfl)) 6 (Value.bool d.dead) rfl));have B_w12:=Aside0.mk (show Below W.heap.size W w12 by rw [hw12];exact(below_set ((below_set ((below_set ((below_set ((below_set ((below_set ((below_set (HB.out) (Nat.le_refl _))) (Nat.le_refl _))) (Nat.le_refl _))) (Nat.le_refl _))) (Nat.le_refl _))) (Nat.le_refl _))) (Nat.le_refl _)));have CH_w12:=Aside0.mk (show ∀ k,k≠W.heap.size->w12.heap[k]? = Wc.heap[k]? from λk hk=>by rw [hw12];exact((Below.heap_setCell ((((((Wc.setCell ⟨W.heap.size,0,none⟩ (Value.slice B0 bb0.length n0)).setCell ⟨W.heap.size,1,none⟩ (Value.int .i64 (N0:Int))).setCell ⟨W.heap.size,2,none⟩ (Value.slice B1 bb1.length n1)).setCell ⟨W.heap.size,3,none⟩ (Value.int .i64 (N1:Int))).setCell ⟨W.heap.size,4,none⟩ (Value.int .i64 d.room)).setCell ⟨W.heap.size,5,none⟩ (Value.int .i64 d.stop)) ⟨W.heap.size,6,none⟩ (Value.bool d.dead) k hk).trans (((Below.heap_setCell (((((Wc.setCell ⟨W.heap.size,0,none⟩ (Value.slice B0 bb0.length n0)).setCell ⟨W.heap.size,1,none⟩ (Value.int .i64 (N0:Int))).setCell ⟨W.heap.size,2,none⟩ (Value.slice B1 bb1.length n1)).setCell ⟨W.heap.size,3,none⟩ (Value.int .i64 (N1:Int))).setCell ⟨W.heap.size,4,none⟩ (Value.int .i64 d.room)) ⟨W.heap.size,5,none⟩ (Value.int .i64 d.stop) k hk).trans (((Below.heap_setCell ((((Wc.setCell ⟨W.heap.size,0,none⟩ (Value.slice B0 bb0.length n0)).setCell ⟨W.heap.size,1,none⟩ (Value.int .i64 (N0:Int))).setCell ⟨W.heap.size,2,none⟩ (Value.slice B1 bb1.length n1)).setCell ⟨W.heap.size,3,none⟩ (Value.int .i64 (N1:Int))) ⟨W.heap.size,4,none⟩ (Value.int .i64 d.room) k hk).trans (((Below.heap_setCell (((Wc.setCell ⟨W.heap.size,0,none⟩ (Value.slice B0 bb0.length n0)).setCell ⟨W.heap.size,1,none⟩ (Value.int .i64 (N0:Int))).setCell ⟨W.heap.size,2,none⟩ (Value.slice B1 bb1.length n1)) ⟨W.heap.size,3,none⟩ (Value.int .i64 (N1:Int)) k hk).trans (((Below.heap_setCell ((Wc.setCell ⟨W.heap.size,0,none⟩ (Value.slice B0 bb0.length n0)).setCell ⟨W.heap.size,1,none⟩ (Value.int .i64 (N0:Int))) ⟨W.heap.size,2,none⟩ (Value.slice B1 bb1.length n1) k hk).trans (((Below.heap_setCell (Wc.setCell ⟨W.heap.size,0,none⟩ (Value.slice B0 bb0.length n0)) ⟨W.heap.size,1,none⟩ (Value.int .i64 (N0:Int)) k hk).trans (((Below.heap_setCell Wc ⟨W.heap.size,0,none⟩ (Value.slice B0 bb0.length n0) k hk).trans (rfl)))))))))))))));clear hw12;clear k0 k1 k2 k3 k4 k5 k6 f0 f1 f2 f3 f4 f5 f6 X4))
 have X4:=Y_w12
 have x8:=(CH_w12.out (W.heap.size+1) (by omega)).trans X8.out
 clear X8
 have X8:=Aside0.mk x8
 clear x8 HB
 have HB:=B_w12
 have o1:=Kd.R_step O1.out (λk hk _=>CH_w12.out k (by have h_:W.heap.size+2<=k:=hk;omega))
 clear O1
 have O1:=Aside0.mk o1
 clear o1
 have o0:=Kd.R_step O0.out (λk hk _=>CH_w12.out k (by have h_:W.heap.size+2<=k:=hk;omega))
 clear O0
 have O0:=Aside0.mk o0
 clear o0
 rw [rounds_succ]
 have k0:=(blk_cell X4.out 0).trans (rfl:_=some (Value.slice B0 bb0.length n0))
 have k1:=(blk_cell X4.out 1).trans (rfl:_=some (Value.int .i64 (N0:Int)))
 have k2:=(blk_cell X4.out 2).trans (rfl:_=some (Value.slice B1 bb1.length n1))
 have k3:=(blk_cell X4.out 3).trans (rfl:_=some (Value.int .i64 (N1:Int)))
 have k4:=(blk_cell X4.out 4).trans (rfl:_=some (Value.int .i64 d.room))
 have k5:=(blk_cell X4.out 5).trans (rfl:_=some (Value.int .i64 d.stop))
 have k6:=(blk_cell X4.out 6).trans (rfl:_=some (Value.bool d.dead))
 have f6:=blk_frozen X4.out 6
 go_upto_region 12 with (fail)
 have x4:=blk_put (cs':=#[Value.slice B0 bb0.length n0,Value.int .i64 (N0:Int),Value.slice B1 bb1.length n1,Value.int .i64 (N1:Int),Value.int .i64 d.room,Value.int .i64 d.stop,Value.bool false]) X4.out 6 (.bool false) rfl
 have x8:=(Below.heap_setCell w12 ⟨W.heap.size,6,none⟩ (.bool false) (W.heap.size+1) (by simp)).trans X8.out
 have hb2:=below_set (j:=6) (v:=.bool false) HB.out (Nat.le_refl W.heap.size)
 have o0:=Kd.R_step O0.out (λk hk _=>Below.heap_setCell w12 ⟨W.heap.size,6,none⟩ (.bool false) k (by have h_:W.heap.size+2<=k:=hk;show k≠W.heap.size;omega))
 have o1:=Kd.R_step O1.out (λk hk _=>Below.heap_setCell w12 ⟨W.heap.size,6,none⟩ (.bool false) k (by have h_:W.heap.size+2<=k:=hk;show k≠W.heap.size;omega))
 clear X4 X8 HB O0 O1 k0 k1 k2 k3 k4 k5 k6 f6
 generalize w12.setCell ⟨W.heap.size,6,none⟩ (.bool false)=w13 at x4 x8 hb2 o0 o1 ⊢
 have X4:=Aside0.mk x4
 have X8:=Aside0.mk x8
 have HB:=Aside0.mk hb2
 have O0:=Aside0.mk o0
 have O1:=Aside0.mk o1
 clear x4 x8 hb2 o0 o1
 have k0:=(blk_cell X4.out 0).trans (rfl:_=some (Value.slice B0 bb0.length n0))
 have k1:=(blk_cell X4.out 1).trans (rfl:_=some (Value.int .i64 (N0:Int)))
 have k2:=(blk_cell X4.out 2).trans (rfl:_=some (Value.slice B1 bb1.length n1))
 have k3:=(blk_cell X4.out 3).trans (rfl:_=some (Value.int .i64 (N1:Int)))
 have k4:=(blk_cell X4.out 4).trans (rfl:_=some (Value.int .i64 d.room))
 have k5:=(blk_cell X4.out 5).trans (rfl:_=some (Value.int .i64 d.stop))
 have k6:=(blk_cell X4.out 6).trans (rfl:_=some (Value.bool false))
 have f5:=blk_frozen X4.out 5
 go_upto_region 13 with (fail)
 have x4:=blk_put (cs':=#[Value.slice B0 bb0.length n0,Value.int .i64 (N0:Int),Value.slice B1 bb1.length n1,Value.int .i64 (N1:Int),Value.int .i64 d.room,Value.int .i64 (-1),Value.bool false]) X4.out 5 (.int .i64 (-1)) rfl
 have x8:=(Below.heap_setCell w13 ⟨W.heap.size,5,none⟩ (.int .i64 (-1)) (W.heap.size+1) (by simp)).trans X8.out
 have hb2:=below_set (j:=5) (v:=.int .i64 (-1)) HB.out (Nat.le_refl W.heap.size)
 have o0:=Kd.R_step O0.out (λk hk _=>Below.heap_setCell w13 ⟨W.heap.size,5,none⟩ (.int .i64 (-1)) k (by have h_:W.heap.size+2<=k:=hk;show k≠W.heap.size;omega))
 have o1:=Kd.R_step O1.out (λk hk _=>Below.heap_setCell w13 ⟨W.heap.size,5,none⟩ (.int .i64 (-1)) k (by have h_:W.heap.size+2<=k:=hk;show k≠W.heap.size;omega))
 clear X4 X8 HB O0 O1 k0 k1 k2 k3 k4 k5 k6 f5
 generalize w13.setCell ⟨W.heap.size,5,none⟩ (.int .i64 (-1))=w14 at x4 x8 hb2 o0 o1 ⊢
 have X4:=Aside0.mk x4
 have X8:=Aside0.mk x8
 have HB:=Aside0.mk hb2
 have O0:=Aside0.mk o0
 have O1:=Aside0.mk o1
 clear x4 x8 hb2 o0 o1
 have k0:=(blk_cell X4.out 0).trans (rfl:_=some (Value.slice B0 bb0.length n0))
 have k1:=(blk_cell X4.out 1).trans (rfl:_=some (Value.int .i64 (N0:Int)))
 have k2:=(blk_cell X4.out 2).trans (rfl:_=some (Value.slice B1 bb1.length n1))
 have k3:=(blk_cell X4.out 3).trans (rfl:_=some (Value.int .i64 (N1:Int)))
 have k4:=(blk_cell X4.out 4).trans (rfl:_=some (Value.int .i64 d.room))
 have k5:=(blk_cell X4.out 5).trans (rfl:_=some (Value.int .i64 (-1)))
 have k6:=(blk_cell X4.out 6).trans (rfl:_=some (Value.bool false))
 have z0:=(blk_cell X8.out 0).trans (rfl:_=some (Value.slice none 0 0))
 have z1:=(blk_cell X8.out 1).trans (rfl:_=some (Value.int .i64 0))
 have z2:=(blk_cell X8.out 2).trans (rfl:_=some (Value.slice none 0 0))
 have z3:=(blk_cell X8.out 3).trans (rfl:_=some (Value.int .i64 0))
 have z4:=(blk_cell X8.out 4).trans (rfl:_=some (Value.int .i64 0))
 have z5:=(blk_cell X8.out 5).trans (rfl:_=some (Value.int .i64 0))
 have z6:=(blk_cell X8.out 6).trans (rfl:_=some (Value.bool false))
 have f0:=blk_frozen X8.out 0
 have f1:=blk_frozen X8.out 1
 have f2:=blk_frozen X8.out 2
 have f3:=blk_frozen X8.out 3
 have f4:=blk_frozen X8.out 4
 have f5:=blk_frozen X8.out 5
 have f6:=blk_frozen X8.out 6
 go_wp2_with (first|((with_reducible refine store_event (t:=43) (p:=4) rfl rfl rfl (w1:=(((((((w14.setCell ⟨W.heap.size+1,0,none⟩ (Value.slice B0 bb0.length n0)).setCell ⟨W.heap.size+1,1,none⟩ (Value.int .i64 (N0:Int))).setCell ⟨W.heap.size+1,2,none⟩ (Value.slice B1 bb1.length n1)).setCell ⟨W.heap.size+1,3,none⟩ (Value.int .i64 (N1:Int))).setCell ⟨W.heap.size+1,4,none⟩ (Value.int .i64 d.room)).setCell ⟨W.heap.size+1,5,none⟩ (Value.int .i64 (-1))).setCell ⟨W.heap.size+1,6,none⟩ (Value.bool false))) ?hrun ?_);(case hrun=>first|(go_simp;done)|(go_simp;rfl));intro w15 hw15;have Y_w15:=Aside0.mk (show w15.heap[W.heap.size+1]? = some (.cells #[Value.slice B0 bb0.length n0,Value.int .i64 (N0:Int),Value.slice B1 bb1.length n1,Value.int .i64 (N1:Int),Value.int .i64 d.room,Value.int .i64 (-1),Value.bool false] 43 (0,0)) by rw [hw15];exact(blk_put ((blk_put ((blk_put ((blk_put ((blk_put ((blk_put ((blk_put (X8.out) 0 (Value.slice B0 bb0.length n0) rfl)) 1 (Value.int .i64 (N0:Int)) rfl)) 2 (Value.slice B1 bb1.length n1) rfl)) 3 (Value.int .i64 (N1:Int)) rfl)) 4 (Value.int .i64 d.room) rfl)) 5 (Value.int .i64 (-1)) rfl)) 6 (Value.bool false) rfl));have B_w15:=Aside0.mk (show Below W.heap.size W w15 by rw [hw15];exact(below_set ((below_set ((below_set ((below_set ((below_set ((below_set ((below_set (HB.out) (Nat.le_succ _))) (Nat.le_succ _))) (Nat.le_succ _))) (Nat.le_succ _))) (Nat.le_succ _))) (Nat.le_succ _))) (Nat.le_succ _)));have CH_w15:=Aside0.mk (show ∀ k,k≠W.heap.size+1->w15.heap[k]? = w14.heap[k]? from λk hk=>by rw [hw15];exact((Below.heap_setCell ((((((w14.setCell ⟨W.heap.size+1,0,none⟩ (Value.slice B0 bb0.length n0)).setCell ⟨W.heap.size+1,1,none⟩ (Value.int .i64 (N0:Int))).setCell ⟨W.heap.size+1,2,none⟩ (Value.slice B1 bb1.length n1)).setCell ⟨W.heap.size+1,3,none⟩ (Value.int .i64 (N1:Int))).setCell ⟨W.heap.size+1,4,none⟩ (Value.int .i64 d.room)).setCell ⟨W.heap.size+1,5,none⟩ (Value.int .i64 (-1))) ⟨W.heap.size+1,6,none⟩ (Value.bool false) k hk).trans (((Below.heap_setCell (((((w14.setCell ⟨W.heap.size+1,0,none⟩ (Value.slice B0 bb0.length n0)).setCell ⟨W.heap.size+1,1,none⟩ (Value.int .i64 (N0:Int))).setCell ⟨W.heap.size+1,2,none⟩ (Value.slice B1 bb1.length n1)).setCell ⟨W.heap.size+1,3,none⟩ (Value.int .i64 (N1:Int))).setCell ⟨W.heap.size+1,4,none⟩ (Value.int .i64 d.room)) ⟨W.heap.size+1,5,none⟩ (Value.int .i64 (-1)) k hk).trans (((Below.heap_setCell ((((w14.setCell ⟨W.heap.size+1,0,none⟩ (Value.slice B0 bb0.length n0)).setCell ⟨W.heap.size+1,1,none⟩ (Value.int .i64 (N0:Int))).setCell ⟨W.heap.size+1,2,none⟩ (Value.slice B1 bb1.length n1)).setCell ⟨W.heap.size+1,3,none⟩ (Value.int .i64 (N1:Int))) ⟨W.heap.size+1,4,none⟩ (Value.int .i64 d.room) k hk).trans (((Below.heap_setCell (((w14.setCell ⟨W.heap.size+1,0,none⟩ (Value.slice B0 bb0.length n0)).setCell ⟨W.heap.size+1,1,none⟩ (Value.int .i64 (N0:Int))).setCell ⟨W.heap.size+1,2,none⟩ (Value.slice B1 bb1.length n1)) ⟨W.heap.size+1,3,none⟩ (Value.int .i64 (N1:Int)) k hk).trans (((Below.heap_setCell ((w14.setCell ⟨W.heap.size+1,0,none⟩ (Value.slice B0 bb0.length n0)).setCell ⟨W.heap.size+1,1,none⟩ (Value.int .i64 (N0:Int))) ⟨W.heap.size+1,2,none⟩ (Value.slice B1 bb1.length n1) k hk).trans (((Below.heap_setCell (w14.setCell ⟨W.heap.size+1,0,none⟩ (Value.slice B0 bb0.length n0)) ⟨W.heap.size+1,1,none⟩ (Value.int .i64 (N0:Int)) k hk).trans (((Below.heap_setCell w14 ⟨W.heap.size+1,0,none⟩ (Value.slice B0 bb0.length n0) k hk).trans (rfl)))))))))))))));clear hw15;have r0_:=(blk_cell Y_w15.out 0).trans (rfl:_=some (Value.slice B0 bb0.length n0));have r1_:=(blk_cell Y_w15.out 1).trans (rfl:_=some (Value.int .i64 (N0:Int)));have r2_:=(blk_cell Y_w15.out 2).trans (rfl:_=some (Value.slice B1 bb1.length n1));have r3_:=(blk_cell Y_w15.out 3).trans (rfl:_=some (Value.int .i64 (N1:Int)));have r4_:=(blk_cell Y_w15.out 4).trans (rfl:_=some (Value.int .i64 d.room));have r5_:=(blk_cell Y_w15.out 5).trans (rfl:_=some (Value.int .i64 (-1)));have r6_:=(blk_cell Y_w15.out 6).trans (rfl:_=some (Value.bool false))))
 refine bodyPost_ret (v:=.agg #[Value.slice B0 bb0.length n0,Value.int .i64 (N0:Int),Value.slice B1 bb1.length n1,Value.int .i64 (N1:Int),Value.int .i64 d.room,Value.int .i64 (-1),Value.bool false]) ?hres rfl ?_
 case hres =>
  simp only [results,r0_,r1_,r2_,r3_,r4_,r5_,r6_]
  first|rfl|(simp [r0_,r1_,r2_,r3_,r4_,r5_,r6_];done)|(go_simp;done)|(go_simp;rfl)
 have ch:=CH_w15.out
 have lt2:W.heap.size<=W.heap.size:=Nat.le_refl _
 have row0:=F_fresh (D:=D) (W:=w15) (v:=.bool true) (Kd.R_mono (Kd.R_step O0.out (λk hk _=>ch k (by have h_:W.heap.size+2<=k:=hk;omega))) (λ_ _=>trivial)) HD.out
 have row1:=F_fresh (D:=D) (W:=w15) (v:=.bool true) (Kd.R_mono (Kd.R_step O1.out (λk hk _=>ch k (by have h_:W.heap.size+2<=k:=hk;omega))) (λ_ _=>trivial)) HD.out
 have e0:=HN0.out
 have e1:=HN1.out
 have ed:d.crash keep=⟨bb0,(N0:Int),bb1,(N1:Int),d.room,-1,false⟩:=by
  unfold Dk.crash
  rw [e0,e1,BB0.out,BB1.out]
  rfl
 exact ⟨_,rfl,⟨B0,B1,n0,n1,by rw [ed],by rw [ed];exact ⟨row0.2.1,row0.2.2,row1.2.1,row1.2.2⟩⟩,B_w15.out⟩
end
end Go.Proofs.Ytpahdlgpiecdkaa.Dsk
