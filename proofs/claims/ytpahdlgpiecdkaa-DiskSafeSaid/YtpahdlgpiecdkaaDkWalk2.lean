/- a part -/
import Derived.Test.YtpahdlgpiecdkaaDkWalk
namespace Go.Proofs.Ytpahdlgpiecdkaa.Dsk
open Go.RowKit Go.Proofs.YtpahdlgpiecdkaaW.PrintWords Go.Proofs.YtpahdlgpiecdkaaW.PrintLast Go.Proofs.YtpahdlgpiecdkaaW.PrintMore Go.Proofs.Ytpahdlgpiecdkaa.Hand Go.Proofs.Ytpahdlgpiecdkaa.Cards Go.Proofs.Ytpahdlgpiecdkaa.PDk
attribute [local go_sem] max2_name min2_name max_two min_two
set_option linter.unusedVariables false
set_option linter.unusedSimpArgs false
section
variable {w0 W : World} {g : Nat} {v0 v1 : Value} {D : Nat -> Prop} {d : Dk}
set_option maxHeartbeats 4000000 in
set_option maxRecDepth 100000 in
theorem read_calls (h:Raw w0 W g v0 v1 D d) (hg:d.Good) (i:Int) :
  Calls Try.prog 21 #[.pointer (some ⟨g,0,none⟩),.int .i64 i] W λe w'=>∃ v,e = .returned (.tuple #[v,.int .i64 (d.why i)])/\U8.R 5 w' W.heap.size (λ_=>True) v (if d.why i=0 then d.row i else [])/\Below W.heap.size W w':=by
 have H1:=Aside0.mk (at_calls h i)
 have HH:=Aside0.mk h
 have HG:=Aside0.mk hg
 clear h hg
 obtain ⟨y,hy⟩:∃ y,y=d.why i:=⟨_,rfl⟩
 rw [<-hy] at H1 ⊢
 have HY:=Aside0.mk hy
 clear hy
 obtain ⟨rr,hrr⟩:∃ rr,rr=(if y=0 then d.row i else []):=⟨_,rfl⟩
 rw [<-hrr]
 by_cases y0:y=0
 case neg =>
  have Y0:=Aside0.mk y0
  have y1:(y != 0)=true:=by simp [y0]
  rw [if_neg y0] at hrr
  subst hrr
  clear y0
  go_enter Try.func21,Try.ntmps21
  go_wp2_with (first|(go_at_call 34;with_reducible refine Calls.mono H1.out ?_;rintro e w1 ⟨rfl,hb⟩;have HB:=Aside0.mk hb;clear hb H1))
  refine bodyPost_ret (results_tmp2 rfl _ _ _) rfl ?_
  exact ⟨_,rfl,Kd.R_nil _ _ _ _ _,HB.out⟩
 have Y0:=Aside0.mk y0
 have y1:(y != 0)=false:=by simp [y0]
 rw [if_pos y0] at hrr
 have RR:=Aside0.mk hrr
 clear hrr
 have hin:=Dk.why_in (d:=d) (i:=i) (by rw [<-HY.out];omega)
 have HIN:=Aside0.mk hin
 clear y0 hin
 rcases HIN.out with rfl|rfl
 ·obtain ⟨Ar,cr,er⟩:=Kd.R_slice HH.out.r0
  subst er
  have LN:=Aside0.mk HG.out.len0
  go_enter Try.func21,Try.ntmps21
  go_upto_region 4 with (first|(go_at_call 34;with_reducible refine Calls.mono H1.out ?_;rintro e w1 ⟨rfl,hb⟩;have HB:=Aside0.mk hb;have HH1:=Aside0.mk (HH.out.on hb);clear hb H1))
  have c0:=HH1.out.c0
  go_upto_region 5 with (first|((with_reducible refine gate_dst (N:=22) rfl ?_);refine Kd.R_make U8 (w0:=W) W.heap.size 5 rfl (N:=22) rfl 23 _ _ rfl (d.b0.length:Int) rfl rfl Try.underlying23 (.int .u8 0) 1 info5 rfl (by decide) (by omega) 0 (ok:=λ_=>True) (okp:=λ_=>True) rfl (λ_ hk=>hk) trivial (by omega) (by have:=LN.out;omega) HB.out (below_size HB.out) ?_;intro v7 w5 ho hb hg hat;obtain ⟨zz,hzz⟩:∃ zz,zz=List.replicate ((d.b0.length:Int)).toNat (0:Int):=⟨_,rfl⟩;rw [<-hzz] at ho;have ZZ:=Aside0.mk hzz;obtain ⟨A7,c7,e7⟩:=Kd.R_slice ho;subst e7;have HO5:=Aside0.mk ho;have HB5:=Aside0.mk hb;have HH5:=Aside0.mk (HH1.out.on (below_of_grown' hg));clear ho hb hg hat hzz))
  clear c0 HH1 HB
  have c0:=HH5.out.c0
  have q5:=Aside0.mk (Kd.R_reads' HH5.out.r0).2.2
  have lz:zz.length=d.b0.length:=by rw [ZZ.out,List.length_replicate];omega
  have LZ:=Aside0.mk lz
  clear lz
  have e5:(Try.prog.info? 5).map (·.size)=some 1:=by kernel_rfl
  have E5:=Aside0.mk e5
  clear e5
  go_wp2_with (first|((with_reducible refine gate_builtin (b:=.copy) (xs:=#[.tmp 23,.tmp 30]) rfl ?_);refine Kd.R_copy (0:Int) (w0:=W) W.heap.size rfl (.tmp 23) (.tmp 30) 23 23 5 rfl Try.underlying23 E5.out _ zz d.b0 _ _ _ (λ_=>True) rfl rfl HO5.out q5.out HB5.out (below_size HB5.out) ?_;intro w6 ho hb hg;have HO6:=Aside0.mk ho;have HB6:=Aside0.mk hb;clear ho hb hg))
  refine bodyPost_ret (results_tmp2 rfl _ _ _) rfl ?_
  have ho:=HO6.out
  have lz:=LZ.out
  clear HO6 c0 q5
  have el:d.b0.take (min d.b0.length zz.length)++zz.drop (min d.b0.length zz.length)=d.b0:=by rw [lz,Nat.min_self,List.take_length,List.drop_eq_nil_of_le (by omega),List.append_nil]
  rw [el] at ho
  have er:rr=d.b0:=RR.out
  have y0:=Y0.out
  clear Y0 HY y1
  subst y0
  exact ⟨_,rfl,by rw [er];exact ho,HB6.out⟩
 ·obtain ⟨Ar,cr,er⟩:=Kd.R_slice HH.out.r1
  subst er
  have LN:=Aside0.mk HG.out.len1
  go_enter Try.func21,Try.ntmps21
  go_upto_region 4 with (first|(go_at_call 34;with_reducible refine Calls.mono H1.out ?_;rintro e w1 ⟨rfl,hb⟩;have HB:=Aside0.mk hb;have HH1:=Aside0.mk (HH.out.on hb);clear hb H1))
  have c0:=HH1.out.c2
  go_upto_region 5 with (first|((with_reducible refine gate_dst (N:=22) rfl ?_);refine Kd.R_make U8 (w0:=W) W.heap.size 5 rfl (N:=22) rfl 23 _ _ rfl (d.b1.length:Int) rfl rfl Try.underlying23 (.int .u8 0) 1 info5 rfl (by decide) (by omega) 0 (ok:=λ_=>True) (okp:=λ_=>True) rfl (λ_ hk=>hk) trivial (by omega) (by have:=LN.out;omega) HB.out (below_size HB.out) ?_;intro v7 w5 ho hb hg hat;obtain ⟨zz,hzz⟩:∃ zz,zz=List.replicate ((d.b1.length:Int)).toNat (0:Int):=⟨_,rfl⟩;rw [<-hzz] at ho;have ZZ:=Aside0.mk hzz;obtain ⟨A7,c7,e7⟩:=Kd.R_slice ho;subst e7;have HO5:=Aside0.mk ho;have HB5:=Aside0.mk hb;have HH5:=Aside0.mk (HH1.out.on (below_of_grown' hg));clear ho hb hg hat hzz))
  clear c0 HH1 HB
  have c0:=HH5.out.c2
  have q5:=Aside0.mk (Kd.R_reads' HH5.out.r1).2.2
  have lz:zz.length=d.b1.length:=by rw [ZZ.out,List.length_replicate];omega
  have LZ:=Aside0.mk lz
  clear lz
  have e5:(Try.prog.info? 5).map (·.size)=some 1:=by kernel_rfl
  have E5:=Aside0.mk e5
  clear e5
  go_wp2_with (first|((with_reducible refine gate_builtin (b:=.copy) (xs:=#[.tmp 23,.tmp 30]) rfl ?_);refine Kd.R_copy (0:Int) (w0:=W) W.heap.size rfl (.tmp 23) (.tmp 30) 23 23 5 rfl Try.underlying23 E5.out _ zz d.b1 _ _ _ (λ_=>True) rfl rfl HO5.out q5.out HB5.out (below_size HB5.out) ?_;intro w6 ho hb hg;have HO6:=Aside0.mk ho;have HB6:=Aside0.mk hb;clear ho hb hg))
  refine bodyPost_ret (results_tmp2 rfl _ _ _) rfl ?_
  have ho:=HO6.out
  have lz:=LZ.out
  clear HO6 c0 q5
  have el:d.b1.take (min d.b1.length zz.length)++zz.drop (min d.b1.length zz.length)=d.b1:=by rw [lz,Nat.min_self,List.take_length,List.drop_eq_nil_of_le (by omega),List.append_nil]
  rw [el] at ho
  have er:rr=d.b1:=RR.out
  have y0:=Y0.out
  clear Y0 HY y1
  subst y0
  exact ⟨_,rfl,by rw [er];exact ho,HB6.out⟩
set_option maxHeartbeats 4000000 in
set_option maxRecDepth 100000 in
theorem new_calls (room:Int) (r0:0<=room) (r1:room<=1048576) (W:World) :
  Calls Try.prog 16 #[.int .i64 room] W λe w'=>∃ g,e = .returned (.tuple #[.pointer (some ⟨g,0,none⟩),.int .i64 0])/\(∃ D,At W w' g D (Dk.new room))/\Below W.heap.size W w':=by
 have a1:decide (room<0)=false:=decide_eq_false (by omega)
 have a2:decide (room > 1048576)=false:=decide_eq_false (by omega)
 have a3:decide (1048576<room)=false:=decide_eq_false (by omega)
 have n1:At W (W.alloc (DkObj (.slice none 0 0) (.slice none 0 0) (Dk.new room))) W.heap.size (λk=>k=W.heap.size) (Dk.new room) :=
  ⟨_,_,below_alloc (Below.refl _ _) _,Nat.le_refl _,rfl,λk hk=>by rw [hk];simp,λk hk=>Nat.le_of_eq hk.symm,heap_alloc_new W _,Kd.R_nil _ _ _ _ _,Kd.R_nil _ _ _ _ _⟩
 have N1:=Aside0.mk n1
 clear n1
 go_enter Try.func16,Try.ntmps16
 go_wp2
 refine bodyPost_ret (results_tmp2 rfl _ _ _) rfl ?_
 exact ⟨_,rfl,⟨_,N1.out⟩,below_alloc (Below.refl _ _) _⟩
set_option maxHeartbeats 8000000 in
set_option maxRecDepth 100000 in
theorem crash_calls (h:Raw w0 W g v0 v1 D d) (hg:d.Good) (A:Option Addr) (m c:Nat) (keep:List Int) (hm:m=keep.length) (hA:Kd.F (Kd.int .i64) W (λk=>¬ D k) A m keep) :
  Calls Try.prog 19 #[.pointer (some ⟨g,0,none⟩),.slice A m c] W λe w'=>e = .returned (.tuple #[])/\∃ D',At w0 w' g D' (d.crash keep)/\Step W w' D D':=by
 have HH:=Aside0.mk h
 have HG:=Aside0.mk hg
 have HA:=Aside0.mk hA
 have HM:=Aside0.mk hm
 clear h hg hA hm
 go_enter Try.func19,Try.ntmps19
 go_wp2
 refine wp_loop_rounds 3 ?_
 have HRa:=HH
 have HSa:=Aside0.mk (Step.refl W D)
 clear HH
 rw [rounds_succ]
 go_upto_if 20 with (fail)
 go_cut [6] (λv6 wx=>v6 = .int .i64 (Dk.some_ d.b0 d.s0 keep 0)/\Aside0 (Raw w0 wx g v0 v1 D d)/\Aside0 (Step W wx D D))
 case first =>
  have hfa:=HSa.out.foot HA.out
  generalize hc:decide (0<m)=cb
  cases cb with
  | false =>
   have hk:¬ 0<keep.length:=by have:=of_decide_eq_false hc;have:=HM.out;omega
   have en:Dk.some_ d.b0 d.s0 keep 0=0:=by unfold Dk.some_;rw [if_neg hk]
   have EN:=Aside0.mk en
   clear hk hc en hfa
   go_wp2
   go_meet
   exact ⟨by rw [EN.out],HRa,HSa⟩
  | true =>
  have hm:=of_decide_eq_true hc
  have hk:0<keep.length:=by have:=HM.out;omega
  have en:Dk.some_ d.b0 d.s0 keep 0=lo (hi (keep.getD 0 0) 0) ((d.b0.length:Int) - d.s0):=by unfold Dk.some_;rw [if_pos hk]
  have k4:(0<m)=True:=eq_true (by omega)
  have k5:((0:Int)<(m:Int))=True:=eq_true (by omega)
  have EN:=Aside0.mk en
  obtain ⟨ad,cs,ea,_,hK,hc0⟩:=Kd.C_get (Kd.F_now hfa) 0 (0:Int) (by omega) (by omega)
  subst ea
  obtain rfl:=hK
  have kc:W.cell? (ad.add 0)=some (.int .i64 (keep.getD 0 0)):=by have hq:=hc0 0 _ rfl;rwa [show((0:Int).toNat*(Kd.int .i64).sz+0)=0 from rfl] at hq
  have KC:=Aside0.mk kc
  clear hc0 kc hfa en hk hm hc
  go_upto_region 7 with (fail)
  obtain ⟨Ar,cr,er⟩:=Kd.R_slice HRa.out.r0
  subst er
  have hr1:=HRa.out.on (below_drew (Below.refl _ _))
  have hs1:=HSa.out.trans (Step.of_below (below_drew (Below.refl _ _)))
  have HR1:=Aside0.mk hr1
  have HS1:=Aside0.mk hs1
  have hw:IntKind.i64.wrap ((d.b0.length:Int) - d.s0)=(d.b0.length:Int) - d.s0:=by have:=HG.out.len0;have:=HG.out.a0;have:=HG.out.a1;rw [i64_w];unfold wrap64;omega
  have HW:=Aside0.mk hw
  clear hw
  have kc:=KC.out
  rw [show ad.add 0=ad by first|rfl|(cases ad;rfl)|(cases ad;simp [Addr.add])] at kc
  have c0:=HRa.out.c0
  have c1:=HRa.out.c1
  clear hr1 hs1 HRa HSa KC
  go_still_tail 16,(by kernel_rfl)
  change wpList _ _ _ _ _ W.drew
  clear c0 c1 kc
  go_wp2
  go_meet
  exact ⟨by rw [EN.out,HW.out];rfl,HR1,HS1⟩
 case rest =>
 obtain ⟨e6,HRc,HSc⟩:=hcut
 subst e6
 clear HRa HSa
 obtain ⟨nk,hnk⟩:∃ nk,nk=Dk.some_ d.b0 d.s0 keep 0:=⟨_,rfl⟩
 rw [<-hnk]
 have cin:=Dk.cut_in (keep:=keep) (i:=0) HG.out.a0 HG.out.a1
 have clen:=Dk.cut_len (keep:=keep) (i:=0) HG.out.a0 HG.out.a1
 rw [show Dk.cutN d.b0 d.s0 keep 0=d.s0+nk by rw [hnk];rfl] at cin clen
 have NK:=Aside0.mk hnk
 have CIN:=Aside0.mk cin
 have CLEN:=Aside0.mk clen
 clear hnk cin clen
 go_upto_region 8 with (fail)
 obtain ⟨Ar,cr,er⟩:=Kd.R_slice HRc.out.r0
 subst er
 have lcr:=(Kd.R_reads' HRc.out.r0).2.1
 have hw:IntKind.i64.wrap (d.s0+nk)=d.s0+nk:=by have:=CIN.out;have:=HG.out.len0;have:=HG.out.a0;rw [i64_w];unfold wrap64;omega
 obtain ⟨N,hN⟩:∃ N:Nat,d.s0+nk=(N:Int):=⟨(d.s0+nk).toNat,by have:=CIN.out;have:=HG.out.a0;omega⟩
 have hNl:N<=d.b0.length:=by have:=CIN.out;omega
 have HN:=Aside0.mk hN
 have HW:=Aside0.mk hw
 have LCR:=Aside0.mk lcr
 have HNL:=Aside0.mk hNl
 clear hw lcr hN hNl
 obtain ⟨w3,hw3⟩:∃ w3,w3=wc:=⟨_,rfl⟩
 rw [<-hw3] at HRc HSc ⊢
 clear hw3
 refine region_cards (F:=?F80) 13 (λw'=>Aside0 (Below w3.heap.size w3 w'))
  [λv _ _ _=>v = .pointer (some ⟨g,0,none⟩),
  λv _ _ _=>v = .pointer (some ⟨g,0,none⟩),
  λv _ _ _=>v = .pointer (some ⟨g,0,none⟩),
  λv _ _ _=>v = .pointer (some ⟨g,0,none⟩),
  λv _ _ _=>v = .slice Ar d.b0.length cr,
  λv _ _ _=>v = .pointer (some ⟨g,0,none⟩),
  λv _ _ _=>v = .pointer (some ⟨g,0,none⟩),
  λv _ _ _=>v = .pointer (some ⟨g,1,none⟩),
  λv _ _ _=>v = .int .i64 d.s0,
  λv _ _ _=>v = .int .i64 nk,
  λv _ _ _=>v = .int .i64 (N:Int),
  λv _ _ _=>v = .slice Ar N cr,
  λv w' _ _=>U8.R 5 w' w3.heap.size (λ_=>True) v (d.b0.take N)]
  (by kernel_rfl) (by kernel_rfl) ?hF80 ?hS080 ?hS80 ?hstay80 ?hsteps80 ?hend80
 case hF80 =>
  intro vs
  simp only [List.take_succ_cons,List.take_zero,fill,if_true,if_false,Act.put,List.setIfInBounds_toArray,List.set_cons_zero,List.set_cons_succ,Nat.reduceAdd,List.contains_cons,List.contains_nil,Nat.reduceBEq,Bool.or_false,Bool.false_or,Bool.not_true,Bool.not_false,Bool.false_eq_true,Bool.or_self,Bool.true_or]
  rfl
 case hS080=>exact ⟨below_drew (Below.refl _ _)⟩
 case hS80=>exact λw1 w2 hb hs=>⟨below_step hs.out hb⟩
 case hstay80=>exact ⟨λ_ _ _ _ _ _ h=>h,λ_ _ _ _ _ _ h=>h,λ_ _ _ _ _ _ h=>h,λ_ _ _ _ _ _ h=>h,λ_ _ _ _ _ _ h=>h,λ_ _ _ _ _ _ h=>h,λ_ _ _ _ _ _ h=>h,λ_ _ _ _ _ _ h=>h,λ_ _ _ _ _ _ h=>h,λ_ _ _ _ _ _ h=>h,λ_ _ _ _ _ _ h=>h,λ_ _ _ _ _ _ h=>h,λ_ _ _ _ _ hb h=>Kd.R_below h hb,trivial⟩
 case hsteps80 =>
  refine ⟨?s80_0,?s80_1,?s80_2,?s80_3,?s80_4,?s80_5,?s80_6,?s80_7,?s80_8,?s80_9,?s80_10,?s80_11,?s80_12,trivial⟩
  case s80_0 =>
   intro _ vs lo hi W hs hp
   exact does_val (by first|(go_simp;done)|(go_simp;rfl)) ⟨rfl,Below.refl _ _⟩
  case s80_1 =>
   intro _ vs lo hi W hs hp
   exact does_val (by first|(go_simp;done)|(go_simp;rfl)) ⟨rfl,Below.refl _ _⟩
  case s80_2 =>
   intro _ vs lo hi W hs hp
   have e1:vs 1 = .pointer (some ⟨g,0,none⟩):=hp 1 (by kernel_rfl) rfl
   exact does_val (by first|(go_simp;done)|(go_simp;rfl)) ⟨rfl,Below.refl _ _⟩
  case s80_3 =>
   intro _ vs lo hi W hs hp
   have e2:vs 2 = .pointer (some ⟨g,0,none⟩):=hp 2 (by kernel_rfl) rfl
   exact does_val (by first|(go_simp;done)|(go_simp;rfl)) ⟨rfl,Below.refl _ _⟩
  case s80_4 =>
   intro _ vs lo hi W hs hp
   have e3:vs 3 = .pointer (some ⟨g,0,none⟩):=hp 3 (by kernel_rfl) rfl
   have hc:W.cell? ⟨g,0,none⟩=some (.slice Ar d.b0.length cr):=(HRc.out.on hs.out).c0
   exact does_val (by first|(go_simp;done)|(go_simp;rfl)) ⟨rfl,Below.refl _ _⟩
  case s80_5 =>
   intro _ vs lo hi W hs hp
   exact does_val (by first|(go_simp;done)|(go_simp;rfl)) ⟨rfl,Below.refl _ _⟩
  case s80_6 =>
   intro _ vs lo hi W hs hp
   have e5:vs 5 = .pointer (some ⟨g,0,none⟩):=hp 5 (by kernel_rfl) rfl
   exact does_val (by first|(go_simp;done)|(go_simp;rfl)) ⟨rfl,Below.refl _ _⟩
  case s80_7 =>
   intro _ vs lo hi W hs hp
   have e6:vs 6 = .pointer (some ⟨g,0,none⟩):=hp 6 (by kernel_rfl) rfl
   exact does_val (by first|(go_simp;done)|(go_simp;rfl)) ⟨rfl,Below.refl _ _⟩
  case s80_8 =>
   intro _ vs lo hi W hs hp
   have e7:vs 7 = .pointer (some ⟨g,1,none⟩):=hp 7 (by kernel_rfl) rfl
   have hc:W.cell? ⟨g,1,none⟩=some (.int .i64 d.s0):=(HRc.out.on hs.out).c1
   exact does_val (by first|(go_simp;done)|(go_simp;rfl)) ⟨rfl,Below.refl _ _⟩
  case s80_9 =>
   intro _ vs lo hi W hs hp
   exact does_val (by first|(go_simp;done)|(go_simp;rfl)) ⟨rfl,Below.refl _ _⟩
  case s80_10 =>
   intro _ vs lo hi W hs hp
   have e8:vs 8 = .int .i64 d.s0:=hp 8 (by kernel_rfl) rfl
   have e9:vs 9 = .int .i64 nk:=hp 9 (by kernel_rfl) rfl
   have hw_:IntKind.i64.wrap (d.s0+nk)=(N:Int):=HW.out.trans HN.out
   exact does_val (by first|(go_simp;done)|(go_simp;rfl)) ⟨rfl,Below.refl _ _⟩
  case s80_11 =>
   intro _ vs lo hi W hs hp
   have e4:vs 4 = .slice Ar d.b0.length cr:=hp 4 (by kernel_rfl) rfl
   have e10:vs 10 = .int .i64 (N:Int):=hp 10 (by kernel_rfl) rfl
   have q1:(N<=cr)=True:=eq_true (Nat.le_trans HNL.out LCR.out)
   exact does_val (by first|(go_simp;done)|(go_simp;rfl)) ⟨rfl,Below.refl _ _⟩
  case s80_12 =>
   intro _ vs lo hi W hs hp
   have e11:vs 11 = .slice Ar N cr:=hp 11 (by kernel_rfl) rfl
   refine does_call Try.func33 (by kernel_rfl) rfl #[.slice Ar N cr] rfl rfl (by rw [<-e11];simp only [List.map_toArray,List.map_cons,List.map_nil];rfl) ?_
   have rt:=Kd.R_reads' (Kd.R_take (HRc.out.on hs.out).r0 HNL.out)
   have lt:(d.b0.take N).length=N:=rt.1.symm
   have hcl:=slices_Clone_byte_byte.calls Ar cr (d.b0.take N) (d.b0.take N) W rt.2.2 (by rw [lt];exact rt.2.1) (by show(if 0+(d.b0.take N).length<140737488355328 then some ([]++d.b0.take N) else none)=_;rw [if_pos (by have:=HG.out.len0;have:=HNL.out;omega)];rfl)
   rw [lt] at hcl
   refine hcl.mono ?_
   rintro e w' ⟨v,rfl,hv,hb⟩
   exact ⟨_,rfl,Kd.R_lower hv (below_size hs.out),hb⟩
 case hend80 =>
 intro vs lo_ hi_ Wc hs hp _
 simp only [List.drop_succ_cons,List.drop_zero]
 have e0:vs 0 = .pointer (some ⟨g,0,none⟩):=hp 0 (by decide)
 have e12:U8.R 5 Wc w3.heap.size (λ_=>True) (vs 12) (d.b0.take N):=hp 12 (by decide)
 obtain ⟨bb,hbb⟩:∃ bb,bb=d.b0.take N:=⟨_,rfl⟩
 rw [<-hbb] at e12
 have BB:=Aside0.mk hbb
 obtain ⟨An,cn,en⟩:=Kd.R_slice e12
 rw [en] at e12
 rw [e0,en]
 have hrw:=HRc.out.on hs.out
 have c0:=hrw.c0
 have f0:=hrw.fz 0
 have q1:=HRc.out.row0 (W1:=Wc) (v:=.slice An bb.length cn) (b:=bb) (Kd.R_lower (Kd.R_mono (Kd.R_bound e12) (λk hk=>HRc.out.fresh0 k hk.2.1)) (below_size HRc.out.below)) (below_step HRc.out.below hs.out) ⟨hs.out.os,hs.out.tape,hs.out.output,hs.out.size,λk hk _=>hs.out.block k hk⟩
 have HRd:=Aside0.mk q1.1
 have HSd:=Aside0.mk (HSc.out.trans q1.2)
 clear e0 e12 en hrw q1 HRc HSc hs hp hbb
 go_upto_region 9 with (fail)
 clear c0 f0
 generalize Wc.setCell ⟨g,0,none⟩ (.slice An bb.length cn)=w5 at HRd HSd ⊢
 have c0:=HRd.out.c0
 have c1:=HRd.out.c1
 have f1:=HRd.out.fz 1
 have q1:=HRd.out.safe0 (bb.length:Int)
 have HRe:=Aside0.mk q1.1
 have HSe:=Aside0.mk (HSd.out.trans q1.2)
 clear q1 HRd HSd
 go_wp2
 clear c0 c1 f1
 have hcn:Dk.cutN d.b0 d.s0 keep 0=(N:Int):=by rw [<-HN.out,NK.out];rfl
 have ed:=Dk.cut0_of hcn HNL.out BB.out
 have hre:=HRe.out
 have hse:=HSe.out
 rw [ed] at hre
 clear HRe HSe ed hcn
 obtain ⟨d1,hd1⟩:∃ d1,d1=d.cut0 keep:=⟨_,rfl⟩
 rw [<-hd1] at hre
 have HD1:=Aside0.mk hd1
 clear hd1
 obtain ⟨D1,hD1⟩:∃ D1,D1=more D w3 Wc:=⟨_,rfl⟩
 rw [<-hD1] at hre hse
 clear hD1
 obtain ⟨va,hva⟩:∃ va,va=Value.slice An bb.length cn:=⟨_,rfl⟩
 rw [<-hva] at hre
 clear hva
 have HRa:=Aside0.mk hre
 have HSa:=Aside0.mk hse
 clear hre hse NK CIN CLEN HN HW LCR HNL BB
 generalize w5.setCell ⟨g,1,none⟩ (.int .i64 (bb.length:Int))=w9 at HRa HSa ⊢
 have HG1:=Aside0.mk (show d1.Good by rw [HD1.out];exact HG.out.cut0 keep)
 rw [rounds_succ]
 go_upto_if 20 with (fail)
 go_cut [6] (λv6 wx=>v6 = .int .i64 (Dk.some_ d1.b1 d1.s1 keep 1)/\Aside0 (Raw w0 wx g va v1 D1 d1)/\Aside0 (Step W wx D D1))
 case first =>
  have hfa:=HSa.out.foot HA.out
  generalize hc:decide (1<(m:Int))=cb
  cases cb with
  | false =>
   have hk:¬ 1<keep.length:=by have:=of_decide_eq_false hc;have:=HM.out;omega
   have en:Dk.some_ d1.b1 d1.s1 keep 1=0:=by unfold Dk.some_;rw [if_neg hk]
   have EN:=Aside0.mk en
   clear hk hc en hfa
   go_wp2
   go_meet
   exact ⟨by rw [EN.out],HRa,HSa⟩
  | true =>
  have hm:=of_decide_eq_true hc
  have hk:1<keep.length:=by have:=HM.out;omega
  have en:Dk.some_ d1.b1 d1.s1 keep 1=lo (hi (keep.getD 1 0) 0) ((d1.b1.length:Int) - d1.s1):=by unfold Dk.some_;rw [if_pos hk]
  have k4:(1<m)=True:=eq_true (by omega)
  have k5:((1:Int)<(m:Int))=True:=eq_true (by omega)
  have EN:=Aside0.mk en
  obtain ⟨ad,cs,ea,_,hK,hc0⟩:=Kd.C_get (Kd.F_now hfa) 0 (1:Int) (by omega) (by omega)
  subst ea
  obtain rfl:=hK
  have kc:w9.cell? (ad.add 1)=some (.int .i64 (keep.getD 1 0)):=by have hq:=hc0 0 _ rfl;rwa [show((1:Int).toNat*(Kd.int .i64).sz+0)=1 from rfl] at hq
  have KC:=Aside0.mk kc
  clear hc0 kc hfa en hk hm hc
  go_upto_region 7 with (fail)
  obtain ⟨Ar,cr,er⟩:=Kd.R_slice HRa.out.r1
  subst er
  have hr1:=HRa.out.on (below_drew (Below.refl _ _))
  have hs1:=HSa.out.trans (Step.of_below (below_drew (Below.refl _ _)))
  have HR1:=Aside0.mk hr1
  have HS1:=Aside0.mk hs1
  have hw:IntKind.i64.wrap ((d1.b1.length:Int) - d1.s1)=(d1.b1.length:Int) - d1.s1:=by have:=HG1.out.len1;have:=HG1.out.c0;have:=HG1.out.c1;rw [i64_w];unfold wrap64;omega
  have HW:=Aside0.mk hw
  clear hw
  have kc:=KC.out
  replace kc:w9.cell? ⟨ad.block,ad.off+1,none⟩=some (.int .i64 (keep.getD 1 0)):=kc
  have c0:=HRa.out.c2
  have c1:=HRa.out.c3
  clear hr1 hs1 HRa HSa KC
  go_still_tail 16,(by kernel_rfl)
  change wpList _ _ _ _ _ w9.drew
  clear c0 c1 kc
  go_wp2
  go_meet
  exact ⟨by rw [EN.out,HW.out];rfl,HR1,HS1⟩
 case rest =>
 obtain ⟨e6,HRc,HSc⟩:=hcut
 subst e6
 clear HRa HSa
 obtain ⟨nk,hnk⟩:∃ nk,nk=Dk.some_ d1.b1 d1.s1 keep 1:=⟨_,rfl⟩
 rw [<-hnk]
 have cin:=Dk.cut_in (keep:=keep) (i:=1) HG1.out.c0 HG1.out.c1
 have clen:=Dk.cut_len (keep:=keep) (i:=1) HG1.out.c0 HG1.out.c1
 rw [show Dk.cutN d1.b1 d1.s1 keep 1=d1.s1+nk by rw [hnk];rfl] at cin clen
 have NK:=Aside0.mk hnk
 have CIN:=Aside0.mk cin
 have CLEN:=Aside0.mk clen
 clear hnk cin clen
 go_upto_region 8 with (fail)
 obtain ⟨Ar,cr,er⟩:=Kd.R_slice HRc.out.r1
 subst er
 have lcr:=(Kd.R_reads' HRc.out.r1).2.1
 have hw:IntKind.i64.wrap (d1.s1+nk)=d1.s1+nk:=by have:=CIN.out;have:=HG1.out.len1;have:=HG1.out.c0;rw [i64_w];unfold wrap64;omega
 obtain ⟨N,hN⟩:∃ N:Nat,d1.s1+nk=(N:Int):=⟨(d1.s1+nk).toNat,by have:=CIN.out;have:=HG1.out.c0;omega⟩
 have hNl:N<=d1.b1.length:=by have:=CIN.out;omega
 have HN:=Aside0.mk hN
 have HW:=Aside0.mk hw
 have LCR:=Aside0.mk lcr
 have HNL:=Aside0.mk hNl
 clear hw lcr hN hNl
 obtain ⟨w3,hw3⟩:∃ w3,w3=wc:=⟨_,rfl⟩
 rw [<-hw3] at HRc HSc ⊢
 clear hw3
 refine region_cards (F:=?F81) 13 (λw'=>Aside0 (Below w3.heap.size w3 w'))
  [λv _ _ _=>v = .pointer (some ⟨g,2,none⟩),
  λv _ _ _=>v = .pointer (some ⟨g,2,none⟩),
  λv _ _ _=>v = .pointer (some ⟨g,2,none⟩),
  λv _ _ _=>v = .pointer (some ⟨g,2,none⟩),
  λv _ _ _=>v = .slice Ar d1.b1.length cr,
  λv _ _ _=>v = .pointer (some ⟨g,2,none⟩),
  λv _ _ _=>v = .pointer (some ⟨g,2,none⟩),
  λv _ _ _=>v = .pointer (some ⟨g,3,none⟩),
  λv _ _ _=>v = .int .i64 d1.s1,
  λv _ _ _=>v = .int .i64 nk,
  λv _ _ _=>v = .int .i64 (N:Int),
  λv _ _ _=>v = .slice Ar N cr,
  λv w' _ _=>U8.R 5 w' w3.heap.size (λ_=>True) v (d1.b1.take N)]
  (by kernel_rfl) (by kernel_rfl) ?hF81 ?hS081 ?hS81 ?hstay81 ?hsteps81 ?hend81
 case hF81 =>
  intro vs
  simp only [List.take_succ_cons,List.take_zero,fill,if_true,if_false,Act.put,List.setIfInBounds_toArray,List.set_cons_zero,List.set_cons_succ,Nat.reduceAdd,List.contains_cons,List.contains_nil,Nat.reduceBEq,Bool.or_false,Bool.false_or,Bool.not_true,Bool.not_false,Bool.false_eq_true,Bool.or_self,Bool.true_or]
  rfl
 case hS081=>exact ⟨below_drew (Below.refl _ _)⟩
 case hS81=>exact λw1 w2 hb hs=>⟨below_step hs.out hb⟩
 case hstay81=>exact ⟨λ_ _ _ _ _ _ h=>h,λ_ _ _ _ _ _ h=>h,λ_ _ _ _ _ _ h=>h,λ_ _ _ _ _ _ h=>h,λ_ _ _ _ _ _ h=>h,λ_ _ _ _ _ _ h=>h,λ_ _ _ _ _ _ h=>h,λ_ _ _ _ _ _ h=>h,λ_ _ _ _ _ _ h=>h,λ_ _ _ _ _ _ h=>h,λ_ _ _ _ _ _ h=>h,λ_ _ _ _ _ _ h=>h,λ_ _ _ _ _ hb h=>Kd.R_below h hb,trivial⟩
 case hsteps81 =>
  refine ⟨?s81_0,?s81_1,?s81_2,?s81_3,?s81_4,?s81_5,?s81_6,?s81_7,?s81_8,?s81_9,?s81_10,?s81_11,?s81_12,trivial⟩
  case s81_0 =>
   intro _ vs lo hi W hs hp
   exact does_val (by first|(go_simp;done)|(go_simp;rfl)) ⟨rfl,Below.refl _ _⟩
  case s81_1 =>
   intro _ vs lo hi W hs hp
   exact does_val (by first|(go_simp;done)|(go_simp;rfl)) ⟨rfl,Below.refl _ _⟩
  case s81_2 =>
   intro _ vs lo hi W hs hp
   have e1:vs 1 = .pointer (some ⟨g,2,none⟩):=hp 1 (by kernel_rfl) rfl
   exact does_val (by first|(go_simp;done)|(go_simp;rfl)) ⟨rfl,Below.refl _ _⟩
  case s81_3 =>
   intro _ vs lo hi W hs hp
   have e2:vs 2 = .pointer (some ⟨g,2,none⟩):=hp 2 (by kernel_rfl) rfl
   exact does_val (by first|(go_simp;done)|(go_simp;rfl)) ⟨rfl,Below.refl _ _⟩
  case s81_4 =>
   intro _ vs lo hi W hs hp
   have e3:vs 3 = .pointer (some ⟨g,2,none⟩):=hp 3 (by kernel_rfl) rfl
   have hc:W.cell? ⟨g,2,none⟩=some (.slice Ar d1.b1.length cr):=(HRc.out.on hs.out).c2
   exact does_val (by first|(go_simp;done)|(go_simp;rfl)) ⟨rfl,Below.refl _ _⟩
  case s81_5 =>
   intro _ vs lo hi W hs hp
   exact does_val (by first|(go_simp;done)|(go_simp;rfl)) ⟨rfl,Below.refl _ _⟩
  case s81_6 =>
   intro _ vs lo hi W hs hp
   have e5:vs 5 = .pointer (some ⟨g,2,none⟩):=hp 5 (by kernel_rfl) rfl
   exact does_val (by first|(go_simp;done)|(go_simp;rfl)) ⟨rfl,Below.refl _ _⟩
  case s81_7 =>
   intro _ vs lo hi W hs hp
   have e6:vs 6 = .pointer (some ⟨g,2,none⟩):=hp 6 (by kernel_rfl) rfl
   exact does_val (by first|(go_simp;done)|(go_simp;rfl)) ⟨rfl,Below.refl _ _⟩
  case s81_8 =>
   intro _ vs lo hi W hs hp
   have e7:vs 7 = .pointer (some ⟨g,3,none⟩):=hp 7 (by kernel_rfl) rfl
   have hc:W.cell? ⟨g,3,none⟩=some (.int .i64 d1.s1):=(HRc.out.on hs.out).c3
   exact does_val (by first|(go_simp;done)|(go_simp;rfl)) ⟨rfl,Below.refl _ _⟩
  case s81_9 =>
   intro _ vs lo hi W hs hp
   exact does_val (by first|(go_simp;done)|(go_simp;rfl)) ⟨rfl,Below.refl _ _⟩
  case s81_10 =>
   intro _ vs lo hi W hs hp
   have e8:vs 8 = .int .i64 d1.s1:=hp 8 (by kernel_rfl) rfl
   have e9:vs 9 = .int .i64 nk:=hp 9 (by kernel_rfl) rfl
   have hw_:IntKind.i64.wrap (d1.s1+nk)=(N:Int):=HW.out.trans HN.out
   exact does_val (by first|(go_simp;done)|(go_simp;rfl)) ⟨rfl,Below.refl _ _⟩
  case s81_11 =>
   intro _ vs lo hi W hs hp
   have e4:vs 4 = .slice Ar d1.b1.length cr:=hp 4 (by kernel_rfl) rfl
   have e10:vs 10 = .int .i64 (N:Int):=hp 10 (by kernel_rfl) rfl
   have q1:(N<=cr)=True:=eq_true (Nat.le_trans HNL.out LCR.out)
   exact does_val (by first|(go_simp;done)|(go_simp;rfl)) ⟨rfl,Below.refl _ _⟩
  case s81_12 =>
   intro _ vs lo hi W hs hp
   have e11:vs 11 = .slice Ar N cr:=hp 11 (by kernel_rfl) rfl
   refine does_call Try.func33 (by kernel_rfl) rfl #[.slice Ar N cr] rfl rfl (by rw [<-e11];simp only [List.map_toArray,List.map_cons,List.map_nil];rfl) ?_
   have rt:=Kd.R_reads' (Kd.R_take (HRc.out.on hs.out).r1 HNL.out)
   have lt:(d1.b1.take N).length=N:=rt.1.symm
   have hcl:=slices_Clone_byte_byte.calls Ar cr (d1.b1.take N) (d1.b1.take N) W rt.2.2 (by rw [lt];exact rt.2.1) (by show(if 0+(d1.b1.take N).length<140737488355328 then some ([]++d1.b1.take N) else none)=_;rw [if_pos (by have:=HG1.out.len1;have:=HNL.out;omega)];rfl)
   rw [lt] at hcl
   refine hcl.mono ?_
   rintro e w' ⟨v,rfl,hv,hb⟩
   exact ⟨_,rfl,Kd.R_lower hv (below_size hs.out),hb⟩
 case hend81 =>
 intro vs lo_ hi_ Wc hs hp _
 simp only [List.drop_succ_cons,List.drop_zero]
 have e0:vs 0 = .pointer (some ⟨g,2,none⟩):=hp 0 (by decide)
 have e12:U8.R 5 Wc w3.heap.size (λ_=>True) (vs 12) (d1.b1.take N):=hp 12 (by decide)
 obtain ⟨bb,hbb⟩:∃ bb,bb=d1.b1.take N:=⟨_,rfl⟩
 rw [<-hbb] at e12
 have BB:=Aside0.mk hbb
 obtain ⟨An,cn,en⟩:=Kd.R_slice e12
 rw [en] at e12
 rw [e0,en]
 have hrw:=HRc.out.on hs.out
 have c0:=hrw.c2
 have f0:=hrw.fz 2
 have q1:=HRc.out.row1 (W1:=Wc) (v:=.slice An bb.length cn) (b:=bb) (Kd.R_lower (Kd.R_mono (Kd.R_bound e12) (λk hk=>HRc.out.fresh1 k hk.2.1)) (below_size HRc.out.below)) (below_step HRc.out.below hs.out) ⟨hs.out.os,hs.out.tape,hs.out.output,hs.out.size,λk hk _=>hs.out.block k hk⟩
 have HRd:=Aside0.mk q1.1
 have HSd:=Aside0.mk (HSc.out.trans q1.2)
 clear e0 e12 en hrw q1 HRc HSc hs hp hbb
 go_upto_region 9 with (fail)
 clear c0 f0
 generalize Wc.setCell ⟨g,2,none⟩ (.slice An bb.length cn)=w5 at HRd HSd ⊢
 have c0:=HRd.out.c2
 have c1:=HRd.out.c3
 have f1:=HRd.out.fz 3
 have q1:=HRd.out.safe1 (bb.length:Int)
 have HRe:=Aside0.mk q1.1
 have HSe:=Aside0.mk (HSd.out.trans q1.2)
 clear q1 HRd HSd
 go_wp2
 clear c0 c1 f1
 have hcn:Dk.cutN d1.b1 d1.s1 keep 1=(N:Int):=by rw [<-HN.out,NK.out];rfl
 have ed:=Dk.cut1_of hcn HNL.out BB.out
 have hre:=HRe.out
 have hse:=HSe.out
 rw [ed] at hre
 clear HRe HSe ed hcn
 obtain ⟨d2,hd1⟩:∃ d2,d2=d1.cut1 keep:=⟨_,rfl⟩
 rw [<-hd1] at hre
 have HD2:=Aside0.mk hd1
 clear hd1
 obtain ⟨D2,hD1⟩:∃ D2,D2=more D1 w3 Wc:=⟨_,rfl⟩
 rw [<-hD1] at hre hse
 clear hD1
 obtain ⟨vb,hva⟩:∃ vb,vb=Value.slice An bb.length cn:=⟨_,rfl⟩
 rw [<-hva] at hre
 clear hva
 have HRa:=Aside0.mk hre
 have HSa:=Aside0.mk hse
 clear hre hse NK CIN CLEN HN HW LCR HNL BB
 generalize w5.setCell ⟨g,3,none⟩ (.int .i64 (bb.length:Int))=w10 at HRa HSa ⊢
 rw [rounds_succ]
 have f5:=HRa.out.fz 5
 have f6:=HRa.out.fz 6
 have c5:=HRa.out.c5
 have c6:=HRa.out.c6
 have q1:=HRa.out.live
 have q2:=q1.1.stop (-1)
 have Q1:=Aside0.mk q1
 have Q2:=Aside0.mk q2
 clear q1 q2
 go_wp2
 refine bodyPost_end (results_none rfl _ _ _) rfl ?_
 have ec:d.crash keep={ { d2 with dead:=false } with stop:=-1 }:=by rw [Dk.crash_cut,HD2.out,HD1.out]
 exact ⟨rfl,_,by rw [ec];exact ⟨_,_,Q2.out.1⟩,(HSa.out.trans Q1.out.2).trans Q2.out.2⟩
end
end Go.Proofs.Ytpahdlgpiecdkaa.Dsk
