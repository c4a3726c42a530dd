/- a part -/
import Derived.Test.YtjpjdipdhakjnaaSafeHere
import Derived.Lib.QuietBelow
import Derived.Test.YtjpjdipdhakjnaaStableRef
namespace Go.Proofs.Ytjpjdipdhakjnaa.PStab
open Go.RowKit Go.Proofs.YtjpjdipdhakjnaaW.PrintWords Go.Proofs.YtjpjdipdhakjnaaW.PrintLast Go.Proofs.YtjpjdipdhakjnaaW.PrintMore Go.Proofs.Ytjpjdipdhakjnaa.ClockBase Go.Proofs.Ytjpjdipdhakjnaa.Hand Go.Proofs.Ytjpjdipdhakjnaa.Cards
set_option linter.unusedVariables false
set_option linter.unusedSimpArgs false
theorem info62:(Try.prog.info? 62).map (λi=>(i.zero,i.size,i.bytes))=some (some (.agg #[(.int .i64 0),(.int .i64 0),(.slice none 0 0),(.slice none 0 0)]),4,64):=by kernel_rfl
set_option maxHeartbeats 40000000 in
set_option maxRecDepth 100000 in
theorem safe_calls (A0:Option Addr) (c0:Nat) (l0:List (Int×Int×Int×Bool)) (w:World) (hr0:Kd.C kT w A0 l0.length l0) (hc0:l0.length<=c0) :
  Calls Try.prog 8 #[.slice A0 l0.length c0] w λe w'=>e = .returned (.bool true)/\Below w.heap.size w w':=by
 obtain ⟨kaw,haw⟩:=Ev.rounds awake_ev
 have hmax:l0.length<=9223372036854775807:=Kd.C_max hr0
 have HR:=Aside0.mk hr0
 have HAW:=Aside0.mk haw
 clear hr0 haw
 go_enter Try.func8,Try.ntmps8
 by_cases h40:(l0.length:Int) > 40
 ·have h1:decide ((l0.length:Int) > 40)=true:=decide_eq_true h40
  clear h40
  go_wp2_with (first|(go_at_call 34;refine(w29_awake.calls kaw true _ HAW.out).mono ?_;rintro e w1 ⟨rfl,hb⟩;have HB:=Aside0.mk hb;clear hb))
  go_ret
  exact ⟨rfl,HB.out⟩
 have h1:decide ((l0.length:Int) > 40)=false:=decide_eq_false h40
 have H40:=Aside0.mk h40
 clear h40
 go_upto_region 5 with (fail)
 have hw0:Below w.heap.size w ((w.alloc (.cells #[Value.slice none 0 0,Value.slice none 0 0,Value.slice none 0 0,Value.slice none 0 0] 54)).alloc (.cells #[Value.slice none 0 0,Value.slice none 0 0,Value.slice none 0 0,Value.slice none 0 0] 54)):=below_alloc (below_alloc (Below.refl _ _) _) _
 have hsz:((w.alloc (.cells #[Value.slice none 0 0,Value.slice none 0 0,Value.slice none 0 0,Value.slice none 0 0] 54)).alloc (.cells #[Value.slice none 0 0,Value.slice none 0 0,Value.slice none 0 0,Value.slice none 0 0] 54)).heap.size=w.heap.size+2:=by simp
 have HW0:=Aside0.mk hw0
 have HSZ:=Aside0.mk hsz
 clear hw0 hsz
 go_wp2_with (first|((with_reducible refine gate_dst (N:=24) rfl ?_);refine Kd.N_lit kE w.heap.size 62 ?hg (N':=24) ?hd (xs:=([]:List (Int×Int×List Int))) (inner:=[]) (ok:=λk=>k≠w.heap.size/\k≠w.heap.size+1) (okp:=λk=>k≠w.heap.size/\k≠w.heap.size+1) ?hr ?hp (λ_ hk=>hk) ⟨by rw [HSZ.out];omega,by rw [HSZ.out];omega⟩ HW0.out (below_size HW0.out) (by simp) ?_;(case hd=>rfl);(case hg=>rfl);(case hr=>first|(go_simp;done)|(go_simp;rfl));(case hp=>exact(Reps.none _ _));intro v5 w3 hN hb hg_ hnew_;have HN:=Aside0.mk hN;have HG:=Aside0.mk (show Below ((w.alloc (.cells #[Value.slice none 0 0,Value.slice none 0 0,Value.slice none 0 0,Value.slice none 0 0] 54)).alloc (.cells #[Value.slice none 0 0,Value.slice none 0 0,Value.slice none 0 0,Value.slice none 0 0] 54)).heap.size ((w.alloc (.cells #[Value.slice none 0 0,Value.slice none 0 0,Value.slice none 0 0,Value.slice none 0 0] 54)).alloc (.cells #[Value.slice none 0 0,Value.slice none 0 0,Value.slice none 0 0,Value.slice none 0 0] 54)) w3 from ⟨hg_.os,hg_.tape,hg_.output,hg_.size,λi hi=>hg_.block i hi (by simp)⟩);clear hN hb hg_ hnew_)|(go_at_call 35;refine(stable_New.calls 3 [[],[],[]] 0 _ (by kernel_rfl)).mono ?_;rintro e w4 ⟨v6,rfl,hS,hb⟩;have HH:=Aside0.mk (here_start HG.out HN.out hb hS);obtain ⟨A6,c6,e6⟩:=Kd.S_slice hS;change v6 = .slice A6 3 c6 at e6;subst e6;clear hS hb HG HN))
 clear HW0 HSZ
 go_loopg [5,6,8] l0.length (λkq v5 v6 v8 wr=>∃ (i:Nat) (K A L:List (List Int)) (M:List (Int×Int×List Int)),v8 = .int .i64 (i:Int)/\i+kq=l0.length/\M.length<=i/\Aside0 (SafeS i K A L M)/\Aside0 (Here w wr w.heap.size (w.heap.size+1) v5 v6 K A L M))
 case atStart=>exact ⟨0,zs,zs,[[],[],[]],[],rfl,by omega,Nat.le_refl _,⟨safe_start⟩,HH⟩
 case round =>
  clear HH
  obtain ⟨i,K,A,L,M,rfl,hik,hml,HS,HH⟩:=hrel
  by_cases hi:i<l0.length
  case neg =>
   have ci:decide ((i:Int)<(l0.length:Int))=false:=decide_eq_false (by omega)
   have hb0:=HH.out.below
   have HB0:=Aside0.mk hb0
   clear hb0
   go_wp2_with (first|(go_at_call 34;refine(w29_awake.calls kaw true _ HAW.out).mono ?_;rintro e w1 ⟨rfl,hb⟩;have HB:=Aside0.mk (below_step HB0.out hb);clear hb))
   go_ret
   exact ⟨rfl,HB.out⟩
  have ci:decide ((i:Int)<(l0.length:Int))=true:=decide_eq_true (by omega)
  obtain ⟨ad,e_,f0,f1,f2,f3⟩:=at_T (Kd.C_below HR.out HH.out.below) i hi
  subst e_
  generalize l0.getD i (0,0,0,false)=st at f0 f1 f2 f3
  obtain ⟨kd,rp,fr,nw⟩:=st
  dsimp only at f0 f1 f2 f3
  have c01:(0<=(i:Int))=True:=eq_true (by omega)
  have ci2:((i:Int)<(l0.length:Int))=True:=eq_true (by omega)
  go_upto_region 13 with (fail)
  have hx:=heap_alloc_new wr (.cells #[.int .i64 kd,.int .i64 rp,.int .i64 fr,.bool nw] 57)
  have hb:=below_alloc (Below.refl wr.heap.size wr) (.cells #[.int .i64 kd,.int .i64 rp,.int .i64 fr,.bool nw] 57)
  have hh:=HH.out.on hb
  have hal:=HH.out.asked.lt
  have HX:=Aside0.mk hx
  have HH2:=Aside0.mk hh
  clear hx hb hh HH f0 f1 f2 f3
  obtain ⟨bs,hbs⟩:∃ bs,bs=wr.heap.size:=⟨_,rfl⟩
  have hbs2:w.heap.size+1<bs:=by rw [hbs];exact hal
  generalize wr.alloc (.cells #[.int .i64 kd,.int .i64 rp,.int .i64 fr,.bool nw] 57)=w2 at HX HH2 ⊢
  rw [<-hbs] at HX ⊢
  clear hbs hal
  have x0:=(blk_cell HX.out 0).trans (rfl:_=some (Value.int .i64 kd));have x1:=(blk_cell HX.out 1).trans (rfl:_=some (Value.int .i64 rp));have x2:=(blk_cell HX.out 2).trans (rfl:_=some (Value.int .i64 fr));have x3:=(blk_cell HX.out 3).trans (rfl:_=some (Value.bool nw))
  have hb0:=HH2.out.below
  have HB0:=Aside0.mk hb0
  clear hb0
  by_cases a1:rp<1
  ·have b1:decide (rp<1)=true:=decide_eq_true a1
   clear a1
   go_wp2_with (first|(go_at_call 34;refine(w29_awake.calls kaw true _ HAW.out).mono ?_;rintro e w1 ⟨rfl,hb⟩;have HB:=Aside0.mk (below_step HB0.out hb);clear hb))
   go_ret
   exact ⟨rfl,HB.out⟩
  have b1:decide (rp<1)=false:=decide_eq_false a1
  by_cases a2:rp > 3
  ·have b2:decide (rp > 3)=true:=decide_eq_true a2
   clear a1 a2
   go_wp2_with (first|(go_at_call 34;refine(w29_awake.calls kaw true _ HAW.out).mono ?_;rintro e w1 ⟨rfl,hb⟩;have HB:=Aside0.mk (below_step HB0.out hb);clear hb))
   go_ret
   exact ⟨rfl,HB.out⟩
  have b2:decide (rp > 3)=false:=decide_eq_false a2
  by_cases a3:fr<1
  ·have b3:decide (fr<1)=true:=decide_eq_true a3
   clear a1 a2 a3
   go_wp2_with (first|(go_at_call 34;refine(w29_awake.calls kaw true _ HAW.out).mono ?_;rintro e w1 ⟨rfl,hb⟩;have HB:=Aside0.mk (below_step HB0.out hb);clear hb))
   go_ret
   exact ⟨rfl,HB.out⟩
  have b3:decide (fr<1)=false:=decide_eq_false a3
  by_cases a4:fr > 3
  ·have b4:decide (fr > 3)=true:=decide_eq_true a4
   clear a1 a2 a3 a4
   go_wp2_with (first|(go_at_call 34;refine(w29_awake.calls kaw true _ HAW.out).mono ?_;rintro e w1 ⟨rfl,hb⟩;have HB:=Aside0.mk (below_step HB0.out hb);clear hb))
   go_ret
   exact ⟨rfl,HB.out⟩
  have b4:decide (fr > 3)=false:=decide_eq_false a4
  obtain ⟨J,rfl⟩:∃ J:Nat,rp=(J:Int):=⟨rp.toNat,by omega⟩
  obtain ⟨F,rfl⟩:∃ F:Nat,fr=(F:Int):=⟨fr.toNat,by omega⟩
  have j1:1<=J:=by omega
  have j3:J<=3:=by omega
  have f1:1<=F:=by omega
  have f3:F<=3:=by omega
  clear a1 a2 a3 a4
  go_upto_block 2 with (fail)
  go_cut [5,6] (λv5 v6 wx=>∃ (K' A' L':List (List Int)) (M':List (Int×Int×List Int)),M'.length<=i+1/\Aside0 (SafeS (i+1) K' A' L' M')/\Aside0 (Here w wx w.heap.size (w.heap.size+1) v5 v6 K' A' L' M'))
  case first =>
   have i0:(0<=(J:Int))=True:=eq_true (by omega)
   have i1:((J:Int)<4)=True:=eq_true (by omega)
   obtain ⟨vJ,cJ,kJ⟩:=HH2.out.known.at (show J<4 by omega)
   have okJ:=HS.out.ok J
   have h5:(kn K J).length<=5:=(okC_iff.mp okJ).1
   by_cases k0:kd=0
   ·have e0:(kd == 0)=true:=beq_iff_eq.2 k0
    clear k0
    obtain ⟨Ap,cp,rfl,lp,fp⟩:=kJ
    have CJ:=Aside0.mk cJ
    obtain ⟨g,hg⟩:∃ g,g=getS (kn K J) (J:Int):=⟨_,rfl⟩
    have gb:=sf_in (kn K J) (r:=(J:Int)) (by omega) (by omega)
    have gN:=HS.out.small J (J:Int) (by omega) (by omega)
    obtain ⟨kg,hkg⟩:=Ev.rounds (get_ev (kn K J) (J:Int) (by omega))
    obtain ⟨ks,hks⟩:=Ev.rounds (set_ev (kn K J) (J:Int) (getS (kn K J) (J:Int)+1) (by omega) (by unfold setOk;simp only [Bool.and_eq_true,decide_eq_true_eq];have:=H40.out;omega))
    rw [<-hg] at gb gN hkg hks
    have hm:=HS.out.make (j:=J - 1) (by have:=H40.out;omega) (by omega)
    rw [show J - 1+1=J by omega,show(((J - 1:Nat):Int)+1)=(J:Int) by omega,<-hg] at hm
    have HM:=Aside0.mk hm
    have hw64:wrap64 (g+1)=g+1:=by unfold wrap64;omega
    have KG:=Aside0.mk hkg
    have KS:=Aside0.mk hks
    have LP:=Aside0.mk lp
    have FP:=Aside0.mk fp
    have LT:=Aside0.mk (blk_lt HX.out)
    clear hm hkg hks lp fp okJ h5 hg gb gN
    generalize kn K J=past at *
    go_upto_region 18 with (fail)
    clear x0 x1 x2 x3 cJ
    refine region_cards (F:=?F18) 9 (λw'=>Aside0 (Below w2.heap.size w2 w'))
     [λv _ _ _=>v = .pointer (some ⟨bs,1,none⟩),
     λv _ _ _=>v = .int .i64 (J:Int),
     λv _ _ _=>v = .slice Ap past.length cp,
     λv _ _ _=>v = .pointer (some ⟨bs,1,none⟩),
     λv _ _ _=>v = .int .i64 (J:Int),
     λv _ _ _=>v = .int .i64 g,
     λv _ _ _=>v = .int .i64 (g+1),
     λv _ _ _=>v = .agg #[.int .i64 (J:Int),.int .i64 (g+1)],
     λv w' lo _=>∃ k,v = .pointer (some ⟨k,0,none⟩)/\w2.heap.size<=k/\w'.heap[k]? = some (.cells #[.int .i64 0,.int .i64 0] 59 (0,0))]
     (by kernel_rfl) (by kernel_rfl) ?hF18 ?hS018 ?hS18 ?hstay18 ?hsteps18 ?hend18
    case hF18 =>
     intro vs
     simp only [List.take_succ_cons,List.take_zero,fill,if_true,if_false,Act.put,List.setIfInBounds_toArray,List.set_cons_zero,List.set_cons_succ,Nat.reduceAdd,List.contains_cons,List.contains_nil,Nat.reduceBEq,Bool.or_false,Bool.false_or,Bool.not_true,Bool.not_false,Bool.false_eq_true,Bool.or_self,Bool.true_or]
     rfl
    case hS018=>exact ⟨below_drew (Below.refl _ _)⟩
    case hS18=>exact λw1 w2 hb hs=>⟨below_step hs.out hb⟩
    case hstay18=>exact ⟨λ_ _ _ _ _ _ h=>h,λ_ _ _ _ _ _ h=>h,λ_ _ _ _ _ _ h=>h,λ_ _ _ _ _ _ h=>h,λ_ _ _ _ _ _ h=>h,λ_ _ _ _ _ _ h=>h,λ_ _ _ _ _ _ h=>h,λ_ _ _ _ _ _ h=>h,λ_ _ _ _ _ hb h=>by obtain ⟨k,q1,q2,q3⟩:=h;exact ⟨k,q1,q2,blk_below q3 hb⟩,trivial⟩
    case hsteps18 =>
     refine ⟨?s18_0,?s18_1,?s18_2,?s18_3,?s18_4,?s18_5,?s18_6,?s18_7,?s18_8,trivial⟩
     case s18_0 =>
      intro _ vs lo hi W hs hp
      exact does_val (by first|(go_simp;done)|(go_simp;rfl)) ⟨rfl,Below.refl _ _⟩
     case s18_1 =>
      intro _ vs lo hi W hs hp
      have e0:vs 0 = .pointer (some ⟨bs,1,none⟩):=hp 0 (by kernel_rfl) rfl
      have hc:W.cell? ⟨bs,1,none⟩=some (.int .i64 (J:Int)):=(blk_cell (blk_below HX.out hs.out) 1).trans rfl
      exact does_val (by first|(go_simp;done)|(go_simp;rfl)) ⟨rfl,Below.refl _ _⟩
     case s18_2 =>
      intro _ vs lo hi W hs hp
      exact does_val (by first|(go_simp;done)|(go_simp;rfl)) ⟨rfl,Below.refl _ _⟩
     case s18_3 =>
      intro _ vs lo hi W hs hp
      exact does_val (by first|(go_simp;done)|(go_simp;rfl)) ⟨rfl,Below.refl _ _⟩
     case s18_4 =>
      intro _ vs lo hi W hs hp
      have e3:vs 3 = .pointer (some ⟨bs,1,none⟩):=hp 3 (by kernel_rfl) rfl
      have hc:W.cell? ⟨bs,1,none⟩=some (.int .i64 (J:Int)):=(blk_cell (blk_below HX.out hs.out) 1).trans rfl
      exact does_val (by first|(go_simp;done)|(go_simp;rfl)) ⟨rfl,Below.refl _ _⟩
     case s18_5 =>
      intro _ vs lo hi W hs hp
      have e2:vs 2 = .slice Ap past.length cp:=hp 2 (by kernel_rfl) rfl
      have e4:vs 4 = .int .i64 (J:Int):=hp 4 (by kernel_rfl) rfl
      refine does_call Try.func30 (by kernel_rfl) rfl #[.slice Ap past.length cp,.int .i64 (J:Int)] rfl rfl (by rw [<-e2,<-e4];simp only [List.map_toArray,List.map_cons,List.map_nil];rfl) ?_
      refine(r03_Get.calls kg Ap cp past (J:Int) g W (Kd.C_below (Kd.F_now FP.out) hs.out) LP.out KG.out).mono ?_
      rintro e w' ⟨rfl,hb⟩
      exact ⟨_,rfl,rfl,hb.below⟩
     case s18_6 =>
      intro _ vs lo hi W hs hp
      have e5:vs 5 = .int .i64 g:=hp 5 (by kernel_rfl) rfl
      have hw_:IntKind.i64.wrap (g+1)=g+1:=(i64_w _).trans hw64
      exact does_val (by first|(go_simp;done)|(go_simp;rfl)) ⟨rfl,Below.refl _ _⟩
     case s18_7 =>
      intro _ vs lo hi W hs hp
      have e1:vs 1 = .int .i64 (J:Int):=hp 1 (by kernel_rfl) rfl
      have e6:vs 6 = .int .i64 (g+1):=hp 6 (by kernel_rfl) rfl
      exact does_val (by first|(go_simp;done)|(go_simp;rfl)) ⟨rfl,Below.refl _ _⟩
     case s18_8 =>
      intro _ vs lo hi W hs hp
      exact does_val (v:=.pointer (some ⟨W.heap.size,0,none⟩)) (w1:=W.alloc (.cells #[.int .i64 0,.int .i64 0] 59)) (by first|(go_simp;done)|(go_simp;rfl)) ⟨⟨W.heap.size,rfl,below_size hs.out,heap_alloc_new W _⟩,below_alloc (Below.refl _ _) _⟩
    case hend18 =>
     intro vs lo hi W hs hp _
     simp only [List.drop_succ_cons,List.drop_zero]
     have e7:vs 7 = .agg #[.int .i64 (J:Int),.int .i64 (g+1)]:=hp 7 (by decide)
     obtain ⟨bd,e8,bdg,hbd⟩:∃ k,vs 8 = .pointer (some ⟨k,0,none⟩)/\w2.heap.size<=k/\W.heap[k]? = some (.cells #[.int .i64 0,.int .i64 0] 59 (0,0)):=hp 8 (by decide)
     rw [e7,e8]
     clear hp e7 e8
     have z0:=(blk_cell hbd 0).trans (rfl:_=some (Value.int .i64 0));have z1:=(blk_cell hbd 1).trans (rfl:_=some (Value.int .i64 0));have hf0:=blk_frozen hbd 0;have hf1:=blk_frozen hbd 1
     have HBD:=Aside0.mk hbd
     have HSW:=hs
     clear hbd hs
     go_upto_region 19 with (fail)
     have n1:=below_set (below_set HSW.out bdg (v:=.int .i64 (J:Int)) (j:=0)) bdg (v:=.int .i64 (g+1)) (j:=1)
     have n2:=Aside0.mk (blk_put (cs':=#[.int .i64 (J:Int),.int .i64 (g+1)]) (cs:=#[.int .i64 (J:Int),.int .i64 0]) (blk_put (cs:=#[.int .i64 0,.int .i64 0]) HBD.out 0 (.int .i64 (J:Int)) rfl) 1 (.int .i64 (g+1)) rfl)
     have HH3:=Aside0.mk (HH2.out.on n1)
     have HX3:=Aside0.mk (blk_below HX.out n1)
     have CK3:Aside0 (Ck _ (Ok w.heap.size (w.heap.size+1) u5) (.slice Ap past.length cp) past):=⟨Ap,cp,rfl,LP.out,Kd.F_below FP.out n1⟩
     clear n1 z0 z1 hf0 hf1 HBD HSW HH2 HX FP CJ LT
     generalize (W.setCell ⟨bd,0,none⟩ (.int .i64 (J:Int))).setCell ⟨bd,1,none⟩ (.int .i64 (g+1))=w3 at n2 HH3 HX3 CK3 ⊢
     have z0:=(blk_cell n2.out 0).trans (rfl:_=some (Value.int .i64 (J:Int)));have z1:=(blk_cell n2.out 1).trans (rfl:_=some (Value.int .i64 (g+1)))
     go_upto_region 20 with (first|((with_reducible refine gate_builtin (b:=.append) (xs:=#[.tmp 81,.tmp 85]) rfl ?_);at_builtin;refine Kd.N_append kE (w0:=w) w.heap.size rfl (.tmp 81) (.tmp 85) 55 62 (.agg #[(.int .i64 0),(.int .i64 0),(.slice none 0 0),(.slice none 0 0)]) 64 rfl Try.underlying55 info62 rfl (by decide) (by decide) u5 M ((J:Int),g+1,past) [.int .i64 (J:Int),.int .i64 (g+1),.slice Ap past.length cp,.slice none 0 0] (λk=>k≠w.heap.size/\k≠w.heap.size+1) (Ok w.heap.size (w.heap.size+1) u5) rfl rfl (kE_mkF w3 _ ((J:Int),g+1,past) LP.out (by obtain ⟨A_,c_,e_,l_,f_⟩:=CK3.out;injection e_ with a_ b_ d_;rw [a_];exact f_)) (λk hk=>⟨⟨hk.1,hk.2.1⟩,hk.2.2⟩) (λk hk=>⟨by have:=HH3.out.known.lt;omega,by have:=HH3.out.asked.lt;omega⟩) HH3.out.made HH3.out.below (below_size HH3.out.below) (by have:=H40.out;omega) ?_;intro v1 w4 hN hb hg hat;have HH4:=Aside0.mk (HH3.out.more hN hb hg hat);have CK4:=Aside0.mk (CK3.out.after hg hat);have HX4:=Aside0.mk ((hg.block bs (blk_lt HX3.out) (Kd.N_ne HH3.out.made HX3.out (by decide))).trans HX3.out);have HD4:=Aside0.mk ((hg.block bd (blk_lt n2.out) (Kd.N_ne HH3.out.made n2.out (by decide))).trans n2.out);clear hN hb hg hat))
     clear z0 z1 HH3 CK3 HX3 n2
     have LT4:=Aside0.mk (blk_lt HX4.out)
     refine region_cards (F:=?F20) 8 (λw'=>Aside0 (Below w4.heap.size w4 w'))
      [λv _ _ _=>v = .pointer (some ⟨bs,1,none⟩),
      λv _ _ _=>v = .int .i64 (J:Int),
      λv _ _ _=>v = .slice Ap past.length cp,
      λv _ _ _=>v = .pointer (some ⟨bs,1,none⟩),
      λv _ _ _=>v = .int .i64 (J:Int),
      λv _ _ _=>v = .pointer (some ⟨bd,1,none⟩),
      λv _ _ _=>v = .int .i64 (g+1),
      λv w' _ _=>Ck w' (Ok w.heap.size (w.heap.size+1) v1) v (setS past (J:Int) (g+1))]
      (by kernel_rfl) (by kernel_rfl) ?hF20 ?hS020 ?hS20 ?hstay20 ?hsteps20 ?hend20
     case hF20 =>
      intro vs
      simp only [List.take_succ_cons,List.take_zero,fill,if_true,if_false,Act.put,List.setIfInBounds_toArray,List.set_cons_zero,List.set_cons_succ,Nat.reduceAdd,List.contains_cons,List.contains_nil,Nat.reduceBEq,Bool.or_false,Bool.false_or,Bool.not_true,Bool.not_false,Bool.false_eq_true,Bool.or_self,Bool.true_or]
      rfl
     case hS020=>exact ⟨below_drew (Below.refl _ _)⟩
     case hS20=>exact λw1 w2 hb hs=>⟨below_step hs.out hb⟩
     case hstay20=>exact ⟨λ_ _ _ _ _ _ h=>h,λ_ _ _ _ _ _ h=>h,λ_ _ _ _ _ _ h=>h,λ_ _ _ _ _ _ h=>h,λ_ _ _ _ _ _ h=>h,λ_ _ _ _ _ _ h=>h,λ_ _ _ _ _ _ h=>h,λ_ _ _ _ _ hb h=>h.on hb,trivial⟩
     case hsteps20 =>
      refine ⟨?s20_0,?s20_1,?s20_2,?s20_3,?s20_4,?s20_5,?s20_6,?s20_7,trivial⟩
      case s20_0 =>
       intro _ vs lo hi W hs hp
       exact does_val (by first|(go_simp;done)|(go_simp;rfl)) ⟨rfl,Below.refl _ _⟩
      case s20_1 =>
       intro _ vs lo hi W hs hp
       have e0:vs 0 = .pointer (some ⟨bs,1,none⟩):=hp 0 (by kernel_rfl) rfl
       have hc:W.cell? ⟨bs,1,none⟩=some (.int .i64 (J:Int)):=(blk_cell (blk_below HX4.out hs.out) 1).trans rfl
       exact does_val (by first|(go_simp;done)|(go_simp;rfl)) ⟨rfl,Below.refl _ _⟩
      case s20_2 =>
       intro _ vs lo hi W hs hp
       exact does_val (by first|(go_simp;done)|(go_simp;rfl)) ⟨rfl,Below.refl _ _⟩
      case s20_3 =>
       intro _ vs lo hi W hs hp
       exact does_val (by first|(go_simp;done)|(go_simp;rfl)) ⟨rfl,Below.refl _ _⟩
      case s20_4 =>
       intro _ vs lo hi W hs hp
       have e3:vs 3 = .pointer (some ⟨bs,1,none⟩):=hp 3 (by kernel_rfl) rfl
       have hc:W.cell? ⟨bs,1,none⟩=some (.int .i64 (J:Int)):=(blk_cell (blk_below HX4.out hs.out) 1).trans rfl
       exact does_val (by first|(go_simp;done)|(go_simp;rfl)) ⟨rfl,Below.refl _ _⟩
      case s20_5 =>
       intro _ vs lo hi W hs hp
       exact does_val (by first|(go_simp;done)|(go_simp;rfl)) ⟨rfl,Below.refl _ _⟩
      case s20_6 =>
       intro _ vs lo hi W hs hp
       have e5:vs 5 = .pointer (some ⟨bd,1,none⟩):=hp 5 (by kernel_rfl) rfl
       have hc:W.cell? ⟨bd,1,none⟩=some (.int .i64 (g+1)):=(blk_cell (blk_below HD4.out hs.out) 1).trans rfl
       exact does_val (by first|(go_simp;done)|(go_simp;rfl)) ⟨rfl,Below.refl _ _⟩
      case s20_7 =>
       intro _ vs lo hi W hs hp
       have e2:vs 2 = .slice Ap past.length cp:=hp 2 (by kernel_rfl) rfl
       have e4:vs 4 = .int .i64 (J:Int):=hp 4 (by kernel_rfl) rfl
       have e6:vs 6 = .int .i64 (g+1):=hp 6 (by kernel_rfl) rfl
       refine does_call Try.func32 (by kernel_rfl) rfl #[.slice Ap past.length cp,.int .i64 (J:Int),.int .i64 (g+1)] rfl rfl (by rw [<-e2,<-e4,<-e6];simp only [List.map_toArray,List.map_cons,List.map_nil];rfl) ?_
       obtain ⟨A_,c_,ea_,l_,f_⟩:=CK4.out
       injection ea_ with ea_ _ _
       refine(r03_Set.calls ks Ap cp past (J:Int) (g+1) _ W (by rw [ea_];exact Kd.C_below (Kd.F_now f_) hs.out) LP.out KS.out).mono ?_
       rintro e w' ⟨v,rfl,hv,hb⟩
       exact ⟨_,rfl,Ck.fresh hv (Nat.lt_of_lt_of_le HH4.out.known.lt (below_size hs.out)) (Nat.lt_of_lt_of_le HH4.out.asked.lt (below_size hs.out)) (λk hk=>Nat.lt_of_lt_of_le (HH4.out.own k hk) (below_size hs.out)),hb⟩
     case hend20 =>
      intro vs lo hi W hs hp _
      simp only [List.drop_succ_cons,List.drop_zero]
      have e1:vs 1 = .int .i64 (J:Int):=hp 1 (by decide)
      have hv:Ck W (Ok w.heap.size (w.heap.size+1) v1) (vs 7) (setS past (J:Int) (g+1)):=hp 7 (by decide)
      rw [e1]
      obtain ⟨An,cn,en,ln,fn⟩:=hv
      rw [en]
      have hv:Ck W (Ok w.heap.size (w.heap.size+1) v1) (.slice An (setS past (J:Int) (g+1)).length cn) (setS past (J:Int) (g+1)):=⟨An,cn,rfl,ln,fn⟩
      clear en ln fn
      have hh5:=HH4.out.on hs.out
      obtain ⟨vO,cO,_⟩:=hh5.known.at (show J<4 by omega)
      have hfz:=hh5.known.frozen J
      have HH5:=Aside0.mk hh5
      have HV:=Aside0.mk hv
      clear hp e1 hs HH4 CK4 HX4 HD4 LT4 hh5 hv
      go_wp2
      go_meet
      exact ⟨_,_,_,_,by rw [List.length_append,List.length_singleton];omega,HM,⟨HH5.out.putK (by omega) HV.out⟩⟩
   have e0:(kd == 0)=false:=beq_eq_false_iff_ne.2 k0
   by_cases k1:kd=1
   ·have e1_:(kd == 1)=true:=beq_iff_eq.2 k1
    clear k0 k1
    obtain ⟨vF,cF,kF⟩:=HH2.out.known.at (show F<4 by omega)
    obtain ⟨Ap,cp,rfl,lp,fp⟩:=kJ
    obtain ⟨Aq,cq,rfl,lq,fq⟩:=kF
    have okF:=HS.out.ok F
    have h5F:(kn K F).length<=5:=(okC_iff.mp okF).1
    have i2:(0<=(F:Int))=True:=eq_true (by omega)
    have i3:((F:Int)<4)=True:=eq_true (by omega)
    obtain ⟨kj,hkj⟩:=Ev.rounds (join_ev (kn K J) (kn K F) (by omega) (by omega))
    have HM:=Aside0.mk (HS.out.take (j:=J) (f:=F) (by omega))
    have KJ:=Aside0.mk hkj
    have CJ:=Aside0.mk cJ
    have CF:=Aside0.mk cF
    have LP:=Aside0.mk lp
    have FP:=Aside0.mk fp
    have LQ:=Aside0.mk lq
    have FQ:=Aside0.mk fq
    clear hkj cJ cF lp fp lq fq okJ h5 okF h5F
    generalize kn K J=past at *
    generalize kn K F=other at *
    go_upto_region 22 with (fail)
    clear x0 x1 x2 x3
    refine region_cards (F:=?F22) 11 (λw'=>Aside0 (Below w2.heap.size w2 w'))
     [λv _ _ _=>v = .pointer (some ⟨bs,1,none⟩),
     λv _ _ _=>v = .int .i64 (J:Int),
     λv _ _ _=>v = .pointer (some ⟨bs,1,none⟩),
     λv _ _ _=>v = .int .i64 (J:Int),
     λv _ _ _=>v = .pointer (some ⟨w.heap.size,J,none⟩),
     λv _ _ _=>v = .slice Ap past.length cp,
     λv _ _ _=>v = .pointer (some ⟨bs,2,none⟩),
     λv _ _ _=>v = .int .i64 (F:Int),
     λv _ _ _=>v = .pointer (some ⟨w.heap.size,F,none⟩),
     λv _ _ _=>v = .slice Aq other.length cq,
     λv w' _ _=>Ck w' (Ok w.heap.size (w.heap.size+1) u5) v (trim (joinS [past,other]))]
     (by kernel_rfl) (by kernel_rfl) ?hF22 ?hS022 ?hS22 ?hstay22 ?hsteps22 ?hend22
    case hF22 =>
     intro vs
     simp only [List.take_succ_cons,List.take_zero,fill,if_true,if_false,Act.put,List.setIfInBounds_toArray,List.set_cons_zero,List.set_cons_succ,Nat.reduceAdd,List.contains_cons,List.contains_nil,Nat.reduceBEq,Bool.or_false,Bool.false_or,Bool.not_true,Bool.not_false,Bool.false_eq_true,Bool.or_self,Bool.true_or]
     rfl
    case hS022=>exact ⟨below_drew (Below.refl _ _)⟩
    case hS22=>exact λw1 w2 hb hs=>⟨below_step hs.out hb⟩
    case hstay22=>exact ⟨λ_ _ _ _ _ _ h=>h,λ_ _ _ _ _ _ h=>h,λ_ _ _ _ _ _ h=>h,λ_ _ _ _ _ _ h=>h,λ_ _ _ _ _ _ h=>h,λ_ _ _ _ _ _ h=>h,λ_ _ _ _ _ _ h=>h,λ_ _ _ _ _ _ h=>h,λ_ _ _ _ _ _ h=>h,λ_ _ _ _ _ _ h=>h,λ_ _ _ _ _ hb h=>h.on hb,trivial⟩
    case hsteps22 =>
     refine ⟨?s22_0,?s22_1,?s22_2,?s22_3,?s22_4,?s22_5,?s22_6,?s22_7,?s22_8,?s22_9,?s22_10,trivial⟩
     case s22_0 =>
      intro _ vs lo hi W hs hp
      exact does_val (by first|(go_simp;done)|(go_simp;rfl)) ⟨rfl,Below.refl _ _⟩
     case s22_1 =>
      intro _ vs lo hi W hs hp
      have e0:vs 0 = .pointer (some ⟨bs,1,none⟩):=hp 0 (by kernel_rfl) rfl
      have hc:W.cell? ⟨bs,1,none⟩=some (.int .i64 (J:Int)):=(blk_cell (blk_below HX.out hs.out) 1).trans rfl
      exact does_val (by first|(go_simp;done)|(go_simp;rfl)) ⟨rfl,Below.refl _ _⟩
     case s22_2 =>
      intro _ vs lo hi W hs hp
      exact does_val (by first|(go_simp;done)|(go_simp;rfl)) ⟨rfl,Below.refl _ _⟩
     case s22_3 =>
      intro _ vs lo hi W hs hp
      have e2:vs 2 = .pointer (some ⟨bs,1,none⟩):=hp 2 (by kernel_rfl) rfl
      have hc:W.cell? ⟨bs,1,none⟩=some (.int .i64 (J:Int)):=(blk_cell (blk_below HX.out hs.out) 1).trans rfl
      exact does_val (by first|(go_simp;done)|(go_simp;rfl)) ⟨rfl,Below.refl _ _⟩
     case s22_4 =>
      intro _ vs lo hi W hs hp
      have e3:vs 3 = .int .i64 (J:Int):=hp 3 (by kernel_rfl) rfl
      exact does_val (by first|(go_simp;done)|(go_simp;rfl)) ⟨rfl,Below.refl _ _⟩
     case s22_5 =>
      intro _ vs lo hi W hs hp
      have e4:vs 4 = .pointer (some ⟨w.heap.size,J,none⟩):=hp 4 (by kernel_rfl) rfl
      have hc:W.cell? ⟨w.heap.size,J,none⟩=some (.slice Ap past.length cp):=pw_cell_below hs.out CJ.out
      exact does_val (by first|(go_simp;done)|(go_simp;rfl)) ⟨rfl,Below.refl _ _⟩
     case s22_6 =>
      intro _ vs lo hi W hs hp
      exact does_val (by first|(go_simp;done)|(go_simp;rfl)) ⟨rfl,Below.refl _ _⟩
     case s22_7 =>
      intro _ vs lo hi W hs hp
      have e6:vs 6 = .pointer (some ⟨bs,2,none⟩):=hp 6 (by kernel_rfl) rfl
      have hc:W.cell? ⟨bs,2,none⟩=some (.int .i64 (F:Int)):=(blk_cell (blk_below HX.out hs.out) 2).trans rfl
      exact does_val (by first|(go_simp;done)|(go_simp;rfl)) ⟨rfl,Below.refl _ _⟩
     case s22_8 =>
      intro _ vs lo hi W hs hp
      have e7:vs 7 = .int .i64 (F:Int):=hp 7 (by kernel_rfl) rfl
      exact does_val (by first|(go_simp;done)|(go_simp;rfl)) ⟨rfl,Below.refl _ _⟩
     case s22_9 =>
      intro _ vs lo hi W hs hp
      have e8:vs 8 = .pointer (some ⟨w.heap.size,F,none⟩):=hp 8 (by kernel_rfl) rfl
      have hc:W.cell? ⟨w.heap.size,F,none⟩=some (.slice Aq other.length cq):=pw_cell_below hs.out CF.out
      exact does_val (by first|(go_simp;done)|(go_simp;rfl)) ⟨rfl,Below.refl _ _⟩
     case s22_10 =>
      intro _ vs lo hi W hs hp
      have e5:vs 5 = .slice Ap past.length cp:=hp 5 (by kernel_rfl) rfl
      have e9:vs 9 = .slice Aq other.length cq:=hp 9 (by kernel_rfl) rfl
      refine does_call Try.func17 (by kernel_rfl) rfl #[.slice Ap past.length cp,.slice Aq other.length cq] rfl rfl (by rw [<-e5,<-e9];simp only [List.map_toArray,List.map_cons,List.map_nil];rfl) ?_
      refine(r03_Join.calls kj Ap cp past Aq cq other _ W (Kd.C_below (Kd.F_now FP.out) hs.out) LP.out (Kd.C_below (Kd.F_now FQ.out) hs.out) LQ.out KJ.out).mono ?_
      rintro e w' ⟨v,rfl,hv,hb⟩
      exact ⟨_,rfl,Ck.fresh hv (Nat.lt_of_lt_of_le HH2.out.known.lt (below_size hs.out)) (Nat.lt_of_lt_of_le HH2.out.asked.lt (below_size hs.out)) (λk hk=>Nat.lt_of_lt_of_le (HH2.out.own k hk) (below_size hs.out)),hb⟩
    case hend22 =>
     intro vs lo hi W hs hp _
     simp only [List.drop_succ_cons,List.drop_zero]
     have e1:vs 1 = .int .i64 (J:Int):=hp 1 (by decide)
     have hv:Ck W (Ok w.heap.size (w.heap.size+1) u5) (vs 10) (trim (joinS [past,other])):=hp 10 (by decide)
     rw [e1]
     obtain ⟨An,cn,en,ln,fn⟩:=hv
     rw [en]
     have hv:Ck W (Ok w.heap.size (w.heap.size+1) u5) (.slice An (trim (joinS [past,other])).length cn) (trim (joinS [past,other])):=⟨An,cn,rfl,ln,fn⟩
     clear en ln fn
     have hh5:=HH2.out.on hs.out
     obtain ⟨vO,cO,_⟩:=hh5.known.at (show J<4 by omega)
     have hfz:=hh5.known.frozen J
     have HH5:=Aside0.mk hh5
     have HV:=Aside0.mk hv
     clear hp e1 hs HH2 hh5 hv
     go_wp2
     go_meet
     exact ⟨_,_,_,_,by omega,HM,⟨HH5.out.putK (by omega) HV.out⟩⟩
   have e1_:(kd == 1)=false:=beq_eq_false_iff_ne.2 k1
   by_cases k2:kd=2
   ·have e2_:(kd == 2)=true:=beq_iff_eq.2 k2
    clear k0 k1 k2
    obtain ⟨vA,cA,kA⟩:=HH2.out.asked.at (show J<4 by omega)
    obtain ⟨Ap,cp,rfl,lp,fp⟩:=kJ
    have okA:=HS.out.okA J
    have may:=HS.out.may
    have lL:=HS.out.lenL
    obtain ⟨Al,cl,e6,ll,fl⟩:=HH2.out.list
    subst e6
    have LL:=Aside0.mk ll
    clear ll fl
    go_upto_if 117 with (fail)
    go_cut [12] (λv12 wx=>wx=w2/\∃ c,(c=kn A J\/c=kn K J)/\Aside0 (Ck w2 (Ok w.heap.size (w.heap.size+1) u5) v12 c))
    case first =>
     cases nw with
     | false =>
      go_wp2
      go_meet
      exact ⟨rfl,_,.inl rfl,⟨kA⟩⟩
     | true =>
      go_wp2
      go_meet
      exact ⟨rfl,_,.inr rfl,⟨⟨Ap,cp,rfl,lp,fp⟩⟩⟩
    case rest =>
     obtain ⟨e_,c,hor,HC⟩:=hcut
     subst e_
     obtain ⟨Ac,cc,rfl,lc,fc⟩:=HC.out
     have hm:=HS.out.learn (j:=J - 1) (by omega) (c:=c) (by rw [show J - 1+1=J by omega];exact hor)
     rw [show J - 1+1=J by omega,show(((J - 1:Nat):Int)+1)=(J:Int) by omega] at hm
     have okc:okC c=true:=by
      rcases hor with rfl|rfl
      ·exact okA
      ·exact okJ
     obtain ⟨kl,hkl⟩:=Ev.rounds (pLearn_ev L (kn K 1) (J:Int) c)
     rw [show learnP L (kn K 1) (J:Int) c=(learnS L (kn K 1) (J:Int) c,0) by unfold learnP;rw [if_pos ⟨may,okc,by omega,by omega⟩]] at hkl
     have HM:=Aside0.mk hm
     have KL:=Aside0.mk hkl
     have CJ:=Aside0.mk cJ
     have LP:=Aside0.mk lp
     have FP:=Aside0.mk fp
     have LC:=Aside0.mk lc
     have i4:(0<=(1:Int))=True:=by simp
     clear hm hkl cJ lp fp lc fc hor okc okA okJ may h5 kA
     go_upto_region 27 with (fail)
     go_cut [6] (λv6 wx=>v6 = .slice Al L.length cl/\Aside0 (Here w wx w.heap.size (w.heap.size+1) u5 (.slice Al L.length cl) K (A.set J (kn K J)) L M)/\Aside0 (wx.heap[bs]? = some (.cells #[.int .i64 kd,.int .i64 (J:Int),.int .i64 (F:Int),.bool nw] 57 (0,0)))/\Aside0 (Ck wx (Ok w.heap.size (w.heap.size+1) u5) (.slice Ac c.length cc) c))
     case first =>
      clear x0 x1 x2 x3 cA
      refine region_cards (F:=?F27) 6 (λw'=>Aside0 (Below wc.heap.size wc w'))
       [λv _ _ _=>v = .pointer (some ⟨bs,1,none⟩),
       λv _ _ _=>v = .int .i64 (J:Int),
       λv _ _ _=>v = .pointer (some ⟨bs,1,none⟩),
       λv _ _ _=>v = .int .i64 (J:Int),
       λv _ _ _=>v = .pointer (some ⟨w.heap.size,J,none⟩),
       λv _ _ _=>v = .slice Ap (kn K J).length cp]
       (by kernel_rfl) (by kernel_rfl) ?hF27 ?hS027 ?hS27 ?hstay27 ?hsteps27 ?hend27
      case hF27 =>
       intro vs
       simp only [List.take_succ_cons,List.take_zero,fill,if_true,if_false,Act.put,List.setIfInBounds_toArray,List.set_cons_zero,List.set_cons_succ,Nat.reduceAdd,List.contains_cons,List.contains_nil,Nat.reduceBEq,Bool.or_false,Bool.false_or,Bool.not_true,Bool.not_false,Bool.false_eq_true,Bool.or_self,Bool.true_or]
       rfl
      case hS027=>exact ⟨below_drew (Below.refl _ _)⟩
      case hS27=>exact λw1 w2 hb hs=>⟨below_step hs.out hb⟩
      case hstay27=>exact ⟨λ_ _ _ _ _ _ h=>h,λ_ _ _ _ _ _ h=>h,λ_ _ _ _ _ _ h=>h,λ_ _ _ _ _ _ h=>h,λ_ _ _ _ _ _ h=>h,λ_ _ _ _ _ _ h=>h,trivial⟩
      case hsteps27 =>
       refine ⟨?s27_0,?s27_1,?s27_2,?s27_3,?s27_4,?s27_5,trivial⟩
       case s27_0 =>
        intro _ vs lo hi W hs hp
        exact does_val (by first|(go_simp;done)|(go_simp;rfl)) ⟨rfl,Below.refl _ _⟩
       case s27_1 =>
        intro _ vs lo hi W hs hp
        have e0:vs 0 = .pointer (some ⟨bs,1,none⟩):=hp 0 (by kernel_rfl) rfl
        have hc:W.cell? ⟨bs,1,none⟩=some (.int .i64 (J:Int)):=(blk_cell (blk_below HX.out hs.out) 1).trans rfl
        exact does_val (by first|(go_simp;done)|(go_simp;rfl)) ⟨rfl,Below.refl _ _⟩
       case s27_2 =>
        intro _ vs lo hi W hs hp
        exact does_val (by first|(go_simp;done)|(go_simp;rfl)) ⟨rfl,Below.refl _ _⟩
       case s27_3 =>
        intro _ vs lo hi W hs hp
        have e2:vs 2 = .pointer (some ⟨bs,1,none⟩):=hp 2 (by kernel_rfl) rfl
        have hc:W.cell? ⟨bs,1,none⟩=some (.int .i64 (J:Int)):=(blk_cell (blk_below HX.out hs.out) 1).trans rfl
        exact does_val (by first|(go_simp;done)|(go_simp;rfl)) ⟨rfl,Below.refl _ _⟩
       case s27_4 =>
        intro _ vs lo hi W hs hp
        have e3:vs 3 = .int .i64 (J:Int):=hp 3 (by kernel_rfl) rfl
        exact does_val (by first|(go_simp;done)|(go_simp;rfl)) ⟨rfl,Below.refl _ _⟩
       case s27_5 =>
        intro _ vs lo hi W hs hp
        have e4:vs 4 = .pointer (some ⟨w.heap.size,J,none⟩):=hp 4 (by kernel_rfl) rfl
        have hc:W.cell? ⟨w.heap.size,J,none⟩=some (.slice Ap (kn K J).length cp):=pw_cell_below hs.out CJ.out
        exact does_val (by first|(go_simp;done)|(go_simp;rfl)) ⟨rfl,Below.refl _ _⟩
      case hend27 =>
       intro vs lo hi W hs hp _
       simp only [List.drop_succ_cons,List.drop_zero]
       have e1:vs 1 = .int .i64 (J:Int):=hp 1 (by decide)
       have e5:vs 5 = .slice Ap (kn K J).length cp:=hp 5 (by decide)
       rw [e1,e5]
       have hh5:=HH2.out.on hs.out
       obtain ⟨vO,cO,_⟩:=hh5.asked.at (show J<4 by omega)
       have hfz:=hh5.asked.frozen J
       have n1:=Aside0.mk (hh5.putA (j:=J) (by omega) (v:=.slice Ap (kn K J).length cp) (x:=kn K J) ⟨Ap,cp,rfl,LP.out,Kd.F_below FP.out hs.out⟩)
       have n2:=Aside0.mk ((Below.heap_setCell W ⟨w.heap.size+1,J,none⟩ (.slice Ap (kn K J).length cp) bs (Nat.ne_of_gt hbs2)).trans (blk_below HX.out hs.out))
       have n3:=Aside0.mk ((HC.out.on hs.out).step (w1:=W.setCell ⟨w.heap.size+1,J,none⟩ (.slice Ap (kn K J).length cp)) (λk hk _=>Below.heap_setCell W ⟨w.heap.size+1,J,none⟩ (.slice Ap (kn K J).length cp) k hk.2.1))
       clear hp e1 e5 hs HH2 hh5 CJ FP HX HC
       go_wp2
       go_meet
       exact ⟨rfl,n1,n2,n3⟩
     case rest =>
      obtain ⟨e6,n1,n2,n3⟩:=hcut
      subst e6
      clear x0 x1 x2 x3 cA HH2 HX HC
      obtain ⟨vK,cK,kK⟩:=n1.out.known.at (show 1<4 by omega)
      obtain ⟨A1,c1,rfl,l1,g1⟩:=kK
      obtain ⟨Al_,cl_,e_,ll,fl⟩:=n1.out.list
      injection e_ with a_ b_ d_
      subst a_
      subst d_
      obtain ⟨Ac_,cc_,e_,lc,fc⟩:=n3.out
      injection e_ with a_ b_ d_
      subst a_
      subst d_
      have hkl:=KL.out
      have L1:=Aside0.mk l1
      have x1:=(blk_cell n2.out 1).trans (rfl:_=some (Value.int .i64 (J:Int)))
      have CL:=Aside0.mk (stable_Learn.calls kl Al cl L A1 c1 (kn K 1) (J:Int) (Ok w.heap.size (w.heap.size+1) u5) Ac cc c (learnS L (kn K 1) (J:Int) c) 0 _ (Kd.F_now fl) ll (Kd.F_now g1) l1 (Kd.V_mk lc fc) KL.out)
      have LEN:=Aside0.mk lL
      clear l1 g1 ll fl lc fc hkl KL lL
      generalize kn K 1=own at *
      go_wp2_with (first|(go_at_call 36;with_reducible refine Calls.mono CL.out ?_;rintro e w4 ⟨v0,rfl,hN,hb⟩;have HH4:=Aside0.mk (n1.out.learnt hb hN);clear hN hb))
      go_meet
      exact ⟨_,_,_,_,by omega,HM,HH4⟩
   have e2_:(kd == 2)=false:=beq_eq_false_iff_ne.2 k2
   clear k0 k1 k2
   go_wp2
   go_meet
   exact ⟨_,_,_,_,by omega,⟨HS.out.more⟩,HH2⟩
  case rest =>
   obtain ⟨K',A',L',M',hml',HS',HH'⟩:=hcut
   clear x0 x1 x2 x3 HX HH2 HS
   obtain ⟨Al,cl,e6,ll,fl⟩:=HH'.out.list
   subst e6
   obtain ⟨A5,c5,e5⟩:=Kd.N_slice HH'.out.made
   subst e5
   obtain ⟨vK,cK,kK⟩:=HH'.out.known.at (show 1<4 by omega)
   obtain ⟨A1,c1,rfl,l1,g1⟩:=kK
   obtain ⟨ks,hks⟩:=Ev.rounds (pStable_ev L' (kn K' 1))
   rw [show stableP L' (kn K' 1)=stableS L' (kn K' 1) by unfold stableP;rw [if_pos HS'.out.may]] at hks
   have CL:=Aside0.mk (stable_Stable.calls ks Al cl L' A1 c1 (kn K' 1) (stableS L' (kn K' 1)) _ (Kd.F_now fl) ll (Kd.F_now g1) l1 hks)
   have okM:=HS'.out.made
   have pastM:=λx hx hh=>HS'.out.past (x:=x) hx hh
   have all0:=HS'.out.all (j:=0) (by omega)
   have all1:=HS'.out.all (j:=1) (by omega)
   have all2:=HS'.out.all (j:=2) (by omega)
   have ok1:=(okC_iff.mp (HS'.out.ok 1)).1
   have ok2:=(okC_iff.mp (HS'.out.ok 2)).1
   have ok3:=(okC_iff.mp (HS'.out.ok 3)).1
   have okS:(stableS L' (kn K' 1)).length<=5:=by
    have:=stable_plain L' (kn K' 1)
    rw [<-this]
    exact sf_trim5 (good_of _).1
   have LM:=Aside0.mk hml'
   have OKM:=Aside0.mk okM
   have PASTM:=Aside0.mk pastM
   obtain ⟨kw1,hw1⟩:=Ev.rounds (within_ev (stableS L' (kn K' 1)) (kn K' 1) (by omega) (by omega))
   obtain ⟨kw2,hw2⟩:=Ev.rounds (within_ev (stableS L' (kn K' 1)) (kn K' 2) (by omega) (by omega))
   obtain ⟨kw3,hw3⟩:=Ev.rounds (within_ev (stableS L' (kn K' 1)) (kn K' 3) (by omega) (by omega))
   rw [show(0:Nat)+1=1 from rfl] at all0
   rw [show(1:Nat)+1=2 from rfl] at all1
   rw [show(2:Nat)+1=3 from rfl] at all2
   rw [all0] at hw1
   rw [all1] at hw2
   rw [all2] at hw3
   have W1:=Aside0.mk hw1
   have W2:=Aside0.mk hw2
   have W3:=Aside0.mk hw3
   have OK1:=Aside0.mk ok1
   have OKS:=Aside0.mk okS
   clear hks ll fl l1 g1 okM pastM all0 all1 all2 ok1 ok2 ok3 okS hml' hw1 hw2 hw3 hml
   generalize hst:stableS L' (kn K' 1)=st at *
   generalize hown:kn K' 1=own at *
   have HST:=Aside0.mk hst
   have HOWN:=Aside0.mk hown
   clear hst hown
   go_wp2_with (first|(go_at_call 37;with_reducible refine Calls.mono CL.out ?_;rintro e w4 ⟨v15,rfl,hR,hb⟩;have HH4:=Aside0.mk (HH'.out.on hb);obtain ⟨As,cs,e15⟩:=Kd.R_slice hR;subst e15;have LS:=Aside0.mk (Kd.R_reads' hR).2.1;have CS:=Aside0.mk (Kd.R_reads' hR).2.2;clear hR hb))
   clear HH' CL cK
   go_loopg [16] M'.length (λkn_ v16 wx=>∃ n:Nat,v16 = .int .i64 (n:Int)/\n+kn_=M'.length/\Aside0 (Below w4.heap.size w4 wx))
   case atStart=>exact ⟨0,rfl,by omega,⟨Below.refl _ _⟩⟩
   case round =>
    obtain ⟨n,rfl,hnk,HB4⟩:=hrel
    have HH5:=Aside0.mk (HH4.out.on HB4.out)
    have CS5:=Aside0.mk (Kd.C_below CS.out HB4.out)
    by_cases hn:n<M'.length
    case neg =>
     have cn:decide ((n:Int)<(M'.length:Int))=false:=decide_eq_false (by omega)
     go_upto_region 39 with (fail)
     obtain ⟨vK,cK,kK⟩:=HH5.out.known.at (show 1<4 by omega)
     obtain ⟨A1,c1,rfl,l1,g1⟩:=kK
     obtain ⟨vK2,cK2,kK2⟩:=HH5.out.known.at (show 2<4 by omega)
     obtain ⟨A2,c2,rfl,l2,g2⟩:=kK2
     obtain ⟨vK3,cK3,kK3⟩:=HH5.out.known.at (show 3<4 by omega)
     obtain ⟨A3,c3,rfl,l3,g3⟩:=kK3
     rw [HOWN.out] at cK l1 g1
     generalize kn K' 2=p2 at *
     generalize kn K' 3=p3 at *
     have cW1:∀ W,Below wr.heap.size wr W->Calls Try.prog 19 #[.slice As st.length cs,.slice A1 own.length c1] W λe w'=>e = .returned (.bool true)/\Below wr.heap.size wr w':=λW hW=>(r03_Within.calls kw1 As cs st A1 c1 own true W (Kd.C_below CS5.out hW) LS.out (Kd.C_below (Kd.F_now g1) hW) l1 W1.out).mono λe w' h_=>⟨h_.1,below_step hW h_.2.below⟩
     have cW2:∀ W,Below wr.heap.size wr W->Calls Try.prog 19 #[.slice As st.length cs,.slice A2 p2.length c2] W λe w'=>e = .returned (.bool true)/\Below wr.heap.size wr w':=λW hW=>(r03_Within.calls kw2 As cs st A2 c2 p2 true W (Kd.C_below CS5.out hW) LS.out (Kd.C_below (Kd.F_now g2) hW) l2 W2.out).mono λe w' h_=>⟨h_.1,below_step hW h_.2.below⟩
     have cW3:∀ W,Below wr.heap.size wr W->Calls Try.prog 19 #[.slice As st.length cs,.slice A3 p3.length c3] W λe w'=>e = .returned (.bool true)/\Below wr.heap.size wr w':=λW hW=>(r03_Within.calls kw3 As cs st A3 c3 p3 true W (Kd.C_below CS5.out hW) LS.out (Kd.C_below (Kd.F_now g3) hW) l3 W3.out).mono λe w' h_=>⟨h_.1,below_step hW h_.2.below⟩
     clear l1 l2 l3 g1 g2 g3
     go_wp2_with (first|(go_at_call 19;with_reducible refine Calls.mono (cW1 wr (Below.refl _ _)) ?_;rintro e w7 ⟨rfl,hb⟩;have N1:=Aside0.mk hb;have q2:=pw_cell_below hb cK2;have q3:=pw_cell_below hb cK3;clear hb)|(go_at_call 19;with_reducible refine Calls.mono (cW2 _ N1.out) ?_;rintro e w8 ⟨rfl,hb⟩;have N2:=Aside0.mk hb;have q5:=pw_cell_below hb cK3;clear hb)|(go_at_call 19;with_reducible refine Calls.mono (cW3 _ N2.out) ?_;rintro e w9 ⟨rfl,hb⟩;have N3:=Aside0.mk hb;clear hb))
     have n1:=Aside0.mk (HH5.out.on N3.out)
     go_roundg (l0.length - (i+1))
     case measure=>omega
     case rel=>exact ⟨i+1,K',A',L',M',by rw [Int.natCast_add];rfl,by omega,LM.out,HS',n1⟩
    have cn:decide ((n:Int)<(M'.length:Int))=true:=decide_eq_true (by omega)
    obtain ⟨ae,A2,c2,B,d,e_,f0,f1,f2,f3,l2,g2⟩:=at_E (Kd.N_reads' HH5.out.made).2.2 n hn
    subst e_
    have hmem:M'.getD n (0,0,[]) ∈ M':=by rw [List.getD_eq_getElem?_getD,List.getElem?_eq_getElem hn,Option.getD_some];exact List.getElem_mem _
    generalize M'.getD n (0,0,[])=ev at f0 f1 f2 f3 l2 g2 hmem
    obtain ⟨rep,seq,past⟩:=ev
    dsimp only at f0 f1 f2 f3 l2 g2
    have HMEM:=Aside0.mk hmem
    have L2:=Aside0.mk l2
    have G2:=Aside0.mk g2
    have d01:(0<=(n:Int))=True:=eq_true (by omega)
    have dn2:((n:Int)<(M'.length:Int))=True:=eq_true (by omega)
    clear hmem l2 g2
    go_upto_region 37 with (fail)
    have hx:=heap_alloc_new wr (.cells #[.int .i64 rep,.int .i64 seq,.slice A2 past.length c2,.slice B 0 d] 62)
    have hb:=below_alloc (Below.refl wr.heap.size wr) (.cells #[.int .i64 rep,.int .i64 seq,.slice A2 past.length c2,.slice B 0 d] 62)
    have HX:=Aside0.mk hx
    have HB6:=Aside0.mk (below_step HB4.out hb)
    have HH6:=Aside0.mk (HH5.out.on hb)
    have CS6:=Aside0.mk (Kd.C_below CS5.out hb)
    have G6:=Aside0.mk (Kd.C_below G2.out hb)
    clear hx hb HB4 HH5 CS5 G2 f0 f1 f2 f3
    obtain ⟨be,hbe⟩:∃ be,be=wr.heap.size:=⟨_,rfl⟩
    generalize wr.alloc (.cells #[.int .i64 rep,.int .i64 seq,.slice A2 past.length c2,.slice B 0 d] 62)=w6 at HX HB6 HH6 CS6 G6 ⊢
    rw [<-hbe] at HX ⊢
    clear hbe
    obtain ⟨vK,cK,kK⟩:=HH6.out.known.at (show 1<4 by omega)
    obtain ⟨A1,c1,rfl,l1,g1⟩:=kK
    obtain ⟨jj,hj3,_,hs1,_,hokp,_,_⟩:=OKM.out _ HMEM.out
    have hl5:=(okC_iff.mp hokp).1
    have hpast:=PASTM.out _ HMEM.out
    dsimp only at hpast hl5
    obtain ⟨kg,hkg⟩:=Ev.rounds (get_ev own rep (by have:=OK1.out;omega))
    obtain ⟨kw,hkw⟩:=Ev.rounds (within_ev st past (by have:=OKS.out;omega) (by omega))
    rw [HOWN.out] at cK l1 g1
    have q0:=cell_regrown ((blk_cell HX.out 0).trans (rfl:_=some (Value.int .i64 rep)));have q1:=cell_regrown ((blk_cell HX.out 1).trans (rfl:_=some (Value.int .i64 seq)));have q2:=cell_regrown ((blk_cell HX.out 2).trans (rfl:_=some (Value.slice A2 past.length c2)));have q3:=cell_regrown cK
    have cG:∀ d os,Calls Try.prog 30 #[.slice A1 own.length c1,.int .i64 rep] (Sort.grow (redrawn w6 d) os) λe w''=>e = .returned (.int .i64 (getS own rep))/\∃ p_:Regrown,w''=Sort.grow (redrawn w6 p_.d) p_.os:=λd os=>Calls.regrown_of ((r03_Get.calls kg A1 c1 own rep (getS own rep) _ (Kd.C_below (Kd.F_now g1) (below_regrown w6 d os)) l1 hkg).mono λe w' h_=>⟨h_.1,h_.2.below⟩)
    have cW:∀ d os,Calls Try.prog 19 #[.slice As st.length cs,.slice A2 past.length c2] (Sort.grow (redrawn w6 d) os) λe w''=>e = .returned (.bool (withinS st past))/\∃ p_:Regrown,w''=Sort.grow (redrawn w6 p_.d) p_.os:=λd os=>Calls.regrown_of ((r03_Within.calls kw As cs st A2 c2 past (withinS st past) _ (Kd.C_below CS6.out (below_regrown w6 d os)) LS.out (Kd.C_below G6.out (below_regrown w6 d os)) L2.out hkw).mono λe w' h_=>⟨h_.1,h_.2.below⟩)
    clear hokp hs1 hl5 hkg hkw l1 g1 cK
    have hend:∃ b:Bool,(decide (seq > getS own rep)=b)/\(b=true->withinS st past=true):=⟨_,rfl,λh=>hpast (of_decide_eq_true h)⟩
    obtain ⟨b,hb1,hb2⟩:=hend
    clear hpast
    cases b with
    | true =>
     rw [hb2 rfl] at cW
     clear hb2
     refine wp_region_quiet_below (by kernel_rfl) (by kernel_rfl) ?_
     repeat(go_big_quiet_step (first|(with_reducible exact cG _ _)|(with_reducible exact cW _ _)))
     refine wpQuiet_nil ?_
     intro _ hw'
     obtain ⟨⟨dq,osq⟩,hw''⟩:=hw'
     subst hw''
     have n1:=Aside0.mk (below_step HB6.out (below_regrown w6 dq osq))
     clear HH6 CS6 G6 q0 q1 q2 q3 cG cW HX
     generalize Sort.grow (redrawn w6 dq) osq=w7 at n1 ⊢
     go_wp2
     go_roundg (M'.length - (n+1))
     case measure=>omega
     case rel=>exact ⟨n+1,by rw [show wrap64 ((n:Int)+1)=((n+1:Nat):Int) by have:=LM.out;have:=H40.out;unfold wrap64;omega],by omega,n1⟩
    | false =>
     clear hb2
     refine wp_region_quiet_below (by kernel_rfl) (by kernel_rfl) ?_
     repeat(go_big_quiet_step (first|(with_reducible exact cG _ _)|(with_reducible exact cW _ _)))
     refine wpQuiet_nil ?_
     intro _ hw'
     obtain ⟨⟨dq,osq⟩,hw''⟩:=hw'
     subst hw''
     have n1:=Aside0.mk (below_step HB6.out (below_regrown w6 dq osq))
     clear HH6 CS6 G6 q0 q1 q2 q3 cG cW HX
     generalize Sort.grow (redrawn w6 dq) osq=w7 at n1 ⊢
     go_wp2
     go_roundg (M'.length - (n+1))
     case measure=>omega
     case rel=>exact ⟨n+1,by rw [show wrap64 ((n:Int)+1)=((n+1:Nat):Int) by have:=LM.out;have:=H40.out;unfold wrap64;omega],by omega,n1⟩
end Go.Proofs.Ytjpjdipdhakjnaa.PStab
