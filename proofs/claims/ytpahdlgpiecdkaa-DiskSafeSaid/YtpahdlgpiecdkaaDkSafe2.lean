/- a part -/
import Derived.Test.YtpahdlgpiecdkaaDkSafe
namespace Go.Proofs.Ytpahdlgpiecdkaa.Dsk
open Go.RowKit Go.Proofs.YtpahdlgpiecdkaaW.PrintWords Go.Proofs.YtpahdlgpiecdkaaW.PrintLast Go.Proofs.YtpahdlgpiecdkaaW.PrintMore Go.Proofs.Ytpahdlgpiecdkaa.Hand Go.Proofs.Ytpahdlgpiecdkaa.Cards Go.Proofs.Ytpahdlgpiecdkaa.PDk
set_option linter.unusedVariables false
set_option linter.unusedSimpArgs false
section
variable {w0 W W1 : World} {D E : Nat -> Prop} {d r : Dk} {A0 A1 : Option Addr} {c0 c1 g : Nat} {v0 v1 : Value}
set_option maxHeartbeats 32000000 in
set_option maxRecDepth 100000 in
theorem safe1_calls (AL AM:Option Addr) (cl cm:Nat) (l0 l1:List S49) (w:World) (hr0:Kd.C k49 w AL l0.length l0) (hc0:l0.length<=cl) (hl:l0.length<=9223372036854775806) (hb0:∀ x ∈ l0,x.f2.length<=140737488355328) (hr1:Kd.C k49 w AM l1.length l1) (hc1:l1.length<=cm) (hl1:l1.length<=9223372036854775806) (hb1:∀ x ∈ l1,x.f2.length<=140737488355328) :
  Calls Try.prog 7 #[.slice AL l0.length cl,.slice AM l1.length cm,.bool true] w λe w'=>e = .returned (.bool true)/\Below w.heap.size w w':=by
 obtain ⟨lr,hlr⟩:=light_some l0 hl
 obtain ⟨mr,hmr⟩:=light_some l1 hl1
 have hL:=λW hW=>(w06_Light.calls _ AL cl l0 lr W (Kd.C_below (w1:=W) hr0 hW) hc0 hlr).mono λe w' h_=>And.intro h_.1 h_.2.below
 have hM:=λW hW=>(w06_Light.calls _ AM cm l1 mr W (Kd.C_below (w1:=W) hr1 hW) hc1 hmr).mono λe w' h_=>And.intro h_.1 h_.2.below
 have HL:=Aside0.mk hL
 have HM:=Aside0.mk hM
 have HR:=Aside0.mk hr0
 have HLE:=Aside0.mk hb0
 have HR1:=Aside0.mk hr1
 have HLE1:=Aside0.mk hb1
 clear hL hM hlr hmr hr0 hb0 hr1 hb1
 go_enter Try.func7,Try.ntmps7
 cases lr with
 | false =>
  go_wp2_with (first|(go_at_call 14;(with_reducible refine Calls.mono (HL.out w (Below.refl _ _)) ?_);rintro e w1 ⟨rfl,hb⟩;have HB:=Aside0.mk hb;clear hb)|(go_at_call 15;refine(awake_calls _).mono ?_;rintro e w2 ⟨rfl,hb⟩;have HB2:=Aside0.mk (below_step HB.out hb);clear hb))
  go_ret
  exact ⟨rfl,HB2.out⟩
 | true =>
 cases mr with
 | false =>
  go_wp2_with (first|(go_at_call 14;(with_reducible refine Calls.mono (HL.out w (Below.refl _ _)) ?_);rintro e w1 ⟨rfl,hb⟩;have HB:=Aside0.mk hb;clear hb)|(go_at_call 14;(with_reducible refine Calls.mono (HM.out w1 HB.out) ?_);rintro e w2 ⟨rfl,hb⟩;have HB1:=Aside0.mk (below_step HB.out hb);clear hb)|(go_at_call 15;refine(awake_calls _).mono ?_;rintro e w3 ⟨rfl,hb⟩;have HB2:=Aside0.mk (below_step HB1.out hb);clear hb))
  go_ret
  exact ⟨rfl,HB2.out⟩
 | true =>
 go_upto_region 9 with (first|(go_at_call 14;(with_reducible refine Calls.mono (HL.out w (Below.refl _ _)) ?_);rintro e wl ⟨rfl,hb⟩;have HBL:=Aside0.mk hb;clear hb)|(go_at_call 14;(with_reducible refine Calls.mono (HM.out wl HBL.out) ?_);rintro e w1 ⟨rfl,hb⟩;have HB:=Aside0.mk (below_step HBL.out hb);clear hb)|(go_at_call 16;refine(new_calls 3000 (by decide) (by decide) w1).mono ?_;rintro e w3 ⟨g,rfl,⟨D3,hat⟩,hb⟩;have AT:=Aside0.mk hat;clear hat hb))
 go_upto_region 10 with (first|(go_at_call 17;refine(r06_New.calls 3000 [] 0 [] 0 3000 (-1) false w3 rfl).mono ?_;rintro e w4 ⟨qa,qb,rfl,hv0,hv2,hb⟩;obtain ⟨P0,p0,ea⟩:=Kd.R_slice hv0;obtain ⟨P1,p1,eb⟩:=Kd.R_slice hv2;subst ea;subst eb;have f0:=F_fresh (D:=D3) (W:=w4) (v:=.bool true) (Kd.R_mono hv0 (λ_ _=>trivial)) AT.out.lt;have f1:=F_fresh (D:=D3) (W:=w4) (v:=.bool true) (Kd.R_mono hv2 (λ_ _=>trivial)) AT.out.lt;have at4:=AT.out.on hb;have HV:=Aside0.mk (show RawV w4 D3 P0 P1 p0 p1 (Dk.new 3000) from ⟨f0.2.1,f0.2.2,f1.2.1,f1.2.2⟩);clear AT;have AT:=Aside0.mk at4;clear at4 f0 f1 hv0 hv2 hb))
 have hb:=below_alloc (Below.refl w4.heap.size w4) (.cells #[.slice P0 0 p0,.int .i64 0,.slice P1 0 p1,.int .i64 0,.int .i64 3000,.int .i64 (-1),.bool false] 43)
 have x8:=heap_alloc_new w4 (.cells #[.slice P0 0 p0,.int .i64 0,.slice P1 0 p1,.int .i64 0,.int .i64 3000,.int .i64 (-1),.bool false] 43)
 have lp:Loop w1 (w4.alloc (.cells #[.slice P0 0 p0,.int .i64 0,.slice P1 0 p1,.int .i64 0,.int .i64 3000,.int .i64 (-1),.bool false] 43)) g w4.heap.size (Dk.new 3000) (Dk.new 3000):=⟨D3,P0,P1,p0,p1,AT.out.on hb,x8,λq=>Nat.lt_irrefl _ (AT.out.lt _ q),AT.out.below.size,⟨HV.out.l0,Kd.F_mono (Kd.F_below (Kd.F_bound HV.out.f0) hb) (λk hk q=>q.elim (λq=>hk.1 q) (λq=>by have:=hk.2;omega)),HV.out.l1,Kd.F_mono (Kd.F_below (Kd.F_bound HV.out.f1) hb) (λk hk q=>q.elim (λq=>hk.1 q) (λq=>by have:=hk.2;omega))⟩⟩
 have LP:=Aside0.mk lp
 clear lp hb x8 AT HV
 obtain ⟨b8,hb8⟩:∃ b8,b8=w4.heap.size:=⟨_,rfl⟩
 generalize w4.alloc (.cells #[.slice P0 0 p0,.int .i64 0,.slice P1 0 p1,.int .i64 0,.int .i64 3000,.int .i64 (-1),.bool false] 43)=w6 at LP ⊢
 rw [<-hb8] at LP ⊢
 clear hb8
 have NG:=Aside0.mk (Dk.good_new (room:=3000) (by decide) (by decide))
 go_wp2
 go_loopg [11] l0.length (λkn_ v11 wx=>∃ (n:Nat) (d r:Dk),v11 = .int .i64 (n:Int)/\n+kn_=l0.length/\Aside0 d.Good/\Aside0 r.Good/\Aside0 (Loop w1 wx g b8 d r))
 case atStart=>exact ⟨0,Dk.new 3000,Dk.new 3000,rfl,by omega,NG,NG,LP⟩
 case round =>
  clear LP NG
  obtain ⟨n,d,r,rfl,hnk,GD,GR,LP⟩:=hrel
  by_cases hn:n<l0.length
  case pos =>
   have cn:decide ((n:Int)<(l0.length:Int))=true:=decide_eq_true (by omega)
   have hmem:rd_T49 l0 (n:Int) ∈ l0:=by unfold rd_T49;rw [Int.toNat_natCast,List.getD_eq_getElem?_getD,List.getElem?_eq_getElem hn,Option.getD_some];exact List.getElem_mem _
   obtain ⟨ad,B2,b2,B4,b4,e_,f0,f1,f2,f3,f4,l2,g2,l4,g4⟩:=at_T49 HR.out (n:Int) (by omega) (by omega)
   subst e_
   have hbig:=HLE.out _ hmem
   rw [Int.toNat_natCast] at f0 f1 f2 f3 f4
   generalize rd_T49 l0 (n:Int)=st at f0 f1 f2 f3 f4 l2 g2 l4 g4 hbig
   clear hmem
   have bw:=below_step HB.out LP.out.below
   have BW:=Aside0.mk bw
   have F0:=Aside0.mk (pw_cell_below bw f0)
   have F1:=Aside0.mk (pw_cell_below bw f1)
   have F2:=Aside0.mk (pw_cell_below bw f2)
   have F3:=Aside0.mk (pw_cell_below bw f3)
   have F4:=Aside0.mk (pw_cell_below bw f4)
   have L2:=Aside0.mk l2
   have HBIG:=Aside0.mk hbig
   have R2:=Aside0.mk (Kd.F_below (Kd.C_F (Kd.heap_int .u8) g2) bw)
   have R4:=Aside0.mk (Kd.F_below (Kd.C_F (Kd.heap_int .i64) g4) bw)
   clear f0 f1 f2 f3 f4 l2 g2 l4 g4 bw hbig
   have d01:(0<=(n:Int))=True:=eq_true (by omega)
   have dn2:((n:Int)<(l0.length:Int))=True:=eq_true (by omega)
   go_upto_region 13 with (fail)
   obtain ⟨D,P0,P1,p0,p1,hAT,hX8,hND,hGE,hRV⟩:=LP.out.ex
   have X8:=Aside0.mk hX8
   have AT:=Aside0.mk hAT
   have ND:=Aside0.mk hND
   have G8:=Aside0.mk hGE
   have RV:=Aside0.mk hRV
   clear hAT hX8 hND hGE hRV LP
   refine region_cards2 (F:=?F13) 6 (λw'=>Aside0 (Below wr.heap.size wr w'))
    [λv _ _ _=>v = .pointer (some ⟨g,0,none⟩),
    λv _ _ _=>v = .agg #[Value.slice P0 r.b0.length p0,Value.int .i64 r.s0,Value.slice P1 r.b1.length p1,Value.int .i64 r.s1,Value.int .i64 r.room,Value.int .i64 r.stop,Value.bool r.dead],
    λv _ _ _=>v = .slice (some ad) l0.length cl,
    λv _ _ _=>v = .int .i64 (n:Int),
    λv _ _ _=>v = .pointer (some (ad.add (n*5))),
    λv _ _ _=>v = .agg #[.int .i64 st.f0,.int .i64 st.f1,.slice B2 st.f2.length b2,.int .i64 st.f3,.slice B4 st.f4.length b4]]
    (by kernel_rfl) (by kernel_rfl) ?hF13 ?hS013 ?hS13 ?hstay13 ?hsteps13 ?hend13
   case hF13 =>
    intro vs
    simp only [List.take_succ_cons,List.take_zero,fill,if_true,if_false,Act.put,List.setIfInBounds_toArray,List.set_cons_zero,List.set_cons_succ,Nat.reduceAdd,List.contains_cons,List.contains_nil,Nat.reduceBEq,Bool.or_false,Bool.false_or,Bool.not_true,Bool.not_false,Bool.false_eq_true,Bool.or_self,Bool.true_or]
    rfl
   case hS013=>exact ⟨below_drew (Below.refl _ _)⟩
   case hS13=>exact λw1 w2 hb hs=>⟨below_step hs.out hb⟩
   case hstay13=>exact ⟨λ_ _ _ _ _ _ h=>h,λ_ _ _ _ _ _ h=>h,λ_ _ _ _ _ _ h=>h,λ_ _ _ _ _ _ h=>h,λ_ _ _ _ _ _ h=>h,λ_ _ _ _ _ _ h=>h,trivial⟩
   case hsteps13 =>
    refine ⟨?s13_0,?s13_1,?s13_2,?s13_3,?s13_4,?s13_5,trivial⟩
    case s13_0 =>
     intro _ vs lo hi W_ hs hp
     exact does_val (by first|(go_simp;done)|(go_simp;rfl)) ⟨rfl,Below.refl _ _⟩
    case s13_1 =>
     intro _ vs lo hi W_ hs hp
     have X8_:=Aside0.mk (blk_below X8.out hs.out)
     have x0:=(blk_cell X8_.out 0).trans (rfl:_=some (Value.slice P0 r.b0.length p0))
     have x1:=(blk_cell X8_.out 1).trans (rfl:_=some (Value.int .i64 r.s0))
     have x2:=(blk_cell X8_.out 2).trans (rfl:_=some (Value.slice P1 r.b1.length p1))
     have x3:=(blk_cell X8_.out 3).trans (rfl:_=some (Value.int .i64 r.s1))
     have x4:=(blk_cell X8_.out 4).trans (rfl:_=some (Value.int .i64 r.room))
     have x5:=(blk_cell X8_.out 5).trans (rfl:_=some (Value.int .i64 r.stop))
     have x6:=(blk_cell X8_.out 6).trans (rfl:_=some (Value.bool r.dead))
     exact does_val (by first|(go_simp;done)|(go_simp;rfl)) ⟨rfl,Below.refl _ _⟩
    case s13_2 =>
     intro _ vs lo hi W_ hs hp
     exact does_val (by first|(go_simp;done)|(go_simp;rfl)) ⟨rfl,Below.refl _ _⟩
    case s13_3 =>
     intro _ vs lo hi W_ hs hp
     exact does_val (by first|(go_simp;done)|(go_simp;rfl)) ⟨rfl,Below.refl _ _⟩
    case s13_4 =>
     intro _ vs lo hi W_ hs hp
     have e2:vs 2 = .slice (some ad) l0.length cl:=hp 2 (by kernel_rfl) rfl
     have e3:vs 3 = .int .i64 (n:Int):=hp 3 (by kernel_rfl) rfl
     have c01_:(0<=(n:Int))=True:=eq_true (by omega)
     have ci2_:((n:Int)<(l0.length:Int))=True:=eq_true (by omega)
     exact does_val (by first|(go_simp;done)|(go_simp;rfl)) ⟨rfl,Below.refl _ _⟩
    case s13_5 =>
     intro _ vs lo hi W_ hs hp
     have e4:vs 4 = .pointer (some (ad.add (n*5))):=hp 4 (by kernel_rfl) rfl
     have y0:=pw_cell_below hs.out F0.out
     have y1:=pw_cell_below hs.out F1.out
     have y2:=pw_cell_below hs.out F2.out
     have y3:=pw_cell_below hs.out F3.out
     have y4:=pw_cell_below hs.out F4.out
     exact does_val (by first|(go_simp;done)|(go_simp;rfl)) ⟨rfl,Below.refl _ _⟩
   case hend13 =>
   intro vs lo_ hi_ Wc hs hp _
   have e0:vs 0 = .pointer (some ⟨g,0,none⟩):=hp 0 (by decide)
   have e1:vs 1 = .agg #[Value.slice P0 r.b0.length p0,Value.int .i64 r.s0,Value.slice P1 r.b1.length p1,Value.int .i64 r.s1,Value.int .i64 r.room,Value.int .i64 r.stop,Value.bool r.dead]:=hp 1 (by decide)
   have e5:vs 5 = .agg #[.int .i64 st.f0,.int .i64 st.f1,.slice B2 st.f2.length b2,.int .i64 st.f3,.slice B4 st.f4.length b4]:=hp 5 (by decide)
   rw [e0,e1,e5]
   have hbc:=hs.out
   obtain ⟨q0,q1,hraw⟩:=AT.out.on hbc
   have x8:=blk_below X8.out hbc
   have lt8:=blk_lt X8.out
   have av:∀ k,k<w.heap.size->¬ (D k\/k=b8):=λk hk q=>by
    have h1:=HB.out.size
    rcases q with q|q
    ·have:=AT.out.ge k q;omega
    ·have:=G8.out;omega
   have hDo:=lawDoAll hraw (λk=>k=b8) (λk hk=>by have:=hbc.size;omega) (RV.out.step (Step.of_below hbc)) GD.out GR.out st.f1 st.f3 B2 B4 st.f2.length b2 st.f4.length b4 st.f2 st.f4 rfl L2.out (Kd.F_mono (Kd.F_below R2.out hbc) av) HBIG.out rfl (Kd.F_mono (Kd.F_below R4.out hbc) av) st.f0
   have HDO:=Aside0.mk hDo
   clear X8
   have X8:=Aside0.mk x8
   clear hDo x8 lt8 av hraw hs hbc e0 e1 e5 hp
   refine any_does (i:=6) (N:=some 51) rfl rfl (by kernel_rfl) rfl ?_
   refine does_call Try.func18 (by kernel_rfl) rfl #[.pointer (some ⟨g,0,none⟩),.agg #[Value.slice P0 r.b0.length p0,Value.int .i64 r.s0,Value.slice P1 r.b1.length p1,Value.int .i64 r.s1,Value.int .i64 r.room,Value.int .i64 r.stop,Value.bool r.dead],.agg #[.int .i64 st.f0,.int .i64 st.f1,.slice B2 st.f2.length b2,.int .i64 st.f3,.slice B4 st.f4.length b4]] rfl rfl (by simp only [List.map_toArray,List.map_cons,List.map_nil];first|rfl|(go_simp;done)|(simp [Act.eval];done)) ?_
   refine Calls.mono HDO.out ?_
   rintro e w5 ⟨v,t,rfl,D',hat,his,hst⟩
   refine ⟨_,rfl,?_⟩
   obtain ⟨Q0,Q1,q0,q1,ev,hv⟩:=his
   obtain ⟨r1,hr1⟩:∃ r1,r1=r.doing st.f0 st.f1 st.f2 st.f3 st.f4:=⟨_,rfl⟩
   rw [<-hr1] at ev hv
   subst ev
   have R1:=Aside0.mk hr1
   have AT5:=Aside0.mk hat
   have HB5:=Aside0.mk hat.below
   have RV5:=Aside0.mk hv
   have x8:=hst.blk X8.out ND.out
   have ND5:=Aside0.mk x8.2
   clear X8
   have X8:=Aside0.mk x8.1
   clear x8 hat hst hv hr1 HDO
   have z0:=(blk_cell X8.out 0).trans (rfl:_=some (Value.slice P0 r.b0.length p0))
   have z1:=(blk_cell X8.out 1).trans (rfl:_=some (Value.int .i64 r.s0))
   have z2:=(blk_cell X8.out 2).trans (rfl:_=some (Value.slice P1 r.b1.length p1))
   have z3:=(blk_cell X8.out 3).trans (rfl:_=some (Value.int .i64 r.s1))
   have z4:=(blk_cell X8.out 4).trans (rfl:_=some (Value.int .i64 r.room))
   have z5:=(blk_cell X8.out 5).trans (rfl:_=some (Value.int .i64 r.stop))
   have z6:=(blk_cell X8.out 6).trans (rfl:_=some (Value.bool r.dead))
   have f0:=blk_frozen X8.out 0
   have f1:=blk_frozen X8.out 1
   have f2:=blk_frozen X8.out 2
   have f3:=blk_frozen X8.out 3
   have f4:=blk_frozen X8.out 4
   have f5:=blk_frozen X8.out 5
   have f6:=blk_frozen X8.out 6
   refine any_does (i:=7) (N:=some 44) rfl rfl (by kernel_rfl) rfl ?_
   refine does_val (v:=.tuple #[dkV Q0 Q1 q0 q1 r1,.bool t]) (w1:=w5) (by first|(go_simp;done)|(go_simp;rfl)) ?_
   refine take_pre (i:=8) (N:=some 52) (v:=dkV Q0 Q1 q0 q1 r1) rfl rfl (by kernel_rfl) (by kernel_rfl) (by kernel_rfl) (λ_ _ _ h=>h) (by rfl) ?_ ?_
   ·intro w_
    first|(go_simp;done)|(go_simp;rfl)
   refine take_pre (i:=9) (N:=some 53) (v:=.bool t) rfl rfl (by kernel_rfl) (by kernel_rfl) (by kernel_rfl) (λ_ _ _ h=>h) (by rfl) ?_ ?_
   ·intro w_
    first|(go_simp;done)|(go_simp;rfl)
   refine wpAny_of_path [10] (_ :: []) _ _ _ rfl (by kernel_rfl) ?_
   (try simp only [List.getElem_toArray,List.getElem_cons_succ,List.getElem_cons_zero])
   (try simp only [Act.put,List.setIfInBounds_toArray,List.set_cons_zero,List.set_cons_succ])
   go_wp2_with (first|((with_reducible refine store_event (t:=43) (p:=10) rfl rfl rfl (w1:=(((((((w5.setCell ⟨b8,0,none⟩ (Value.slice Q0 r1.b0.length q0)).setCell ⟨b8,1,none⟩ (Value.int .i64 r1.s0)).setCell ⟨b8,2,none⟩ (Value.slice Q1 r1.b1.length q1)).setCell ⟨b8,3,none⟩ (Value.int .i64 r1.s1)).setCell ⟨b8,4,none⟩ (Value.int .i64 r1.room)).setCell ⟨b8,5,none⟩ (Value.int .i64 r1.stop)).setCell ⟨b8,6,none⟩ (Value.bool r1.dead))) ?hrun ?_);(case hrun=>first|(go_simp;done)|(go_simp;rfl));intro w7 hw7;have Y8:=Aside0.mk (show w7.heap[b8]? = some (.cells #[Value.slice Q0 r1.b0.length q0,Value.int .i64 r1.s0,Value.slice Q1 r1.b1.length q1,Value.int .i64 r1.s1,Value.int .i64 r1.room,Value.int .i64 r1.stop,Value.bool r1.dead] 43 (0,0)) by rw [hw7];exact(blk_put ((blk_put ((blk_put ((blk_put ((blk_put ((blk_put ((blk_put (X8.out) 0 (Value.slice Q0 r1.b0.length q0) rfl)) 1 (Value.int .i64 r1.s0) rfl)) 2 (Value.slice Q1 r1.b1.length q1) rfl)) 3 (Value.int .i64 r1.s1) rfl)) 4 (Value.int .i64 r1.room) rfl)) 5 (Value.int .i64 r1.stop) rfl)) 6 (Value.bool r1.dead) rfl));have SZ7:=Aside0.mk (show w7.heap.size=w5.heap.size by rw [hw7];simp only [size_set]);have BB7:=Aside0.mk (show Below w1.heap.size w1 w7 by rw [hw7];exact(below_set ((below_set ((below_set ((below_set ((below_set ((below_set ((below_set (HB5.out) G8.out)) G8.out)) G8.out)) G8.out)) G8.out)) G8.out)) G8.out));have CH7:=Aside0.mk (show ∀ k,k≠b8->w7.heap[k]? = w5.heap[k]? from λk hk=>by rw [hw7];exact((Below.heap_setCell ((((((w5.setCell ⟨b8,0,none⟩ (Value.slice Q0 r1.b0.length q0)).setCell ⟨b8,1,none⟩ (Value.int .i64 r1.s0)).setCell ⟨b8,2,none⟩ (Value.slice Q1 r1.b1.length q1)).setCell ⟨b8,3,none⟩ (Value.int .i64 r1.s1)).setCell ⟨b8,4,none⟩ (Value.int .i64 r1.room)).setCell ⟨b8,5,none⟩ (Value.int .i64 r1.stop)) ⟨b8,6,none⟩ (Value.bool r1.dead) k hk).trans (((Below.heap_setCell (((((w5.setCell ⟨b8,0,none⟩ (Value.slice Q0 r1.b0.length q0)).setCell ⟨b8,1,none⟩ (Value.int .i64 r1.s0)).setCell ⟨b8,2,none⟩ (Value.slice Q1 r1.b1.length q1)).setCell ⟨b8,3,none⟩ (Value.int .i64 r1.s1)).setCell ⟨b8,4,none⟩ (Value.int .i64 r1.room)) ⟨b8,5,none⟩ (Value.int .i64 r1.stop) k hk).trans (((Below.heap_setCell ((((w5.setCell ⟨b8,0,none⟩ (Value.slice Q0 r1.b0.length q0)).setCell ⟨b8,1,none⟩ (Value.int .i64 r1.s0)).setCell ⟨b8,2,none⟩ (Value.slice Q1 r1.b1.length q1)).setCell ⟨b8,3,none⟩ (Value.int .i64 r1.s1)) ⟨b8,4,none⟩ (Value.int .i64 r1.room) k hk).trans (((Below.heap_setCell (((w5.setCell ⟨b8,0,none⟩ (Value.slice Q0 r1.b0.length q0)).setCell ⟨b8,1,none⟩ (Value.int .i64 r1.s0)).setCell ⟨b8,2,none⟩ (Value.slice Q1 r1.b1.length q1)) ⟨b8,3,none⟩ (Value.int .i64 r1.s1) k hk).trans (((Below.heap_setCell ((w5.setCell ⟨b8,0,none⟩ (Value.slice Q0 r1.b0.length q0)).setCell ⟨b8,1,none⟩ (Value.int .i64 r1.s0)) ⟨b8,2,none⟩ (Value.slice Q1 r1.b1.length q1) k hk).trans (((Below.heap_setCell (w5.setCell ⟨b8,0,none⟩ (Value.slice Q0 r1.b0.length q0)) ⟨b8,1,none⟩ (Value.int .i64 r1.s0) k hk).trans (((Below.heap_setCell w5 ⟨b8,0,none⟩ (Value.slice Q0 r1.b0.length q0) k hk).trans (rfl)))))))))))))));clear hw7))
   go_roundg (l0.length - (n+1))
   case measure=>omega
   case rel =>
    obtain ⟨q0',q1',hraw⟩:=AT5.out
    refine ⟨n+1,d.doing st.f0 st.f1 st.f2 st.f3 st.f4,r1,by first|(rw [Int.natCast_add];rfl)|rw [show wrap64 ((n:Int)+1)=((n+1:Nat):Int) by unfold wrap64;omega],by omega,⟨GD.out.doing _ _ _ _ _⟩,⟨by rw [R1.out];exact GR.out.doing _ _ _ _ _⟩,⟨⟨D',Q0,Q1,q0,q1,⟨q0',q1',hraw.move BB7.out (by have:=SZ7.out;omega) (λk hk=>CH7.out k (λe=>ND5.out (e ▸ hk)))⟩,Y8.out,ND5.out,G8.out,RV5.out.move (λk hk _=>CH7.out k (λe=>hk (.inr e)))⟩⟩⟩
  have cn:decide ((n:Int)<(l0.length:Int))=false:=decide_eq_false (by omega)
  obtain ⟨D,P0,P1,p0,p1,⟨q0,q1,hraw⟩,hRE⟩:=LP.out.ex
  have HC:=Aside0.mk (crash_calls hraw GD.out none 0 0 [] rfl (Kd.F_nil _ _ _))
  have RE:=Aside0.mk hRE
  clear hraw hRE q0 q1 LP cn
  go_upto_region 15 with (first|(go_at_call 19;(with_reducible refine Calls.mono HC.out ?_);rintro e w7 ⟨rfl,D',hat,hst⟩;have LP:=Aside0.mk (Loop.step RE.out hat hst);clear hat hst RE HC))
  have GD1:=Aside0.mk (GD.out.crash [])
  have ca:=Dk.crash_app (d:=d) [] [7,8,9] 1
  have bl:=below_alloc (Below.refl w7.heap.size w7) (.cells (nums .u8 [7,8,9]).toArray 5)
  obtain ⟨D2,P2,P3,p2,p3,⟨q0,q1,hraw0⟩,hX8,hND,hGE,hRV⟩:=LP.out.ex
  have hltD:∀ k,D2 k->k<w7.heap.size:=hraw0.lt
  have hraw:=hraw0.on bl
  have hRE:=@And.intro _ _ (blk_below hX8 bl) (@And.intro _ _ hND (@And.intro _ _ hGE (hRV.step (Step.of_below bl))))
  have hc:Calls Try.prog 20 #[.pointer (some ⟨g,0,none⟩),.int .i64 1,.slice (some ⟨w7.heap.size,0,none⟩) 3 3] (w7.alloc (.cells #[.int .u8 7,.int .u8 8,.int .u8 9] 5)) _:=append_calls hraw 1 (some ⟨w7.heap.size,0,none⟩) 3 3 [7,8,9] rfl (lit_F [7,8,9] (by decide) hltD) (by decide) GD1.out
  have HC:=Aside0.mk hc
  have RE:=Aside0.mk hRE
  obtain ⟨d3,hd3⟩:∃ d3,d3=((d.crash []).app 1 [7,8,9]).1:=⟨_,rfl⟩
  have G3:=Aside0.mk (show d3.Good by rw [hd3];exact GD1.out.app 1 [7,8,9])
  rw [<-hd3] at HC ca
  have CA:=Aside0.mk ca
  clear hc hraw hRE hraw0 hX8 hND hGE hRV hltD LP bl ca hd3 GD1 q0 q1
  go_upto_region 16 with (first|(go_at_call 20;(with_reducible refine Calls.mono HC.out ?_);rintro e w8 ⟨rfl,D',hat,hst⟩;have LP:=Aside0.mk (Loop.step RE.out hat hst);clear hat hst RE HC))
  have hwi:d3.why 1=0:=Dk.why_ok CA.out.1 (by omega)
  obtain ⟨D3,P4,P5,p4,p5,⟨q0,q1,hraw⟩,hRE⟩:=LP.out.ex
  have hc:=read_calls hraw G3.out 1
  rw [hwi,if_pos rfl] at hc
  obtain ⟨b,hb_⟩:∃ b,b=d3.row 1:=⟨_,rfl⟩
  rw [<-hb_] at hc
  have BB:=Aside0.mk hb_
  have HC:=Aside0.mk hc
  have RE:=Aside0.mk hRE
  have AT:=Aside0.mk (show At w1 w8 g D3 d3 from ⟨_,_,hraw⟩)
  clear hc hraw hRE hb_ hwi LP q0 q1
  go_upto_region 17 with (first|(go_at_call 21;(with_reducible refine Calls.mono HC.out ?_);rintro e w9 ⟨v,rfl,hv,hb⟩;obtain ⟨Ab,cb,er⟩:=Kd.R_slice hv;subst er;have fb:=F_fresh (D:=λk=>D3 k\/k=b8) (W:=w9) (v:=.bool true) hv (λk hk=>by rcases hk with h1|h1;exact AT.out.lt k h1;have:=blk_lt RE.out.1;omega);have FB:=Aside0.mk fb.2.2;have LB:=Aside0.mk fb.2.1;have re:=(show _/\¬ D3 b8/\_/\_ from ⟨blk_below RE.out.1 hb,RE.out.2.1,RE.out.2.2.1,RE.out.2.2.2.step (Step.of_below hb)⟩);have at9:=AT.out.on hb;clear RE AT HC hv hb fb;have RE:=Aside0.mk re;have AT:=Aside0.mk at9;clear re at9))
  obtain ⟨q0,q1,hraw⟩:=AT.out
  have hc:=sync_calls hraw 1
  have sh:=Dk.syn_has (d:=d3) (i:=1) (by omega) CA.out.1 CA.out.2
  rw [sh.1] at hc
  obtain ⟨d4,hd4⟩:∃ d4,d4=(d3.syn 1).1:=⟨_,rfl⟩
  rw [<-hd4] at hc sh
  have G4:=Aside0.mk (show d4.Good by rw [hd4];exact G3.out.syn 1)
  have H4:=Aside0.mk (show d4.Has 1 b by rw [BB.out];exact sh.2)
  have LBB:=Aside0.mk (show(b.length:Int)<=1048576 by rw [BB.out];unfold Dk.row;split;exact G3.out.len0;exact G3.out.len1)
  have HC:=Aside0.mk hc
  clear hc hraw sh hd4 q0 q1
  go_upto_region 19 with (first|(go_at_call 22;(with_reducible refine Calls.mono HC.out ?_);rintro e w10 ⟨rfl,D',hat,hst⟩;have LP:=Aside0.mk (Loop.step2 RE.out FB.out hat hst);clear hat hst RE HC FB AT))
  clear BB CA G3 GD
  go_wp2
  go_loopg [14] l1.length (λkn_ v14 wx=>∃ (n:Nat) (d r:Dk),v14 = .int .i64 (n:Int)/\n+kn_=l1.length/\Aside0 d.Good/\Aside0 r.Good/\Aside0 (d.Has 1 b)/\Aside0 (Loop2 w1 wx g b8 d r Ab b))
  case atStart=>exact ⟨0,d4,r,rfl,by omega,G4,GR,H4,LP⟩
  case round =>
  clear LP G4 H4 GR hn
  obtain ⟨n,d,r,rfl,hnk,GD,GR,HAS,LP⟩:=hrel
  by_cases hn:n<l1.length
  case neg =>
   have cn:decide ((n:Int)<(l1.length:Int))=false:=decide_eq_false (by omega)
   obtain ⟨D,P0,P1,p0,p1,⟨q0,q1,hraw⟩,hX8,hND,hGE,hRV,hBF⟩:=LP.out.ex
   have HC:=Aside0.mk (crash_calls hraw GD.out none 0 0 [] rfl (Kd.F_nil _ _ _))
   have BF:=Aside0.mk hBF
   clear hraw hX8 hND hGE hRV hBF q0 q1 LP
   go_upto_region 26 with (first|(go_at_call 19;(with_reducible refine Calls.mono HC.out ?_);rintro e w7 ⟨rfl,D',hat,hst⟩;have AT:=Aside0.mk hat;have bf:=Kd.F_now (Kd.F_step (Kd.F_bound BF.out) (λk hk hlt=>hst.block k hlt (λq=>hk.1 (.inl q))));clear BF;have BF:=Aside0.mk bf;clear bf hat hst HC))
   have hh:=Dk.has_crash GD.out (j:=1) (by omega) HAS.out []
   have GC:=Aside0.mk (GD.out.crash [])
   have hw:(d.crash []).why 1=0:=Dk.why_ok rfl (by omega)
   obtain ⟨q0,q1,hraw⟩:=AT.out
   have hc:=read_calls hraw GC.out 1
   rw [hw,if_pos rfl] at hc
   obtain ⟨c,hcc⟩:∃ c,c=(d.crash []).row 1:=⟨_,rfl⟩
   rw [<-hcc] at hc
   have hpre:b <+: c:=by rw [hcc];exact hh.1
   have ha7:Below w1.heap.size w1 w7:=AT.out.below
   have A7:=Aside0.mk ha7
   have PRE:=Aside0.mk hpre
   have HC:=Aside0.mk hc
   clear hc hraw hh hw hcc hpre ha7 q0 q1 AT
   go_upto_region 27 with (first|(go_at_call 21;(with_reducible refine Calls.mono HC.out ?_);rintro e w8 ⟨v,rfl,hv,hb⟩;obtain ⟨Ac,cc,er⟩:=Kd.R_slice hv;subst er;have RC:=Aside0.mk (Kd.R_take hv PRE.out.length_le);have LC:=Aside0.mk (Kd.R_reads' hv).2.1;have bf:=Kd.C_below BF.out hb;have a8:=below_step A7.out hb;clear BF A7 HC hv hb;have BF:=Aside0.mk bf;have A8:=Aside0.mk a8;clear bf a8))
   have et:c.take b.length=b:=by have h_:=PRE.out;rw [List.prefix_iff_eq_take] at h_;exact h_.symm
   have rc:=Kd.R_reads' RC.out
   rw [et] at rc
   have g1:decide ((c.length:Int)>=(b.length:Int))=true:=decide_eq_true (by have:=PRE.out.length_le;omega)
   have g2:decide ((b.length:Int)<=(c.length:Int))=true:=decide_eq_true (by have:=PRE.out.length_le;omega)
   have g3:(b.length<=c.length)=True:=eq_true PRE.out.length_le
   have g4:(b.length<=cc)=True:=eq_true (Nat.le_trans PRE.out.length_le LC.out)
   have hby:∀ W,Below w8.heap.size w8 W->Calls Try.prog 23 #[.slice Ac b.length cc,.slice Ab b.length cb] W λe w'=>e = .returned (.bool true)/\Below W.heap.size W w':=λW hW=>(r02_Bytes.calls _ Ac cc b Ab cb b true W (Kd.C_below rc.2.2 hW) rc.2.1 (Kd.C_below BF.out hW) LB.out (bytes_same b (by have:=LBB.out;omega))).mono λe w' h_=>⟨h_.1,h_.2.below⟩
   have HBY:=Aside0.mk hby
   clear hby rc et RC
   go_wp2_with (first|(go_at_call 23;(with_reducible refine Calls.mono (HBY.out w8 (Below.refl _ _)) ?_);rintro e w9 ⟨rfl,hb⟩;have B9:=Aside0.mk hb;clear hb)|(go_at_call 15;refine(awake_calls _).mono ?_;rintro e w10 ⟨rfl,hb⟩;have B10:=Aside0.mk (below_step B9.out hb);clear hb))
   go_ret
   exact ⟨rfl,below_step HB.out (below_step A8.out B10.out)⟩
  have cn:decide ((n:Int)<(l1.length:Int))=true:=decide_eq_true (by omega)
  have hmem:rd_T49 l1 (n:Int) ∈ l1:=by unfold rd_T49;rw [Int.toNat_natCast,List.getD_eq_getElem?_getD,List.getElem?_eq_getElem hn,Option.getD_some];exact List.getElem_mem _
  obtain ⟨ad,B2,b2,B4,b4,e_,f0,f1,f2,f3,f4,l2,g2,l4,g4⟩:=at_T49 HR1.out (n:Int) (by omega) (by omega)
  subst e_
  have hbig:=HLE1.out _ hmem
  rw [Int.toNat_natCast] at f0 f1 f2 f3 f4
  generalize rd_T49 l1 (n:Int)=st at f0 f1 f2 f3 f4 l2 g2 l4 g4 hbig
  clear hmem
  have bw:=below_step HB.out LP.out.below
  have BW:=Aside0.mk bw
  have F0:=Aside0.mk (pw_cell_below bw f0)
  have F1:=Aside0.mk (pw_cell_below bw f1)
  have F2:=Aside0.mk (pw_cell_below bw f2)
  have F3:=Aside0.mk (pw_cell_below bw f3)
  have F4:=Aside0.mk (pw_cell_below bw f4)
  have L2:=Aside0.mk l2
  have HBIG:=Aside0.mk hbig
  have R2:=Aside0.mk (Kd.F_below (Kd.C_F (Kd.heap_int .u8) g2) bw)
  have R4:=Aside0.mk (Kd.F_below (Kd.C_F (Kd.heap_int .i64) g4) bw)
  clear f0 f1 f2 f3 f4 l2 g2 l4 g4 bw hbig
  have y0:=F0.out
  have y1:=F1.out
  have d01:(0<=(n:Int))=True:=eq_true (by omega)
  have dn2:((n:Int)<(l1.length:Int))=True:=eq_true (by omega)
  have two:(st.f0=1/\st.f1=1)\/¬ (st.f0=1/\st.f1=1):=by omega
  rcases two with two|two
  ·obtain ⟨t1,t2⟩:=two
   have o1:(st.f0 == 1)=true:=beq_iff_eq.2 t1
   have o2:(st.f1 == 1)=true:=beq_iff_eq.2 t2
   have BL:=Aside0.mk LP.out.below
   clear t1 t2
   go_wp2_with (first|(go_at_call 15;refine(awake_calls _).mono ?_;rintro e w10 ⟨rfl,hb⟩;have B10:=Aside0.mk hb;clear hb))
   go_ret
   exact ⟨rfl,below_step HB.out (below_step BL.out B10.out)⟩
  have TWO:=Aside0.mk two
  have three:(∃ bb:Bool,(st.f0 == 1)=bb):=⟨_,rfl⟩
  have tw1:(st.f0 == 1)=true->(st.f1 == 1)=false:=λh=>beq_eq_false_iff_ne.2 (λh2=>two ⟨beq_iff_eq.1 h,h2⟩)
  have TW1:=Aside0.mk tw1
  clear two three tw1
  go_upto_region 22 with (fail)
  go_cut [94] (λv94 wx=>v94 = .bool false/\wr=wx)
  case first =>
   by_cases q:(st.f0 == 1)=true
   ·have q2:=TW1.out q
    go_wp2
    go_meet
    exact ⟨rfl,rfl⟩
   ·have q2:(st.f0 == 1)=false:=by simpa using q
    clear q
    go_wp2
    go_meet
    exact ⟨rfl,rfl⟩
  case rest =>
  obtain ⟨e94,ew⟩:=hcut
  subst e94
  subst ew
  clear y0 y1
  go_upto_region 24 with (fail)
  obtain ⟨D,P0,P1,p0,p1,hAT,hX8,hND,hGE,hRV,hBF⟩:=LP.out.ex
  have BF:=Aside0.mk hBF
  clear hBF
  have X8:=Aside0.mk hX8
  have AT:=Aside0.mk hAT
  have ND:=Aside0.mk hND
  have G8:=Aside0.mk hGE
  have RV:=Aside0.mk hRV
  clear hAT hX8 hND hGE hRV LP
  refine region_cards2 (F:=?F24) 6 (λw'=>Aside0 (Below wr.heap.size wr w'))
   [λv _ _ _=>v = .pointer (some ⟨g,0,none⟩),
   λv _ _ _=>v = .agg #[Value.slice P0 r.b0.length p0,Value.int .i64 r.s0,Value.slice P1 r.b1.length p1,Value.int .i64 r.s1,Value.int .i64 r.room,Value.int .i64 r.stop,Value.bool r.dead],
   λv _ _ _=>v = .slice (some ad) l1.length cm,
   λv _ _ _=>v = .int .i64 (n:Int),
   λv _ _ _=>v = .pointer (some (ad.add (n*5))),
   λv _ _ _=>v = .agg #[.int .i64 st.f0,.int .i64 st.f1,.slice B2 st.f2.length b2,.int .i64 st.f3,.slice B4 st.f4.length b4]]
   (by kernel_rfl) (by kernel_rfl) ?hF24 ?hS024 ?hS24 ?hstay24 ?hsteps24 ?hend24
  case hF24 =>
   intro vs
   simp only [List.take_succ_cons,List.take_zero,fill,if_true,if_false,Act.put,List.setIfInBounds_toArray,List.set_cons_zero,List.set_cons_succ,Nat.reduceAdd,List.contains_cons,List.contains_nil,Nat.reduceBEq,Bool.or_false,Bool.false_or,Bool.not_true,Bool.not_false,Bool.false_eq_true,Bool.or_self,Bool.true_or]
   rfl
  case hS024=>exact ⟨below_drew (Below.refl _ _)⟩
  case hS24=>exact λw1 w2 hb hs=>⟨below_step hs.out hb⟩
  case hstay24=>exact ⟨λ_ _ _ _ _ _ h=>h,λ_ _ _ _ _ _ h=>h,λ_ _ _ _ _ _ h=>h,λ_ _ _ _ _ _ h=>h,λ_ _ _ _ _ _ h=>h,λ_ _ _ _ _ _ h=>h,trivial⟩
  case hsteps24 =>
   refine ⟨?s24_0,?s24_1,?s24_2,?s24_3,?s24_4,?s24_5,trivial⟩
   case s24_0 =>
    intro _ vs lo hi W_ hs hp
    exact does_val (by first|(go_simp;done)|(go_simp;rfl)) ⟨rfl,Below.refl _ _⟩
   case s24_1 =>
    intro _ vs lo hi W_ hs hp
    have X8_:=Aside0.mk (blk_below X8.out hs.out)
    have x0:=(blk_cell X8_.out 0).trans (rfl:_=some (Value.slice P0 r.b0.length p0))
    have x1:=(blk_cell X8_.out 1).trans (rfl:_=some (Value.int .i64 r.s0))
    have x2:=(blk_cell X8_.out 2).trans (rfl:_=some (Value.slice P1 r.b1.length p1))
    have x3:=(blk_cell X8_.out 3).trans (rfl:_=some (Value.int .i64 r.s1))
    have x4:=(blk_cell X8_.out 4).trans (rfl:_=some (Value.int .i64 r.room))
    have x5:=(blk_cell X8_.out 5).trans (rfl:_=some (Value.int .i64 r.stop))
    have x6:=(blk_cell X8_.out 6).trans (rfl:_=some (Value.bool r.dead))
    exact does_val (by first|(go_simp;done)|(go_simp;rfl)) ⟨rfl,Below.refl _ _⟩
   case s24_2 =>
    intro _ vs lo hi W_ hs hp
    exact does_val (by first|(go_simp;done)|(go_simp;rfl)) ⟨rfl,Below.refl _ _⟩
   case s24_3 =>
    intro _ vs lo hi W_ hs hp
    exact does_val (by first|(go_simp;done)|(go_simp;rfl)) ⟨rfl,Below.refl _ _⟩
   case s24_4 =>
    intro _ vs lo hi W_ hs hp
    have e2:vs 2 = .slice (some ad) l1.length cm:=hp 2 (by kernel_rfl) rfl
    have e3:vs 3 = .int .i64 (n:Int):=hp 3 (by kernel_rfl) rfl
    have c01_:(0<=(n:Int))=True:=eq_true (by omega)
    have ci2_:((n:Int)<(l1.length:Int))=True:=eq_true (by omega)
    exact does_val (by first|(go_simp;done)|(go_simp;rfl)) ⟨rfl,Below.refl _ _⟩
   case s24_5 =>
    intro _ vs lo hi W_ hs hp
    have e4:vs 4 = .pointer (some (ad.add (n*5))):=hp 4 (by kernel_rfl) rfl
    have y0:=pw_cell_below hs.out F0.out
    have y1:=pw_cell_below hs.out F1.out
    have y2:=pw_cell_below hs.out F2.out
    have y3:=pw_cell_below hs.out F3.out
    have y4:=pw_cell_below hs.out F4.out
    exact does_val (by first|(go_simp;done)|(go_simp;rfl)) ⟨rfl,Below.refl _ _⟩
  case hend24 =>
  intro vs lo_ hi_ Wc hs hp _
  have e0:vs 0 = .pointer (some ⟨g,0,none⟩):=hp 0 (by decide)
  have e1:vs 1 = .agg #[Value.slice P0 r.b0.length p0,Value.int .i64 r.s0,Value.slice P1 r.b1.length p1,Value.int .i64 r.s1,Value.int .i64 r.room,Value.int .i64 r.stop,Value.bool r.dead]:=hp 1 (by decide)
  have e5:vs 5 = .agg #[.int .i64 st.f0,.int .i64 st.f1,.slice B2 st.f2.length b2,.int .i64 st.f3,.slice B4 st.f4.length b4]:=hp 5 (by decide)
  rw [e0,e1,e5]
  have hbc:=hs.out
  obtain ⟨q0,q1,hraw⟩:=AT.out.on hbc
  have x8:=blk_below X8.out hbc
  have lt8:=blk_lt X8.out
  have av:∀ k,k<w.heap.size->¬ (D k\/k=b8):=λk hk q=>by
   have h1:=HB.out.size
   rcases q with q|q
   ·have:=AT.out.ge k q;omega
   ·have:=G8.out;omega
  have hDo:=lawDoAll hraw (λk=>k=b8) (λk hk=>by have:=hbc.size;omega) (RV.out.step (Step.of_below hbc)) GD.out GR.out st.f1 st.f3 B2 B4 st.f2.length b2 st.f4.length b4 st.f2 st.f4 rfl L2.out (Kd.F_mono (Kd.F_below R2.out hbc) av) HBIG.out rfl (Kd.F_mono (Kd.F_below R4.out hbc) av) st.f0
  have HDO:=Aside0.mk hDo
  clear X8
  have X8:=Aside0.mk x8
  have bf:=Kd.F_below BF.out hbc
  clear BF
  have BF:=Aside0.mk bf
  clear bf
  clear hDo x8 lt8 av hraw hs hbc e0 e1 e5 hp
  refine any_does (i:=6) (N:=some 103) rfl rfl (by kernel_rfl) rfl ?_
  refine does_call Try.func18 (by kernel_rfl) rfl #[.pointer (some ⟨g,0,none⟩),.agg #[Value.slice P0 r.b0.length p0,Value.int .i64 r.s0,Value.slice P1 r.b1.length p1,Value.int .i64 r.s1,Value.int .i64 r.room,Value.int .i64 r.stop,Value.bool r.dead],.agg #[.int .i64 st.f0,.int .i64 st.f1,.slice B2 st.f2.length b2,.int .i64 st.f3,.slice B4 st.f4.length b4]] rfl rfl (by simp only [List.map_toArray,List.map_cons,List.map_nil];first|rfl|(go_simp;done)|(simp [Act.eval];done)) ?_
  refine Calls.mono HDO.out ?_
  rintro e w5 ⟨v,t,rfl,D',hat,his,hst⟩
  refine ⟨_,rfl,?_⟩
  obtain ⟨Q0,Q1,q0,q1,ev,hv⟩:=his
  obtain ⟨r1,hr1⟩:∃ r1,r1=r.doing st.f0 st.f1 st.f2 st.f3 st.f4:=⟨_,rfl⟩
  rw [<-hr1] at ev hv
  subst ev
  have R1:=Aside0.mk hr1
  have AT5:=Aside0.mk hat
  have HB5:=Aside0.mk hat.below
  have RV5:=Aside0.mk hv
  have x8:=hst.blk X8.out ND.out
  have ND5:=Aside0.mk x8.2
  clear X8
  have X8:=Aside0.mk x8.1
  have bf5:Kd.F U8 w5 (λk=>¬ (D' k\/k=b8)) Ab b.length b:=Kd.F_mono (foot_wide (X:=λk=>k=b8) (m:=0) BF.out hst) (λk hk q=>hk (by rcases q with q|q;exact .inl q;exact .inr (.inl q)))
  have BF5:=Aside0.mk bf5
  clear bf5
  clear x8 hat hst hv hr1 HDO
  have z0:=(blk_cell X8.out 0).trans (rfl:_=some (Value.slice P0 r.b0.length p0))
  have z1:=(blk_cell X8.out 1).trans (rfl:_=some (Value.int .i64 r.s0))
  have z2:=(blk_cell X8.out 2).trans (rfl:_=some (Value.slice P1 r.b1.length p1))
  have z3:=(blk_cell X8.out 3).trans (rfl:_=some (Value.int .i64 r.s1))
  have z4:=(blk_cell X8.out 4).trans (rfl:_=some (Value.int .i64 r.room))
  have z5:=(blk_cell X8.out 5).trans (rfl:_=some (Value.int .i64 r.stop))
  have z6:=(blk_cell X8.out 6).trans (rfl:_=some (Value.bool r.dead))
  have f0:=blk_frozen X8.out 0
  have f1:=blk_frozen X8.out 1
  have f2:=blk_frozen X8.out 2
  have f3:=blk_frozen X8.out 3
  have f4:=blk_frozen X8.out 4
  have f5:=blk_frozen X8.out 5
  have f6:=blk_frozen X8.out 6
  refine any_does (i:=7) (N:=some 96) rfl rfl (by kernel_rfl) rfl ?_
  refine does_val (v:=.tuple #[dkV Q0 Q1 q0 q1 r1,.bool t]) (w1:=w5) (by first|(go_simp;done)|(go_simp;rfl)) ?_
  refine take_pre (i:=8) (N:=some 104) (v:=dkV Q0 Q1 q0 q1 r1) rfl rfl (by kernel_rfl) (by kernel_rfl) (by kernel_rfl) (λ_ _ _ h=>h) (by rfl) ?_ ?_
  ·intro w_
   first|(go_simp;done)|(go_simp;rfl)
  refine take_pre (i:=9) (N:=some 105) (v:=.bool t) rfl rfl (by kernel_rfl) (by kernel_rfl) (by kernel_rfl) (λ_ _ _ h=>h) (by rfl) ?_ ?_
  ·intro w_
   first|(go_simp;done)|(go_simp;rfl)
  refine wpAny_of_path [10] (_ :: []) _ _ _ rfl (by kernel_rfl) ?_
  (try simp only [List.getElem_toArray,List.getElem_cons_succ,List.getElem_cons_zero])
  (try simp only [Act.put,List.setIfInBounds_toArray,List.set_cons_zero,List.set_cons_succ])
  go_wp2_with (first|((with_reducible refine store_event (t:=43) (p:=10) rfl rfl rfl (w1:=(((((((w5.setCell ⟨b8,0,none⟩ (Value.slice Q0 r1.b0.length q0)).setCell ⟨b8,1,none⟩ (Value.int .i64 r1.s0)).setCell ⟨b8,2,none⟩ (Value.slice Q1 r1.b1.length q1)).setCell ⟨b8,3,none⟩ (Value.int .i64 r1.s1)).setCell ⟨b8,4,none⟩ (Value.int .i64 r1.room)).setCell ⟨b8,5,none⟩ (Value.int .i64 r1.stop)).setCell ⟨b8,6,none⟩ (Value.bool r1.dead))) ?hrun ?_);(case hrun=>first|(go_simp;done)|(go_simp;rfl));intro w7 hw7;have Y8:=Aside0.mk (show w7.heap[b8]? = some (.cells #[Value.slice Q0 r1.b0.length q0,Value.int .i64 r1.s0,Value.slice Q1 r1.b1.length q1,Value.int .i64 r1.s1,Value.int .i64 r1.room,Value.int .i64 r1.stop,Value.bool r1.dead] 43 (0,0)) by rw [hw7];exact(blk_put ((blk_put ((blk_put ((blk_put ((blk_put ((blk_put ((blk_put (X8.out) 0 (Value.slice Q0 r1.b0.length q0) rfl)) 1 (Value.int .i64 r1.s0) rfl)) 2 (Value.slice Q1 r1.b1.length q1) rfl)) 3 (Value.int .i64 r1.s1) rfl)) 4 (Value.int .i64 r1.room) rfl)) 5 (Value.int .i64 r1.stop) rfl)) 6 (Value.bool r1.dead) rfl));have SZ7:=Aside0.mk (show w7.heap.size=w5.heap.size by rw [hw7];simp only [size_set]);have BB7:=Aside0.mk (show Below w1.heap.size w1 w7 by rw [hw7];exact(below_set ((below_set ((below_set ((below_set ((below_set ((below_set ((below_set (HB5.out) G8.out)) G8.out)) G8.out)) G8.out)) G8.out)) G8.out)) G8.out));have CH7:=Aside0.mk (show ∀ k,k≠b8->w7.heap[k]? = w5.heap[k]? from λk hk=>by rw [hw7];exact((Below.heap_setCell ((((((w5.setCell ⟨b8,0,none⟩ (Value.slice Q0 r1.b0.length q0)).setCell ⟨b8,1,none⟩ (Value.int .i64 r1.s0)).setCell ⟨b8,2,none⟩ (Value.slice Q1 r1.b1.length q1)).setCell ⟨b8,3,none⟩ (Value.int .i64 r1.s1)).setCell ⟨b8,4,none⟩ (Value.int .i64 r1.room)).setCell ⟨b8,5,none⟩ (Value.int .i64 r1.stop)) ⟨b8,6,none⟩ (Value.bool r1.dead) k hk).trans (((Below.heap_setCell (((((w5.setCell ⟨b8,0,none⟩ (Value.slice Q0 r1.b0.length q0)).setCell ⟨b8,1,none⟩ (Value.int .i64 r1.s0)).setCell ⟨b8,2,none⟩ (Value.slice Q1 r1.b1.length q1)).setCell ⟨b8,3,none⟩ (Value.int .i64 r1.s1)).setCell ⟨b8,4,none⟩ (Value.int .i64 r1.room)) ⟨b8,5,none⟩ (Value.int .i64 r1.stop) k hk).trans (((Below.heap_setCell ((((w5.setCell ⟨b8,0,none⟩ (Value.slice Q0 r1.b0.length q0)).setCell ⟨b8,1,none⟩ (Value.int .i64 r1.s0)).setCell ⟨b8,2,none⟩ (Value.slice Q1 r1.b1.length q1)).setCell ⟨b8,3,none⟩ (Value.int .i64 r1.s1)) ⟨b8,4,none⟩ (Value.int .i64 r1.room) k hk).trans (((Below.heap_setCell (((w5.setCell ⟨b8,0,none⟩ (Value.slice Q0 r1.b0.length q0)).setCell ⟨b8,1,none⟩ (Value.int .i64 r1.s0)).setCell ⟨b8,2,none⟩ (Value.slice Q1 r1.b1.length q1)) ⟨b8,3,none⟩ (Value.int .i64 r1.s1) k hk).trans (((Below.heap_setCell ((w5.setCell ⟨b8,0,none⟩ (Value.slice Q0 r1.b0.length q0)).setCell ⟨b8,1,none⟩ (Value.int .i64 r1.s0)) ⟨b8,2,none⟩ (Value.slice Q1 r1.b1.length q1) k hk).trans (((Below.heap_setCell (w5.setCell ⟨b8,0,none⟩ (Value.slice Q0 r1.b0.length q0)) ⟨b8,1,none⟩ (Value.int .i64 r1.s0) k hk).trans (((Below.heap_setCell w5 ⟨b8,0,none⟩ (Value.slice Q0 r1.b0.length q0) k hk).trans (rfl)))))))))))))));clear hw7))
  go_roundg (l1.length - (n+1))
  case measure=>omega
  case rel =>
   obtain ⟨q0',q1',hraw⟩:=AT5.out
   refine ⟨n+1,d.doing st.f0 st.f1 st.f2 st.f3 st.f4,r1,by first|(rw [Int.natCast_add];rfl)|rw [show wrap64 ((n:Int)+1)=((n+1:Nat):Int) by unfold wrap64;omega],by omega,⟨GD.out.doing _ _ _ _ _⟩,⟨by rw [R1.out];exact GR.out.doing _ _ _ _ _⟩,⟨HAS.out.doing GD.out (by omega) _ _ _ _ _ TWO.out⟩,⟨⟨D',Q0,Q1,q0,q1,⟨q0',q1',hraw.move BB7.out (by have:=SZ7.out;omega) (λk hk=>CH7.out k (λe=>ND5.out (e ▸ hk)))⟩,Y8.out,ND5.out,G8.out,RV5.out.move (λk hk _=>CH7.out k (λe=>hk (.inr e))),Kd.F_step BF5.out (λk hk _=>CH7.out k (λe=>hk (.inr e)))⟩⟩⟩
theorem safe_calls (s:Bool) (AL AM:Option Addr) (cl cm:Nat) (l0 l1:List S49) (w:World) (hr0:Kd.C k49 w AL l0.length l0) (hc0:l0.length<=cl) (hl:l0.length<=9223372036854775806) (hb0:∀ x ∈ l0,x.f2.length<=140737488355328) (hr1:Kd.C k49 w AM l1.length l1) (hc1:l1.length<=cm) (hl1:l1.length<=9223372036854775806) (hb1:∀ x ∈ l1,x.f2.length<=140737488355328) :
  Calls Try.prog 7 #[.slice AL l0.length cl,.slice AM l1.length cm,.bool s] w λe w'=>e = .returned (.bool true)/\Below w.heap.size w w':=by
 cases s with
 | false=>exact safe0_calls AL AM cl cm l0 l1 w hr0 hc0 hl hb0 hr1 hc1 hl1 hb1
 | true=>exact safe1_calls AL AM cl cm l0 l1 w hr0 hc0 hl hb0 hr1 hc1 hl1 hb1
end
end Go.Proofs.Ytpahdlgpiecdkaa.Dsk
