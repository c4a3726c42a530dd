/- a part -/
import Derived.Test.YtgocnchjpecafaaPEvx7
namespace Go.Proofs.Ytgocnchjpecafaa.PEv
open Go.RowKit Go.Proofs.YtgocnchjpecafaaW.PrintWords Go.Proofs.YtgocnchjpecafaaW.PrintLast Go.Proofs.YtgocnchjpecafaaW.PrintMore
attribute [local go_sem] max2_int min2_int max_two min_two max_three min_three max_four min_four
set_option linter.unusedVariables false
set_option linter.unusedSimpArgs false
set_option maxHeartbeats 8000000
set_option maxRecDepth 100000
theorem z8_0 {P:Prop} (h:P:=by(with_reducible repeat(first|refine blk_drewN ?_ _|refine blk_drew ?_|refine blk_alloc ?_ _));refine blk_put (cs:=#[.int .i64 0,.int .i64 0,.string (⟨#[]⟩:ByteArray),.int .i64 0,.int .i64 0,.string (⟨#[]⟩:ByteArray)]) ?_ 5 _ rfl;(with_reducible repeat(first|refine blk_drewN ?_ _|refine blk_drew ?_|refine blk_alloc ?_ _));refine blk_put (cs:=#[.int .i64 0,.int .i64 0,.string (⟨#[]⟩:ByteArray),.int .i64 0,.int .i64 0,.string (⟨#[]⟩:ByteArray)]) ?_ 4 _ rfl;(with_reducible repeat(first|refine blk_drewN ?_ _|refine blk_drew ?_|refine blk_alloc ?_ _));refine blk_put (cs:=#[.int .i64 0,.int .i64 0,.string (⟨#[]⟩:ByteArray),.int .i64 0,.int .i64 0,.string (⟨#[]⟩:ByteArray)]) ?_ 3 _ rfl;(with_reducible repeat(first|refine blk_drewN ?_ _|refine blk_drew ?_|refine blk_alloc ?_ _));refine blk_put (cs:=#[.int .i64 0,.int .i64 0,.string (⟨#[]⟩:ByteArray),.int .i64 0,.int .i64 0,.string (⟨#[]⟩:ByteArray)]) ?_ 2 _ rfl;(with_reducible repeat(first|refine blk_drewN ?_ _|refine blk_drew ?_|refine blk_alloc ?_ _));refine blk_put (cs:=#[.int .i64 0,.int .i64 0,.string (⟨#[]⟩:ByteArray),.int .i64 0,.int .i64 0,.string (⟨#[]⟩:ByteArray)]) ?_ 1 _ rfl;(with_reducible repeat(first|refine blk_drewN ?_ _|refine blk_drew ?_|refine blk_alloc ?_ _));refine blk_put (cs:=#[.int .i64 0,.int .i64 0,.string (⟨#[]⟩:ByteArray),.int .i64 0,.int .i64 0,.string (⟨#[]⟩:ByteArray)]) ?_ 0 _ rfl;(with_reducible repeat(first|refine blk_drewN ?_ _|refine blk_drew ?_|refine blk_alloc ?_ _));exact BK194.out):P:=h
theorem z8_1 {P:Prop} (h:P:=by repeat(first|(with_reducible first|exact HB.out|apply below_alloc|apply pw_below_drewN|apply below_drew1|refine below_set ?_ GE194.out)|exact HB.out)):P:=h
theorem z8_2 {P:Prop} (h:P:=by repeat(first|(with_reducible exact HR202.out)|(with_reducible refine Kd.C_alloc ?_ _)|(with_reducible refine Kd.C_drewN ?_ _)|(with_reducible refine Kd.C_drew ?_)|exact HR202.out)):P:=h
theorem z8_3 {P:Prop} (h:P:=by(try simp only [List.map_toArray,List.map_cons,List.map_nil]);first|done|rfl):P:=h
theorem z8_4 {P:Prop} (h:P:=by(with_reducible repeat(first|refine blk_drewN ?_ _|refine blk_drew ?_|refine blk_alloc ?_ _));exact BK194.out):P:=h
theorem z8_11 {P:Prop} (h:P:=by repeat(first|exact z8_2|(with_reducible refine Kd.C_alloc ?_ _)|(with_reducible refine Kd.C_drewN ?_ _)|(with_reducible refine Kd.C_drew ?_))):P:=h
def event_effect.j0:Nat->List (List Int)->Bool->Option (Int×Int×ByteArray×Int×Int×ByteArray×Bool)
 | 0,_,_=>none
 | k+1,x4,x18=>if x18=true then(some (0,0,(⟨#[]⟩:ByteArray),0,0,(⟨#[]⟩:ByteArray),false)) else(if 4<=(x4.length:Int) then((event_ints.f k (x4.take 4)).bind λbt203=>(if bt203.2=true then(if 0<(bt203.1.length:Int) then(if 1<(bt203.1.length:Int) then(if 2<(bt203.1.length:Int) then(if 3<(bt203.1.length:Int) then(if 4<(x4.length:Int) then(if 5<(x4.length:Int) then(some (rd bt203.1 0,rd bt203.1 1,strOfNums (rd_L10 x4 4),rd bt203.1 2,rd bt203.1 3,strOfNums (rd_L10 x4 5),true)) else(none)) else(none)) else(none)) else(none)) else(none)) else(none)) else(some (0,0,(⟨#[]⟩:ByteArray),0,0,(⟨#[]⟩:ByteArray),false)))) else(none))
def event_effect.f (k:Nat) (l0:List Int):Option (Int×Int×ByteArray×Int×Int×ByteArray×Bool):=(event_whole.f k l0 6).bind λbt195=>(if bt195.2=true then(event_effect.j0 k bt195.1 ((bt195.1.length:Int) != 6)) else(event_effect.j0 k bt195.1 true))
theorem event_effect.mono_l:∀ k,(∀ y0 y1,LeO (event_effect.j0 k y0 y1) (event_effect.j0 (k+1) y0 y1))
 | 0=>λ_ _ r h=>by simp [event_effect.j0] at h
 | k+1=>by
  have ih0:=event_effect.mono_l k
  ·intro y0 y1
   unfold event_effect.j0
   repeat' first
   | (with_reducible exact ih0 _ _)
   | (with_reducible exact event_ints.mono _ _)
   | (with_reducible exact event_whole.mono _ _ _)
   | (with_reducible exact LeO.refl _)
   | (with_reducible exact LeO.none _)
   | (with_reducible refine LeO.ite ?_ ?_)
   | (with_reducible refine LeO.bind ?_ (λ_=>?_))
theorem event_effect.mono:∀ a0 k,LeO (event_effect.f k a0) (event_effect.f (k+1) a0):=by
 intro a0 k
 have ih0:=event_effect.mono_l k
 unfold event_effect.f
 repeat' first
  | (with_reducible exact ih0 _ _)
  | (with_reducible exact event_ints.mono _ _)
  | (with_reducible exact event_whole.mono _ _ _)
  | (with_reducible exact LeO.refl _)
  | (with_reducible exact LeO.none _)
  | (with_reducible refine LeO.ite ?_ ?_)
  | (with_reducible refine LeO.bind ?_ (λ_=>?_))
theorem event_effect.calls (k:Nat) (A0:Option Addr) (c0:Nat) (l0:List Int) (r1:Int) (r2:Int) (r3:ByteArray) (r4:Int) (r5:Int) (r6:ByteArray) (r7:Bool) (w:World) (hr0:Kd.C (Kd.int .u8) w A0 l0.length l0) (hc0:l0.length<=c0) (h:event_effect.f k l0=some (r1,r2,r3,r4,r5,r6,r7)) :
  Calls Try.prog 52 #[.slice A0 l0.length c0] w λe w'=>e = .returned (.tuple #[.agg #[.int .i64 r1,.int .i64 r2,.string r3,.int .i64 r4,.int .i64 r5,.string r6],.bool r7])/\Below w.heap.size w w':=by
 have hu48:=Try.underlying48
 have HR0:=Aside0.mk hr0
 have HC0:=Aside0.mk hc0
 clear hr0 hc0
 have HB:=U (Below.refl w.heap.size w)
 have H:((event_whole.f k l0 6).bind λbt195=>(if bt195.2=true then(event_effect.j0 k bt195.1 ((bt195.1.length:Int) != 6)) else(event_effect.j0 k bt195.1 true)))=some (r1,r2,r3,r4,r5,r6,r7):=h
 clear h
 replace H:=oB_ H
 obtain ⟨⟨t195,t196⟩,A20,H⟩:=H
 replace H:(if t196=true then(event_effect.j0 k t195 ((t195.length:Int) != 6)) else(event_effect.j0 k t195 true))=some (r1,r2,r3,r4,r5,r6,r7):=H
 have A2:=Aside0.mk A20
 clear A20
 have HC3:=Aside0.mk H
 clear H
 go_enter Try.func52,Try.ntmps52
 go_upto_region 2 with (first|((with_reducible refine gate_dst (N:=2) rfl ?_);(try(refine gate_guard (by rfl) ?_;dsimp only));refine box_event ?hg (N:=2) ?hd (cs:=#[.int .i64 0,.int .i64 0,.string (⟨#[]⟩:ByteArray),.int .i64 0,.int .i64 0,.string (⟨#[]⟩:ByteArray)]) (t:=48) ?hr ?_;(case hd=>rfl);(case hg=>rfl);(case hr=>exact z3_10);intro gb194 hg w4 hbox hb;have BK194:=U (hbox);have GW194:=U ((by rw [hg];exact(below_size z20_4):w.heap.size<=gb194));have GE194:=U ((by rw [hg];exact(below_size z20_4):w.heap.size<=gb194));replace HB:=U (below_step z20_4 hb);clear hb hbox hg)|((with_reducible refine gate_callee (f:=49) rfl ?_);refine goesL_ (some 9) rfl rfl Try.func49 z3_17 rfl #[.slice A0 l0.length c0,.int .i64 6] rfl z6_5 ?_;(with_reducible refine(event_whole.calls k _ _ l0 6 t195 t196 _ ?side1 ?side2 A2.out).mono ?_);(case side1=>repeat(first|exact(Kd.C_below HR0.out HB.out)|(with_reducible refine Kd.C_alloc ?_ _)|(with_reducible refine Kd.C_drewN ?_ _)|(with_reducible refine Kd.C_drew ?_)));(case side2=>exact HC0.out);rintro e w5 ⟨v197,rfl,ho0,hb⟩;refine ⟨_,rfl,?_⟩;have HO198:=U (Kd.S_lower ho0 (below_size z8_1));replace BK194:=U (blk_below (g:=gb194) (o:=.cells #[.int .i64 0,.int .i64 0,.string (⟨#[]⟩:ByteArray),.int .i64 0,.int .i64 0,.string (⟨#[]⟩:ByteArray)] 48 (0,0)) z8_4 hb);replace HB:=U (below_step z8_1 hb);(try clear hb);(try clear hb2);(try clear hk);(try clear hi);(try clear ho0)))
 (try simp only [Act.put,List.setIfInBounds_toArray,List.set_cons_zero,List.set_cons_succ])
 go_cut [18] (λv18 wc=>∃ (kq:Nat) (x18_2:Bool),v18 = .bool x18_2/\Aside0 (event_effect.j0 kq t195 x18_2=some (r1,r2,r3,r4,r5,r6,r7))/\Aside0 (kq<=k)/\Aside0 (Kd.S (Kd.slice 5 (Kd.int .u8)) 22 wc w.heap.size (λ_=>True) v197 t195)/\Aside0 (wc.heap[gb194]? = some (.cells #[.int .i64 0,.int .i64 0,.string (⟨#[]⟩:ByteArray),.int .i64 0,.int .i64 0,.string (⟨#[]⟩:ByteArray)] 48 (0,0)))/\Aside0 (Below w.heap.size w wc))
 case first =>
  have H:=HC3.out
  clear HC3
  by_cases c6:t196=true
  rotate_left
  ·replace c6:=Bool.eq_false_iff.mpr c6
   subst c6
   have H1:(event_effect.j0 k t195 true)=some (r1,r2,r3,r4,r5,r6,r7):=by rw [if_neg (show ¬ (false=true) by decide)] at H;exact H
   clear H
   have H:=H1
   clear H1
   have H':=Aside0.mk H
   clear H
   go_wp2
   go_meet
   case rel=>exact ⟨_,(true),(by first|rfl|(simp;done)|(simp [*];done)),H',⟨(by first|omega|exact Nat.le_refl _)⟩,⟨(by(with_reducible repeat(first|apply Kd.S_alloc|apply Kd.S_drewN|apply Kd.S_drew));exact HO198.out)⟩,⟨z8_4⟩,⟨z8_1⟩⟩
  subst c6
  have H1:(event_effect.j0 k t195 ((t195.length:Int) != 6))=some (r1,r2,r3,r4,r5,r6,r7):=by rw [if_pos rfl] at H;exact H
  clear H
  have H:=H1
  clear H1
  have H':=Aside0.mk H
  clear H
  obtain ⟨Ao7,co7,eo7⟩:=Kd.S_slice HO198.out
  subst eo7
  go_wp2
  go_meet
  case rel=>exact ⟨_,(((t195.length:Int) != 6)),(by first|rfl|(simp;done)|(simp [*];done)),H',⟨(by first|omega|exact Nat.le_refl _)⟩,⟨(by(with_reducible repeat(first|apply Kd.S_alloc|apply Kd.S_drewN|apply Kd.S_drew));exact HO198.out)⟩,⟨z8_4⟩,⟨z8_1⟩⟩
 case rest =>
 clear HC3
 try clear p2
 try clear c4
 try clear c5
 try clear c6
 obtain ⟨kq,x18_2,rfl,HA,HJ2,HO_4,BK194,HB⟩:=hcut
 cases kq with
 | zero=>exact absurd HA.out (by simp [event_effect.j0])
 | succ kj2 =>
 have H:=HA.out
 clear HA
 simp only [event_effect.j0] at H
 by_cases c8:x18_2=true
 ·subst c8
  have H1:(some (0,0,(⟨#[]⟩:ByteArray),0,0,(⟨#[]⟩:ByteArray),false))=some (r1,r2,r3,r4,r5,r6,r7):=by rw [if_pos rfl] at H;exact H
  clear H
  have H:=H1
  clear H1
  simp only [Option.some.injEq,Prod.mk.injEq] at H
  obtain ⟨rfl,rfl,rfl,rfl,rfl,rfl,rfl⟩:=H
  obtain ⟨hcz9_0,hcz9_1,hcz9_2,hcz9_3,hcz9_4,hcz9_5,hfz9_0,hfz9_1,hfz9_2,hfz9_3,hfz9_4,hfz9_5⟩:=cz6_ BK194.out
  go_wp2
  refine bodyPost_ret (results_ct rfl _ _ gb194 48 #[.int .i64 0,.int .i64 0,.string (⟨#[]⟩:ByteArray),.int .i64 0,.int .i64 0,.string (⟨#[]⟩:ByteArray)] (0,0) _ rfl z8_0 Try.underlying48 rfl z3_17) rfl ?_
  exact ⟨z20_1,z8_1⟩
 replace c8:=Bool.eq_false_iff.mpr c8
 subst c8
 have H1:(if 4<=(t195.length:Int) then((event_ints.f kj2 (t195.take 4)).bind λbt203=>(if bt203.2=true then(if 0<(bt203.1.length:Int) then(if 1<(bt203.1.length:Int) then(if 2<(bt203.1.length:Int) then(if 3<(bt203.1.length:Int) then(if 4<(t195.length:Int) then(if 5<(t195.length:Int) then(some (rd bt203.1 0,rd bt203.1 1,strOfNums (rd_L10 t195 4),rd bt203.1 2,rd bt203.1 3,strOfNums (rd_L10 t195 5),true)) else(none)) else(none)) else(none)) else(none)) else(none)) else(none)) else(some (0,0,(⟨#[]⟩:ByteArray),0,0,(⟨#[]⟩:ByteArray),false)))) else(none))=some (r1,r2,r3,r4,r5,r6,r7):=by rw [if_neg (show ¬ (false=true) by decide)] at H;exact H
 clear H
 have H:=H1
 clear H1
 by_cases c10:4<=(t195.length:Int)
 rotate_left
 ·rw [if_neg c10] at H
  exact absurd H (by simp)
 rw [if_pos c10] at H
 have c10b0:=eq_true c10
 have c10b1:decide (4<=(t195.length:Int))=true:=dT_ c10
 clear c10
 obtain ⟨y199,hy199⟩:∃ y_:List (List Int),y_=(t195.take 4):=⟨_,rfl⟩
 replace H:((event_ints.f kj2 y199).bind λbt203=>(if bt203.2=true then(if 0<(bt203.1.length:Int) then(if 1<(bt203.1.length:Int) then(if 2<(bt203.1.length:Int) then(if 3<(bt203.1.length:Int) then(if 4<(t195.length:Int) then(if 5<(t195.length:Int) then(some (rd bt203.1 0,rd bt203.1 1,strOfNums (rd_L10 t195 4),rd bt203.1 2,rd bt203.1 3,strOfNums (rd_L10 t195 5),true)) else(none)) else(none)) else(none)) else(none)) else(none)) else(none)) else(some (0,0,(⟨#[]⟩:ByteArray),0,0,(⟨#[]⟩:ByteArray),false))))=some (r1,r2,r3,r4,r5,r6,r7):=by first|(rw [hy199];with_reducible exact H)|(have H2_:=(Option.bind_some _ _).symm.trans H;rw [hy199];with_reducible exact H2_)|(have H2_:=(Option.bind_some _ _).symm.trans H;with_reducible exact H2_)|with_reducible exact H|(rw [hy199];exact H)|exact H
 have Ny199:=Aside0.mk hy199
 clear hy199
 replace H:=oB_ H
 obtain ⟨⟨t203,t204⟩,A110,H⟩:=H
 replace H:(if t204=true then(if 0<(t203.length:Int) then(if 1<(t203.length:Int) then(if 2<(t203.length:Int) then(if 3<(t203.length:Int) then(if 4<(t195.length:Int) then(if 5<(t195.length:Int) then(some (rd t203 0,rd t203 1,strOfNums (rd_L10 t195 4),rd t203 2,rd t203 3,strOfNums (rd_L10 t195 5),true)) else(none)) else(none)) else(none)) else(none)) else(none)) else(none)) else(some (0,0,(⟨#[]⟩:ByteArray),0,0,(⟨#[]⟩:ByteArray),false)))=some (r1,r2,r3,r4,r5,r6,r7):=H
 have A11:=Aside0.mk A110
 clear A110
 by_cases c12:t204=true
 rotate_left
 ·replace c12:=Bool.eq_false_iff.mpr c12
  subst c12
  have H1:(some (0,0,(⟨#[]⟩:ByteArray),0,0,(⟨#[]⟩:ByteArray),false))=some (r1,r2,r3,r4,r5,r6,r7):=by rw [if_neg (show ¬ (false=true) by decide)] at H;exact H
  clear H
  have H:=H1
  clear H1
  simp only [Option.some.injEq,Prod.mk.injEq] at H
  obtain ⟨rfl,rfl,rfl,rfl,rfl,rfl,rfl⟩:=H
  obtain ⟨Ao34,co34,eo34⟩:=Kd.S_slice HO_4.out
  subst eo34
  have q33:(4:Int)<=((t195.length:Int):Int):=oD_ z6_1
  obtain ⟨i033,hi033,_,hsz33,_⟩:=info_parts info22
  have hroom33:t195.length<=co34:=(Kd.S_reads' HO_4.out).2.1
  have hC33:Kd.C (Kd.slice 5 (Kd.int .u8)) _ Ao34 t195.length t195:=(Kd.S_reads' HO_4.out).2.2
  have hcut33:=cut_to (P:=Try.prog) 73 22 .i64 Try.underlying73 hi033 Ao34 t195.length co34 4 (by omega) q33 hroom33
  have hr33:=Kd.C_take (m:=4) hC33 (by omega)
  have hy33:y199.length=(4:Int).toNat:=(by rw [Ny199.out,List.length_take];omega)
  rw [<-Ny199.out] at hr33
  rw [<-hy33] at hcut33
  have HR202:=Aside0.mk hr33
  have HC202:=U (show y199.length<=co34 from by omega)
  clear hr33 hC33 hroom33 hi033 hsz33
  have KY33:=Aside0.mk hy33
  clear hy33
  have KL33:=U (show 4<=t195.length from by omega)
  replace q33:=eq_true q33
  go_wp2_with (first|((with_reducible refine gate_callee (f:=50) rfl ?_);refine goesL_ (some 23) rfl rfl Try.func50 z3_17 rfl #[.slice Ao34 y199.length co34] rfl z6_5 ?_;(with_reducible refine(event_ints.calls kj2 _ _ y199 t203 false _ ?side1 ?side2 A11.out).mono ?_);(case side1=>exact z8_11);(case side2=>exact HC202.out);rintro e w35 ⟨v205,rfl,ho0,hb⟩;refine ⟨_,rfl,?_⟩;replace HO_4:=U (Kd.S_below (by(with_reducible repeat(first|apply Kd.S_alloc|apply Kd.S_drewN|apply Kd.S_drew));exact HO_4.out) hb);have HO206:=U (Kd.R_lower ho0 (below_size z8_1));replace BK194:=U (blk_below (g:=gb194) (o:=.cells #[.int .i64 0,.int .i64 0,.string (⟨#[]⟩:ByteArray),.int .i64 0,.int .i64 0,.string (⟨#[]⟩:ByteArray)] 48 (0,0)) z8_4 hb);replace HR202:=U (Kd.C_below z8_2 hb);replace HB:=U (below_step z8_1 hb);(try clear hb);(try clear hb2);(try clear hk);(try clear hi);(try clear ho0);obtain ⟨hcz36_0,hcz36_1,hcz36_2,hcz36_3,hcz36_4,hcz36_5,hfz36_0,hfz36_1,hfz36_2,hfz36_3,hfz36_4,hfz36_5⟩:=cz6_ BK194.out))
  refine bodyPost_ret (results_ct rfl _ _ gb194 48 #[.int .i64 0,.int .i64 0,.string (⟨#[]⟩:ByteArray),.int .i64 0,.int .i64 0,.string (⟨#[]⟩:ByteArray)] (0,0) _ rfl z8_0 Try.underlying48 rfl z3_17) rfl ?_
  exact ⟨z20_1,z8_1⟩
 subst c12
 have H1:(if 0<(t203.length:Int) then(if 1<(t203.length:Int) then(if 2<(t203.length:Int) then(if 3<(t203.length:Int) then(if 4<(t195.length:Int) then(if 5<(t195.length:Int) then(some (rd t203 0,rd t203 1,strOfNums (rd_L10 t195 4),rd t203 2,rd t203 3,strOfNums (rd_L10 t195 5),true)) else(none)) else(none)) else(none)) else(none)) else(none)) else(none))=some (r1,r2,r3,r4,r5,r6,r7):=by rw [if_pos rfl] at H;exact H
 clear H
 have H:=H1
 clear H1
 by_cases c13:0<(t203.length:Int)
 rotate_left
 ·rw [if_neg c13] at H
  exact absurd H (by simp)
 rw [if_pos c13] at H
 have c13b0:decide (0<(t203.length:Int))=true:=dT_ c13
 have c13b1:decide (0<t203.length)=true:=dT_ (by omega)
 clear c13
 by_cases c14:1<(t203.length:Int)
 rotate_left
 ·rw [if_neg c14] at H
  exact absurd H (by simp)
 rw [if_pos c14] at H
 have c14b0:decide (1<(t203.length:Int))=true:=dT_ c14
 have c14b1:decide (1<t203.length)=true:=dT_ (by omega)
 clear c14
 by_cases c15:2<(t203.length:Int)
 rotate_left
 ·rw [if_neg c15] at H
  exact absurd H (by simp)
 rw [if_pos c15] at H
 have c15b0:decide (2<(t203.length:Int))=true:=dT_ c15
 have c15b1:decide (2<t203.length)=true:=dT_ (by omega)
 clear c15
 by_cases c16:3<(t203.length:Int)
 rotate_left
 ·rw [if_neg c16] at H
  exact absurd H (by simp)
 rw [if_pos c16] at H
 have c16b0:decide (3<(t203.length:Int))=true:=dT_ c16
 have c16b1:decide (3<t203.length)=true:=dT_ (by omega)
 clear c16
 by_cases c17:4<(t195.length:Int)
 rotate_left
 ·rw [if_neg c17] at H
  exact absurd H (by simp)
 rw [if_pos c17] at H
 have c17b0:decide (4<(t195.length:Int))=true:=dT_ c17
 have c17b1:decide (4<t195.length)=true:=dT_ (by omega)
 clear c17
 by_cases c18:5<(t195.length:Int)
 rotate_left
 ·rw [if_neg c18] at H
  exact absurd H (by simp)
 rw [if_pos c18] at H
 have c18b0:decide (5<(t195.length:Int))=true:=dT_ c18
 have c18b1:decide (5<t195.length)=true:=dT_ (by omega)
 clear c18
 simp only [Option.some.injEq,Prod.mk.injEq] at H
 obtain ⟨rfl,rfl,rfl,rfl,rfl,rfl,rfl⟩:=H
 obtain ⟨Ao20,co20,eo20⟩:=Kd.S_slice HO_4.out
 subst eo20
 have q19:(4:Int)<=((t195.length:Int):Int):=oD_ z6_1
 obtain ⟨i019,hi019,_,hsz19,_⟩:=info_parts info22
 have hroom19:t195.length<=co20:=(Kd.S_reads' HO_4.out).2.1
 have hC19:Kd.C (Kd.slice 5 (Kd.int .u8)) _ Ao20 t195.length t195:=(Kd.S_reads' HO_4.out).2.2
 have hcut19:=cut_to (P:=Try.prog) 73 22 .i64 Try.underlying73 hi019 Ao20 t195.length co20 4 (by omega) q19 hroom19
 have hr19:=Kd.C_take (m:=4) hC19 (by omega)
 have hy19:y199.length=(4:Int).toNat:=(by rw [Ny199.out,List.length_take];omega)
 rw [<-Ny199.out] at hr19
 rw [<-hy19] at hcut19
 have HR202:=Aside0.mk hr19
 have HC202:=U (show y199.length<=co20 from by omega)
 clear hr19 hC19 hroom19 hi019 hsz19
 have KY19:=Aside0.mk hy19
 clear hy19
 have KL19:=U (show 4<=t195.length from by omega)
 replace q19:=eq_true q19
 try go_wp2_with (first|((with_reducible refine gate_callee (f:=50) rfl ?_);refine goesL_ (some 23) rfl rfl Try.func50 z3_17 rfl #[.slice Ao20 y199.length co20] rfl z6_5 ?_;(with_reducible refine(event_ints.calls kj2 _ _ y199 t203 true _ ?side1 ?side2 A11.out).mono ?_);(case side1=>exact z8_11);(case side2=>exact HC202.out);rintro e w21 ⟨v205,rfl,ho0,hb⟩;refine ⟨_,rfl,?_⟩;replace HO_4:=U (Kd.S_below (by(with_reducible repeat(first|apply Kd.S_alloc|apply Kd.S_drewN|apply Kd.S_drew));exact HO_4.out) hb);have HO206:=U (Kd.R_lower ho0 (below_size z8_1));replace BK194:=U (blk_below (g:=gb194) (o:=.cells #[.int .i64 0,.int .i64 0,.string (⟨#[]⟩:ByteArray),.int .i64 0,.int .i64 0,.string (⟨#[]⟩:ByteArray)] 48 (0,0)) z8_4 hb);replace HR202:=U (Kd.C_below z8_2 hb);replace HB:=U (below_step z8_1 hb);(try clear hb);(try clear hb2);(try clear hk);(try clear hi);(try clear ho0)))
 have n0_:=U (Kd.S_drew HO_4.out)
 have n1_:=U (Kd.R_drew HO206.out)
 have n2_:=U (blk_drew BK194.out)
 have n3_:=U (Kd.C_drew HR202.out)
 have n4_:=U (below_drew1 HB.out)
 clear HO_4
 clear HO206
 clear BK194
 clear HR202
 clear HB
 have HO_4:=n0_
 have HO206:=n1_
 have BK194:=n2_
 have HR202:=n3_
 have HB:=n4_
 clear n0_ n1_ n2_ n3_ n4_
 obtain ⟨Ao23,co23,eo23⟩:=Kd.R_slice HO206.out
 (first|subst eo23|(injection eo23 with f1_ f2_ f3_;have f4_:=f1_.symm;have f5_:=f3_.symm;clear f1_ f2_ f3_;subst f4_;subst f5_))
 have p207:0<=(0:Int):=(by omega)
 have q207:0<(t203.length:Int):=oD_ z6_1
 obtain ⟨ad207,e207,hx207_0⟩:=Kd.at_int (Kd.R_reads' HO206.out).2.2 0 p207 q207
 cases e207
 have qi207:(0<t203.length)=True:=eq_true (by omega)
 (try rw [show((0:Int)).toNat=0 from rfl] at hx207_0)
 (try rw [Addr.add_zero'] at hx207_0)
 replace p207:=eq_true p207
 replace q207:=eq_true q207
 have p208:0<=(1:Int):=(by omega)
 have q208:1<(t203.length:Int):=oD_ z6_1
 obtain ⟨ad208,e208,hx208_0⟩:=Kd.at_int (Kd.R_reads' HO206.out).2.2 1 p208 q208
 obtain rfl:ad207=ad208:=(by injection e208)
 (try simp only [show(1:Int).toNat=1 from rfl,Nat.reduceMul,Nat.reduceEqDiff,Go.Addr.add,↓reduceIte] at hx208_0)
 have qi208:(1<t203.length)=True:=eq_true (by omega)
 (try rw [show((1:Int)).toNat=1 from rfl] at hx208_0)
 replace p208:=eq_true p208
 replace q208:=eq_true q208
 have p209:0<=(2:Int):=(by omega)
 have q209:2<(t203.length:Int):=oD_ z6_1
 obtain ⟨ad209,e209,hx209_0⟩:=Kd.at_int (Kd.R_reads' HO206.out).2.2 2 p209 q209
 obtain rfl:ad207=ad209:=(by injection e209)
 (try simp only [show(2:Int).toNat=2 from rfl,Nat.reduceMul,Nat.reduceEqDiff,Go.Addr.add,↓reduceIte] at hx209_0)
 have qi209:(2<t203.length)=True:=eq_true (by omega)
 (try rw [show((2:Int)).toNat=2 from rfl] at hx209_0)
 replace p209:=eq_true p209
 replace q209:=eq_true q209
 have p210:0<=(3:Int):=(by omega)
 have q210:3<(t203.length:Int):=oD_ z6_1
 obtain ⟨ad210,e210,hx210_0⟩:=Kd.at_int (Kd.R_reads' HO206.out).2.2 3 p210 q210
 obtain rfl:ad207=ad210:=(by injection e210)
 (try simp only [show(3:Int).toNat=3 from rfl,Nat.reduceMul,Nat.reduceEqDiff,Go.Addr.add,↓reduceIte] at hx210_0)
 have qi210:(3<t203.length)=True:=eq_true (by omega)
 (try rw [show((3:Int)).toNat=3 from rfl] at hx210_0)
 replace p210:=eq_true p210
 replace q210:=eq_true q210
 have p211:0<=(4:Int):=(by omega)
 have q211:4<(t195.length:Int):=oD_ z6_1
 obtain ⟨ad211,A211_0,c211_0,e211,hx211_0,hl211_0,hi211_0⟩:=at_L10 (Kd.S_reads' HO_4.out).2.2 4 p211 q211
 cases e211
 obtain ⟨ce211,hce211,hMe211,hcc211⟩:=Kd.S_get HO_4.out [] 4 p211 (by first|exact q211|exact oD_ z6_1|(have e_:=(Kd.S_reads' HO_4.out).1;omega))
 obtain ⟨ve211_0,rfl,ge211_0⟩:=hMe211
 have hv211_0:=hcc211 0 _ rfl
 rw [Nat.add_zero,show((Kd.slice 5 (Kd.int .u8))).sz=1 from rfl,Nat.mul_one] at hv211_0
 replace hv211_0:=sI_ (hv211_0.symm.trans hx211_0)
 rw [hv211_0] at ge211_0
 have HL211_0:=U (show Kd.R (Kd.int .u8) 5 _ _ _ _ (rd_L10 t195 4) from ge211_0)
 clear hv211_0 ge211_0
 clear hcc211 hce211
 (try simp only [show(4:Int).toNat=4 from rfl,Nat.reduceMul,Nat.reduceEqDiff,Go.Addr.add,↓reduceIte] at hx211_0)
 have qi211:(4<t195.length)=True:=eq_true (by omega)
 (try rw [show((4:Int)).toNat=4 from rfl] at hx211_0)
 have HR211_0:=Aside0.mk hi211_0
 have HC211_0:=Aside0.mk hl211_0
 clear hi211_0 hl211_0
 replace p211:=eq_true p211
 replace q211:=eq_true q211
 have p212:0<=(5:Int):=(by omega)
 have q212:5<(t195.length:Int):=oD_ z6_1
 obtain ⟨ad212,A212_0,c212_0,e212,hx212_0,hl212_0,hi212_0⟩:=at_L10 (Kd.S_reads' HO_4.out).2.2 5 p212 q212
 obtain rfl:ad211=ad212:=(by injection e212)
 obtain ⟨ce212,hce212,hMe212,hcc212⟩:=Kd.S_get HO_4.out [] 5 p212 (by first|exact q212|exact oD_ z6_1|(have e_:=(Kd.S_reads' HO_4.out).1;omega))
 obtain ⟨ve212_0,rfl,ge212_0⟩:=hMe212
 have hv212_0:=hcc212 0 _ rfl
 rw [Nat.add_zero,show((Kd.slice 5 (Kd.int .u8))).sz=1 from rfl,Nat.mul_one] at hv212_0
 replace hv212_0:=sI_ (hv212_0.symm.trans hx212_0)
 rw [hv212_0] at ge212_0
 have HL212_0:=U (show Kd.R (Kd.int .u8) 5 _ _ _ _ (rd_L10 t195 5) from ge212_0)
 clear hv212_0 ge212_0
 clear hcc212 hce212
 (try simp only [show(5:Int).toNat=5 from rfl,Nat.reduceMul,Nat.reduceEqDiff,Go.Addr.add,↓reduceIte] at hx212_0)
 have qi212:(5<t195.length)=True:=eq_true (by omega)
 (try rw [show((5:Int)).toNat=5 from rfl] at hx212_0)
 have HR212_0:=Aside0.mk hi212_0
 have HC212_0:=Aside0.mk hl212_0
 clear hi212_0 hl212_0
 replace p212:=eq_true p212
 replace q212:=eq_true q212
 have hcv24:=Kd.C_string (P:=Try.prog) (A:=A211_0) (c:=c211_0) Try.underlying22 Try.underlying5 Try.underlying9 (by repeat(first|(with_reducible exact HR211_0.out)|(with_reducible refine Kd.C_alloc ?_ _)|(with_reducible refine Kd.C_drewN ?_ _)|(with_reducible refine Kd.C_drew ?_)|exact HR211_0.out))
 have hcv25:=Kd.C_string (P:=Try.prog) (A:=A212_0) (c:=c212_0) Try.underlying22 Try.underlying5 Try.underlying9 (by repeat(first|(with_reducible exact HR212_0.out)|(with_reducible refine Kd.C_alloc ?_ _)|(with_reducible refine Kd.C_drewN ?_ _)|(with_reducible refine Kd.C_drew ?_)|exact HR212_0.out))
 go_still_tail 20,z3_17
 change wpList _ _ _ _ _ w21.drew
 clear HO_4 HO206 HR202 HL211_0 HL212_0 HR211_0 HR212_0 hx207_0 hx208_0 hx209_0 hx210_0 hx211_0 hx212_0 hcv24 hcv25
 generalize w21.drew=w22 at BK194 HB ⊢
 have hs27:w22.cell? ⟨gb194,0,none⟩=some (.int .i64 0):=(blk_cell BK194.out 0).trans rfl
 have hfs27:=blk_frozen BK194.out 0
 have hs28:w22.cell? ⟨gb194,1,none⟩=some (.int .i64 0):=(blk_cell BK194.out 1).trans rfl
 have hfs28:=blk_frozen BK194.out 1
 have hs29:w22.cell? ⟨gb194,2,none⟩=some (.string (⟨#[]⟩:ByteArray)):=(blk_cell BK194.out 2).trans rfl
 have hfs29:=blk_frozen BK194.out 2
 have hs30:w22.cell? ⟨gb194,3,none⟩=some (.int .i64 0):=(blk_cell BK194.out 3).trans rfl
 have hfs30:=blk_frozen BK194.out 3
 have hs31:w22.cell? ⟨gb194,4,none⟩=some (.int .i64 0):=(blk_cell BK194.out 4).trans rfl
 have hfs31:=blk_frozen BK194.out 4
 have hs32:w22.cell? ⟨gb194,5,none⟩=some (.string (⟨#[]⟩:ByteArray)):=(blk_cell BK194.out 5).trans rfl
 have hfs32:=blk_frozen BK194.out 5
 try go_wp2
 refine bodyPost_ret (results_ct rfl _ _ gb194 48 #[.int .i64 (rd t203 0),.int .i64 (rd t203 1),.string (strOfNums (rd_L10 t195 4)),.int .i64 (rd t203 2),.int .i64 (rd t203 3),.string (strOfNums (rd_L10 t195 5))] (0,0) _ rfl (by(with_reducible repeat(first|refine blk_drewN ?_ _|refine blk_drew ?_|refine blk_alloc ?_ _));refine blk_put (cs:=#[.int .i64 (rd t203 0),.int .i64 (rd t203 1),.string (strOfNums (rd_L10 t195 4)),.int .i64 (rd t203 2),.int .i64 (rd t203 3),.string (⟨#[]⟩:ByteArray)]) ?_ 5 _ rfl;(with_reducible repeat(first|refine blk_drewN ?_ _|refine blk_drew ?_|refine blk_alloc ?_ _));refine blk_put (cs:=#[.int .i64 (rd t203 0),.int .i64 (rd t203 1),.string (strOfNums (rd_L10 t195 4)),.int .i64 (rd t203 2),.int .i64 0,.string (⟨#[]⟩:ByteArray)]) ?_ 4 _ rfl;(with_reducible repeat(first|refine blk_drewN ?_ _|refine blk_drew ?_|refine blk_alloc ?_ _));refine blk_put (cs:=#[.int .i64 (rd t203 0),.int .i64 (rd t203 1),.string (strOfNums (rd_L10 t195 4)),.int .i64 0,.int .i64 0,.string (⟨#[]⟩:ByteArray)]) ?_ 3 _ rfl;(with_reducible repeat(first|refine blk_drewN ?_ _|refine blk_drew ?_|refine blk_alloc ?_ _));refine blk_put (cs:=#[.int .i64 (rd t203 0),.int .i64 (rd t203 1),.string (⟨#[]⟩:ByteArray),.int .i64 0,.int .i64 0,.string (⟨#[]⟩:ByteArray)]) ?_ 2 _ rfl;(with_reducible repeat(first|refine blk_drewN ?_ _|refine blk_drew ?_|refine blk_alloc ?_ _));refine blk_put (cs:=#[.int .i64 (rd t203 0),.int .i64 0,.string (⟨#[]⟩:ByteArray),.int .i64 0,.int .i64 0,.string (⟨#[]⟩:ByteArray)]) ?_ 1 _ rfl;(with_reducible repeat(first|refine blk_drewN ?_ _|refine blk_drew ?_|refine blk_alloc ?_ _));refine blk_put (cs:=#[.int .i64 0,.int .i64 0,.string (⟨#[]⟩:ByteArray),.int .i64 0,.int .i64 0,.string (⟨#[]⟩:ByteArray)]) ?_ 0 _ rfl;(with_reducible repeat(first|refine blk_drewN ?_ _|refine blk_drew ?_|refine blk_alloc ?_ _));exact BK194.out) Try.underlying48 rfl z3_17) rfl ?_
 exact ⟨z20_1,z8_1⟩
theorem event_Get.info48:(Try.prog.info? 48).map (λi=>(i.zero,i.size,i.bytes))=some (some (.agg #[.int .i64 0,.int .i64 0,.string (⟨#[]⟩:ByteArray),.int .i64 0,.int .i64 0,.string (⟨#[]⟩:ByteArray)]),6,64):=by kernel_rfl
theorem event_Get.k48_MK (w w':World) (base:Nat) (ok:Nat->Prop) (x:S48) (c:List Value) (h:k48.K w x c):k48.M w' base ok x c:=by
 obtain rfl:=k48_open h
 exact k48_mkM w' base ok x
def event_Get.l0:Nat->List (List Int)->List S48->Int->Option (Option (List S48))
 | 0,_,_,_=>none
 | k+1,ts,acc,i=>if i<(ts.length:Int) then(if 0<=i then((event_effect.f k (Go.Proofs.Ytgocnchjpecafaa.Hand.rdB ts i)).bind λx=>if x.2.2.2.2.2.2=true then(if acc.length<2199023255552 then event_Get.l0 k ts (acc++[⟨x.1,x.2.1,x.2.2.1,x.2.2.2.1,x.2.2.2.2.1,x.2.2.2.2.2.1⟩]) (wrap64 (i+1)) else none) else some none) else none) else some (some acc)
def event_Get.fail:Int×Int×List Int×List S48×Int:=(0,0,[],[],2)
def event_Get.f (k:Nat) (b:List Int):Option (Int×Int×List Int×List S48×Int) :=
 (event_whole.f k b 18).bind λx=>if x.2=true then(if (x.1.length:Int)<=2 then some event_Get.fail else
  (event_whole.f k (Go.Proofs.Ytgocnchjpecafaa.Hand.rdB x.1 0) 2).bind λy=>if y.2=true then(if (y.1.length:Int)=2 then
   (event_ints.f k y.1).bind λn=>(clock_Read.f k (Go.Proofs.Ytgocnchjpecafaa.Hand.rdB x.1 1)).bind λp=>if n.2=true then(if p.2.2=0 then(if p.2.1=((Go.Proofs.Ytgocnchjpecafaa.Hand.rdB x.1 1).length:Int) then(if 1<(n.1.length:Int) then
    (event_Get.l0 k (x.1.drop 2) [] 0).bind λo=>match o with
     | none=>some event_Get.fail
     | some es=>(event_Check.f k (rd n.1 0) (rd n.1 1) p.1 es).bind λc=>if c=0 then some (rd n.1 0,rd n.1 1,p.1,es,0) else some event_Get.fail
    else none) else some event_Get.fail) else some event_Get.fail) else some event_Get.fail
   else some event_Get.fail) else some event_Get.fail) else some event_Get.fail
theorem event_Get.l0_mono:∀ k ts acc i,LeO (event_Get.l0 k ts acc i) (event_Get.l0 (k+1) ts acc i)
 | 0,_,_,_=>λr h=>by simp [event_Get.l0] at h
 | k+1,ts,acc,i=>by
  have ih:=event_Get.l0_mono k
  unfold event_Get.l0
  repeat' first
   | (with_reducible exact ih _ _ _)
   | (with_reducible exact event_effect.mono _ _)
   | (with_reducible exact LeO.refl _)
   | (with_reducible exact LeO.none _)
   | (with_reducible refine LeO.ite ?_ ?_)
   | (with_reducible refine LeO.bind ?_ (λ_=>?_))
theorem event_Get.mono:∀ a0 k,LeO (event_Get.f k a0) (event_Get.f (k+1) a0):=by
 intro a0 k
 unfold event_Get.f
 repeat' first
  | (with_reducible exact LeO.refl _)
  | (with_reducible exact event_whole.mono _ _ _)
  | (with_reducible exact event_ints.mono _ _)
  | (with_reducible exact clock_Read.mono _ _)
  | (with_reducible exact event_Get.l0_mono _ _ _ _)
  | (with_reducible exact event_Check.mono _ _ _ _ _)
  | (with_reducible refine LeO.ite ?_ ?_)
  | (with_reducible refine LeO.bind ?_ (λ_=>?_))
  | exact LeO.refl _
  | split
open Go.Proofs.Ytgocnchjpecafaa.Cards Go.Proofs.Ytgocnchjpecafaa.Hand in
theorem event_Get.calls (k:Nat) (A0:Option Addr) (c0:Nat) (l0:List Int) (r1 r2:Int) (r3:List Int) (r4:List S48) (r5:Int) (w:World) (hr0:Kd.C (Kd.int .u8) w A0 l0.length l0) (hc0:l0.length<=c0) (h:event_Get.f k l0=some (r1,r2,r3,r4,r5)) :
  Calls Try.prog 13 #[.slice A0 l0.length c0] w λe w'=>∃ v2_ v3_:Value,e = .returned (.tuple #[.agg #[.int .i64 r1,.int .i64 r2,v2_,v3_],.int .i64 r5])/\Kd.R (Kd.int .i64) 3 w' w.heap.size (λ_=>True) v2_ r3/\Kd.R k48 48 w' w.heap.size (λ_=>True) v3_ r4/\Below w.heap.size w w':=by
 have hu30:=Try.underlying30
 have hu25:=Try.underlying25
 have hu48:=Try.underlying48
 have HR:=Aside0.mk hr0
 have HC:=Aside0.mk hc0
 have HH:=h
 clear hr0 hc0 h
 go_enter Try.func13,Try.ntmps13
 go_upto_region 1 with (first|((with_reducible refine gate_dst (N:=2) rfl ?_);refine box_event ?hg (N:=2) ?hd (cs:=#[.int .i64 0,.int .i64 0,.slice none 0 0,.slice none 0 0]) (t:=30) ?hr ?_;(case hd=>rfl);(case hg=>rfl);(case hr=>exact z3_10);intro gb hg w3 hbox hb;have HB:=Aside0.mk hb;have BK:=Aside0.mk hbox;have GE:=U (Nat.le_of_eq hg.symm);clear hb hbox hg))
 unfold event_Get.f at HH
 replace HH:=oB_ HH
 obtain ⟨⟨l,ok⟩,h1,HH⟩:=HH
 have H1:=Aside0.mk h1
 have H:=Aside0.mk HH
 clear h1 HH
 go_upto_region 2 with (first|((with_reducible refine gate_callee (f:=49) rfl ?_);refine goesL_ (some 18) rfl rfl Try.func49 z3_17 rfl #[.slice A0 l0.length c0,.int .i64 18] rfl z8_3 ?_;(with_reducible refine(event_whole.calls k _ _ l0 18 l ok _ (Kd.C_below HR.out HB.out) HC.out H1.out).mono ?_);rintro e w4 ⟨v4,rfl,ho,hb⟩;refine ⟨_,rfl,?_⟩;replace HB:=U (below_step HB.out hb);replace BK:=U (blk_below BK.out hb);clear hb;obtain ⟨A4,c4,e4⟩:=Kd.S_slice ho;subst e4;have HL:=U (S_Ft ho).2.2;have CL:=U (S_Ft ho).2.1;clear ho))
 have HH:=H.out
 clear H
 cases ok with
 | false =>
  rw [if_neg (show ¬ (false=true) by decide)] at HH
  (simp only [event_Get.fail,Option.some.injEq,Prod.mk.injEq] at HH;obtain ⟨rfl,rfl,rfl,rfl,rfl⟩:=HH)
  obtain ⟨hz0,hz1,hz2,hz3,hf0,hf1,hf2,hf3⟩:=cz4_ BK.out
  go_wp2
  (refine bodyPost_ret (results_ct rfl _ _ gb 30 #[.int .i64 0,.int .i64 0,.slice none 0 0,.slice none 0 0] (0,0) _ rfl (put4 BK.out) Try.underlying30 rfl z3_17) rfl ?_;exact ⟨_,_,rfl,Kd.R_nil _ _ _ _ _,Kd.R_nil _ _ _ _ _,below_put4 HB.out GE.out⟩)
 | true =>
 rw [if_pos rfl] at HH
 by_cases cl:(l.length:Int)<=2
 ·rw [if_pos cl] at HH
  (simp only [event_Get.fail,Option.some.injEq,Prod.mk.injEq] at HH;obtain ⟨rfl,rfl,rfl,rfl,rfl⟩:=HH)
  have cl1:decide ((l.length:Int)<=2)=true:=dT_ cl
  obtain ⟨hz0,hz1,hz2,hz3,hf0,hf1,hf2,hf3⟩:=cz4_ BK.out
  go_wp2
  (refine bodyPost_ret (results_ct rfl _ _ gb 30 #[.int .i64 0,.int .i64 0,.slice none 0 0,.slice none 0 0] (0,0) _ rfl (put4 BK.out) Try.underlying30 rfl z3_17) rfl ?_;exact ⟨_,_,rfl,Kd.R_nil _ _ _ _ _,Kd.R_nil _ _ _ _ _,below_put4 HB.out GE.out⟩)
 rw [if_neg cl] at HH
 have cl1:decide ((l.length:Int)<=2)=false:=dF_ cl
 replace HH:=oB_ HH
 obtain ⟨⟨d,ok⟩,h1,HH⟩:=HH
 have H1:=Aside0.mk h1
 have H:=Aside0.mk HH
 clear h1 HH
 obtain ⟨ad,A6,c6,e6,hx0,hl6,hC6⟩:=at_rdB (Ft_now HL.out) 0 (by omega) (by omega)
 cases e6
 simp only [show(0:Int).toNat=0 from rfl,Nat.reduceMul,Go.Addr.add,↓reduceIte] at hx0
 have q0:(0<l.length)=True:=eq_true (by omega)
 have q1:(1<l.length)=True:=eq_true (by omega)
 have q2:(2<=l.length)=True:=eq_true (by omega)
 have q1i:((1:Int)<(l.length:Int))=True:=eq_true (by omega)
 have q2i:((2:Int)<=(l.length:Int))=True:=eq_true (by omega)
 have HR6:=Aside0.mk hC6
 have HC6:=Aside0.mk hl6
 clear hC6 hl6 cl
 go_upto_region 5 with (first|((with_reducible refine gate_callee (f:=49) rfl ?_);refine goesL_ (some 33) rfl rfl Try.func49 z3_17 rfl #[.slice A6 (rdB l 0).length c6,.int .i64 2] rfl z8_3 ?_;(with_reducible refine(event_whole.calls k _ _ (rdB l 0) 2 d ok _ HR6.out HC6.out H1.out).mono ?_);rintro e w5 ⟨v6,rfl,ho,hb⟩;refine ⟨_,rfl,?_⟩;replace HB:=U (below_step HB.out hb);replace BK:=U (blk_below BK.out hb);replace HL:=U (Ft_below HL.out hb);obtain ⟨A7,c7,e7⟩:=Kd.S_slice ho;subst e7;have HD:=U (S_Ft ho).2.2;have CD:=U (S_Ft ho).2.1;clear ho))
 have HH:=H.out
 clear H hx0 HR6 HC6
 cases ok with
 | false =>
  rw [if_neg (show ¬ (false=true) by decide)] at HH
  (simp only [event_Get.fail,Option.some.injEq,Prod.mk.injEq] at HH;obtain ⟨rfl,rfl,rfl,rfl,rfl⟩:=HH)
  obtain ⟨hz0,hz1,hz2,hz3,hf0,hf1,hf2,hf3⟩:=cz4_ BK.out
  go_wp2
  (refine bodyPost_ret (results_ct rfl _ _ gb 30 #[.int .i64 0,.int .i64 0,.slice none 0 0,.slice none 0 0] (0,0) _ rfl (put4 BK.out) Try.underlying30 rfl z3_17) rfl ?_;exact ⟨_,_,rfl,Kd.R_nil _ _ _ _ _,Kd.R_nil _ _ _ _ _,below_put4 HB.out GE.out⟩)
 | true =>
 rw [if_pos rfl] at HH
 by_cases cd:(d.length:Int)=2
 case neg =>
  rw [if_neg cd] at HH
  (simp only [event_Get.fail,Option.some.injEq,Prod.mk.injEq] at HH;obtain ⟨rfl,rfl,rfl,rfl,rfl⟩:=HH)
  have cd1:((d.length:Int) != 2)=true:=bne_iff_ne.2 cd
  obtain ⟨hz0,hz1,hz2,hz3,hf0,hf1,hf2,hf3⟩:=cz4_ BK.out
  go_wp2
  (refine bodyPost_ret (results_ct rfl _ _ gb 30 #[.int .i64 0,.int .i64 0,.slice none 0 0,.slice none 0 0] (0,0) _ rfl (put4 BK.out) Try.underlying30 rfl z3_17) rfl ?_;exact ⟨_,_,rfl,Kd.R_nil _ _ _ _ _,Kd.R_nil _ _ _ _ _,below_put4 HB.out GE.out⟩)
 rw [if_pos cd] at HH
 have cd1:((d.length:Int) != 2)=false:=by rw [cd];rfl
 have cd2:=Aside0.mk cd
 clear cd
 replace HH:=oB_ HH
 obtain ⟨⟨n,ok2⟩,h1,HH⟩:=HH
 replace HH:=oB_ HH
 obtain ⟨⟨past,m,e⟩,h2,HH⟩:=HH
 have H1:=Aside0.mk h1
 have H2:=Aside0.mk h2
 have H:=Aside0.mk HH
 clear h1 h2 HH
 go_upto_region 8 with (first|((with_reducible refine gate_callee (f:=50) rfl ?_);refine goesL_ (some 46) rfl rfl Try.func50 z3_17 rfl #[.slice A7 d.length c7] rfl z8_3 ?_;(with_reducible refine(event_ints.calls k _ _ d n ok2 _ (Ft_now HD.out) CD.out H1.out).mono ?_);rintro e w6 ⟨v7,rfl,ho,hb⟩;refine ⟨_,rfl,?_⟩;replace HB:=U (below_step HB.out hb);replace BK:=U (blk_below BK.out hb);replace HL:=U (Ft_below HL.out hb);obtain ⟨A8,c8,e8⟩:=Kd.R_slice ho;subst e8;have HN:=U (R_Ft ho).2.2;have CN:=U (R_Ft ho).2.1;clear ho hb))
 have hl3:2<l.length:=by have:=of_decide_eq_false cl1;omega
 obtain ⟨ad1,A9,c9,e9,hx1,hl9,hC9⟩:=at_rdB (Ft_now HL.out) 1 (by omega) (by omega)
 obtain rfl:ad=ad1:=by injection e9
 simp only [show(1:Int).toNat=1 from rfl,Nat.reduceMul,Nat.reduceEqDiff,Go.Addr.add,↓reduceIte] at hx1
 have HR9:=Aside0.mk hC9
 have HC9:=Aside0.mk hl9
 have HL3:=Aside0.mk hl3
 clear hC9 hl9 e9 hl3
 go_upto_region 9 with (first|((with_reducible refine gate_callee (f:=51) rfl ?_);refine goesL_ (some 53) rfl rfl Try.func51 z3_17 rfl #[.slice A9 (rdB l 1).length c9] rfl z8_3 ?_;(with_reducible refine(clock_Read.calls k _ _ (rdB l 1) past m e _ HR9.out HC9.out H2.out).mono ?_);rintro e_ w7 ⟨v8,rfl,ho,hb⟩;refine ⟨_,rfl,?_⟩;have HSZ:=U (below_size HB.out);replace HB:=U (below_step HB.out hb);replace BK:=U (blk_below BK.out hb);replace HL:=U (Ft_below HL.out hb);have n3:=U (Ft_below HN.out hb);have n4:=pw_cell_below hb hx1;clear HN hx1 HD;have HN:=n3;have hx1:=n4;clear n3 n4;obtain ⟨A10,c10,e10⟩:=Kd.R_slice ho;subst e10;have HP:=U (show Rp (Kd.int .i64) 3 w.heap.size _ A10 c10 past from Kd.R_lower ho HSZ.out);have CP:=U (Rp_le HP.out);clear ho HSZ hb))
 have HH:=H.out
 clear H HR9 HC9
 cases ok2 with
 | false =>
  rw [if_neg (show ¬ (false=true) by decide)] at HH
  (simp only [event_Get.fail,Option.some.injEq,Prod.mk.injEq] at HH;obtain ⟨rfl,rfl,rfl,rfl,rfl⟩:=HH)
  obtain ⟨hz0,hz1,hz2,hz3,hf0,hf1,hf2,hf3⟩:=cz4_ BK.out
  go_wp2
  (refine bodyPost_ret (results_ct rfl _ _ gb 30 #[.int .i64 0,.int .i64 0,.slice none 0 0,.slice none 0 0] (0,0) _ rfl (put4 BK.out) Try.underlying30 rfl z3_17) rfl ?_;exact ⟨_,_,rfl,Kd.R_nil _ _ _ _ _,Kd.R_nil _ _ _ _ _,below_put4 HB.out GE.out⟩)
 | true =>
 rw [if_pos rfl] at HH
 by_cases ce:e=0
 case neg =>
  rw [if_neg ce] at HH
  (simp only [event_Get.fail,Option.some.injEq,Prod.mk.injEq] at HH;obtain ⟨rfl,rfl,rfl,rfl,rfl⟩:=HH)
  have ce1:(e != 0)=true:=bne_iff_ne.2 ce
  obtain ⟨hz0,hz1,hz2,hz3,hf0,hf1,hf2,hf3⟩:=cz4_ BK.out
  go_wp2
  (refine bodyPost_ret (results_ct rfl _ _ gb 30 #[.int .i64 0,.int .i64 0,.slice none 0 0,.slice none 0 0] (0,0) _ rfl (put4 BK.out) Try.underlying30 rfl z3_17) rfl ?_;exact ⟨_,_,rfl,Kd.R_nil _ _ _ _ _,Kd.R_nil _ _ _ _ _,below_put4 HB.out GE.out⟩)
 subst ce
 rw [if_pos rfl] at HH
 by_cases cm:m=((rdB l 1).length:Int)
 case neg =>
  rw [if_neg cm] at HH
  (simp only [event_Get.fail,Option.some.injEq,Prod.mk.injEq] at HH;obtain ⟨rfl,rfl,rfl,rfl,rfl⟩:=HH)
  have cm1:(m != ((rdB l 1).length:Int))=true:=bne_iff_ne.2 cm
  obtain ⟨hz0,hz1,hz2,hz3,hf0,hf1,hf2,hf3⟩:=cz4_ BK.out
  go_wp2
  (refine bodyPost_ret (results_ct rfl _ _ gb 30 #[.int .i64 0,.int .i64 0,.slice none 0 0,.slice none 0 0] (0,0) _ rfl (put4 BK.out) Try.underlying30 rfl z3_17) rfl ?_;exact ⟨_,_,rfl,Kd.R_nil _ _ _ _ _,Kd.R_nil _ _ _ _ _,below_put4 HB.out GE.out⟩)
 subst cm
 rw [if_pos rfl] at HH
 by_cases cn:1<(n.length:Int)
 case neg =>
  rw [if_neg cn] at HH
  exact absurd HH (by simp)
 rw [if_pos cn] at HH
 replace HH:=oB_ HH
 obtain ⟨o,h1,HH⟩:=HH
 have H1:=Aside0.mk h1
 have H:=Aside0.mk HH
 have CN1:=Aside0.mk cn
 clear h1 HH cn
 go_upto_region 11 with (fail)
 obtain ⟨adn,en,hn0⟩:=Kd.at_int (Ft_now HN.out) 0 (by omega) (by have:=CN1.out;omega)
 cases en
 clear hn0 hx1
 refine region_cards (F:=?F) 10 (λw'=>Aside0 (Below w.heap.size w w')/\Aside0 (w'.heap[gb]? = some (.cells #[.int .i64 0,.int .i64 0,.slice none 0 0,.slice none 0 0] 30 (0,0)))/\Aside0 (Ft (Kd.slice 5 (Kd.int .u8)) [22,5] w' (some ad) l)/\Aside0 (Ft (Kd.int .i64) [3] w' (some adn) n)/\Aside0 (Rp (Kd.int .i64) 3 w.heap.size w' A10 c10 past))
  [λv _ _ _=>v = .slice (some adn) n.length c8,
  λv _ _ _=>v = .pointer (some adn),
  λv _ _ _=>v = .int .i64 (rd n 0),
  λv _ _ _=>v = .slice (some adn) n.length c8,
  λv _ _ _=>v = .pointer (some ⟨adn.block,adn.off+1,none⟩),
  λv _ _ _=>v = .int .i64 (rd n 1),
  λv _ _ _=>v = .agg #[.int .i64 (rd n 0),.int .i64 (rd n 1)],
  λv _ _ _=>v = .slice A10 past.length c10,
  λv _ _ _=>v = .agg #[.int .i64 (rd n 0),.int .i64 (rd n 1),.slice A10 past.length c10,.slice none 0 0],
  λv w' _ _=>∃ g,v = .pointer (some ⟨g,0,none⟩)/\w'.heap[g]? = some (.cells #[.int .i64 0,.int .i64 0,.slice none 0 0,.slice none 0 0] 30 (0,0))/\w.heap.size<=g/\gb≠g]
  z3_17 z3_17 ?hF ?hS0 ?hS ?hstay ?hsteps ?hend
 case hF =>
  intro vs
  simp only [List.take_succ_cons,List.take_zero,fill,if_true,if_false,Act.put,List.setIfInBounds_toArray,List.set_cons_zero,List.set_cons_succ,Nat.reduceAdd,List.contains_cons,List.contains_nil,Nat.reduceBEq,Bool.or_false,Bool.false_or,Bool.not_true,Bool.not_false,Bool.false_eq_true,Bool.or_self,Bool.true_or]
  rfl
 case hS0=>exact ⟨⟨below_drew HB.out⟩,⟨blk_drew BK.out⟩,⟨Ft_drew HL.out⟩,⟨Ft_drew HN.out⟩,⟨Rp_drew HP.out⟩⟩
 case hS=>exact λw1 w2 hb hs=>⟨⟨below_step hs.1.out hb⟩,⟨blk_below hs.2.1.out hb⟩,⟨Ft_below hs.2.2.1.out hb⟩,⟨Ft_below hs.2.2.2.1.out hb⟩,⟨Rp_below hs.2.2.2.2.out hb⟩⟩
 case hstay=>exact ⟨λ_ _ _ _ _ _ h=>h,λ_ _ _ _ _ _ h=>h,λ_ _ _ _ _ _ h=>h,λ_ _ _ _ _ _ h=>h,λ_ _ _ _ _ _ h=>h,λ_ _ _ _ _ _ h=>h,λ_ _ _ _ _ _ h=>h,λ_ _ _ _ _ _ h=>h,λ_ _ _ _ _ _ h=>h,λ_ _ _ _ _ hb h=>by obtain ⟨g,h1,h2,h3⟩:=h;exact ⟨g,h1,blk_below h2 hb,h3⟩,trivial⟩
 case hsteps =>
  refine ⟨?s_0,?s_1,?s_2,?s_3,?s_4,?s_5,?s_6,?s_7,?s_8,?s_9,trivial⟩
  case s_0 =>
   intro _ vs lo hi W hs hp
   exact does_val z3_10 ⟨rfl,Below.refl _ _⟩
  case s_1 =>
   intro _ vs lo hi W hs hp
   have e0:vs 0 = .slice (some adn) n.length c8:=hp 0 z3_17 rfl
   have q:=CN1.out
   have q0:(0<n.length)=True:=eq_true (by omega)
   have q0i:((0:Int)<(n.length:Int))=True:=eq_true (by omega)
   clear q
   exact does_val z3_10 ⟨rfl,Below.refl _ _⟩
  case s_2 =>
   intro _ vs lo hi W hs hp
   have e1:vs 1 = .pointer (some adn):=hp 1 z3_17 rfl
   obtain ⟨adn',en,hn0⟩:=Kd.at_int (Ft_now hs.2.2.2.1.out) 0 (by omega) (by have:=CN1.out;omega)
   cases en
   simp only [show(0:Int).toNat=0 from rfl,Go.Addr.add,↓reduceIte] at hn0
   exact does_val z3_10 ⟨rfl,Below.refl _ _⟩
  case s_3 =>
   intro _ vs lo hi W hs hp
   exact does_val z3_10 ⟨rfl,Below.refl _ _⟩
  case s_4 =>
   intro _ vs lo hi W hs hp
   have e3:vs 3 = .slice (some adn) n.length c8:=hp 3 z3_17 rfl
   have q:=CN1.out
   have q0:(1<n.length)=True:=eq_true (by omega)
   have q0i:((1:Int)<(n.length:Int))=True:=eq_true (by omega)
   clear q
   exact does_val z3_10 ⟨rfl,Below.refl _ _⟩
  case s_5 =>
   intro _ vs lo hi W hs hp
   have e4:vs 4 = .pointer (some ⟨adn.block,adn.off+1,none⟩):=hp 4 z3_17 rfl
   obtain ⟨adn',en,hn0⟩:=Kd.at_int (Ft_now hs.2.2.2.1.out) 1 (by omega) (by have:=CN1.out;omega)
   cases en
   simp only [show(1:Int).toNat=1 from rfl,Nat.reduceEqDiff,Go.Addr.add,↓reduceIte] at hn0
   exact does_val z3_10 ⟨rfl,Below.refl _ _⟩
  case s_6 =>
   intro _ vs lo hi W hs hp
   have e2:vs 2 = .int .i64 (rd n 0):=hp 2 z3_17 rfl
   have e5:vs 5 = .int .i64 (rd n 1):=hp 5 z3_17 rfl
   exact does_val z3_10 ⟨rfl,Below.refl _ _⟩
  case s_7 =>
   intro _ vs lo hi W hs hp
   exact does_val z3_10 ⟨rfl,Below.refl _ _⟩
  case s_8 =>
   intro _ vs lo hi W hs hp
   have e6:vs 6 = .agg #[.int .i64 (rd n 0),.int .i64 (rd n 1)]:=hp 6 z3_17 rfl
   have e7:vs 7 = .slice A10 past.length c10:=hp 7 z3_17 rfl
   exact does_val z3_10 ⟨rfl,Below.refl _ _⟩
  case s_9 =>
   intro _ vs lo hi W hs hp
   exact does_val (v:=.pointer (some ⟨W.heap.size,0,none⟩)) (w1:=W.alloc (.cells #[.int .i64 0,.int .i64 0,.slice none 0 0,.slice none 0 0] 30)) z3_10 ⟨⟨_,rfl,heap_alloc_new W _,below_size hs.1.out,Nat.ne_of_lt (blk_lt hs.2.1.out)⟩,below_alloc (Below.refl _ _) _⟩
 case hend =>
 intro vs lo hi W hs hp _
 simp only [List.drop_succ_cons,List.drop_zero]
 have e8:vs 8 = .agg #[.int .i64 (rd n 0),.int .i64 (rd n 1),.slice A10 past.length c10,.slice none 0 0]:=hp 8 (by decide)
 obtain ⟨g,e9,BO,GO,NE⟩:∃ g,vs 9 = .pointer (some ⟨g,0,none⟩)/\W.heap[g]? = some (.cells #[.int .i64 0,.int .i64 0,.slice none 0 0,.slice none 0 0] 30 (0,0))/\w.heap.size<=g/\gb≠g:=hp 9 (by decide)
 rw [e8,e9]
 clear hp e8 e9 HB BK HL HN HP
 obtain ⟨HB,BK,HL,HN,HP⟩:=hs
 have hz0:=(blk_cell BO 0).trans (rfl:_=some (Value.int .i64 0));have hz1:=(blk_cell BO 1).trans (rfl:_=some (Value.int .i64 0));have hz2:=(blk_cell BO 2).trans (rfl:_=some (Value.slice none 0 0));have hz3:=(blk_cell BO 3).trans (rfl:_=some (Value.slice none 0 0));have hf0:=blk_frozen BO 0;have hf1:=blk_frozen BO 1;have hf2:=blk_frozen BO 2;have hf3:=blk_frozen BO 3
 replace BO:=Aside0.mk BO
 replace GO:=Aside0.mk GO
 replace NE:=Aside0.mk NE
 have TG:=U (typed_of_block BO.out)
 go_upto_region 12 with (fail)
 have HB1:=U (below_put4 (a':=.int .i64 (rd n 0)) (b':=.int .i64 (rd n 1)) (c':=.slice A10 past.length c10) (d':=.slice none 0 0) HB.out GO.out)
 have BO1:=U (put4 (a':=.int .i64 (rd n 0)) (b':=.int .i64 (rd n 1)) (c':=.slice A10 past.length c10) (d':=.slice none 0 0) BO.out)
 have BK1:=U (blk_far (p:=⟨g,3,none⟩) (blk_far (p:=⟨g,2,none⟩) (blk_far (p:=⟨g,1,none⟩) (blk_far (p:=⟨g,0,none⟩) BK.out NE.out (.int .i64 (rd n 0))) NE.out (.int .i64 (rd n 1))) NE.out (.slice A10 past.length c10)) NE.out (.slice none 0 0))
 have HL1:=U (Ft_set (i:=3) (Ft_set (i:=2) (Ft_set (i:=1) (Ft_set (i:=0) HL.out TG.out (by decide) (.int .i64 (rd n 0))) (typed_set TG.out) (by decide) (.int .i64 (rd n 1))) (typed_set (typed_set TG.out)) (by decide) (.slice A10 past.length c10)) (typed_set (typed_set (typed_set TG.out))) (by decide) (.slice none 0 0))
 have HP1:=U (Rp_put4 rfl HP.out TG.out (by decide) (.int .i64 (rd n 0)) (.int .i64 (rd n 1)) (.slice A10 past.length c10) (.slice none 0 0))
 generalize (((W.setCell ⟨g,0,none⟩ (.int .i64 (rd n 0))).setCell ⟨g,1,none⟩ (.int .i64 (rd n 1))).setCell ⟨g,2,none⟩ (.slice A10 past.length c10)).setCell ⟨g,3,none⟩ (.slice none 0 0)=w8 at HB1 BO1 BK1 HL1 HP1 ⊢
 clear hz0 hz1 hz2 hz3 hf0 hf1 hf2 hf3 BO TG HB BK HL HN HP
 obtain ⟨i022,hi22,_,hsz22,_⟩:=info_parts info22
 obtain ⟨A82,c82,hcut,hF82,hc82⟩:∃ A82 c82,(∀ W,(Instr.slice 73 (.slice (some ad) l.length c4) (some (.int .i64 2)) none none).run Try.prog W = .ok (.slice A82 (l.drop 2).length c82) W)/\Ft (Kd.slice 5 (Kd.int .u8)) [22,5] w8 A82 (l.drop 2)/\(l.drop 2).length<=c82:=by
  refine ⟨if c4=2 then some ad else(some ad).map (·.add (2*1)),c4 - 2,λW=>?_,Ft_cut (m:=2) HL1.out (by have:=HL3.out;omega) CL.out,(by rw [List.length_drop];have:=CL.out;have:=HL3.out;omega)⟩
  rw [List.length_drop]
  exact cut_from 73 22 .i64 Try.underlying73 hi22 1 hsz22 (some ad) l.length c4 2 (by omega) (by have:=HL3.out;omega) W
 have HT:=Aside0.mk hF82
 have CT:=Aside0.mk hc82
 clear hF82 hc82 hi22 hsz22 HL1
 generalize l.drop 2=ts at H1 hcut HT CT
 go_wp2
 clear hcut
 go_loopg [84] k (λkq v84 w'=>∃ (acc:List S48) (i:Int) (v:Value),v84 = .int .i64 i/\Aside0 (event_Get.l0 kq ts acc i=some o)/\Aside0 (kq<=k)/\Aside0 (w'.heap[g]? = some (.cells #[.int .i64 (rd n 0),.int .i64 (rd n 1),.slice A10 past.length c10,v] 30 (0,0)))/\Aside0 (Kd.N k48 48 w' w.heap.size (λk=>k≠g) v acc)/\Aside0 (Ft (Kd.slice 5 (Kd.int .u8)) [22,5] w' A82 ts)/\Aside0 (Rp (Kd.int .i64) 3 w.heap.size w' A10 c10 past)/\Aside0 (w'.heap[gb]? = some (.cells #[.int .i64 0,.int .i64 0,.slice none 0 0,.slice none 0 0] 30 (0,0)))/\Aside0 (Below w.heap.size w w'))
 case atStart=>exact ⟨[],0,.slice none 0 0,rfl,H1,⟨Nat.le_refl _⟩,BO1,⟨Kd.N_nil _ _ _ _ _⟩,HT,HP1,BK1,HB1⟩
 case round =>
 clear H1 BO1 HT HP1 BK1 HB1
 obtain ⟨acc,i,v,rfl,HA,HK,BO,HO,HT,HP,BK,HB⟩:=hrel
 cases gk with
 | zero=>exact absurd HA.out (by simp [event_Get.l0])
 | succ k1 =>
 replace HQ:=HA.out
 clear HA
 simp only [event_Get.l0] at HQ
 by_cases ci:i<(ts.length:Int)
 rotate_left
 ·rw [if_neg ci] at HQ
  obtain rfl:=sI_ HQ
  have HH:=H.out
  clear H
  simp only at HH
  replace HH:=oB_ HH
  obtain ⟨c,h1,HH⟩:=HH
  have HX:=Aside0.mk h1
  clear h1
  have ci1:decide (i<(ts.length:Int))=false:=dF_ ci
  have ci2:(i<(ts.length:Int))=False:=eq_false ci
  clear ci HT
  obtain ⟨Av,cv,ev⟩:=Kd.N_slice HO.out
  subst ev
  have HS:=U (Kd.N_reads' HO.out)
  have ho0:=(blk_cell BO.out 0).trans (rfl:_=some (Value.int .i64 (rd n 0)))
  have ho1:=(blk_cell BO.out 1).trans (rfl:_=some (Value.int .i64 (rd n 1)))
  have ho2:=(blk_cell BO.out 2).trans (rfl:_=some (Value.slice A10 past.length c10))
  have ho3:=(blk_cell BO.out 3).trans (rfl:_=some (Value.slice Av acc.length cv))
  by_cases cc:c=0
  rotate_left
  ·rw [if_neg cc] at HH
   have cc1:(c != 0)=true:=bne_iff_ne.2 cc
   (simp only [event_Get.fail,Option.some.injEq,Prod.mk.injEq] at HH;obtain ⟨rfl,rfl,rfl,rfl,rfl⟩:=HH)
   go_wp2_with (first|((with_reducible refine gate_callee (f:=27) rfl ?_);refine goesL_ (some 104) rfl rfl Try.func27 z3_17 rfl #[.agg #[.int .i64 (rd n 0),.int .i64 (rd n 1),.slice A10 past.length c10,.slice Av acc.length cv]] rfl z8_3 ?_;(with_reducible refine(event_Check.calls k _ _ _ _ past _ _ acc _ _ (Rp_now HP.out) CP.out HS.out.2.2 HS.out.2.1 HX.out).mono ?_);rintro e w12 ⟨rfl,hb⟩;refine ⟨_,rfl,?_⟩;replace HB:=U (below_step HB.out hb);replace BK:=U (blk_below BK.out hb);replace HP:=U (Rp_below HP.out hb);replace HO:=U (Kd.N_below HO.out hb);replace BO:=U (blk_below BO.out hb);clear ho0 ho1 ho2 ho3;clear hb;obtain ⟨hz0,hz1,hz2,hz3,hf0,hf1,hf2,hf3⟩:=cz4_ BK.out;have ho0:=(blk_cell BO.out 0).trans (rfl:_=some (Value.int .i64 (rd n 0)));have ho1:=(blk_cell BO.out 1).trans (rfl:_=some (Value.int .i64 (rd n 1)));have ho2:=(blk_cell BO.out 2).trans (rfl:_=some (Value.slice A10 past.length c10));have ho3:=(blk_cell BO.out 3).trans (rfl:_=some (Value.slice Av acc.length cv))))
   (refine bodyPost_ret (results_ct rfl _ _ gb 30 #[.int .i64 0,.int .i64 0,.slice none 0 0,.slice none 0 0] (0,0) _ rfl (put4 BK.out) Try.underlying30 rfl z3_17) rfl ?_;exact ⟨_,_,rfl,Kd.R_nil _ _ _ _ _,Kd.R_nil _ _ _ _ _,below_put4 HB.out GE.out⟩)
  subst cc
  rw [if_pos rfl] at HH
  simp only [Option.some.injEq,Prod.mk.injEq] at HH
  obtain ⟨rfl,rfl,rfl,rfl,rfl⟩:=HH
  go_wp2_with (first|((with_reducible refine gate_callee (f:=27) rfl ?_);refine goesL_ (some 104) rfl rfl Try.func27 z3_17 rfl #[.agg #[.int .i64 (rd n 0),.int .i64 (rd n 1),.slice A10 past.length c10,.slice Av acc.length cv]] rfl z8_3 ?_;(with_reducible refine(event_Check.calls k _ _ _ _ past _ _ acc _ _ (Rp_now HP.out) CP.out HS.out.2.2 HS.out.2.1 HX.out).mono ?_);rintro e w12 ⟨rfl,hb⟩;refine ⟨_,rfl,?_⟩;replace HB:=U (below_step HB.out hb);replace BK:=U (blk_below BK.out hb);replace HP:=U (Rp_below HP.out hb);replace HO:=U (Kd.N_below HO.out hb);replace BO:=U (blk_below BO.out hb);clear ho0 ho1 ho2 ho3;clear hb;obtain ⟨hz0,hz1,hz2,hz3,hf0,hf1,hf2,hf3⟩:=cz4_ BK.out;have ho0:=(blk_cell BO.out 0).trans (rfl:_=some (Value.int .i64 (rd n 0)));have ho1:=(blk_cell BO.out 1).trans (rfl:_=some (Value.int .i64 (rd n 1)));have ho2:=(blk_cell BO.out 2).trans (rfl:_=some (Value.slice A10 past.length c10));have ho3:=(blk_cell BO.out 3).trans (rfl:_=some (Value.slice Av acc.length cv))))
  refine bodyPost_ret (results_ct rfl _ _ gb 30 #[.int .i64 (rd n 0),.int .i64 (rd n 1),.slice A10 past.length c10,.slice Av acc.length cv] (0,0) _ rfl (put4 BK.out) Try.underlying30 rfl z3_17) rfl ?_
  have TB:=typed_of_block BK.out
  exact ⟨_,_,rfl,Rp_put4 rfl HP.out TB (by decide) _ _ _ _,Rp_put4 rfl (Rp_of_N event_Get.k48_MK HO.out) TB (by decide) _ _ _ _,below_put4 HB.out GE.out⟩
 rw [if_pos ci] at HQ
 by_cases c0_:0<=i
 case neg =>
  rw [if_neg c0_] at HQ
  exact absurd HQ (by simp)
 rw [if_pos c0_] at HQ
 replace HQ:=oB_ HQ
 obtain ⟨⟨x1,x2,x3,x4,x5,x6,x7⟩,h1,HQ⟩:=HQ
 have HE:=Aside0.mk h1
 replace HQ:=Aside0.mk HQ
 clear h1
 obtain ⟨adt,A14,c14,e14,hx,hl14,hC14⟩:=at_rdB (Ft_now HT.out) i c0_ ci
 cases e14
 have ci1:decide (i<(ts.length:Int))=true:=dT_ ci
 have ci2:(i<(ts.length:Int))=True:=eq_true ci
 have c01:(0<=i)=True:=eq_true c0_
 have HR14:=Aside0.mk hC14
 have HC14:=Aside0.mk hl14
 clear ci c0_ hC14 hl14
 go_upto_region 16 with (first|((with_reducible refine gate_callee (f:=52) rfl ?_);refine goesL_ (some 90) rfl rfl Try.func52 z3_17 rfl #[.slice A14 (rdB ts i).length c14] rfl z8_3 ?_;(with_reducible refine(event_effect.calls k1 _ _ (rdB ts i) x1 x2 x3 x4 x5 x6 x7 _ HR14.out HC14.out HE.out).mono ?_);rintro e_ w9 ⟨rfl,hb⟩;refine ⟨_,rfl,?_⟩;replace HB:=U (below_step HB.out hb);replace BK:=U (blk_below BK.out hb);replace HT:=U (Ft_below HT.out hb);replace HP:=U (Rp_below HP.out hb);replace HO:=U (Kd.N_below HO.out hb);replace BO:=U (blk_below BO.out hb);clear hb hx))
 have BX:=U (heap_alloc_new w9 (.cells #[.int .i64 x1,.int .i64 x2,.string x3,.int .i64 x4,.int .i64 x5,.string x6] 48))
 have hbx:=below_alloc (Below.refl w9.heap.size w9) (.cells #[.int .i64 x1,.int .i64 x2,.string x3,.int .i64 x4,.int .i64 x5,.string x6] 48)
 generalize w9.alloc (.cells #[.int .i64 x1,.int .i64 x2,.string x3,.int .i64 x4,.int .i64 x5,.string x6] 48)=w10 at BX hbx ⊢
 replace HB:=U (below_step HB.out hbx);replace BK:=U (blk_below BK.out hbx);replace HT:=U (Ft_below HT.out hbx);replace HP:=U (Rp_below HP.out hbx);replace HO:=U (Kd.N_below HO.out hbx);replace BO:=U (blk_below BO.out hbx);clear hbx
 replace HQ:=HQ.out
 cases x7 with
 | false =>
  rw [if_neg (show ¬ (false=true) by decide)] at HQ
  obtain rfl:=sI_ HQ
  have HH:=H.out
  simp only at HH
  (simp only [event_Get.fail,Option.some.injEq,Prod.mk.injEq] at HH;obtain ⟨rfl,rfl,rfl,rfl,rfl⟩:=HH)
  obtain ⟨hz0,hz1,hz2,hz3,hf0,hf1,hf2,hf3⟩:=cz4_ BK.out
  go_wp2
  (refine bodyPost_ret (results_ct rfl _ _ gb 30 #[.int .i64 0,.int .i64 0,.slice none 0 0,.slice none 0 0] (0,0) _ rfl (put4 BK.out) Try.underlying30 rfl z3_17) rfl ?_;exact ⟨_,_,rfl,Kd.R_nil _ _ _ _ _,Kd.R_nil _ _ _ _ _,below_put4 HB.out GE.out⟩)
 | true =>
 rw [if_pos rfl] at HQ
 by_cases cl:acc.length<2199023255552
 case neg =>
  rw [if_neg cl] at HQ
  exact absurd HQ (by simp)
 rw [if_pos cl] at HQ
 have CL2:=Aside0.mk cl
 have HQ3:=Aside0.mk HQ
 clear cl HQ
 obtain ⟨hz0,hz1,hz2,hz3,hz4,hz5,_,_,_,_,_,_⟩:=cz6_ BX.out
 have ho3:=(blk_cell BO.out 3).trans (rfl:_=some v)
 obtain ⟨Av,cv,ev⟩:=Kd.N_slice HO.out
 subst ev
 go_wp2_with (first|((with_reducible refine gate_builtin (b:=.append) (xs:=#[.tmp 97,.tmp 99]) rfl ?_);at_builtin;refine Kd.N_append k48 (w0:=w) w.heap.size rfl (.tmp 97) (.tmp 99) 28 48 (.agg #[.int .i64 0,.int .i64 0,.string (⟨#[]⟩:ByteArray),.int .i64 0,.int .i64 0,.string (⟨#[]⟩:ByteArray)]) 64 rfl Try.underlying28 event_Get.info48 rfl (by decide) (by decide) (.slice Av acc.length cv) acc ⟨x1,x2,x3,x4,x5,x6⟩ [.int .i64 x1,.int .i64 x2,.string x3,.int .i64 x4,.int .i64 x5,.string x6] (λk=>k≠g) (λ_=>False) rfl rfl (k48_mkF _ _ _) (λ_ hk=>hk.elim) (λk hk he=>by have:=blk_lt BO.out;omega) HO.out HB.out (below_size HB.out) (by have:=CL2.out;omega) ?_;intro v100 w11 ho hb hg hat;have TY:=U (λk (hk:(Value.slice Av acc.length cv).ownBlock=some k)=>N_typed' HO.out hk.symm);have n2:=U (blk_grown BK.out hg (Kd.N_ne HO.out BK.out (by decide)));have n3:=U (Ft_grown HT.out hg TY.out (by decide));have n4:=U (Rp_grown rfl HP.out hg TY.out (by decide));have n6:=U (blk_grown BO.out hg (Kd.N_ne HO.out BO.out (by decide)));clear HB BK HT HP HO BO BX TY hz0 hz1 hz2 hz3 hz4 hz5 ho3;have HB:=Aside0.mk hb;have BK:=n2;have HT:=n3;have HP:=n4;have HO:=Aside0.mk ho;have BO:=n6;clear n2 n3 n4 n6 hb hg hat;have ho3:=(blk_cell BO.out 3).trans (rfl:_=some (Value.slice Av acc.length cv));have hf3:=blk_frozen BO.out 3;obtain ⟨A100,c100,e100⟩:=Kd.N_slice ho;subst e100;clear ho;rw [List.length_append,List.length_singleton] at HO))
 go_roundg k1
 case measure=>have:=HK.out;omega
 case rel=>exact ⟨acc++[(⟨x1,x2,x3,x4,x5,x6⟩:S48)],wrap64 (i+1),.slice A100 (acc.length+1) c100,rfl,HQ3,⟨(by have:=HK.out;omega)⟩,⟨blk_put (cs:=#[.int .i64 (rd n 0),.int .i64 (rd n 1),.slice A10 past.length c10,.slice Av acc.length cv]) BO.out 3 _ rfl⟩,⟨Kd.N_far (p:=⟨g,3,none⟩) HO.out (λ_ hk=>hk) _⟩,⟨Ft_set HT.out (typed_of_block BO.out) (by decide) _⟩,⟨Rp_set rfl HP.out (typed_of_block BO.out) (by decide) _⟩,⟨blk_far (p:=⟨g,3,none⟩) BK.out NE.out _⟩,⟨below_set HB.out GO.out⟩⟩
end Go.Proofs.Ytgocnchjpecafaa.PEv
