/- a part -/
import Derived.Test.YtfhamdobagjakaaJoOpen
import Derived.Test.YtfhamdobagjakaaJoHere
namespace Go.Proofs.Ytfhamdobagjakaa.Dsk
open Go.RowKit Go.Proofs.YtfhamdobagjakaaW.PrintWords Go.Proofs.YtfhamdobagjakaaW.PrintLast Go.Proofs.YtfhamdobagjakaaW.PrintMore Go.Proofs.Ytfhamdobagjakaa.Hand Go.Proofs.Ytfhamdobagjakaa.Cards Go.Proofs.Ytfhamdobagjakaa.PJo
set_option linter.unusedVariables false
set_option linter.unusedSimpArgs false
section
variable {w0 W w W1 : World} {g gj gh : Nat} {v0 v1 : Value} {D : Nat -> Prop} {d : Dk} {s t e n s1 t1 e1 n1 : Int} {A A1 : Option Addr} {c c1 : Nat} {l l1 : List S92}
structure Op (W w:World) (g gj gh:Nat) (s t:Int) (A:Option Addr) (c:Nat) (l:List S92) (e n:Int):Prop where
 hb:Below W.heap.size W w
 jge:W.heap.size<=gj
 hge:W.heap.size<=gh
 ne:gh≠gj
 xj:w.heap[gj]? = some (JoObj (some ⟨g,0,none⟩) s t false)
 xh:w.heap[gh]? = some (.cells #[.int .u64 t,.slice A l.length c,.int .i64 e,.int .i64 n] 100 (0,0))
 row:Ft k92 [92,5] w A l
 cap:l.length<=c
theorem Op.on (h:Op W w g gj gh s t A c l e n) (hb:Below w.heap.size w W1):Op W W1 g gj gh s t A c l e n :=
 ⟨below_step h.hb hb,h.jge,h.hge,h.ne,blk_below h.xj hb,blk_below h.xh hb,Ft_below h.row hb,h.cap⟩
theorem Op.new (h:Op W w g gj gh s t A c l e n) (hr:Ft k92 [92,5] w A1 l1) (hc:l1.length<=c1) :
  Op W ((((((w.setCell ⟨gh,0,none⟩ (.int .u64 t1)).setCell ⟨gh,1,none⟩ (.slice A1 l1.length c1)).setCell ⟨gh,2,none⟩ (.int .i64 e1)).setCell ⟨gh,3,none⟩ (.int .i64 n1)).setCell ⟨gj,1,none⟩ (.int .i64 s1)).setCell ⟨gj,2,none⟩ (.int .u64 t1)) g gj gh s1 t1 A1 c1 l1 e1 n1:=by
 have hbj:∀ (w:World) (j:Nat) (v:Value),Below W.heap.size W w->Below W.heap.size W (w.setCell ⟨gj,j,none⟩ v):=λw j v hb=>below_set hb h.jge
 have hbh:∀ (w:World) (j:Nat) (v:Value),Below W.heap.size W w->Below W.heap.size W (w.setCell ⟨gh,j,none⟩ v):=λw j v hb=>below_set hb h.hge
 have th:typed 100 w gh:=typed_of_block h.xh
 have tj:typed 64 w gj:=typed_of_block h.xj
 refine ⟨hbj _ _ _ (hbj _ _ _ (hbh _ _ _ (hbh _ _ _ (hbh _ _ _ (hbh _ _ _ h.hb))))),h.jge,h.hge,h.ne,?_,?_,?_,hc⟩
 ·have q:((((w.setCell ⟨gh,0,none⟩ (.int .u64 t1)).setCell ⟨gh,1,none⟩ (.slice A1 l1.length c1)).setCell ⟨gh,2,none⟩ (.int .i64 e1)).setCell ⟨gh,3,none⟩ (.int .i64 n1)).heap[gj]? = some (JoObj (some ⟨g,0,none⟩) s t false):=by
   rw [Below.heap_setCell _ _ _ _ h.ne.symm,Below.heap_setCell _ _ _ _ h.ne.symm,Below.heap_setCell _ _ _ _ h.ne.symm,Below.heap_setCell _ _ _ _ h.ne.symm]
   exact h.xj
  exact blk_put (blk_put q 1 (.int .i64 s1) rfl) 2 (.int .u64 t1) rfl
 ·rw [Below.heap_setCell _ _ _ _ h.ne,Below.heap_setCell _ _ _ _ h.ne]
  exact blk_put (blk_put (blk_put (blk_put h.xh 0 _ rfl) 1 _ rfl) 2 _ rfl) 3 _ rfl
 ·exact Ft_set (Ft_set (Ft_set (Ft_set (Ft_set (Ft_set hr th (by decide) _) (typed_set th) (by decide) _) (typed_set (typed_set th)) (by decide) _) (typed_set (typed_set (typed_set th))) (by decide) _) (typed_set (typed_set (typed_set (typed_set tj)))) (by decide) _) (typed_set (typed_set (typed_set (typed_set (typed_set tj))))) (by decide) _
def found (i:Int) (x y:Int×Int×List S92×Int×Int) (f:Int×List S92×Int×Int):Prop:=(f.1 > x.2.1/\y=(i,f))\/(¬ f.1 > x.2.1/\y=x)
theorem found_yes {i:Int} {x y:Int×Int×List S92×Int×Int} {f:Int×List S92×Int×Int} (h:found i x y f) (hf:f.1 > x.2.1):y=(i,f):=by
 rcases h with ⟨_,h⟩|⟨h,_⟩
 ·exact h
 ·exact absurd hf h
theorem found_no {i:Int} {x y:Int×Int×List S92×Int×Int} {f:Int×List S92×Int×Int} (h:found i x y f) (hf:¬ f.1 > x.2.1):y=x:=by
 rcases h with ⟨h,_⟩|⟨_,h⟩
 ·exact absurd h hf
 ·exact h
set_option maxHeartbeats 16000000 in
set_option maxRecDepth 100000 in
theorem open_calls (h:Raw w0 W g v0 v1 D d) (hg:d.Good) (hd:d.dead=false) {k0 k1:Nat} {f0 f1:Int×List S92×Int×Int} (q0:journal_scan.f k0 d.b0=some f0) (q1:journal_scan.f k1 d.b1=some f1)
  {x y:Int×Int×List S92×Int×Int} (hx:found 0 (1,0,[],0,0) x f0) (hy:found 1 x y f1) (hn:¬ y.2.2.2.1<y.2.2.2.2) :
  Calls Try.prog 18 #[.pointer (some ⟨g,0,none⟩)] W λe w'=>∃ gj A c,e = .returned (.tuple #[.pointer (some ⟨gj,0,none⟩),.slice A y.2.2.1.length c,.int .i64 0])/\w'.heap[gj]? = some (JoObj (some ⟨g,0,none⟩) y.1 y.2.1 false)/\W.heap.size<=gj/\Ft k92 [92,5] w' A y.2.2.1/\y.2.2.1.length<=c/\Below W.heap.size W w':=by
 have r0:=λW1 (hW:Below W.heap.size W W1)=>read_calls (h.on hW) hg 0
 have r1:=λW1 (hW:Below W.heap.size W W1)=>read_calls (h.on hW) hg 1
 simp only [Dk.why_ok (d:=d) (i:=0) hd (by omega),Dk.why_ok (d:=d) (i:=1) hd (by omega),if_true,show d.row 0=d.b0 from rfl,show d.row 1=d.b1 from rfl] at r0 r1
 have R0:=Aside0.mk r0
 have R1:=Aside0.mk r1
 have Q0:=Aside0.mk q0
 have Q1:=Aside0.mk q1
 have HX:=Aside0.mk hx
 have HY:=Aside0.mk hy
 have HN:=Aside0.mk hn
 obtain ⟨a0,b0,c0,d0⟩:=f0
 obtain ⟨a1,b1,c1,d1⟩:=f1
 obtain ⟨bb0,hb0⟩:∃ b,b=d.b0:=⟨_,rfl⟩
 obtain ⟨bb1,hb1⟩:∃ b,b=d.b1:=⟨_,rfl⟩
 rw [<-hb0] at R0 Q0
 rw [<-hb1] at R1 Q1
 clear r0 r1 h hg hd q0 q1 hx hy hn hb0 hb1
 go_enter Try.func18,Try.ntmps18
 go_upto_region 5 with (fail)
 have O:=Aside0.mk (show Op W ((W.alloc (.cells #[.pointer (some ⟨g,0,none⟩),.int .i64 1,.int .u64 0,.bool false] 64)).alloc (.cells #[.int .u64 0,.slice none 0 0,.int .i64 0,.int .i64 0] 100)) g W.heap.size (W.heap.size+1) 1 0 none 0 [] 0 0 from
  ⟨below_alloc (below_alloc (Below.refl _ _) _) _,Nat.le_refl _,Nat.le_succ _,by omega,blk_below (heap_alloc_new W _) (below_alloc (Below.refl _ _) _),by have h_:=heap_alloc_new (W.alloc (.cells #[.pointer (some ⟨g,0,none⟩),.int .i64 1,.int .u64 0,.bool false] 64)) (.cells #[.int .u64 0,.slice none 0 0,.int .i64 0,.int .i64 0] 100);rwa [show(W.alloc (.cells #[.pointer (some ⟨g,0,none⟩),.int .i64 1,.int .u64 0,.bool false] 64)).heap.size=W.heap.size+1 by simp] at h_,Ft_nil _ _ _,Nat.le_refl _⟩)
 obtain ⟨gj,hgj⟩:∃ gj,gj=W.heap.size:=⟨_,rfl⟩
 obtain ⟨gh,hgh⟩:∃ gh,gh=W.heap.size+1:=⟨_,rfl⟩
 rw [<-hgh] at O ⊢
 generalize ((W.alloc (.cells #[.pointer (some ⟨g,0,none⟩),.int .i64 1,.int .u64 0,.bool false] 64)).alloc (.cells #[.int .u64 0,.slice none 0 0,.int .i64 0,.int .i64 0] 100))=w1 at O ⊢
 have OO:=Aside0.mk (show Op W w1 g gj gh 1 0 none 0 [] 0 0 by rw [hgj];exact O.out)
 rw [<-hgj]
 clear O hgj hgh
 go_wp2
 refine wp_loop_rounds 3 ?_
 rw [rounds_succ]
 go_upto_region 12 with (first|(go_at_call 49;(with_reducible refine Calls.mono (R0.out w1 OO.out.hb) ?_);rintro e w2 ⟨v,rfl,hv,hb⟩;obtain ⟨Ar,cr,er⟩:=Kd.R_slice hv;subst er;have RC:=Aside0.mk (Kd.R_reads' hv).2;have q_:=OO.out.on hb;clear OO hb hv;have OO:=Aside0.mk q_;clear q_)|(go_at_call 50;(with_reducible refine Calls.mono (journal_scan.calls k0 Ar cr bb0 a0 b0 c0 d0 w2 RC.out.2 RC.out.1 Q0.out) ?_);rintro e w3 ⟨vs,rfl,hS,hb⟩;obtain ⟨As0,cs0,es⟩:=Kd.S_slice hS;subst es;have q_:=OO.out.on hb;have SF:=Aside0.mk (S_Ft hS).2;clear OO hb hS RC;have OO:=Aside0.mk q_;clear q_))
 have hb:=below_alloc (Below.refl w3.heap.size w3) (.cells #[.int .u64 a0,.slice As0 b0.length cs0,.int .i64 c0,.int .i64 d0] 100)
 have XF:=Aside0.mk (heap_alloc_new w3 (.cells #[.int .u64 a0,.slice As0 b0.length cs0,.int .i64 c0,.int .i64 d0] 100))
 have ltj:=blk_lt OO.out.xj
 have lth:=blk_lt OO.out.xh
 have q_:=OO.out.on hb
 have qs_:=Ft_below SF.out.2 hb
 have lc:=Aside0.mk SF.out.1
 clear OO hb SF
 have OO:=Aside0.mk q_
 have SF:=Aside0.mk qs_
 clear q_ qs_
 obtain ⟨bf,hbf⟩:∃ bf,bf=w3.heap.size:=⟨_,rfl⟩
 generalize w3.alloc (.cells #[.int .u64 a0,.slice As0 b0.length cs0,.int .i64 c0,.int .i64 d0] 100)=w5 at OO XF SF ⊢
 rw [<-hbf] at XF ⊢
 have NH:=Aside0.mk (show bf≠gh by omega)
 have NJ:=Aside0.mk (show bf≠gj by omega)
 clear hbf ltj lth
 have u0:=(blk_cell XF.out 0).trans (rfl:_=some (Value.int .u64 a0))
 have o0:=(blk_cell OO.out.xh 0).trans (rfl:_=some (Value.int .u64 0))
 by_cases z:a0 > 0
 case neg =>
  have Z0:=Aside0.mk z
  have gt:decide (a0 > 0)=false:=decide_eq_false z
  have gt':decide (0<a0)=false:=gt
  clear z
  go_wp2
  clear u0 o0 gt gt' XF SF NH NJ
  rw [rounds_succ]
  go_upto_region 12 with (first|(go_at_call 49;(with_reducible refine Calls.mono (R1.out w5 OO.out.hb) ?_);rintro e w2 ⟨v,rfl,hv,hb⟩;obtain ⟨Ar,cr,er⟩:=Kd.R_slice hv;subst er;have RC:=Aside0.mk (Kd.R_reads' hv).2;have q_:=OO.out.on hb;clear OO hb hv;have OO:=Aside0.mk q_;clear q_)|(go_at_call 50;(with_reducible refine Calls.mono (journal_scan.calls k1 Ar cr bb1 a1 b1 c1 d1 w2 RC.out.2 RC.out.1 Q1.out) ?_);rintro e w3 ⟨vs,rfl,hS,hb⟩;obtain ⟨As1,cs1,es⟩:=Kd.S_slice hS;subst es;have q_:=OO.out.on hb;have SF:=Aside0.mk (S_Ft hS).2;clear OO hb hS RC;have OO:=Aside0.mk q_;clear q_))
  have hb:=below_alloc (Below.refl w3.heap.size w3) (.cells #[.int .u64 a1,.slice As1 b1.length cs1,.int .i64 c1,.int .i64 d1] 100)
  have XF:=Aside0.mk (heap_alloc_new w3 (.cells #[.int .u64 a1,.slice As1 b1.length cs1,.int .i64 c1,.int .i64 d1] 100))
  have ltj:=blk_lt OO.out.xj
  have lth:=blk_lt OO.out.xh
  have q_:=OO.out.on hb
  have qs_:=Ft_below SF.out.2 hb
  have lc:=Aside0.mk SF.out.1
  clear OO hb SF
  have OO:=Aside0.mk q_
  have SF:=Aside0.mk qs_
  clear q_ qs_
  obtain ⟨bf,hbf⟩:∃ bf,bf=w3.heap.size:=⟨_,rfl⟩
  generalize w3.alloc (.cells #[.int .u64 a1,.slice As1 b1.length cs1,.int .i64 c1,.int .i64 d1] 100)=w5 at OO XF SF ⊢
  rw [<-hbf] at XF ⊢
  have NH:=Aside0.mk (show bf≠gh by omega)
  have NJ:=Aside0.mk (show bf≠gj by omega)
  clear hbf ltj lth
  have u0:=(blk_cell XF.out 0).trans (rfl:_=some (Value.int .u64 a1))
  have o0:=(blk_cell OO.out.xh 0).trans (rfl:_=some (Value.int .u64 0))
  by_cases z:a1 > 0
  case neg =>
   have Z1:=Aside0.mk z
   have gt:decide (a1 > 0)=false:=decide_eq_false z
   have gt':decide (0<a1)=false:=gt
   clear z
   go_wp2
   clear u0 o0 gt gt' XF SF NH NJ
   have hy:y=(1,0,([]:List S92),0,0):=by
    exact(found_no HY.out (by rw [found_no HX.out (show ¬ a0 > 0 by have:=Z0.out;omega)];show ¬ a1 > 0;have:=Z1.out;omega)).trans (found_no HX.out (show ¬ a0 > 0 by have:=Z0.out;omega))
   have lt:decide ((0:Int)<0)=false:=decide_eq_false (by have h_:=HN.out;rw [hy] at h_;first|exact h_|exact Int.not_lt.2 h_)
   have HYY:=Aside0.mk hy
   clear hy
   have d1_:=(blk_cell OO.out.xh 1).trans (rfl:_=some (Value.slice none ([]:List S92).length 0))
   have d2_:=(blk_cell OO.out.xh 2).trans (rfl:_=some (Value.int .i64 0))
   have d3_:=(blk_cell OO.out.xh 3).trans (rfl:_=some (Value.int .i64 0))
   rw [rounds_succ]
   go_upto_region 20 with (fail)
   have q1:=cell_regrown d1_
   refine wp_region_quiet_below (by kernel_rfl) (by kernel_rfl) ?_
   repeat(go_big_quiet_step (fail))
   refine wpQuiet_nil ?_
   intro _ hw'
   obtain ⟨⟨dq,osq⟩,hw''⟩:=hw'
   subst hw''
   have q_:=OO.out.on (below_regrown w5 dq osq)
   clear q1 d1_ d2_ d3_ OO lt
   generalize Sort.grow (redrawn w5 dq) osq=w8 at q_ ⊢
   have OO:=Aside0.mk q_
   clear q_
   go_wp2
   go_returns
   rw [HYY.out]
   exact ⟨gj,none,0,rfl,OO.out.xj,OO.out.jge,OO.out.row,OO.out.cap,OO.out.hb⟩
  have Z1:=Aside0.mk z
  have gt:decide (a1 > 0)=true:=decide_eq_true z
  have gt':decide (0<a1)=true:=gt
  clear z
  have u1:=(blk_cell XF.out 1).trans (rfl:_=some (Value.slice As1 b1.length cs1))
  have u2:=(blk_cell XF.out 2).trans (rfl:_=some (Value.int .i64 c1))
  have u3:=(blk_cell XF.out 3).trans (rfl:_=some (Value.int .i64 d1))
  have o1:=(blk_cell OO.out.xh 1).trans (rfl:_=some (Value.slice none ([]:List S92).length 0))
  have o2:=(blk_cell OO.out.xh 2).trans (rfl:_=some (Value.int .i64 0))
  have o3:=(blk_cell OO.out.xh 3).trans (rfl:_=some (Value.int .i64 0))
  have g0:=blk_frozen OO.out.xh 0
  have g1:=blk_frozen OO.out.xh 1
  have g2:=blk_frozen OO.out.xh 2
  have g3:=blk_frozen OO.out.xh 3
  go_upto_region 13 with (fail)
  go_upto_region 14 with (first|((with_reducible refine store_event (t:=100) (p:=6) rfl rfl rfl (w1:=((((w5.setCell ⟨gh,0,none⟩ (.int .u64 a1)).setCell ⟨gh,1,none⟩ (.slice As1 b1.length cs1)).setCell ⟨gh,2,none⟩ (.int .i64 c1)).setCell ⟨gh,3,none⟩ (.int .i64 d1))) ?hrun ?_);(case hrun=>first|(go_simp;done)|(go_simp;rfl));intro w6 hw6;have HW6:=Aside0.mk hw6;clear hw6))
  have ch:∀ k,k≠gh->w6.heap[k]? = w5.heap[k]?:=λk hk=>by rw [HW6.out,Below.heap_setCell _ _ _ _ hk,Below.heap_setCell _ _ _ _ hk,Below.heap_setCell _ _ _ _ hk,Below.heap_setCell _ _ _ _ hk]
  have xj:=(ch gj OO.out.ne.symm).trans OO.out.xj
  have v0:=(blk_cell ((ch bf NH.out).trans XF.out) 0).trans (rfl:_=some (Value.int .u64 a1))
  have j1:=(blk_cell xj 1).trans (rfl:_=some (Value.int .i64 1))
  have j2:=(blk_cell xj 2).trans (rfl:_=some (Value.int .u64 0))
  have k1:=blk_frozen xj 1
  have k2:=blk_frozen xj 2
  have nj1:=NJ.out
  have nj2:gj≠bf:=λe=>NJ.out e.symm
  clear u0 u1 u2 u3 o0 o1 o2 o3 g0 g1 g2 g3 ch xj gt gt'
  go_region
  have q_:=(OO.out.new (s1:=1) (t1:=a1) (e1:=c1) (n1:=d1) SF.out lc.out).on (below_drew (Below.refl _ _))
  rw [<-HW6.out] at q_
  clear OO v0 j1 j2 k1 k2 nj1 nj2 XF SF NH NJ HW6 lc
  have OO:=Aside0.mk q_
  clear q_
  generalize ((w6.setCell ⟨gj,1,none⟩ (.int .i64 1)).setCell ⟨gj,2,none⟩ (.int .u64 a1)).drew=w7 at OO ⊢
  go_wp2
  have hy:y=(1,a1,b1,c1,d1):=by
   rcases HX.out with ⟨a_,b_⟩|⟨a_,b_⟩
   ·exact found_yes HY.out (by rw [b_];show a1 > a0;have:=Z1.out;have:a0 > 0:=a_;have:=Z0.out;omega)
   ·exact found_yes HY.out (by rw [b_];show a1 > 0;have:=Z1.out;have:¬ a0 > 0:=a_;have:=Z0.out;omega)
  have lt:decide ((c1:Int)<d1)=false:=decide_eq_false (by have h_:=HN.out;rw [hy] at h_;first|exact h_|exact Int.not_lt.2 h_)
  have HYY:=Aside0.mk hy
  clear hy
  have d1_:=(blk_cell OO.out.xh 1).trans (rfl:_=some (Value.slice As1 b1.length cs1))
  have d2_:=(blk_cell OO.out.xh 2).trans (rfl:_=some (Value.int .i64 c1))
  have d3_:=(blk_cell OO.out.xh 3).trans (rfl:_=some (Value.int .i64 d1))
  rw [rounds_succ]
  go_upto_region 20 with (fail)
  have q1:=cell_regrown d1_
  refine wp_region_quiet_below (by kernel_rfl) (by kernel_rfl) ?_
  repeat(go_big_quiet_step (fail))
  refine wpQuiet_nil ?_
  intro _ hw'
  obtain ⟨⟨dq,osq⟩,hw''⟩:=hw'
  subst hw''
  have q_:=OO.out.on (below_regrown w7 dq osq)
  clear q1 d1_ d2_ d3_ OO lt
  generalize Sort.grow (redrawn w7 dq) osq=w8 at q_ ⊢
  have OO:=Aside0.mk q_
  clear q_
  go_wp2
  go_returns
  rw [HYY.out]
  exact ⟨gj,As1,cs1,rfl,OO.out.xj,OO.out.jge,OO.out.row,OO.out.cap,OO.out.hb⟩
 have Z0:=Aside0.mk z
 have gt:decide (a0 > 0)=true:=decide_eq_true z
 have gt':decide (0<a0)=true:=gt
 clear z
 have u1:=(blk_cell XF.out 1).trans (rfl:_=some (Value.slice As0 b0.length cs0))
 have u2:=(blk_cell XF.out 2).trans (rfl:_=some (Value.int .i64 c0))
 have u3:=(blk_cell XF.out 3).trans (rfl:_=some (Value.int .i64 d0))
 have o1:=(blk_cell OO.out.xh 1).trans (rfl:_=some (Value.slice none ([]:List S92).length 0))
 have o2:=(blk_cell OO.out.xh 2).trans (rfl:_=some (Value.int .i64 0))
 have o3:=(blk_cell OO.out.xh 3).trans (rfl:_=some (Value.int .i64 0))
 have g0:=blk_frozen OO.out.xh 0
 have g1:=blk_frozen OO.out.xh 1
 have g2:=blk_frozen OO.out.xh 2
 have g3:=blk_frozen OO.out.xh 3
 go_upto_region 13 with (fail)
 go_upto_region 14 with (first|((with_reducible refine store_event (t:=100) (p:=6) rfl rfl rfl (w1:=((((w5.setCell ⟨gh,0,none⟩ (.int .u64 a0)).setCell ⟨gh,1,none⟩ (.slice As0 b0.length cs0)).setCell ⟨gh,2,none⟩ (.int .i64 c0)).setCell ⟨gh,3,none⟩ (.int .i64 d0))) ?hrun ?_);(case hrun=>first|(go_simp;done)|(go_simp;rfl));intro w6 hw6;have HW6:=Aside0.mk hw6;clear hw6))
 have ch:∀ k,k≠gh->w6.heap[k]? = w5.heap[k]?:=λk hk=>by rw [HW6.out,Below.heap_setCell _ _ _ _ hk,Below.heap_setCell _ _ _ _ hk,Below.heap_setCell _ _ _ _ hk,Below.heap_setCell _ _ _ _ hk]
 have xj:=(ch gj OO.out.ne.symm).trans OO.out.xj
 have v0:=(blk_cell ((ch bf NH.out).trans XF.out) 0).trans (rfl:_=some (Value.int .u64 a0))
 have j1:=(blk_cell xj 1).trans (rfl:_=some (Value.int .i64 1))
 have j2:=(blk_cell xj 2).trans (rfl:_=some (Value.int .u64 0))
 have k1:=blk_frozen xj 1
 have k2:=blk_frozen xj 2
 have nj1:=NJ.out
 have nj2:gj≠bf:=λe=>NJ.out e.symm
 clear u0 u1 u2 u3 o0 o1 o2 o3 g0 g1 g2 g3 ch xj gt gt'
 go_region
 have q_:=(OO.out.new (s1:=0) (t1:=a0) (e1:=c0) (n1:=d0) SF.out lc.out).on (below_drew (Below.refl _ _))
 rw [<-HW6.out] at q_
 clear OO v0 j1 j2 k1 k2 nj1 nj2 XF SF NH NJ HW6 lc
 have OO:=Aside0.mk q_
 clear q_
 generalize ((w6.setCell ⟨gj,1,none⟩ (.int .i64 0)).setCell ⟨gj,2,none⟩ (.int .u64 a0)).drew=w7 at OO ⊢
 go_wp2
 rw [rounds_succ]
 go_upto_region 12 with (first|(go_at_call 49;(with_reducible refine Calls.mono (R1.out w7 OO.out.hb) ?_);rintro e w2 ⟨v,rfl,hv,hb⟩;obtain ⟨Ar,cr,er⟩:=Kd.R_slice hv;subst er;have RC:=Aside0.mk (Kd.R_reads' hv).2;have q_:=OO.out.on hb;clear OO hb hv;have OO:=Aside0.mk q_;clear q_)|(go_at_call 50;(with_reducible refine Calls.mono (journal_scan.calls k1 Ar cr bb1 a1 b1 c1 d1 w2 RC.out.2 RC.out.1 Q1.out) ?_);rintro e w3 ⟨vs,rfl,hS,hb⟩;obtain ⟨As1,cs1,es⟩:=Kd.S_slice hS;subst es;have q_:=OO.out.on hb;have SF:=Aside0.mk (S_Ft hS).2;clear OO hb hS RC;have OO:=Aside0.mk q_;clear q_))
 have hb:=below_alloc (Below.refl w3.heap.size w3) (.cells #[.int .u64 a1,.slice As1 b1.length cs1,.int .i64 c1,.int .i64 d1] 100)
 have XF:=Aside0.mk (heap_alloc_new w3 (.cells #[.int .u64 a1,.slice As1 b1.length cs1,.int .i64 c1,.int .i64 d1] 100))
 have ltj:=blk_lt OO.out.xj
 have lth:=blk_lt OO.out.xh
 have q_:=OO.out.on hb
 have qs_:=Ft_below SF.out.2 hb
 have lc:=Aside0.mk SF.out.1
 clear OO hb SF
 have OO:=Aside0.mk q_
 have SF:=Aside0.mk qs_
 clear q_ qs_
 obtain ⟨bf,hbf⟩:∃ bf,bf=w3.heap.size:=⟨_,rfl⟩
 generalize w3.alloc (.cells #[.int .u64 a1,.slice As1 b1.length cs1,.int .i64 c1,.int .i64 d1] 100)=w5 at OO XF SF ⊢
 rw [<-hbf] at XF ⊢
 have NH:=Aside0.mk (show bf≠gh by omega)
 have NJ:=Aside0.mk (show bf≠gj by omega)
 clear hbf ltj lth
 have u0:=(blk_cell XF.out 0).trans (rfl:_=some (Value.int .u64 a1))
 have o0:=(blk_cell OO.out.xh 0).trans (rfl:_=some (Value.int .u64 a0))
 by_cases z:a1 > a0
 case neg =>
  have Z1:=Aside0.mk z
  have gt:decide (a1 > a0)=false:=decide_eq_false z
  have gt':decide (a0<a1)=false:=gt
  clear z
  go_wp2
  clear u0 o0 gt gt' XF SF NH NJ
  have hy:y=(0,a0,b0,c0,d0):=by
   exact(found_no HY.out (by rw [found_yes HX.out (show a0 > 0 by have:=Z0.out;omega)];show ¬ a1 > a0;have:=Z1.out;omega)).trans (found_yes HX.out (show a0 > 0 by have:=Z0.out;omega))
  have lt:decide ((c0:Int)<d0)=false:=decide_eq_false (by have h_:=HN.out;rw [hy] at h_;first|exact h_|exact Int.not_lt.2 h_)
  have HYY:=Aside0.mk hy
  clear hy
  have d1_:=(blk_cell OO.out.xh 1).trans (rfl:_=some (Value.slice As0 b0.length cs0))
  have d2_:=(blk_cell OO.out.xh 2).trans (rfl:_=some (Value.int .i64 c0))
  have d3_:=(blk_cell OO.out.xh 3).trans (rfl:_=some (Value.int .i64 d0))
  rw [rounds_succ]
  go_upto_region 20 with (fail)
  have q1:=cell_regrown d1_
  refine wp_region_quiet_below (by kernel_rfl) (by kernel_rfl) ?_
  repeat(go_big_quiet_step (fail))
  refine wpQuiet_nil ?_
  intro _ hw'
  obtain ⟨⟨dq,osq⟩,hw''⟩:=hw'
  subst hw''
  have q_:=OO.out.on (below_regrown w5 dq osq)
  clear q1 d1_ d2_ d3_ OO lt
  generalize Sort.grow (redrawn w5 dq) osq=w8 at q_ ⊢
  have OO:=Aside0.mk q_
  clear q_
  go_wp2
  go_returns
  rw [HYY.out]
  exact ⟨gj,As0,cs0,rfl,OO.out.xj,OO.out.jge,OO.out.row,OO.out.cap,OO.out.hb⟩
 have Z1:=Aside0.mk z
 have gt:decide (a1 > a0)=true:=decide_eq_true z
 have gt':decide (a0<a1)=true:=gt
 clear z
 have u1:=(blk_cell XF.out 1).trans (rfl:_=some (Value.slice As1 b1.length cs1))
 have u2:=(blk_cell XF.out 2).trans (rfl:_=some (Value.int .i64 c1))
 have u3:=(blk_cell XF.out 3).trans (rfl:_=some (Value.int .i64 d1))
 have o1:=(blk_cell OO.out.xh 1).trans (rfl:_=some (Value.slice As0 b0.length cs0))
 have o2:=(blk_cell OO.out.xh 2).trans (rfl:_=some (Value.int .i64 c0))
 have o3:=(blk_cell OO.out.xh 3).trans (rfl:_=some (Value.int .i64 d0))
 have g0:=blk_frozen OO.out.xh 0
 have g1:=blk_frozen OO.out.xh 1
 have g2:=blk_frozen OO.out.xh 2
 have g3:=blk_frozen OO.out.xh 3
 go_upto_region 13 with (fail)
 go_upto_region 14 with (first|((with_reducible refine store_event (t:=100) (p:=6) rfl rfl rfl (w1:=((((w5.setCell ⟨gh,0,none⟩ (.int .u64 a1)).setCell ⟨gh,1,none⟩ (.slice As1 b1.length cs1)).setCell ⟨gh,2,none⟩ (.int .i64 c1)).setCell ⟨gh,3,none⟩ (.int .i64 d1))) ?hrun ?_);(case hrun=>first|(go_simp;done)|(go_simp;rfl));intro w6 hw6;have HW6:=Aside0.mk hw6;clear hw6))
 have ch:∀ k,k≠gh->w6.heap[k]? = w5.heap[k]?:=λk hk=>by rw [HW6.out,Below.heap_setCell _ _ _ _ hk,Below.heap_setCell _ _ _ _ hk,Below.heap_setCell _ _ _ _ hk,Below.heap_setCell _ _ _ _ hk]
 have xj:=(ch gj OO.out.ne.symm).trans OO.out.xj
 have v0:=(blk_cell ((ch bf NH.out).trans XF.out) 0).trans (rfl:_=some (Value.int .u64 a1))
 have j1:=(blk_cell xj 1).trans (rfl:_=some (Value.int .i64 0))
 have j2:=(blk_cell xj 2).trans (rfl:_=some (Value.int .u64 a0))
 have k1:=blk_frozen xj 1
 have k2:=blk_frozen xj 2
 have nj1:=NJ.out
 have nj2:gj≠bf:=λe=>NJ.out e.symm
 clear u0 u1 u2 u3 o0 o1 o2 o3 g0 g1 g2 g3 ch xj gt gt'
 go_region
 have q_:=(OO.out.new (s1:=1) (t1:=a1) (e1:=c1) (n1:=d1) SF.out lc.out).on (below_drew (Below.refl _ _))
 rw [<-HW6.out] at q_
 clear OO v0 j1 j2 k1 k2 nj1 nj2 XF SF NH NJ HW6 lc
 have OO:=Aside0.mk q_
 clear q_
 generalize ((w6.setCell ⟨gj,1,none⟩ (.int .i64 1)).setCell ⟨gj,2,none⟩ (.int .u64 a1)).drew=w7 at OO ⊢
 go_wp2
 have hy:y=(1,a1,b1,c1,d1):=by
  rcases HX.out with ⟨a_,b_⟩|⟨a_,b_⟩
  ·exact found_yes HY.out (by rw [b_];show a1 > a0;have:=Z1.out;have:a0 > 0:=a_;have:=Z0.out;omega)
  ·exact found_yes HY.out (by rw [b_];show a1 > 0;have:=Z1.out;have:¬ a0 > 0:=a_;have:=Z0.out;omega)
 have lt:decide ((c1:Int)<d1)=false:=decide_eq_false (by have h_:=HN.out;rw [hy] at h_;first|exact h_|exact Int.not_lt.2 h_)
 have HYY:=Aside0.mk hy
 clear hy
 have d1_:=(blk_cell OO.out.xh 1).trans (rfl:_=some (Value.slice As1 b1.length cs1))
 have d2_:=(blk_cell OO.out.xh 2).trans (rfl:_=some (Value.int .i64 c1))
 have d3_:=(blk_cell OO.out.xh 3).trans (rfl:_=some (Value.int .i64 d1))
 rw [rounds_succ]
 go_upto_region 20 with (fail)
 have q1:=cell_regrown d1_
 refine wp_region_quiet_below (by kernel_rfl) (by kernel_rfl) ?_
 repeat(go_big_quiet_step (fail))
 refine wpQuiet_nil ?_
 intro _ hw'
 obtain ⟨⟨dq,osq⟩,hw''⟩:=hw'
 subst hw''
 have q_:=OO.out.on (below_regrown w7 dq osq)
 clear q1 d1_ d2_ d3_ OO lt
 generalize Sort.grow (redrawn w7 dq) osq=w8 at q_ ⊢
 have OO:=Aside0.mk q_
 clear q_
 go_wp2
 go_returns
 rw [HYY.out]
 exact ⟨gj,As1,cs1,rfl,OO.out.xj,OO.out.jge,OO.out.row,OO.out.cap,OO.out.hb⟩
end
end Go.Proofs.Ytfhamdobagjakaa.Dsk
