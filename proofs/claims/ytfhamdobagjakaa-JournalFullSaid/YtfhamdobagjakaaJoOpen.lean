/- a part -/
import Derived.Test.YtfhamdobagjakaaJoNobody
import Derived.Lib.QuietBelow
import Derived.Test.YtfhamdobagjakaaPJox4
namespace Go.Proofs.Ytfhamdobagjakaa.Dsk
open Go.RowKit Go.Proofs.YtfhamdobagjakaaW.PrintWords Go.Proofs.YtfhamdobagjakaaW.PrintLast Go.Proofs.YtfhamdobagjakaaW.PrintMore Go.Proofs.Ytfhamdobagjakaa.Hand Go.Proofs.Ytfhamdobagjakaa.Cards Go.Proofs.Ytfhamdobagjakaa.PJo
set_option linter.unusedVariables false
set_option linter.unusedSimpArgs false
theorem scan_nil:journal_scan.f 3 []=some (0,[],0,0):=by kernel_rfl
section
variable {w0 W : World} {g gj : Nat} {v0 v1 : Value} {D : Nat -> Prop} {d : Dk}
set_option maxHeartbeats 8000000 in
set_option maxRecDepth 100000 in
theorem open_fresh (h:Raw w0 W g v0 v1 D d) (hg:d.Good) (hd:d.dead=false) (h0:d.b0=[]) (h1:d.b1=[]):Calls Try.prog 18 #[.pointer (some ⟨g,0,none⟩)] W λe w'=>∃ gj,e = .returned (.tuple #[.pointer (some ⟨gj,0,none⟩),.slice none 0 0,.int .i64 0])/\w'.heap[gj]? = some (JoObj (some ⟨g,0,none⟩) 1 0 false)/\W.heap.size<=gj/\Below W.heap.size W w':=by
 have r0:=λW1 (hW:Below W.heap.size W W1)=>read_calls (h.on hW) hg 0
 have r1:=λW1 (hW:Below W.heap.size W W1)=>read_calls (h.on hW) hg 1
 simp only [Dk.why_ok (d:=d) (i:=0) hd (by omega),Dk.why_ok (d:=d) (i:=1) hd (by omega),if_true,show d.row 0=[] from h0,show d.row 1=[] from h1] at r0 r1
 have R0:=Aside0.mk r0
 have R1:=Aside0.mk r1
 clear r0 r1 h hg hd h0 h1
 go_enter Try.func18,Try.ntmps18
 go_wp2
 have hb:Below W.heap.size W ((W.alloc (.cells #[.pointer (some ⟨g,0,none⟩),.int .i64 1,.int .u64 0,.bool false] 64)).alloc (.cells #[.int .u64 0,.slice none 0 0,.int .i64 0,.int .i64 0] 100)):=below_alloc (below_alloc (Below.refl _ _) _) _
 have xj:((W.alloc (.cells #[.pointer (some ⟨g,0,none⟩),.int .i64 1,.int .u64 0,.bool false] 64)).alloc (.cells #[.int .u64 0,.slice none 0 0,.int .i64 0,.int .i64 0] 100)).heap[W.heap.size]? = some (JoObj (some ⟨g,0,none⟩) 1 0 false):=blk_below (heap_alloc_new W _) (below_alloc (Below.refl _ _) _)
 have x6:((W.alloc (.cells #[.pointer (some ⟨g,0,none⟩),.int .i64 1,.int .u64 0,.bool false] 64)).alloc (.cells #[.int .u64 0,.slice none 0 0,.int .i64 0,.int .i64 0] 100)).heap[W.heap.size+1]? = some (.cells #[.int .u64 0,.slice none 0 0,.int .i64 0,.int .i64 0] 100 (0,0)):=by have h_:=heap_alloc_new (W.alloc (.cells #[.pointer (some ⟨g,0,none⟩),.int .i64 1,.int .u64 0,.bool false] 64)) (.cells #[.int .u64 0,.slice none 0 0,.int .i64 0,.int .i64 0] 100);rwa [show(W.alloc (.cells #[.pointer (some ⟨g,0,none⟩),.int .i64 1,.int .u64 0,.bool false] 64)).heap.size=W.heap.size+1 by simp] at h_
 have HB:=Aside0.mk hb
 have XJ:=Aside0.mk xj
 have X6:=Aside0.mk x6
 clear hb xj x6
 generalize ((W.alloc (.cells #[.pointer (some ⟨g,0,none⟩),.int .i64 1,.int .u64 0,.bool false] 64)).alloc (.cells #[.int .u64 0,.slice none 0 0,.int .i64 0,.int .i64 0] 100))=w1 at HB XJ X6 ⊢
 refine wp_loop_rounds 3 ?_
 rw [rounds_succ]
 go_upto_region 12 with (first|(go_at_call 49;(with_reducible refine Calls.mono (R0.out w1 HB.out) ?_);rintro e w2 ⟨v,rfl,hv,hb⟩;obtain ⟨Ar,cr,er⟩:=Kd.R_slice hv;subst er;have RC:=Aside0.mk (Kd.R_reads' hv).2;have xj:=blk_below XJ.out hb;have x6:=blk_below X6.out hb;have hb2:=below_step HB.out hb;clear XJ X6 HB;have XJ:=Aside0.mk xj;have X6:=Aside0.mk x6;have HB:=Aside0.mk hb2;clear xj x6 hb2;clear hb hv)|(go_at_call 50;refine(journal_scan.calls 3 Ar cr [] 0 [] 0 0 w2 RC.out.2 RC.out.1 scan_nil).mono ?_;rintro e w3 ⟨vs,rfl,hS,hb⟩;obtain ⟨As,cs,es⟩:=Kd.S_slice hS;subst es;have xj:=blk_below XJ.out hb;have x6:=blk_below X6.out hb;have hb2:=below_step HB.out hb;clear XJ X6 HB;have XJ:=Aside0.mk xj;have X6:=Aside0.mk x6;have HB:=Aside0.mk hb2;clear xj x6 hb2;clear hb hS RC))
 have hb:=below_alloc (Below.refl w3.heap.size w3) (.cells #[.int .u64 0,.slice As 0 cs,.int .i64 0,.int .i64 0] 100)
 have XF:=Aside0.mk (heap_alloc_new w3 (.cells #[.int .u64 0,.slice As 0 cs,.int .i64 0,.int .i64 0] 100))
 have xj:=blk_below XJ.out hb
 have x6:=blk_below X6.out hb
 have hb2:=below_step HB.out hb
 clear XJ X6 HB
 have XJ:=Aside0.mk xj
 have X6:=Aside0.mk x6
 have HB:=Aside0.mk hb2
 clear xj x6 hb2
 clear hb
 obtain ⟨bf,hbf⟩:∃ bf,bf=w3.heap.size:=⟨_,rfl⟩
 generalize w3.alloc (.cells #[.int .u64 0,.slice As 0 cs,.int .i64 0,.int .i64 0] 100)=w5 at HB XJ X6 XF ⊢
 rw [<-hbf] at XF ⊢
 clear hbf
 have c0:=(blk_cell XF.out 0).trans (rfl:_=some (Value.int .u64 0))
 have d0:=(blk_cell X6.out 0).trans (rfl:_=some (Value.int .u64 0))
 go_wp2
 clear c0 d0 XF
 rw [rounds_succ]
 go_upto_region 12 with (first|(go_at_call 49;(with_reducible refine Calls.mono (R1.out w5 HB.out) ?_);rintro e w2 ⟨v,rfl,hv,hb⟩;obtain ⟨Ar,cr,er⟩:=Kd.R_slice hv;subst er;have RC:=Aside0.mk (Kd.R_reads' hv).2;have xj:=blk_below XJ.out hb;have x6:=blk_below X6.out hb;have hb2:=below_step HB.out hb;clear XJ X6 HB;have XJ:=Aside0.mk xj;have X6:=Aside0.mk x6;have HB:=Aside0.mk hb2;clear xj x6 hb2;clear hb hv)|(go_at_call 50;refine(journal_scan.calls 3 Ar cr [] 0 [] 0 0 w2 RC.out.2 RC.out.1 scan_nil).mono ?_;rintro e w3 ⟨vs,rfl,hS,hb⟩;obtain ⟨As,cs,es⟩:=Kd.S_slice hS;subst es;have xj:=blk_below XJ.out hb;have x6:=blk_below X6.out hb;have hb2:=below_step HB.out hb;clear XJ X6 HB;have XJ:=Aside0.mk xj;have X6:=Aside0.mk x6;have HB:=Aside0.mk hb2;clear xj x6 hb2;clear hb hS RC))
 have hb:=below_alloc (Below.refl w3.heap.size w3) (.cells #[.int .u64 0,.slice As 0 cs,.int .i64 0,.int .i64 0] 100)
 have XF:=Aside0.mk (heap_alloc_new w3 (.cells #[.int .u64 0,.slice As 0 cs,.int .i64 0,.int .i64 0] 100))
 have xj:=blk_below XJ.out hb
 have x6:=blk_below X6.out hb
 have hb2:=below_step HB.out hb
 clear XJ X6 HB
 have XJ:=Aside0.mk xj
 have X6:=Aside0.mk x6
 have HB:=Aside0.mk hb2
 clear xj x6 hb2
 clear hb
 obtain ⟨bf,hbf⟩:∃ bf,bf=w3.heap.size:=⟨_,rfl⟩
 generalize w3.alloc (.cells #[.int .u64 0,.slice As 0 cs,.int .i64 0,.int .i64 0] 100)=w6 at HB XJ X6 XF ⊢
 rw [<-hbf] at XF ⊢
 clear hbf
 have c0:=(blk_cell XF.out 0).trans (rfl:_=some (Value.int .u64 0))
 have d0:=(blk_cell X6.out 0).trans (rfl:_=some (Value.int .u64 0))
 go_wp2
 clear c0 d0 XF
 rw [rounds_succ]
 have d1:=(blk_cell X6.out 1).trans (rfl:_=some (Value.slice none 0 0))
 have d2:=(blk_cell X6.out 2).trans (rfl:_=some (Value.int .i64 0))
 have d3:=(blk_cell X6.out 3).trans (rfl:_=some (Value.int .i64 0))
 go_upto_region 20 with (fail)
 have q1:=cell_regrown d1
 refine wp_region_quiet_below (by kernel_rfl) (by kernel_rfl) ?_
 repeat(go_big_quiet_step (fail))
 refine wpQuiet_nil ?_
 intro _ hw'
 obtain ⟨⟨dq,osq⟩,hw''⟩:=hw'
 subst hw''
 have xj:=blk_below XJ.out (below_regrown w6 dq osq)
 have hb2:=below_step HB.out (below_regrown w6 dq osq)
 clear q1 d1 d2 d3 X6 XJ HB
 generalize Sort.grow (redrawn w6 dq) osq=w7 at xj hb2 ⊢
 have XJ:=Aside0.mk xj
 have HB:=Aside0.mk hb2
 clear xj hb2
 go_wp2
 go_returns
 exact ⟨W.heap.size,rfl,XJ.out,Nat.le_refl _,HB.out⟩
end
end Go.Proofs.Ytfhamdobagjakaa.Dsk
