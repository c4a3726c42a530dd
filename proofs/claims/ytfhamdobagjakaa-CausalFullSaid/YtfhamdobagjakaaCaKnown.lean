/- a part -/
import Derived.Test.YtfhamdobagjakaaCaHere
namespace Go.Proofs.Ytfhamdobagjakaa.Cau
open Go.RowKit Go.Proofs.YtfhamdobagjakaaW.PrintWords Go.Proofs.YtfhamdobagjakaaW.PrintLast Go.Proofs.YtfhamdobagjakaaW.PrintMore Go.Proofs.Ytfhamdobagjakaa.Hand Go.Proofs.Ytfhamdobagjakaa.Cards Go.Proofs.Ytfhamdobagjakaa.PCa Go.Proofs.Ytfhamdobagjakaa.DotMap
set_option linter.unusedVariables false
set_option linter.unusedSimpArgs false
section
variable {w0 W w W1 : World} {g bm clk : Nat} {X : Nat -> Prop} {c : List Int} {es : List En} {ok ok' : Nat -> Prop} {x : Ev} {v : Value} {Ap Ae Ac : Option Addr} {cp ce cc : Nat}
abbrev zEv:Value:=.agg #[.int .i64 0,.int .i64 0,.slice none 0 0,.slice none 0 0]
def waitB (es:List En) (d:Int×Int):Bool:=(find d (es.map En.ent) 0).isSome
theorem find_some (d:Int×Int):∀ (es:List En) (i:Nat),(find d (es.map En.ent) i).isSome=decide (d ∈ es.map λe=>dotE e.x)
 | [],_=>by simp [find]
 | e :: es,i=>by
  have ih:=find_some d es (i+1)
  simp only [List.map_cons,find]
  by_cases h:d=dotE e.x
  ·rw [if_pos (show d=(En.ent e).k from h)]
   simp [h]
  ·rw [if_neg (show ¬ d=(En.ent e).k from h),ih]
   simp [h]
theorem find_val (h:∀ e ∈ es,EvIs W ok e.v e.x) (d:Int×Int) (i:Nat) {p:Nat×Value} (hf:find d (es.map En.ent) i=some p):∃ e ∈ es,p.2=e.v:=by
 induction es generalizing i with
 | nil=>simp [find] at hf
 | cons e es ih =>
  simp only [List.map_cons,find] at hf
  split at hf
  ·injection hf with hf
   exact ⟨e,List.mem_cons_self ..,by rw [<-hf];rfl⟩
  ·obtain ⟨e',he,hv⟩:=ih (λe he=>h e (List.mem_cons_of_mem _ he)) (i+1) hf
   exact ⟨e',List.mem_cons_of_mem _ he,hv⟩
theorem get_agg (h:∀ e ∈ es,EvIs W ok e.v e.x) (d:Int×Int):∃ a b A n c A' n' c',DotMap.get d (es.map En.ent) zEv = .agg #[.int .i64 a,.int .i64 b,.slice A n c,.slice A' n' c']:=by
 unfold DotMap.get
 cases hf:find d (es.map En.ent) 0 with
 | none=>exact ⟨_,_,_,_,_,_,_,_,rfl⟩
 | some p =>
  obtain ⟨e,he,hv⟩:=find_val h d 0 hf
  obtain ⟨Ap,cp,Ae,ce,e1,_⟩:=h e he
  obtain ⟨i,v⟩:=p
  simp only at hv ⊢
  rw [hv,e1]
  exact ⟨_,_,_,_,_,_,_,_,rfl⟩
def knownB (c:List Int) (es:List En) (x:Ev):Bool:=if waitB es (dotE x)=true then true else decide (x.f0.f1<=ClockBase.getS c x.f0.f0)
set_option maxHeartbeats 16000000 in
set_option maxRecDepth 100000 in
theorem known_calls (h:Bf w0 W g bm X Ac cc c es clk):Calls Try.prog 56 #[.pointer (some ⟨g,0,none⟩),evV x Ap cp Ae ce] W λe w'=>e = .returned (.bool (knownB c es x))/\Below W.heap.size W w':=by
 have hb:=below_alloc (Below.refl W.heap.size W) (.cells (evC x Ap cp Ae ce) 59)
 have H:=Aside0.mk (h.on hb)
 have XB:=Aside0.mk (heap_alloc_new W (.cells (evC x Ap cp Ae ce) 59))
 have HB:=Aside0.mk hb
 clear h hb
 obtain ⟨wb,hwb⟩:∃ b,b=waitB es (dotE x):=⟨_,rfl⟩
 have e_:knownB c es x=if wb=true then true else decide (x.f0.f1<=ClockBase.getS c x.f0.f0):=by rw [hwb];rfl
 rw [e_]
 have HWB:=Aside0.mk hwb
 clear e_ hwb
 have hz:∀ w:World,(zeroValue 59).run Try.prog w = .ok zEv w:=λw=>by kernel_rfl
 go_enter Try.func56,Try.ntmps56
 go_upto_region 1 with (fail)
 obtain ⟨ba,hba⟩:∃ ba,ba=W.heap.size:=⟨_,rfl⟩
 rw [<-hba] at XB ⊢
 clear hba
 generalize W.alloc (.cells (evC x Ap cp Ae ce) 59)=w1 at H XB HB ⊢
 obtain ⟨ga,gb_,gA,gn,gc,gA',gn',gc',hq⟩:=get_agg H.out.evs (dotE x)
 have hl:∀ w',Below w1.heap.size w1 w'->(Instr.lookup 88 (.map (some bm)) (.agg #[.int .i64 x.f0.f0,.int .i64 x.f0.f1]) true).run Try.prog w' = .ok (.tuple #[.agg #[.int .i64 ga,.int .i64 gb_,.slice gA gn gc,.slice gA' gn' gc'],.bool (waitB es (dotE x))]) w':=λw' hw=>by
  rw [<-hq];exact lookup_ok_run (dotE x) Try.underlying88 (H.out.on hw).map (hz _)
 have h0:=hl w1.drew (below_drew (Below.refl _ _))
 have bz:Below w1.heap.size w1 (w1.alloc (.cells #[.int .i64 0,.int .i64 0,.slice none 0 0,.slice none 0 0] 59)):=below_alloc (Below.refl _ _) _
 have h1:=hl (w1.alloc (.cells #[.int .i64 0,.int .i64 0,.slice none 0 0,.slice none 0 0] 59)).drew (below_drew bz)
 have xb:=blk_below XB.out bz
 have c1:=H.out.c1
 have c1':=(H.out.on bz).c1
 have y0:=(blk_cell XB.out 0).trans (rfl:_=some (Value.int .i64 x.f0.f0))
 have y1:=(blk_cell XB.out 1).trans (rfl:_=some (Value.int .i64 x.f0.f1))
 have y0':=(blk_cell xb 0).trans (rfl:_=some (Value.int .i64 x.f0.f0))
 have y1':=(blk_cell xb 1).trans (rfl:_=some (Value.int .i64 x.f0.f1))
 clear bz xb
 clear hl hq hz
 rw [<-HWB.out] at h0 h1
 go_region
 all_goals
  have bz:Below w1.heap.size w1 (w1.alloc (.cells #[.int .i64 ga,.int .i64 gb_,.slice gA gn gc,.slice gA' gn' gc'] 59)).drew:=below_drew (below_alloc (Below.refl _ _) _)
  have q_:=H.out.on bz
  have qx_:=blk_below XB.out bz
  have qb_:=below_step HB.out bz
  clear H XB HB bz h0 h1 c1 c1' y0 y1 y0' y1'
  have H:=Aside0.mk q_
  have XB:=Aside0.mk qx_
  have HB:=Aside0.mk qb_
  clear q_ qx_ qb_
  generalize w1.heap.size=b5
  generalize (w1.alloc (.cells #[.int .i64 ga,.int .i64 gb_,.slice gA gn gc,.slice gA' gn' gc'] 59)).drew=w3 at H XB HB ⊢
  have k0:=cell_regrown H.out.c0
  have a0:=cell_regrown ((blk_cell XB.out 0).trans (rfl:_=some (Value.int .i64 x.f0.f0)))
  have a1:=cell_regrown ((blk_cell XB.out 1).trans (rfl:_=some (Value.int .i64 x.f0.f1)))
  have cG:=Aside0.mk (λd os=>Calls.regrown_of (clock_Get.calls Ac cc c x.f0.f0 (ClockBase.getS c x.f0.f0) _ (Kd.C_below (Kd.F_now H.out.fc) (below_regrown w3 d os)) H.out.lc rfl))
  cases wb
  all_goals
   go_upto_region 2 with (fail)
   refine wp_region_quiet_below (by kernel_rfl) (by kernel_rfl) ?_
   repeat(go_big_quiet_step (first|exact cG.out _ _))
   refine wpQuiet_nil ?_
   intro _ hw'
   obtain ⟨⟨dq,osq⟩,hw''⟩:=hw'
   subst hw''
   go_wp2
   go_ret
   exact ⟨rfl,below_step HB.out (below_regrown w3 dq osq)⟩
end
end Go.Proofs.Ytfhamdobagjakaa.Cau
