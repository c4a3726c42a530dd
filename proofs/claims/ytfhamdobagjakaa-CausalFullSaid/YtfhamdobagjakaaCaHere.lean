/- a part -/
import Derived.Test.YtfhamdobagjakaaCaMap
import Derived.Test.YtfhamdobagjakaaPCax6
namespace Go.Proofs.Ytfhamdobagjakaa.Cau
open Go.RowKit Go.Proofs.YtfhamdobagjakaaW.PrintWords Go.Proofs.YtfhamdobagjakaaW.PrintLast Go.Proofs.YtfhamdobagjakaaW.PrintMore Go.Proofs.Ytfhamdobagjakaa.Hand Go.Proofs.Ytfhamdobagjakaa.Cards Go.Proofs.Ytfhamdobagjakaa.PCa Go.Proofs.Ytfhamdobagjakaa.DotMap
set_option linter.unusedVariables false
set_option linter.unusedSimpArgs false
abbrev Ev:=S59
abbrev KI:Kd Int:=Kd.int .i64
abbrev KE:Kd S111:=k111
abbrev evC (x:Ev) (Ap:Option Addr) (cp:Nat) (Ae:Option Addr) (ce:Nat):Array Value:=#[.int .i64 x.f0.f0,.int .i64 x.f0.f1,.slice Ap x.f1.length cp,.slice Ae x.f2.length ce]
abbrev evV (x:Ev) (Ap:Option Addr) (cp:Nat) (Ae:Option Addr) (ce:Nat):Value:=.agg (evC x Ap cp Ae ce)
structure EvR (w:World) (ok:Nat->Prop) (x:Ev) (Ap:Option Addr) (cp:Nat) (Ae:Option Addr) (ce:Nat):Prop where
 lp:x.f1.length<=cp
 fp:Kd.F KI w ok Ap x.f1.length x.f1
 le:x.f2.length<=ce
 fe:Kd.F KE w ok Ae x.f2.length x.f2
def EvIs (w:World) (ok:Nat->Prop) (v:Value) (x:Ev):Prop:=∃ Ap cp Ae ce,v=evV x Ap cp Ae ce/\EvR w ok x Ap cp Ae ce
def dotE (x:Ev):Int×Int:=(x.f0.f0,x.f0.f1)
structure En where
 x:Ev
 v:Value
 b:Nat
def En.ent (e:En):Ent:=⟨dotE e.x,e.v,e.b⟩
section
variable {w0 W w W1 : World} {g bm clk : Nat} {X : Nat -> Prop} {c : List Int} {es : List En} {ok ok' : Nat -> Prop} {x : Ev} {v : Value} {Ap Ae Ac : Option Addr} {cp ce cc : Nat}
theorem EvR.step (h:EvR w ok x Ap cp Ae ce) (hm:∀ k,ok k->k<w.heap.size->W1.heap[k]? = w.heap[k]?):EvR W1 ok x Ap cp Ae ce:=⟨h.lp,Kd.F_step h.fp hm,h.le,Kd.F_step h.fe hm⟩
theorem EvR.on (h:EvR w ok x Ap cp Ae ce) (hb:Below w.heap.size w W1):EvR W1 ok x Ap cp Ae ce:=h.step (λk _ hlt=>hb.block k hlt)
theorem EvR.mono (h:EvR w ok x Ap cp Ae ce) (hm:∀ k,ok k->ok' k):EvR w ok' x Ap cp Ae ce:=⟨h.lp,Kd.F_mono h.fp hm,h.le,Kd.F_mono h.fe hm⟩
theorem EvIs.step (h:EvIs w ok v x) (hm:∀ k,ok k->k<w.heap.size->W1.heap[k]? = w.heap[k]?):EvIs W1 ok v x:=by
 obtain ⟨Ap,cp,Ae,ce,e,h⟩:=h
 exact ⟨Ap,cp,Ae,ce,e,h.step hm⟩
theorem EvIs.on (h:EvIs w ok v x) (hb:Below w.heap.size w W1):EvIs W1 ok v x:=h.step (λk _ hlt=>hb.block k hlt)
theorem EvIs.mono (h:EvIs w ok v x) (hm:∀ k,ok k->ok' k):EvIs w ok' v x:=by
 obtain ⟨Ap,cp,Ae,ce,e,h⟩:=h
 exact ⟨Ap,cp,Ae,ce,e,h.mono hm⟩
abbrev BfObj (Ac:Option Addr) (cc:Nat) (c:List Int) (bm:Nat):Obj:=.cells #[.slice Ac c.length cc,.map (some bm)] 90 (0,0)
structure Bf (w0 W:World) (g bm:Nat) (X:Nat->Prop) (Ac:Option Addr) (cc:Nat) (c:List Int) (es:List En) (clk:Nat):Prop where
 below:Below w0.heap.size w0 W
 gb:w0.heap.size<=g
 mb:w0.heap.size<=bm
 ne:g≠bm
 xg:X g
 xm:X bm
 blk:W.heap[g]? = some (BfObj Ac cc c bm)
 lc:c.length<=cc
 fc:Kd.F KI W (λk=>¬ X k) Ac c.length c
 map:MapIs W bm (es.map En.ent) clk
 evs:∀ e ∈ es,EvIs W (λk=>¬ X k) e.v e.x
 old:∀ e ∈ es,e.b<clk
 nod:(es.map (·.b)).Nodup
 key:(es.map λe=>dotE e.x).Nodup
theorem map_on {l:List Ent} (h:MapIs W bm l clk) (hb:Below W.heap.size W W1):MapIs W1 bm l clk:=by
 unfold MapIs at *
 exact blk_below h hb
theorem Bf.on (h:Bf w0 W g bm X Ac cc c es clk) (hb:Below W.heap.size W W1):Bf w0 W1 g bm X Ac cc c es clk :=
 ⟨below_step h.below hb,h.gb,h.mb,h.ne,h.xg,h.xm,blk_below h.blk hb,h.lc,Kd.F_below h.fc hb,map_on h.map hb,λe he=>(h.evs e he).on hb,h.old,h.nod,h.key⟩
theorem Bf.c0 (h:Bf w0 W g bm X Ac cc c es clk):W.cell? ⟨g,0,none⟩=some (.slice Ac c.length cc):=(blk_cell h.blk 0).trans rfl
theorem Bf.c1 (h:Bf w0 W g bm X Ac cc c es clk):W.cell? ⟨g,1,none⟩=some (.map (some bm)):=(blk_cell h.blk 1).trans rfl
theorem Bf.fz (h:Bf w0 W g bm X Ac cc c es clk) (j:Nat):W.frozen? ⟨g,j,none⟩=false:=blk_frozen h.blk j
set_option maxHeartbeats 4000000 in
set_option maxRecDepth 100000 in
theorem is_calls (h:Bf w0 W g bm X Ac cc c es clk):Calls Try.prog 54 #[.pointer (some ⟨g,0,none⟩)] W λe w'=>e = .returned (.bool true)/\Below W.heap.size W w':=by
 have c1:=h.c1
 have hq:∀ w:World,(binOp .neq 88 (.map (some bm)) (.map none)).run Try.prog w = .ok (.bool true) w:=λw=>by kernel_rfl
 clear h
 go_enter Try.func54,Try.ntmps54
 go_wp2
 go_ret
 exact ⟨rfl,Below.refl _ _⟩
def canB (c:List Int) (x:Ev):Bool:=if ClockBase.withinS x.f1 c=true then x.f0.f1 == wrap64 (ClockBase.getS c x.f0.f0+1) else false
set_option maxHeartbeats 16000000 in
set_option maxRecDepth 100000 in
theorem can_calls (h:Bf w0 W g bm X Ac cc c es clk) (hx:EvR W ok x Ap cp Ae ce):Calls Try.prog 57 #[.pointer (some ⟨g,0,none⟩),evV x Ap cp Ae ce] W λe w'=>e = .returned (.bool (canB c x))/\Below W.heap.size W w':=by
 have hb:=below_alloc (Below.refl W.heap.size W) (.cells (evC x Ap cp Ae ce) 59)
 have H:=h.on hb
 have HX:=hx.on hb
 have XB:=heap_alloc_new W (.cells (evC x Ap cp Ae ce) 59)
 have HB:=Aside0.mk hb
 obtain ⟨ba,hba⟩:∃ ba,ba=W.heap.size:=⟨_,rfl⟩
 rw [<-hba] at XB
 obtain ⟨w1,hw1⟩:∃ w1,w1=W.alloc (.cells (evC x Ap cp Ae ce) 59):=⟨_,rfl⟩
 rw [<-hw1] at H HX XB HB
 have k0:=cell_regrown H.c0
 have a0:=cell_regrown ((blk_cell XB 0).trans (rfl:_=some (Value.int .i64 x.f0.f0)))
 have a1:=cell_regrown ((blk_cell XB 1).trans (rfl:_=some (Value.int .i64 x.f0.f1)))
 have a2:=cell_regrown ((blk_cell XB 2).trans (rfl:_=some (Value.slice Ap x.f1.length cp)))
 have cW:=Aside0.mk (λd os=>Calls.regrown_of (clock_Within.calls Ap cp x.f1 Ac cc c (ClockBase.withinS x.f1 c) _ (Kd.C_below (Kd.F_now HX.fp) (below_regrown w1 d os)) HX.lp (Kd.C_below (Kd.F_now H.fc) (below_regrown w1 d os)) H.lc rfl))
 have cG:=Aside0.mk (λd os=>Calls.regrown_of (clock_Get.calls Ac cc c x.f0.f0 (ClockBase.getS c x.f0.f0) _ (Kd.C_below (Kd.F_now H.fc) (below_regrown w1 d os)) H.lc rfl))
 have HW:=Aside0.mk hw1
 have HBA:=Aside0.mk hba
 clear h hx H HX XB hb hw1 hba
 unfold canB
 cases hwi:ClockBase.withinS x.f1 c with
 | false =>
  rw [hwi] at cW
  rw [if_neg (by decide)]
  clear hwi
  go_enter Try.func57,Try.ntmps57
  go_upto_region 1 with (fail)
  rw [<-HBA.out,<-HW.out]
  refine wp_region_quiet_below (by kernel_rfl) (by kernel_rfl) ?_
  repeat(go_big_quiet_step (first|exact cW.out _ _|exact cG.out _ _))
  refine wpQuiet_nil ?_
  intro _ hw'
  obtain ⟨⟨dq,osq⟩,hw''⟩:=hw'
  subst hw''
  go_wp2
  go_ret
  exact ⟨rfl,below_step HB.out (below_regrown w1 dq osq)⟩
 | true =>
  rw [hwi] at cW
  rw [if_pos rfl]
  clear hwi
  go_enter Try.func57,Try.ntmps57
  go_upto_region 1 with (fail)
  rw [<-HBA.out,<-HW.out]
  refine wp_region_quiet_below (by kernel_rfl) (by kernel_rfl) ?_
  repeat(go_big_quiet_step (first|exact cW.out _ _|exact cG.out _ _))
  refine wpQuiet_nil ?_
  intro _ hw'
  obtain ⟨⟨dq,osq⟩,hw''⟩:=hw'
  subst hw''
  go_wp2
  go_ret
  exact ⟨rfl,below_step HB.out (below_regrown w1 dq osq)⟩
end
end Go.Proofs.Ytfhamdobagjakaa.Cau
