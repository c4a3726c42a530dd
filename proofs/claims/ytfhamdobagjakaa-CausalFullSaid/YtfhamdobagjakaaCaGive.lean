/- a part -/
import Derived.Test.YtfhamdobagjakaaCaNext
namespace Go.Proofs.Ytfhamdobagjakaa.Cau
open Go.RowKit Go.Proofs.YtfhamdobagjakaaW.PrintWords Go.Proofs.YtfhamdobagjakaaW.PrintLast Go.Proofs.YtfhamdobagjakaaW.PrintMore Go.Proofs.Ytfhamdobagjakaa.Hand Go.Proofs.Ytfhamdobagjakaa.Cards Go.Proofs.Ytfhamdobagjakaa.PCa Go.Proofs.Ytfhamdobagjakaa.DotMap
set_option linter.unusedVariables false
set_option linter.unusedSimpArgs false
section
variable {w0 W w W1 W2 : World} {g bm clk base k : Nat} {X : Nat -> Prop} {c : List Int} {es : List En} {l : List Ev} {ok ok' : Nat -> Prop} {x : Ev} {v : Value} {A Ap Ae Ac Ac1 : Option Addr} {cl cp ce cc cc1 : Nat}
set_option maxHeartbeats 16000000 in
set_option maxRecDepth 100000 in
theorem give_known (h:Bf w0 W g bm X Ac cc c es clk) (hx:EvR W ok x Ap cp Ae ce) (hck:event_Check.f k x.f0.f0 x.f0.f1 x.f1 x.f2=some 0) (hk:knownB c es x=true):Calls Try.prog 22 #[.pointer (some ⟨g,0,none⟩),evV x Ap cp Ae ce] W λe w'=>e = .returned (.tuple #[.slice none 0 0,.int .i64 0])/\Below W.heap.size W w':=by
 have HK:=Aside0.mk (λ(W:World) (h:Bf w0 W g bm X Ac cc c es clk)=>by have h_:=known_calls (x:=x) (Ap:=Ap) (cp:=cp) (Ae:=Ae) (ce:=ce) h;rw [hk] at h_;exact h_)
 clear hk
 have hb:=below_alloc (Below.refl W.heap.size W) (.cells (evC x Ap cp Ae ce) 59)
 have H:=Aside0.mk (h.on hb)
 have HX:=Aside0.mk (hx.on hb)
 have XB:=Aside0.mk (heap_alloc_new W (.cells (evC x Ap cp Ae ce) 59))
 have HB:=Aside0.mk hb
 have HCK:=Aside0.mk hck
 have lg:=blk_lt h.blk
 have lm:=blk_lt h.map
 obtain ⟨ba,hba⟩:∃ ba,ba=W.heap.size:=⟨_,rfl⟩
 have NE:=Aside0.mk (show ba≠g/\ba≠bm/\ba=W.heap.size from ⟨by omega,by omega,hba⟩)
 clear h hx hck hb lg lm
 go_enter Try.func22,Try.ntmps22
 go_upto_region 1 with (fail)
 rw [<-hba] at XB ⊢
 clear hba
 generalize W.alloc (.cells (evC x Ap cp Ae ce) 59)=w1 at H HX XB HB ⊢
 have y0:=(blk_cell XB.out 0).trans (rfl:_=some (Value.int .i64 x.f0.f0))
 have y1:=(blk_cell XB.out 1).trans (rfl:_=some (Value.int .i64 x.f0.f1))
 have y2:=(blk_cell XB.out 2).trans (rfl:_=some (Value.slice Ap x.f1.length cp))
 have y3:=(blk_cell XB.out 3).trans (rfl:_=some (Value.slice Ae x.f2.length ce))
 go_wp2_with (first|(go_at_call 54;(with_reducible refine Calls.mono (is_calls H.out) ?_);rintro e_ w_ ⟨rfl,hb⟩;have q_:=H.out.on hb;have qx_:=HX.out.on hb;have qb_:=blk_below XB.out hb;have qo_:=below_step HB.out hb;clear H HX XB HB y0 y1 y2 y3 hb;have H:=Aside0.mk q_;have HX:=Aside0.mk qx_;have XB:=Aside0.mk qb_;have HB:=Aside0.mk qo_;clear q_ qx_ qb_ qo_;have y0:=(blk_cell XB.out 0).trans (rfl:_=some (Value.int .i64 x.f0.f0));have y1:=(blk_cell XB.out 1).trans (rfl:_=some (Value.int .i64 x.f0.f1));have y2:=(blk_cell XB.out 2).trans (rfl:_=some (Value.slice Ap x.f1.length cp));have y3:=(blk_cell XB.out 3).trans (rfl:_=some (Value.slice Ae x.f2.length ce)))|(go_at_call 55;(with_reducible refine Calls.mono (event_Check.calls k x.f0.f0 x.f0.f1 Ap cp x.f1 Ae ce x.f2 _ _ (Kd.F_now HX.out.fp) HX.out.lp (Kd.F_now HX.out.fe) HX.out.le HCK.out) ?_);rintro e_ w_ ⟨rfl,hb⟩;have q_:=H.out.on hb;have qx_:=HX.out.on hb;have qb_:=blk_below XB.out hb;have qo_:=below_step HB.out hb;clear H HX XB HB y0 y1 y2 y3 hb;have H:=Aside0.mk q_;have HX:=Aside0.mk qx_;have XB:=Aside0.mk qb_;have HB:=Aside0.mk qo_;clear q_ qx_ qb_ qo_;have y0:=(blk_cell XB.out 0).trans (rfl:_=some (Value.int .i64 x.f0.f0));have y1:=(blk_cell XB.out 1).trans (rfl:_=some (Value.int .i64 x.f0.f1));have y2:=(blk_cell XB.out 2).trans (rfl:_=some (Value.slice Ap x.f1.length cp));have y3:=(blk_cell XB.out 3).trans (rfl:_=some (Value.slice Ae x.f2.length ce)))|(go_at_call 56;(with_reducible refine Calls.mono (HK.out _ H.out) ?_);rintro e_ w_ ⟨rfl,hb⟩;have q_:=H.out.on hb;have qx_:=HX.out.on hb;have qb_:=blk_below XB.out hb;have qo_:=below_step HB.out hb;clear H HX XB HB y0 y1 y2 y3 hb;have H:=Aside0.mk q_;have HX:=Aside0.mk qx_;have XB:=Aside0.mk qb_;have HB:=Aside0.mk qo_;clear q_ qx_ qb_ qo_;have y0:=(blk_cell XB.out 0).trans (rfl:_=some (Value.int .i64 x.f0.f0));have y1:=(blk_cell XB.out 1).trans (rfl:_=some (Value.int .i64 x.f0.f1));have y2:=(blk_cell XB.out 2).trans (rfl:_=some (Value.slice Ap x.f1.length cp));have y3:=(blk_cell XB.out 3).trans (rfl:_=some (Value.slice Ae x.f2.length ce))))
 go_ret2
 exact ⟨rfl,HB.out⟩
set_option maxHeartbeats 16000000 in
set_option maxRecDepth 100000 in
theorem give_full (h:Bf w0 W g bm X Ac cc c es clk) (hx:EvR W ok x Ap cp Ae ce) (hck:event_Check.f k x.f0.f0 x.f0.f1 x.f1 x.f2=some 0) (hk:knownB c es x=false) (hcan:canB c x=false) (hf:64<=es.length):Calls Try.prog 22 #[.pointer (some ⟨g,0,none⟩),evV x Ap cp Ae ce] W λe w'=>e = .returned (.tuple #[.slice none 0 0,.int .i64 6])/\Below W.heap.size W w':=by
 have HK:=Aside0.mk (λ(W:World) (h:Bf w0 W g bm X Ac cc c es clk)=>by have h_:=known_calls (x:=x) (Ap:=Ap) (cp:=cp) (Ae:=Ae) (ce:=ce) h;rw [hk] at h_;exact h_)
 have HC:=Aside0.mk (λ(W:World) (h:Bf w0 W g bm X Ac cc c es clk) (hx:EvR W ok x Ap cp Ae ce)=>by have h_:=can_calls h hx;rw [hcan] at h_;exact h_)
 clear hk hcan
 have hb:=below_alloc (Below.refl W.heap.size W) (.cells (evC x Ap cp Ae ce) 59)
 have H:=Aside0.mk (h.on hb)
 have HX:=Aside0.mk (hx.on hb)
 have XB:=Aside0.mk (heap_alloc_new W (.cells (evC x Ap cp Ae ce) 59))
 have HB:=Aside0.mk hb
 have HCK:=Aside0.mk hck
 have lg:=blk_lt h.blk
 have lm:=blk_lt h.map
 obtain ⟨ba,hba⟩:∃ ba,ba=W.heap.size:=⟨_,rfl⟩
 have NE:=Aside0.mk (show ba≠g/\ba≠bm/\ba=W.heap.size from ⟨by omega,by omega,hba⟩)
 clear h hx hck hb lg lm
 go_enter Try.func22,Try.ntmps22
 go_upto_region 1 with (fail)
 rw [<-hba] at XB ⊢
 clear hba
 generalize W.alloc (.cells (evC x Ap cp Ae ce) 59)=w1 at H HX XB HB ⊢
 have y0:=(blk_cell XB.out 0).trans (rfl:_=some (Value.int .i64 x.f0.f0))
 have y1:=(blk_cell XB.out 1).trans (rfl:_=some (Value.int .i64 x.f0.f1))
 have y2:=(blk_cell XB.out 2).trans (rfl:_=some (Value.slice Ap x.f1.length cp))
 have y3:=(blk_cell XB.out 3).trans (rfl:_=some (Value.slice Ae x.f2.length ce))
 have c1:=H.out.c1
 have hlen:=len_run (t:=88) (ty:=3) Try.underlying88 H.out.map
 rw [List.length_map] at hlen
 have hf6:(64:Int)<=(es.length:Int):=by omega
 go_wp2_with (first|(go_at_call 54;(with_reducible refine Calls.mono (is_calls H.out) ?_);rintro e_ w_ ⟨rfl,hb⟩;have q_:=H.out.on hb;have qx_:=HX.out.on hb;have qb_:=blk_below XB.out hb;have qo_:=below_step HB.out hb;clear H HX XB HB y0 y1 y2 y3 hb;have H:=Aside0.mk q_;have HX:=Aside0.mk qx_;have XB:=Aside0.mk qb_;have HB:=Aside0.mk qo_;clear q_ qx_ qb_ qo_;have y0:=(blk_cell XB.out 0).trans (rfl:_=some (Value.int .i64 x.f0.f0));have y1:=(blk_cell XB.out 1).trans (rfl:_=some (Value.int .i64 x.f0.f1));have y2:=(blk_cell XB.out 2).trans (rfl:_=some (Value.slice Ap x.f1.length cp));have y3:=(blk_cell XB.out 3).trans (rfl:_=some (Value.slice Ae x.f2.length ce));clear c1 hlen;have c1:=H.out.c1;have hlen:=len_run (t:=88) (ty:=3) Try.underlying88 H.out.map;rw [List.length_map] at hlen)|(go_at_call 55;(with_reducible refine Calls.mono (event_Check.calls k x.f0.f0 x.f0.f1 Ap cp x.f1 Ae ce x.f2 _ _ (Kd.F_now HX.out.fp) HX.out.lp (Kd.F_now HX.out.fe) HX.out.le HCK.out) ?_);rintro e_ w_ ⟨rfl,hb⟩;have q_:=H.out.on hb;have qx_:=HX.out.on hb;have qb_:=blk_below XB.out hb;have qo_:=below_step HB.out hb;clear H HX XB HB y0 y1 y2 y3 hb;have H:=Aside0.mk q_;have HX:=Aside0.mk qx_;have XB:=Aside0.mk qb_;have HB:=Aside0.mk qo_;clear q_ qx_ qb_ qo_;have y0:=(blk_cell XB.out 0).trans (rfl:_=some (Value.int .i64 x.f0.f0));have y1:=(blk_cell XB.out 1).trans (rfl:_=some (Value.int .i64 x.f0.f1));have y2:=(blk_cell XB.out 2).trans (rfl:_=some (Value.slice Ap x.f1.length cp));have y3:=(blk_cell XB.out 3).trans (rfl:_=some (Value.slice Ae x.f2.length ce));clear c1 hlen;have c1:=H.out.c1;have hlen:=len_run (t:=88) (ty:=3) Try.underlying88 H.out.map;rw [List.length_map] at hlen)|(go_at_call 56;(with_reducible refine Calls.mono (HK.out _ H.out) ?_);rintro e_ w_ ⟨rfl,hb⟩;have q_:=H.out.on hb;have qx_:=HX.out.on hb;have qb_:=blk_below XB.out hb;have qo_:=below_step HB.out hb;clear H HX XB HB y0 y1 y2 y3 hb;have H:=Aside0.mk q_;have HX:=Aside0.mk qx_;have XB:=Aside0.mk qb_;have HB:=Aside0.mk qo_;clear q_ qx_ qb_ qo_;have y0:=(blk_cell XB.out 0).trans (rfl:_=some (Value.int .i64 x.f0.f0));have y1:=(blk_cell XB.out 1).trans (rfl:_=some (Value.int .i64 x.f0.f1));have y2:=(blk_cell XB.out 2).trans (rfl:_=some (Value.slice Ap x.f1.length cp));have y3:=(blk_cell XB.out 3).trans (rfl:_=some (Value.slice Ae x.f2.length ce));clear c1 hlen;have c1:=H.out.c1;have hlen:=len_run (t:=88) (ty:=3) Try.underlying88 H.out.map;rw [List.length_map] at hlen)|(go_at_call 57;(with_reducible refine Calls.mono (HC.out _ H.out HX.out) ?_);rintro e_ w_ ⟨rfl,hb⟩;have q_:=H.out.on hb;have qx_:=HX.out.on hb;have qb_:=blk_below XB.out hb;have qo_:=below_step HB.out hb;clear H HX XB HB y0 y1 y2 y3 hb;have H:=Aside0.mk q_;have HX:=Aside0.mk qx_;have XB:=Aside0.mk qb_;have HB:=Aside0.mk qo_;clear q_ qx_ qb_ qo_;have y0:=(blk_cell XB.out 0).trans (rfl:_=some (Value.int .i64 x.f0.f0));have y1:=(blk_cell XB.out 1).trans (rfl:_=some (Value.int .i64 x.f0.f1));have y2:=(blk_cell XB.out 2).trans (rfl:_=some (Value.slice Ap x.f1.length cp));have y3:=(blk_cell XB.out 3).trans (rfl:_=some (Value.slice Ae x.f2.length ce));clear c1 hlen;have c1:=H.out.c1;have hlen:=len_run (t:=88) (ty:=3) Try.underlying88 H.out.map;rw [List.length_map] at hlen))
 go_ret2
 exact ⟨rfl,HB.out⟩
theorem Bf.put (h:Bf w0 W g bm X Ac cc c es clk) (hx:EvIs W (λk=>¬ X k) v x) (hm:MapIs W1 bm (es.map En.ent++[⟨dotE x,v,clk⟩]) (clk+1)) (hg:W.grownBy W1 (some bm)) (hnew:dotE x ∉ es.map λe=>dotE e.x):Bf w0 W1 g bm X Ac cc c (es++[⟨x,v,clk⟩]) (clk+1):=by
 have ho:Only W W1 g bm:=Only.grown hg
 refine ⟨⟨hg.os.trans h.below.os,hg.tape.trans h.below.tape,hg.output.trans h.below.output,Nat.le_trans h.below.size hg.size,λk hk=>(hg.block k (Nat.lt_of_lt_of_le hk h.below.size) (λe=>by injection e with e;have:=h.mb;omega)).trans (h.below.block k hk)⟩,
  h.gb,h.mb,h.ne,h.xg,h.xm,(hg.block g (blk_lt h.blk) (λe=>h.ne (by injection e))).trans h.blk,h.lc,Kd.F_step h.fc (λk hk hlt=>ho.block k hlt (λe=>hk (e ▸ h.xg)) (λe=>hk (e ▸ h.xm))),by rw [List.map_append];exact hm,λe he=>?_,λe he=>?_,?_,?_⟩
 ·rcases List.mem_append.1 he with he|he
  ·exact(h.evs e he).only ho h.xg h.xm
  ·rw [List.mem_singleton.1 he]
   exact hx.only ho h.xg h.xm
 ·rcases List.mem_append.1 he with he|he
  ·exact Nat.lt_succ_of_lt (h.old e he)
  ·rw [List.mem_singleton.1 he]
   exact Nat.lt_succ_self _
 ·rw [List.map_append,List.nodup_append]
  refine ⟨h.nod,by simp,λa ha b hb e=>?_⟩
  obtain ⟨e',he',rfl⟩:=List.mem_map.1 ha
  have:=h.old e' he'
  have hb2:b=clk:=by simpa using hb
  omega
 ·rw [List.map_append,List.nodup_append]
  refine ⟨h.key,by simp,λa ha b hb e=>hnew ?_⟩
  have hb2:b=dotE x:=by simpa using hb
  rw [<-hb2,<-e]
  exact ha
theorem not_known (hk:knownB c es x=false):find (dotE x) (es.map En.ent) 0=none/\(dotE x ∉ es.map λe=>dotE e.x):=by
 unfold knownB at hk
 by_cases hw:waitB es (dotE x)=true
 ·rw [if_pos hw] at hk
  cases hk
 ·have h1:=find_some (dotE x) es 0
  unfold waitB at hw
  have h2:(find (dotE x) (es.map En.ent) 0).isSome=false:=by simpa using hw
  rw [h2] at h1
  refine ⟨by simpa using h2,λhc=>?_⟩
  rw [decide_eq_true hc] at h1
  cases h1
set_option maxHeartbeats 16000000 in
set_option maxRecDepth 100000 in
theorem give_wait (h:Bf w0 W g bm X Ac cc c es clk) (hx:EvR W ok x Ap cp Ae ce) (hck:event_Check.f k x.f0.f0 x.f0.f1 x.f1 x.f2=some 0) (hX:∀ k,X k->k<W.heap.size) (hlen:x.f1.length<=1000/\x.f2.length<=100000) (hk:knownB c es x=false) (hcan:canB c x=false) (hf:es.length<64):Calls Try.prog 22 #[.pointer (some ⟨g,0,none⟩),evV x Ap cp Ae ce] W λe w'=>∃ v',e = .returned (.tuple #[.slice none 0 0,.int .i64 0])/\Bf w0 w' g bm X Ac cc c (es++[⟨x,v',clk⟩]) (clk+1)/\Only W w' g bm:=by
 have HNK:=Aside0.mk (not_known hk)
 have HSZ:=Aside0.mk hX
 have HLEN:=Aside0.mk hlen
 clear hX hlen
 have HK:=Aside0.mk (λ(W:World) (h:Bf w0 W g bm X Ac cc c es clk)=>by have h_:=known_calls (x:=x) (Ap:=Ap) (cp:=cp) (Ae:=Ae) (ce:=ce) h;rw [hk] at h_;exact h_)
 have HC:=Aside0.mk (λ(W:World) (h:Bf w0 W g bm X Ac cc c es clk) (hx:EvR W ok x Ap cp Ae ce)=>by have h_:=can_calls h hx;rw [hcan] at h_;exact h_)
 clear hk hcan
 have hb:=below_alloc (Below.refl W.heap.size W) (.cells (evC x Ap cp Ae ce) 59)
 have H:=Aside0.mk (h.on hb)
 have HX:=Aside0.mk (hx.on hb)
 have XB:=Aside0.mk (heap_alloc_new W (.cells (evC x Ap cp Ae ce) 59))
 have HB:=Aside0.mk hb
 have HCK:=Aside0.mk hck
 have lg:=blk_lt h.blk
 have lm:=blk_lt h.map
 obtain ⟨ba,hba⟩:∃ ba,ba=W.heap.size:=⟨_,rfl⟩
 have NE:=Aside0.mk (show ba≠g/\ba≠bm/\ba=W.heap.size from ⟨by omega,by omega,hba⟩)
 clear h hx hck hb lg lm
 go_enter Try.func22,Try.ntmps22
 go_upto_region 1 with (fail)
 rw [<-hba] at XB ⊢
 clear hba
 generalize W.alloc (.cells (evC x Ap cp Ae ce) 59)=w1 at H HX XB HB ⊢
 have y0:=(blk_cell XB.out 0).trans (rfl:_=some (Value.int .i64 x.f0.f0))
 have y1:=(blk_cell XB.out 1).trans (rfl:_=some (Value.int .i64 x.f0.f1))
 have y2:=(blk_cell XB.out 2).trans (rfl:_=some (Value.slice Ap x.f1.length cp))
 have y3:=(blk_cell XB.out 3).trans (rfl:_=some (Value.slice Ae x.f2.length ce))
 have c1:=H.out.c1
 have hlen:=len_run (t:=88) (ty:=3) Try.underlying88 H.out.map
 rw [List.length_map] at hlen
 have hf6:¬ (64:Int)<=(es.length:Int):=by omega
 go_upto_region 8 with (first|(go_at_call 54;(with_reducible refine Calls.mono (is_calls H.out) ?_);rintro e_ w_ ⟨rfl,hb⟩;have q_:=H.out.on hb;have qx_:=HX.out.on hb;have qb_:=blk_below XB.out hb;have qo_:=below_step HB.out hb;clear H HX XB HB y0 y1 y2 y3 hb;have H:=Aside0.mk q_;have HX:=Aside0.mk qx_;have XB:=Aside0.mk qb_;have HB:=Aside0.mk qo_;clear q_ qx_ qb_ qo_;have y0:=(blk_cell XB.out 0).trans (rfl:_=some (Value.int .i64 x.f0.f0));have y1:=(blk_cell XB.out 1).trans (rfl:_=some (Value.int .i64 x.f0.f1));have y2:=(blk_cell XB.out 2).trans (rfl:_=some (Value.slice Ap x.f1.length cp));have y3:=(blk_cell XB.out 3).trans (rfl:_=some (Value.slice Ae x.f2.length ce));clear c1 hlen;have c1:=H.out.c1;have hlen:=len_run (t:=88) (ty:=3) Try.underlying88 H.out.map;rw [List.length_map] at hlen)|(go_at_call 55;(with_reducible refine Calls.mono (event_Check.calls k x.f0.f0 x.f0.f1 Ap cp x.f1 Ae ce x.f2 _ _ (Kd.F_now HX.out.fp) HX.out.lp (Kd.F_now HX.out.fe) HX.out.le HCK.out) ?_);rintro e_ w_ ⟨rfl,hb⟩;have q_:=H.out.on hb;have qx_:=HX.out.on hb;have qb_:=blk_below XB.out hb;have qo_:=below_step HB.out hb;clear H HX XB HB y0 y1 y2 y3 hb;have H:=Aside0.mk q_;have HX:=Aside0.mk qx_;have XB:=Aside0.mk qb_;have HB:=Aside0.mk qo_;clear q_ qx_ qb_ qo_;have y0:=(blk_cell XB.out 0).trans (rfl:_=some (Value.int .i64 x.f0.f0));have y1:=(blk_cell XB.out 1).trans (rfl:_=some (Value.int .i64 x.f0.f1));have y2:=(blk_cell XB.out 2).trans (rfl:_=some (Value.slice Ap x.f1.length cp));have y3:=(blk_cell XB.out 3).trans (rfl:_=some (Value.slice Ae x.f2.length ce));clear c1 hlen;have c1:=H.out.c1;have hlen:=len_run (t:=88) (ty:=3) Try.underlying88 H.out.map;rw [List.length_map] at hlen)|(go_at_call 56;(with_reducible refine Calls.mono (HK.out _ H.out) ?_);rintro e_ w_ ⟨rfl,hb⟩;have q_:=H.out.on hb;have qx_:=HX.out.on hb;have qb_:=blk_below XB.out hb;have qo_:=below_step HB.out hb;clear H HX XB HB y0 y1 y2 y3 hb;have H:=Aside0.mk q_;have HX:=Aside0.mk qx_;have XB:=Aside0.mk qb_;have HB:=Aside0.mk qo_;clear q_ qx_ qb_ qo_;have y0:=(blk_cell XB.out 0).trans (rfl:_=some (Value.int .i64 x.f0.f0));have y1:=(blk_cell XB.out 1).trans (rfl:_=some (Value.int .i64 x.f0.f1));have y2:=(blk_cell XB.out 2).trans (rfl:_=some (Value.slice Ap x.f1.length cp));have y3:=(blk_cell XB.out 3).trans (rfl:_=some (Value.slice Ae x.f2.length ce));clear c1 hlen;have c1:=H.out.c1;have hlen:=len_run (t:=88) (ty:=3) Try.underlying88 H.out.map;rw [List.length_map] at hlen)|(go_at_call 57;(with_reducible refine Calls.mono (HC.out _ H.out HX.out) ?_);rintro e_ w_ ⟨rfl,hb⟩;have q_:=H.out.on hb;have qx_:=HX.out.on hb;have qb_:=blk_below XB.out hb;have qo_:=below_step HB.out hb;clear H HX XB HB y0 y1 y2 y3 hb;have H:=Aside0.mk q_;have HX:=Aside0.mk qx_;have XB:=Aside0.mk qb_;have HB:=Aside0.mk qo_;clear q_ qx_ qb_ qo_;have y0:=(blk_cell XB.out 0).trans (rfl:_=some (Value.int .i64 x.f0.f0));have y1:=(blk_cell XB.out 1).trans (rfl:_=some (Value.int .i64 x.f0.f1));have y2:=(blk_cell XB.out 2).trans (rfl:_=some (Value.slice Ap x.f1.length cp));have y3:=(blk_cell XB.out 3).trans (rfl:_=some (Value.slice Ae x.f2.length ce));clear c1 hlen;have c1:=H.out.c1;have hlen:=len_run (t:=88) (ty:=3) Try.underlying88 H.out.map;rw [List.length_map] at hlen))
 clear c1 hlen y0 y1 y2 y3 hf6
 have LX:=Aside0.mk (λk hk=>Nat.lt_of_lt_of_le (HSZ.out k hk) HB.out.size)
 have HOWN:=Aside0.mk (own_f x HLEN.out.1 HLEN.out.2)
 refine region_cards (F:=?Fd) 8 (λw'=>Aside0 (Below w_.heap.size w_ w'))
  [λv _ _ _=>v = .pointer (some ⟨g,0,none⟩),
  λv _ _ _=>v = .pointer (some ⟨g,0,none⟩),
  λv _ _ _=>v = .pointer (some ⟨g,1,none⟩),
  λv _ _ _=>v = .map (some bm),
  λv _ _ _=>v = .pointer (some ⟨ba,0,none⟩),
  λv _ _ _=>v = .agg #[.int .i64 x.f0.f0,.int .i64 x.f0.f1],
  λv _ _ _=>v=evV x Ap cp Ae ce,
  λv w' _ _=>EvIs w' (λk=>¬ X k) v x]
  (by kernel_rfl) (by kernel_rfl) ?hFd ?hS0d ?hSd ?hstayd ?hstepsd ?hendd
 case hFd =>
  intro vs
  simp only [List.take_succ_cons,List.take_zero,fill,if_true,if_false,Act.put,List.setIfInBounds_toArray,List.set_cons_zero,List.set_cons_succ,Nat.reduceAdd,List.contains_cons,List.contains_nil,Nat.reduceBEq,Bool.or_false,Bool.false_or,Bool.not_true,Bool.not_false,Bool.false_eq_true,Bool.or_self,Bool.true_or]
  rfl
 case hS0d=>exact ⟨below_drew (Below.refl _ _)⟩
 case hSd=>exact λw1 w2 hb hs=>⟨below_step hs.out hb⟩
 case hstayd=>exact ⟨λ_ _ _ _ _ _ h=>h,λ_ _ _ _ _ _ h=>h,λ_ _ _ _ _ _ h=>h,λ_ _ _ _ _ _ h=>h,λ_ _ _ _ _ _ h=>h,λ_ _ _ _ _ _ h=>h,λ_ _ _ _ _ _ h=>h,λ_ _ _ _ _ hb h=>h.on hb,trivial⟩
 case hstepsd =>
  refine ⟨?sd_0,?sd_1,?sd_2,?sd_3,?sd_4,?sd_5,?sd_6,?sd_7,trivial⟩
  case sd_0 =>
   intro _ vs lo hi W_ hs hp
   exact does_val (by first|(go_simp;done)|(go_simp;rfl)) ⟨rfl,Below.refl _ _⟩
  case sd_1 =>
   intro _ vs lo hi W_ hs hp
   have e0:vs 0 = .pointer (some ⟨g,0,none⟩):=hp 0 (by kernel_rfl) rfl
   exact does_val (by first|(go_simp;done)|(go_simp;rfl)) ⟨rfl,Below.refl _ _⟩
  case sd_2 =>
   intro _ vs lo hi W_ hs hp
   have e1:vs 1 = .pointer (some ⟨g,0,none⟩):=hp 1 (by kernel_rfl) rfl
   exact does_val (by first|(go_simp;done)|(go_simp;rfl)) ⟨rfl,Below.refl _ _⟩
  case sd_3 =>
   intro _ vs lo hi W_ hs hp
   have e2:vs 2 = .pointer (some ⟨g,1,none⟩):=hp 2 (by kernel_rfl) rfl
   have hc:=(H.out.on hs.out).c1
   exact does_val (by first|(go_simp;done)|(go_simp;rfl)) ⟨rfl,Below.refl _ _⟩
  case sd_4 =>
   intro _ vs lo hi W_ hs hp
   exact does_val (by first|(go_simp;done)|(go_simp;rfl)) ⟨rfl,Below.refl _ _⟩
  case sd_5 =>
   intro _ vs lo hi W_ hs hp
   have e4:vs 4 = .pointer (some ⟨ba,0,none⟩):=hp 4 (by kernel_rfl) rfl
   have y0:=(blk_cell (blk_below XB.out hs.out) 0).trans (rfl:_=some (Value.int .i64 x.f0.f0))
   have y1:=(blk_cell (blk_below XB.out hs.out) 1).trans (rfl:_=some (Value.int .i64 x.f0.f1))
   exact does_val (by first|(go_simp;done)|(go_simp;rfl)) ⟨rfl,Below.refl _ _⟩
  case sd_6 =>
   intro _ vs lo hi W_ hs hp
   have y0:=(blk_cell (blk_below XB.out hs.out) 0).trans (rfl:_=some (Value.int .i64 x.f0.f0))
   have y1:=(blk_cell (blk_below XB.out hs.out) 1).trans (rfl:_=some (Value.int .i64 x.f0.f1))
   have y2:=(blk_cell (blk_below XB.out hs.out) 2).trans (rfl:_=some (Value.slice Ap x.f1.length cp))
   have y3:=(blk_cell (blk_below XB.out hs.out) 3).trans (rfl:_=some (Value.slice Ae x.f2.length ce))
   exact does_val (by first|(go_simp;done)|(go_simp;rfl)) ⟨rfl,Below.refl _ _⟩
  case sd_7 =>
   intro _ vs lo hi W_ hs hp
   have e6:vs 6=evV x Ap cp Ae ce:=hp 6 (by kernel_rfl) rfl
   refine does_call Try.func58 (by kernel_rfl) rfl #[evV x Ap cp Ae ce] rfl rfl (by rw [<-e6];simp only [List.map_toArray,List.map_cons,List.map_nil];rfl) ?_
   refine(causal_own.calls x.f0.f0 x.f0.f1 Ap cp x.f1 Ae ce x.f2 x.f0.f0 x.f0.f1 x.f1 x.f2 W_ (Kd.F_now (HX.out.on hs.out).fp) HX.out.lp (Kd.F_now (HX.out.on hs.out).fe) HX.out.le HOWN.out).mono ?_
   rintro e w' ⟨v2,v3,rfl,hr2,hr3,hb⟩
   obtain ⟨A2,c2,e2⟩:=Kd.R_slice hr2
   obtain ⟨A4,c4,e3⟩:=Kd.R_slice hr3
   subst e2 e3
   have lx:∀ k,X k->k<W_.heap.size:=λk hk=>Nat.lt_of_lt_of_le (LX.out k hk) hs.out.size
   have f2:=F_new hr2 lx
   have f3:=F_new hr3 lx
   exact ⟨_,rfl,⟨A2,c2,A4,c4,rfl,f2.2.1,f2.2.2,f3.2.1,f3.2.2⟩,hb⟩
 case hendd =>
 intro vs lo_ hi_ Wd hs hp _
 simp only [List.drop_succ_cons,List.drop_zero]
 have e3:vs 3 = .map (some bm):=hp 3 (by decide)
 have e5:vs 5 = .agg #[.int .i64 x.f0.f0,.int .i64 x.f0.f1]:=hp 5 (by decide)
 have e7:EvIs Wd (λk=>¬ X k) (vs 7) x:=hp 7 (by decide)
 rw [e3,e5]
 obtain ⟨v7,h7⟩:∃ v7,v7=vs 7:=⟨_,rfl⟩
 rw [<-h7] at e7 ⊢
 have E7:=Aside0.mk e7
 have q_:=H.out.on hs.out
 have qo_:=below_step HB.out hs.out
 clear H HX XB HB hp hs e3 e5 e7 h7 LX
 have H:=Aside0.mk q_
 have HB:=Aside0.mk qo_
 clear q_ qo_
 refine wpList_store_new (b:=bm) (clock:=clk) (t:=88) (e:=59) (l:=es.map En.ent) (dotE x) v7 rfl rfl (.tmp 42) (.tmp 44) (.tmp 46) rfl (by first|rfl|(go_simp;done)) (by first|rfl|(go_simp;done)) (by first|rfl|(go_simp;done)) Try.underlying88 H.out.map HNK.out.1 ?_
 intro w3 hm3 hg3
 have q_:=H.out.put E7.out hm3 hg3 HNK.out.2
 have qo_:Only W w3 g bm:=(Only.of_below HB.out).trans (Only.grown hg3)
 clear H HB hm3 hg3
 have H:=Aside0.mk q_
 have OO:=Aside0.mk qo_
 clear q_ qo_
 go_wp2
 go_ret2
 exact ⟨v7,rfl,H.out,OO.out⟩
end
end Go.Proofs.Ytfhamdobagjakaa.Cau
