/- a part -/
import Derived.Test.YtfhamdobagjakaaJoRenew
namespace Go.Proofs.Ytfhamdobagjakaa.Dsk
open Go.RowKit Go.Proofs.YtfhamdobagjakaaW.PrintWords Go.Proofs.YtfhamdobagjakaaW.PrintLast Go.Proofs.YtfhamdobagjakaaW.PrintMore Go.Proofs.Ytfhamdobagjakaa.Hand Go.Proofs.Ytfhamdobagjakaa.Cards Go.Proofs.Ytfhamdobagjakaa.PJo
set_option linter.unusedVariables false
set_option linter.unusedSimpArgs false
section
variable {w0 W W1 : World} {g gj : Nat} {D D0 D1 : Nat -> Prop} {d d1 : Dk} {s t : Int}
set_option maxHeartbeats 4000000 in
set_option maxRecDepth 100000 in
theorem turn_calls (h:Jo w0 W g gj D d s t false) (h0:0<=t) (h1:t<=1099511627776):Calls Try.prog 29 #[.pointer (some ⟨gj,0,none⟩)] W λe w'=>e = .returned (.int .i64 t)/\Below W.heap.size W w':=by
 have c2:=h.c2
 have hw:IntKind.i64.wrap t=t:=by rw [IntKind.wrap_i64];omega
 clear h
 go_enter Try.func29,Try.ntmps29
 go_wp2
 go_ret
 exact ⟨rfl,Below.refl _ _⟩
set_option maxHeartbeats 4000000 in
set_option maxRecDepth 100000 in
theorem jsync_none (h:Jo w0 W g gj D d s 0 false):Calls Try.prog 27 #[.pointer (some ⟨gj,0,none⟩)] W λe w'=>e = .returned (.int .i64 0)/\Below W.heap.size W w':=by
 have J:=Aside0.mk h
 clear h
 go_enter Try.func27,Try.ntmps27
 go_upto_region 3 with (first|(go_at_call 14;(with_reducible refine Calls.mono (broken_on J.out.blk) ?_);rintro e w1 ⟨rfl,hb⟩;have HB:=Aside0.mk hb;clear hb))
 have c2:=(J.out.on HB.out).c2
 go_wp2
 go_ret
 exact ⟨rfl,HB.out⟩
set_option maxHeartbeats 4000000 in
set_option maxRecDepth 100000 in
theorem jsync_live (h:Jo w0 W g gj D d s t false) (hv:d.Live) (hs:s=0\/s=1) (ht:t≠0):Calls Try.prog 27 #[.pointer (some ⟨gj,0,none⟩)] W λe w'=>e = .returned (.int .i64 0)/\∃ D',Jo w0 w' g gj D' (d.syn s).1 s t false/\Step W w' (JD D gj) (JD D' gj):=by
 have J:=Aside0.mk h
 have HV:=Aside0.mk hv
 have HS:=Aside0.mk hs
 have ht0:(t == 0)=false:=by simp [ht]
 clear h hv hs ht
 go_enter Try.func27,Try.ntmps27
 go_upto_region 3 with (first|(go_at_call 14;(with_reducible refine Calls.mono (broken_on J.out.blk) ?_);rintro e w1 ⟨rfl,hb⟩;have q_:=J.out.on hb;have ST:=Aside0.mk (Step.of_below (D:=JD D gj) hb);clear J hb;have J:=Aside0.mk q_;clear q_))
 have c2:=J.out.c2
 go_upto_region 5 with (fail)
 refine region_cards (F:=?Fr) 8 (λw'=>Aside0 (Below w1.heap.size w1 w'))
  [λv _ _ _=>v = .pointer (some ⟨gj,0,none⟩),
  λv _ _ _=>v = .pointer (some ⟨gj,0,none⟩),
  λv _ _ _=>v = .pointer (some ⟨gj,0,none⟩),
  λv _ _ _=>v = .pointer (some ⟨g,0,none⟩),
  λv _ _ _=>v = .pointer (some ⟨gj,0,none⟩),
  λv _ _ _=>v = .pointer (some ⟨gj,0,none⟩),
  λv _ _ _=>v = .pointer (some ⟨gj,1,none⟩),
  λv _ _ _=>v = .int .i64 s]
  (by kernel_rfl) (by kernel_rfl) ?hFr ?hS0r ?hSr ?hstayr ?hstepsr ?hendr
 case hFr =>
  intro vs
  simp only [List.take_succ_cons,List.take_zero,fill,if_true,if_false,Act.put,List.setIfInBounds_toArray,List.set_cons_zero,List.set_cons_succ,Nat.reduceAdd,List.contains_cons,List.contains_nil,Nat.reduceBEq,Bool.or_false,Bool.false_or,Bool.not_true,Bool.not_false,Bool.false_eq_true,Bool.or_self,Bool.true_or]
  rfl
 case hS0r=>exact ⟨below_drew (Below.refl _ _)⟩
 case hSr=>exact λw1 w2 hb hs=>⟨below_step hs.out hb⟩
 case hstayr=>exact ⟨λ_ _ _ _ _ _ h=>h,λ_ _ _ _ _ _ h=>h,λ_ _ _ _ _ _ h=>h,λ_ _ _ _ _ _ h=>h,λ_ _ _ _ _ _ h=>h,λ_ _ _ _ _ _ h=>h,λ_ _ _ _ _ _ h=>h,λ_ _ _ _ _ _ h=>h,trivial⟩
 case hstepsr =>
  refine ⟨?sr_0,?sr_1,?sr_2,?sr_3,?sr_4,?sr_5,?sr_6,?sr_7,trivial⟩
  case sr_0 =>
   intro _ vs lo hi W_ hs hp
   exact does_val (by first|(go_simp;done)|(go_simp;rfl)) ⟨rfl,Below.refl _ _⟩
  case sr_1 =>
   intro _ vs lo hi W_ hs hp
   have e0:vs 0 = .pointer (some ⟨gj,0,none⟩):=hp 0 (by kernel_rfl) rfl
   exact does_val (by first|(go_simp;done)|(go_simp;rfl)) ⟨rfl,Below.refl _ _⟩
  case sr_2 =>
   intro _ vs lo hi W_ hs hp
   have e1:vs 1 = .pointer (some ⟨gj,0,none⟩):=hp 1 (by kernel_rfl) rfl
   exact does_val (by first|(go_simp;done)|(go_simp;rfl)) ⟨rfl,Below.refl _ _⟩
  case sr_3 =>
   intro _ vs lo hi W_ hs hp
   have e2:vs 2 = .pointer (some ⟨gj,0,none⟩):=hp 2 (by kernel_rfl) rfl
   have hc:=(J.out.on hs.out).c0
   exact does_val (by first|(go_simp;done)|(go_simp;rfl)) ⟨rfl,Below.refl _ _⟩
  case sr_4 =>
   intro _ vs lo hi W_ hs hp
   exact does_val (by first|(go_simp;done)|(go_simp;rfl)) ⟨rfl,Below.refl _ _⟩
  case sr_5 =>
   intro _ vs lo hi W_ hs hp
   have e4:vs 4 = .pointer (some ⟨gj,0,none⟩):=hp 4 (by kernel_rfl) rfl
   exact does_val (by first|(go_simp;done)|(go_simp;rfl)) ⟨rfl,Below.refl _ _⟩
  case sr_6 =>
   intro _ vs lo hi W_ hs hp
   have e5:vs 5 = .pointer (some ⟨gj,0,none⟩):=hp 5 (by kernel_rfl) rfl
   exact does_val (by first|(go_simp;done)|(go_simp;rfl)) ⟨rfl,Below.refl _ _⟩
  case sr_7 =>
   intro _ vs lo hi W_ hs hp
   have e6:vs 6 = .pointer (some ⟨gj,1,none⟩):=hp 6 (by kernel_rfl) rfl
   have hc:=(J.out.on hs.out).c1
   exact does_val (by first|(go_simp;done)|(go_simp;rfl)) ⟨rfl,Below.refl _ _⟩
 case hendr =>
 intro vs lo_ hi_ Wc hs hp _
 simp only [List.drop_succ_cons,List.drop_zero]
 have q_:=J.out.on hs.out
 have qs_:=ST.out.trans (Step.of_below hs.out)
 clear J ST
 have J:=Aside0.mk q_
 have ST:=Aside0.mk qs_
 clear q_ qs_ hs c2
 have e3:vs 3 = .pointer (some ⟨g,0,none⟩):=hp 3 (by decide)
 have e7:vs 7 = .int .i64 s:=hp 7 (by decide)
 rw [e3,e7]
 clear hp e3 e7
 go_wp2_with (first|(go_at_call 64;(with_reducible refine Calls.mono (sync_live J.out.dk HV.out HS.out) ?_);rintro e w2 ⟨rfl,D2,ha,hs2⟩;have JJ:=Aside0.mk (J.out.did ha hs2);clear ha hs2))
 go_ret
 exact ⟨rfl,D2,JJ.out.1,ST.out.trans JJ.out.2⟩
set_option maxHeartbeats 4000000 in
set_option maxRecDepth 100000 in
theorem renew_arg (h:Jo w0 W g gj D d s t false) {A:Option Addr} {c kp:Nat} {l:List S92} {b:List Int} {x:Int} (hx:x≠0) (hA:Kd.F k92 W (λk=>¬ JD D gj k) A l.length l) (hc:l.length<=c) (hput:journal_put.f kp l=some (b,x)) :
  Calls Try.prog 28 #[.pointer (some ⟨gj,0,none⟩),.slice A l.length c] W λe w'=>e = .returned (.int .i64 x)/\Below W.heap.size W w':=by
 have b0:=below_alloc (Below.refl W.heap.size W) (.cells #[.pointer (some ⟨gj,0,none⟩)] 29)
 have J:=Aside0.mk (h.on b0)
 have BB:=Aside0.mk b0
 have XB:=Aside0.mk (show(W.alloc (.cells #[.pointer (some ⟨gj,0,none⟩)] 29)).heap[W.heap.size]? = some (BoxJ gj) from heap_alloc_new W _)
 have HA:=Aside0.mk (Kd.F_below hA b0)
 have HP:=Aside0.mk hput
 have HC:=Aside0.mk hc
 have hx0:(x != 0)=true:=by simp [hx]
 have hmf:∀ (fn:Fn) (first cap:Array Value) (w:World),(Instr.makeFunc fn first cap).run Try.prog w = .ok (.func fn first cap) w:=λ_ _ _ _=>rfl
 clear h hA hput hc hx b0
 go_enter_defers Try.func28,Try.ntmps28
 go_upto_region 1 with (fail)
 obtain ⟨b2,hb2⟩:∃ b2,b2=W.heap.size:=⟨_,rfl⟩
 rw [<-hb2] at XB ⊢
 clear hb2
 generalize W.alloc (.cells #[.pointer (some ⟨gj,0,none⟩)] 29)=w1 at J BB HA XB ⊢
 have cb:=(blk_cell XB.out 0).trans (rfl:_=some (Value.pointer (some ⟨gj,0,none⟩)))
 go_wp2_with (first|(go_at_call 14;(with_reducible refine Calls.mono (broken_on J.out.blk) ?_);rintro e w2 ⟨rfl,hb⟩;have q_:=below_step BB.out hb;have qa_:=Kd.F_below HA.out hb;clear BB HA hb cb;have BB:=Aside0.mk q_;have HA:=Aside0.mk qa_;clear q_ qa_)|(go_at_call 62;(with_reducible refine Calls.mono (journal_put.calls kp A c l b x w2 (Kd.F_now HA.out) HC.out HP.out) ?_);rintro e w3 ⟨vb,rfl,hR,hb⟩;have q_:=below_step BB.out hb;clear BB hb hR;have BB:=Aside0.mk q_;clear q_))
 exact ⟨_,results_tmp rfl _ _ _,rfl,BB.out⟩
set_option maxHeartbeats 4000000 in
set_option maxRecDepth 100000 in
theorem put_arg (h:Jo w0 W g gj D d s t false) {A:Option Addr} {c kp:Nat} {l:List S92} {b:List Int} {x:Int} (hx:x≠0) (hA:Kd.F k92 W (λk=>¬ JD D gj k) A l.length l) (hc:l.length<=c) (hput:journal_put.f kp l=some (b,x)) :
  Calls Try.prog 26 #[.pointer (some ⟨gj,0,none⟩),.slice A l.length c] W λe w'=>e = .returned (.int .i64 x)/\Below W.heap.size W w':=by
 have J:=Aside0.mk h
 have HA:=Aside0.mk hA
 have HP:=Aside0.mk hput
 have HC:=Aside0.mk hc
 have hx0:(x != 0)=true:=by simp [hx]
 clear h hA hput hc hx
 go_enter Try.func26,Try.ntmps26
 go_wp2_with (first|(go_at_call 14;(with_reducible refine Calls.mono (broken_on J.out.blk) ?_);rintro e w2 ⟨rfl,hb⟩;have BB:=Aside0.mk hb;have qa_:=Kd.F_below HA.out hb;clear HA hb;have HA:=Aside0.mk qa_;clear qa_)|(go_at_call 62;(with_reducible refine Calls.mono (journal_put.calls kp A c l b x w2 (Kd.F_now HA.out) HC.out HP.out) ?_);rintro e w3 ⟨vb,rfl,hR,hb⟩;have q_:=below_step BB.out hb;clear BB hb hR;have BB:=Aside0.mk q_;clear q_))
 go_ret
 exact ⟨rfl,BB.out⟩
set_option maxHeartbeats 4000000 in
set_option maxRecDepth 100000 in
theorem put_none (h:Jo w0 W g gj D d s t false) {A:Option Addr} {c kp:Nat} {l:List S92} {b:List Int} (hl:l=[]) (hA:Kd.F k92 W (λk=>¬ JD D gj k) A l.length l) (hc:l.length<=c) (hput:journal_put.f kp l=some (b,0)) :
  Calls Try.prog 26 #[.pointer (some ⟨gj,0,none⟩),.slice A l.length c] W λe w'=>e = .returned (.int .i64 0)/\Below W.heap.size W w':=by
 have J:=Aside0.mk h
 have HA:=Aside0.mk hA
 have HP:=Aside0.mk hput
 have HC:=Aside0.mk hc
 have hl0:((l.length:Int) == 0)=true:=by rw [hl];rfl
 clear h hA hput hc hl
 go_enter Try.func26,Try.ntmps26
 go_wp2_with (first|(go_at_call 14;(with_reducible refine Calls.mono (broken_on J.out.blk) ?_);rintro e w2 ⟨rfl,hb⟩;have BB:=Aside0.mk hb;have qa_:=Kd.F_below HA.out hb;clear HA hb;have HA:=Aside0.mk qa_;clear qa_)|(go_at_call 62;(with_reducible refine Calls.mono (journal_put.calls kp A c l b 0 w2 (Kd.F_now HA.out) HC.out HP.out) ?_);rintro e w3 ⟨vb,rfl,hR,hb⟩;have q_:=below_step BB.out hb;clear BB hb hR;have BB:=Aside0.mk q_;clear q_))
 go_ret
 exact ⟨rfl,BB.out⟩
set_option maxHeartbeats 4000000 in
set_option maxRecDepth 100000 in
theorem put_renew (h:Jo w0 W g gj D d s 0 false) {A:Option Addr} {c kp:Nat} {l:List S92} {b:List Int} (hl:l≠[]) (hA:Kd.F k92 W (λk=>¬ JD D gj k) A l.length l) (hc:l.length<=c) (hput:journal_put.f kp l=some (b,0)) {q:Dk×Int} {s' t':Int}
  (hr:∀ W1,Below W.heap.size W W1->Calls Try.prog 28 #[.pointer (some ⟨gj,0,none⟩),.slice A l.length c] W1 λe w'=>e = .returned (.int .i64 q.2)/\∃ D',Jo w0 w' g gj D' q.1 s' t' false/\Step W1 w' (JD D gj) (JD D' gj)) :
  Calls Try.prog 26 #[.pointer (some ⟨gj,0,none⟩),.slice A l.length c] W λe w'=>e = .returned (.int .i64 q.2)/\∃ D',Jo w0 w' g gj D' q.1 s' t' false/\Step W w' (JD D gj) (JD D' gj):=by
 have J:=Aside0.mk h
 have HA:=Aside0.mk hA
 have HP:=Aside0.mk hput
 have HC:=Aside0.mk hc
 have HR:=Aside0.mk hr
 have hl0:((l.length:Int) == 0)=false:=by
  have:=List.length_pos_iff.2 hl
  simp;omega
 clear h hA hput hc hl hr
 go_enter Try.func26,Try.ntmps26
 go_upto_region 6 with (first|(go_at_call 14;(with_reducible refine Calls.mono (broken_on J.out.blk) ?_);rintro e w2 ⟨rfl,hb⟩;have BB:=Aside0.mk hb;have qa_:=Kd.F_below HA.out hb;clear HA hb;have HA:=Aside0.mk qa_;clear qa_)|(go_at_call 62;(with_reducible refine Calls.mono (journal_put.calls kp A c l b 0 w2 (Kd.F_now HA.out) HC.out HP.out) ?_);rintro e w3 ⟨vb,rfl,hR,hb⟩;have q_:=below_step BB.out hb;clear BB hb hR;have BB:=Aside0.mk q_;clear q_))
 have c2:=(J.out.on BB.out).c2
 go_wp2_with (first|(go_at_call 28;(with_reducible refine Calls.mono (HR.out w3 BB.out) ?_);rintro e w4 ⟨rfl,D4,hj,hs⟩;have JJ:=Aside0.mk hj;have SS:=Aside0.mk hs;clear hj hs))
 go_ret
 exact ⟨rfl,D4,JJ.out,(Step.of_below BB.out).trans SS.out⟩
set_option maxHeartbeats 4000000 in
set_option maxRecDepth 100000 in
theorem put_append (h:Jo w0 W g gj D d s t false) (hg:d.Good) (ht:t≠0) {A:Option Addr} {c kp:Nat} {l:List S92} {b:List Int} (hl:l≠[]) (hA:Kd.F k92 W (λk=>¬ JD D gj k) A l.length l) (hc:l.length<=c) (hput:journal_put.f kp l=some (b,0)) (hlen:b.length<=1000000000) {q:Dk×Int} (hq:d.app s b=q) :
  Calls Try.prog 26 #[.pointer (some ⟨gj,0,none⟩),.slice A l.length c] W λe w'=>e = .returned (.int .i64 q.2)/\∃ D',Jo w0 w' g gj D' q.1 s t false/\Step W w' (JD D gj) (JD D' gj):=by
 have J:=Aside0.mk h
 have HA:=Aside0.mk hA
 have HP:=Aside0.mk hput
 have HC:=Aside0.mk hc
 have HG:=Aside0.mk hg
 have HQ:=Aside0.mk hq
 have HL:=Aside0.mk hlen
 have hl0:((l.length:Int) == 0)=false:=by
  have:=List.length_pos_iff.2 hl
  simp;omega
 have ht0:(t == 0)=false:=by simp [ht]
 clear h hA hput hc hl hg hq hlen ht
 go_enter Try.func26,Try.ntmps26
 go_upto_region 6 with (first|(go_at_call 14;(with_reducible refine Calls.mono (broken_on J.out.blk) ?_);rintro e w2 ⟨rfl,hb⟩;have BB:=Aside0.mk hb;have qj_:=J.out.on hb;have qa_:=Kd.F_below HA.out hb;clear HA J hb;have HA:=Aside0.mk qa_;have J:=Aside0.mk qj_;clear qa_ qj_)|(go_at_call 62;(with_reducible refine Calls.mono (journal_put.calls kp A c l b 0 w2 (Kd.F_now HA.out) HC.out HP.out) ?_);rintro e w3 ⟨vb,rfl,hR,hb⟩;have q_:=below_step BB.out hb;obtain ⟨Ab,cB,eb⟩:=Kd.R_slice hR;subst eb;have AF:=Aside0.mk (F_fresh (W:=w2) (v:=undef) (D:=D) hR (λk hk=>J.out.dk.lt k hk)).2.2;have qj_:=J.out.on hb;clear BB hb hR J;have BB:=Aside0.mk q_;have J:=Aside0.mk qj_;clear q_ qj_))
 have c2:=J.out.c2
 go_upto_region 8 with (fail)
 clear c2
 refine region_cards (F:=?Fr) 9 (λw'=>Aside0 (Below w3.heap.size w3 w'))
  [λv _ _ _=>v = .pointer (some ⟨gj,0,none⟩),
  λv _ _ _=>v = .pointer (some ⟨gj,0,none⟩),
  λv _ _ _=>v = .pointer (some ⟨gj,0,none⟩),
  λv _ _ _=>v = .pointer (some ⟨g,0,none⟩),
  λv _ _ _=>v = .pointer (some ⟨gj,0,none⟩),
  λv _ _ _=>v = .pointer (some ⟨gj,0,none⟩),
  λv _ _ _=>v = .pointer (some ⟨gj,1,none⟩),
  λv _ _ _=>v = .int .i64 s,
  λv _ _ _=>v = .slice Ab b.length cB]
  (by kernel_rfl) (by kernel_rfl) ?hFr ?hS0r ?hSr ?hstayr ?hstepsr ?hendr
 case hFr =>
  intro vs
  simp only [List.take_succ_cons,List.take_zero,fill,if_true,if_false,Act.put,List.setIfInBounds_toArray,List.set_cons_zero,List.set_cons_succ,Nat.reduceAdd,List.contains_cons,List.contains_nil,Nat.reduceBEq,Bool.or_false,Bool.false_or,Bool.not_true,Bool.not_false,Bool.false_eq_true,Bool.or_self,Bool.true_or]
  rfl
 case hS0r=>exact ⟨below_drew (Below.refl _ _)⟩
 case hSr=>exact λw1 w2 hb hs=>⟨below_step hs.out hb⟩
 case hstayr=>exact ⟨λ_ _ _ _ _ _ h=>h,λ_ _ _ _ _ _ h=>h,λ_ _ _ _ _ _ h=>h,λ_ _ _ _ _ _ h=>h,λ_ _ _ _ _ _ h=>h,λ_ _ _ _ _ _ h=>h,λ_ _ _ _ _ _ h=>h,λ_ _ _ _ _ _ h=>h,λ_ _ _ _ _ _ h=>h,trivial⟩
 case hstepsr =>
  refine ⟨?sr_0,?sr_1,?sr_2,?sr_3,?sr_4,?sr_5,?sr_6,?sr_7,?sr_8,trivial⟩
  case sr_0 =>
   intro _ vs lo hi W_ hs hp
   exact does_val (by first|(go_simp;done)|(go_simp;rfl)) ⟨rfl,Below.refl _ _⟩
  case sr_1 =>
   intro _ vs lo hi W_ hs hp
   have e0:vs 0 = .pointer (some ⟨gj,0,none⟩):=hp 0 (by kernel_rfl) rfl
   exact does_val (by first|(go_simp;done)|(go_simp;rfl)) ⟨rfl,Below.refl _ _⟩
  case sr_2 =>
   intro _ vs lo hi W_ hs hp
   have e1:vs 1 = .pointer (some ⟨gj,0,none⟩):=hp 1 (by kernel_rfl) rfl
   exact does_val (by first|(go_simp;done)|(go_simp;rfl)) ⟨rfl,Below.refl _ _⟩
  case sr_3 =>
   intro _ vs lo hi W_ hs hp
   have e2:vs 2 = .pointer (some ⟨gj,0,none⟩):=hp 2 (by kernel_rfl) rfl
   have hc:=(J.out.on hs.out).c0
   exact does_val (by first|(go_simp;done)|(go_simp;rfl)) ⟨rfl,Below.refl _ _⟩
  case sr_4 =>
   intro _ vs lo hi W_ hs hp
   exact does_val (by first|(go_simp;done)|(go_simp;rfl)) ⟨rfl,Below.refl _ _⟩
  case sr_5 =>
   intro _ vs lo hi W_ hs hp
   have e4:vs 4 = .pointer (some ⟨gj,0,none⟩):=hp 4 (by kernel_rfl) rfl
   exact does_val (by first|(go_simp;done)|(go_simp;rfl)) ⟨rfl,Below.refl _ _⟩
  case sr_6 =>
   intro _ vs lo hi W_ hs hp
   have e5:vs 5 = .pointer (some ⟨gj,0,none⟩):=hp 5 (by kernel_rfl) rfl
   exact does_val (by first|(go_simp;done)|(go_simp;rfl)) ⟨rfl,Below.refl _ _⟩
  case sr_7 =>
   intro _ vs lo hi W_ hs hp
   have e6:vs 6 = .pointer (some ⟨gj,1,none⟩):=hp 6 (by kernel_rfl) rfl
   have hc:=(J.out.on hs.out).c1
   exact does_val (by first|(go_simp;done)|(go_simp;rfl)) ⟨rfl,Below.refl _ _⟩
  case sr_8 =>
   intro _ vs lo hi W_ hs hp
   exact does_val (by first|(go_simp;done)|(go_simp;rfl)) ⟨rfl,Below.refl _ _⟩
 case hendr =>
 intro vs lo_ hi_ Wc hs hp _
 simp only [List.drop_succ_cons,List.drop_zero]
 have q_:=J.out.on hs.out
 have qs_:=(Step.of_below (D:=JD D gj) BB.out).trans (Step.of_below hs.out)
 have qf_:=(Step.of_below (D:=D) hs.out).foot AF.out
 clear J BB AF
 have J:=Aside0.mk q_
 have ST:=Aside0.mk qs_
 have AF:=Aside0.mk qf_
 clear q_ qs_ hs qf_
 have e3:vs 3 = .pointer (some ⟨g,0,none⟩):=hp 3 (by decide)
 have e7:vs 7 = .int .i64 s:=hp 7 (by decide)
 have e8:vs 8 = .slice Ab b.length cB:=hp 8 (by decide)
 rw [e3,e7,e8]
 clear hp e3 e7 e8
 go_wp2_with (first|(go_at_call 63;(with_reducible refine Calls.mono (append_any J.out.dk HG.out s rfl AF.out (Nat.le_trans HL.out (by decide)) HQ.out) ?_);rintro e w4 ⟨rfl,D2,ha,hs2⟩;have JJ:=Aside0.mk (J.out.did ha hs2);clear ha hs2))
 go_ret
 exact ⟨rfl,D2,JJ.out.1,ST.out.trans JJ.out.2⟩
end
end Go.Proofs.Ytfhamdobagjakaa.Dsk
