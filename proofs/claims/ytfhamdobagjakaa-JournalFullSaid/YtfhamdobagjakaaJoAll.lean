/- a part -/
import Derived.Test.YtfhamdobagjakaaJoDoAll
namespace Go.Proofs.Ytfhamdobagjakaa.Dsk
open Go.RowKit Go.Proofs.YtfhamdobagjakaaW.PrintWords Go.Proofs.YtfhamdobagjakaaW.PrintLast Go.Proofs.YtfhamdobagjakaaW.PrintMore Go.Proofs.Ytfhamdobagjakaa.Hand Go.Proofs.Ytfhamdobagjakaa.Cards Go.Proofs.Ytfhamdobagjakaa.PJo Go.Proofs.Ytfhamdobagjakaa.Wr
set_option linter.unusedVariables false
set_option linter.unusedSimpArgs false
section
variable {w0 W W1 : World} {g gj gw : Nat} {D : Nat -> Prop} {d : Dk} {s t n o : Int} {Ab Am A : Option Addr} {cb cm c i : Nat} {base more R : List Rc}
set_option maxHeartbeats 16000000 in
set_option maxRecDepth 100000 in
theorem all_calls (h:Lw w0 W g gj gw D Ab Am cb cm d s t base more n) (hbig:base.length+more.length<=1000000) :
  Calls Try.prog 20 #[.pointer (some ⟨gw,0,none⟩)] W λe w'=>∃ A c,e = .returned (.slice A (base++more).length c)/\(base++more).length<=c/\Kd.C k92 w' A (base++more).length (base++more)/\Below W.heap.size W w':=by
 have H:=Aside0.mk h
 have HBIG:=Aside0.mk hbig
 clear h hbig
 go_enter Try.func20,Try.ntmps20
 go_upto_region 1 with (fail)
 refine region_cards (F:=?Fm) 10 (λw'=>Aside0 (Below W.heap.size W w'))
  [λv w' lo hi=>∃ b,v = .slice (some ⟨b,0,none⟩) 0 0/\W.heap.size<=b/\w'.heap[b]? = some (.cells #[] 92 (0,0)),
  λv _ _ _=>v = .pointer (some ⟨gw,0,none⟩),
  λv _ _ _=>v = .pointer (some ⟨gw,0,none⟩),
  λv _ _ _=>v = .pointer (some ⟨gw,2,none⟩),
  λv _ _ _=>v = .slice Ab base.length cb,
  λv w' _ _=>Kd.N k92 92 w' W.heap.size (λ_=>True) v base,
  λv _ _ _=>v = .pointer (some ⟨gw,0,none⟩),
  λv _ _ _=>v = .pointer (some ⟨gw,0,none⟩),
  λv _ _ _=>v = .pointer (some ⟨gw,3,none⟩),
  λv _ _ _=>v = .slice Am more.length cm]
  (by kernel_rfl) (by kernel_rfl) ?hFm ?hS0m ?hSm ?hstaym ?hstepsm ?hendm
 case hFm =>
  intro vs
  simp only [List.take_succ_cons,List.take_zero,fill,if_true,if_false,Act.put,List.setIfInBounds_toArray,List.set_cons_zero,List.set_cons_succ,Nat.reduceAdd,List.contains_cons,List.contains_nil,Nat.reduceBEq,Bool.or_false,Bool.false_or,Bool.not_true,Bool.not_false,Bool.false_eq_true,Bool.or_self,Bool.true_or]
  rfl
 case hS0m=>exact ⟨below_drew (Below.refl _ _)⟩
 case hSm=>exact λw1 w2 hb hs=>⟨below_step hs.out hb⟩
 case hstaym=>exact ⟨λ_ _ _ _ _ hb h=>by obtain ⟨k,q1,q2,q3⟩:=h;exact ⟨k,q1,q2,blk_below q3 hb⟩,λ_ _ _ _ _ _ h=>h,λ_ _ _ _ _ _ h=>h,λ_ _ _ _ _ _ h=>h,λ_ _ _ _ _ _ h=>h,λ_ _ _ _ _ hb h=>Kd.N_below h hb,λ_ _ _ _ _ _ h=>h,λ_ _ _ _ _ _ h=>h,λ_ _ _ _ _ _ h=>h,λ_ _ _ _ _ _ h=>h,trivial⟩
 case hstepsm =>
  refine ⟨?sm_0,?sm_1,?sm_2,?sm_3,?sm_4,?sm_5,?sm_6,?sm_7,?sm_8,?sm_9,trivial⟩
  case sm_0 =>
   intro _ vs lo hi W_ hs hp
   exact does_val (v:=.slice (some ⟨W_.heap.size,0,none⟩) 0 0) (w1:=W_.alloc (.cells #[] 92)) (by first|(go_simp;done)|(go_simp;rfl)) ⟨⟨W_.heap.size,rfl,below_size hs.out,heap_alloc_new W_ _⟩,below_alloc (Below.refl _ _) _⟩
  case sm_1 =>
   intro _ vs lo hi W_ hs hp
   exact does_val (by first|(go_simp;done)|(go_simp;rfl)) ⟨rfl,Below.refl _ _⟩
  case sm_2 =>
   intro _ vs lo hi W_ hs hp
   have e1:vs 1 = .pointer (some ⟨gw,0,none⟩):=hp 1 (by kernel_rfl) rfl
   exact does_val (by first|(go_simp;done)|(go_simp;rfl)) ⟨rfl,Below.refl _ _⟩
  case sm_3 =>
   intro _ vs lo hi W_ hs hp
   have e2:vs 2 = .pointer (some ⟨gw,0,none⟩):=hp 2 (by kernel_rfl) rfl
   exact does_val (by first|(go_simp;done)|(go_simp;rfl)) ⟨rfl,Below.refl _ _⟩
  case sm_4 =>
   intro _ vs lo hi W_ hs hp
   have e3:vs 3 = .pointer (some ⟨gw,2,none⟩):=hp 3 (by kernel_rfl) rfl
   have hc:=(H.out.on hs.out).c2
   exact does_val (by first|(go_simp;done)|(go_simp;rfl)) ⟨rfl,Below.refl _ _⟩
  case sm_5 =>
   intro _ vs lo hi W_ hs hp
   have e4:vs 4 = .slice Ab base.length cb:=hp 4 (by kernel_rfl) rfl
   obtain ⟨k3,e0,hk3,hx3⟩:∃ k,vs 0 = .slice (some ⟨k,0,none⟩) 0 0/\W.heap.size<=k/\W_.heap[k]? = some (.cells #[] 92 (0,0)):=hp 0 (by kernel_rfl) rfl
   have fm_:=Kd.F_below (Kd.F_bound H.out.fb) hs.out
   obtain ⟨vv1,ww1,hrr,hN,hbb⟩:=N_fresh_run (P:=Try.prog) (d:=k92) (e:=92) (base:=W.heap.size) (ok:=λ_=>True) (c:=cb) (t:=30) (ty:=30) Try.underlying30 info92 rfl (by decide) (by omega) hk3 hx3 fm_ (λad ea hq=>Kd.F_in fm_ ea hq (by decide)) (λk' hk'=>⟨trivial,λe=>by have:=hk'.2;omega⟩) trivial (λ_ _=>trivial) (below_size hs.out) (by have:=HBIG.out;omega)
   exact does_app (s:=.tmp 3) (x:=.tmp 7) rfl (by rw [<-e0];first|rfl|(go_simp;done)) (by rw [<-e4];first|rfl|(go_simp;done)) hrr ⟨hN,hbb⟩
  case sm_6 =>
   intro _ vs lo hi W_ hs hp
   exact does_val (by first|(go_simp;done)|(go_simp;rfl)) ⟨rfl,Below.refl _ _⟩
  case sm_7 =>
   intro _ vs lo hi W_ hs hp
   have e6:vs 6 = .pointer (some ⟨gw,0,none⟩):=hp 6 (by kernel_rfl) rfl
   exact does_val (by first|(go_simp;done)|(go_simp;rfl)) ⟨rfl,Below.refl _ _⟩
  case sm_8 =>
   intro _ vs lo hi W_ hs hp
   have e7:vs 7 = .pointer (some ⟨gw,0,none⟩):=hp 7 (by kernel_rfl) rfl
   exact does_val (by first|(go_simp;done)|(go_simp;rfl)) ⟨rfl,Below.refl _ _⟩
  case sm_9 =>
   intro _ vs lo hi W_ hs hp
   have e8:vs 8 = .pointer (some ⟨gw,3,none⟩):=hp 8 (by kernel_rfl) rfl
   have hc:=(H.out.on hs.out).c3
   exact does_val (by first|(go_simp;done)|(go_simp;rfl)) ⟨rfl,Below.refl _ _⟩
 case hendm =>
 intro vs lo_ hi_ Wc hs hp _
 simp only [List.drop_succ_cons,List.drop_zero]
 have e5:Kd.N k92 92 Wc W.heap.size (λ_=>True) (vs 5) base:=hp 5 (by decide)
 have e9:vs 9 = .slice Am more.length cm:=hp 9 (by decide)
 rw [e9]
 obtain ⟨v5,hv5⟩:∃ v5,v5=vs 5:=⟨_,rfl⟩
 rw [<-hv5] at e5 ⊢
 clear hv5 e9
 have hsz:=hs.out.size
 have fr_:=Kd.F_below (Kd.F_bound H.out.fm) hs.out
 have fin:=λ(ad:Addr) ea hq=>Kd.F_in fr_ (ad:=ad) ea hq (by decide)
 have hap:=N_append_run (P:=Try.prog) (d:=k92) (e:=92) (base:=W.heap.size) (ok:=λ_=>True) (c:=cm) (t:=30) (ty:=30) Try.underlying30 info92 rfl (by decide) (by omega) e5 fr_ fin (λk hk=>⟨trivial,λe=>by have:=Kd.N_base e5 k e.symm;have:=hk.2;omega⟩) (λ_ _=>trivial) hsz (by have:=HBIG.out;omega)
 obtain ⟨v9,w9,hrun,hN,hgr,hat⟩:=hap
 have ob:=λk (hk:v5.ownBlock=some k)=>Kd.N_base e5 k hk
 have hk9:∀ k,k<W.heap.size->w9.heap[k]? = Wc.heap[k]?:=λk hk=>hgr.block k (by omega) (λe=>by have:=ob k e.symm;omega)
 have B9:=Aside0.mk (⟨hgr.os.trans hs.out.os,hgr.tape.trans hs.out.tape,hgr.output.trans hs.out.output,Nat.le_trans hsz hgr.size,λk hk=>(hk9 k hk).trans (hs.out.block k hk)⟩:Below W.heap.size W w9)
 obtain ⟨A9,c9,e9⟩:=Kd.N_slice hN
 subst e9
 have F9:=Aside0.mk (Kd.N_reads' hN)
 have HRUN:=Aside0.mk hrun
 clear e5 hsz fr_ fin hrun hN hgr hat ob hk9 hp hs
 refine app_event (s:=.tmp 8) (x:=.tmp 12) (N:=some 13) rfl rfl rfl (by first|rfl|(go_simp;done)) (by first|rfl|(go_simp;done)) HRUN.out ?_
 (try simp only [Act.put,List.setIfInBounds_toArray,List.set_cons_zero,List.set_cons_succ])
 go_wp2
 go_ret
 have el:(base++more).length=base.length+more.length:=List.length_append ..
 have q1:=F9.out.2.1
 have q2:=F9.out.2.2
 rw [el] at q1 q2
 exact ⟨A9,c9,by first|rfl|rw [el],q1,q2,B9.out⟩
set_option maxHeartbeats 16000000 in
set_option maxRecDepth 100000 in
theorem begin_calls (room:Int) (r0:0<=room) (r1:room<=255) (W:World) :
  Calls Try.prog 12 #[.int .i64 room] W λe w'=>∃ g gj gw D,e = .returned (.tuple #[.pointer (some ⟨gw,0,none⟩),.bool true])/\Lw W w' g gj gw D none none 0 0 (Dk.new room) 1 0 [] [] 0:=by
 have R0:=Aside0.mk r0
 have R1:=Aside0.mk r1
 clear r0 r1
 go_enter Try.func12,Try.ntmps12
 go_upto_region 2 with (first|(go_at_call 44;(with_reducible refine Calls.mono (new_calls room R0.out (Int.le_trans R1.out (by decide)) W) ?_);rintro e w1 ⟨g,rfl,⟨D,hat⟩,hb⟩;have AT:=Aside0.mk hat;clear hat hb))
 obtain ⟨v0,v1,hraw⟩:=AT.out
 have ho:=open_fresh hraw (Dk.good_new R0.out (Int.le_trans R1.out (by decide))) rfl rfl rfl
 have HO:=Aside0.mk ho
 clear ho hraw
 go_upto_region 3 with (first|(go_at_call 18;(with_reducible refine Calls.mono HO.out ?_);rintro e w2 ⟨gj,rfl,hj,hge,hb⟩;have J:=Aside0.mk (show Jo W w2 g gj D (Dk.new room) 1 0 false from ⟨AT.out.on hb,λe=>by have:=AT.out.lt gj e;omega,Nat.le_trans AT.out.below.size hge,hj⟩);clear HO hj hge hb AT))
 go_wp2
 refine bodyPost_ret (results_tmp2 rfl _ _ _) rfl ?_
 have hs:=J.out.dk.below.size
 exact ⟨g,gj,w2.heap.size,D,rfl,J.out.on (below_alloc (Below.refl _ _) _),λe=>by have:=J.out.lt _ e;omega,hs,heap_alloc_new w2 _,Nat.le_refl _,Kd.F_nil _ _ _,Nat.le_refl _,Kd.F_nil _ _ _⟩
end
end Go.Proofs.Ytfhamdobagjakaa.Dsk
