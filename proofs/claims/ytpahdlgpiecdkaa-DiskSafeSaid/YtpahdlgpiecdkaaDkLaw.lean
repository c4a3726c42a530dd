/- a part -/
import Derived.Test.YtpahdlgpiecdkaaDkRef3
import Derived.Test.YtpahdlgpiecdkaaDkWalk2
namespace Go.Proofs.Ytpahdlgpiecdkaa.Dsk
open Go.RowKit Go.Proofs.YtpahdlgpiecdkaaW.PrintWords Go.Proofs.YtpahdlgpiecdkaaW.PrintLast Go.Proofs.YtpahdlgpiecdkaaW.PrintMore Go.Proofs.Ytpahdlgpiecdkaa.Hand Go.Proofs.Ytpahdlgpiecdkaa.Cards Go.Proofs.Ytpahdlgpiecdkaa.PDk
set_option linter.unusedVariables false
set_option linter.unusedSimpArgs false
section
variable {w0 W W1 : World} {D E : Nat -> Prop} {d r : Dk} {A0 A1 : Option Addr} {c0 c1 g : Nat} {v0 v1 : Value}
theorem Raw.move (h:Raw w0 W g v0 v1 D d) (hb:Below w0.heap.size w0 W1) (hs:W.heap.size<=W1.heap.size) (hf:∀ k,D k->W1.heap[k]? = W.heap[k]?):Raw w0 W1 g v0 v1 D d :=
 ⟨hb,h.gb,h.gD,λk hk=>Nat.lt_of_lt_of_le (h.lt k hk) hs,h.ge,(hf g h.gD).trans h.blk,Kd.R_step h.r0 (λk hk _=>hf k hk.1),Kd.R_step h.r1 (λk hk _=>hf k hk.1)⟩
theorem RawV.move (h:RawV W E A0 A1 c0 c1 r) (hf:∀ k,¬ E k->k<W.heap.size->W1.heap[k]? = W.heap[k]?):RawV W1 E A0 A1 c0 c1 r :=
 ⟨h.l0,Kd.F_step h.f0 hf,h.l1,Kd.F_step h.f1 hf⟩
theorem RawV.mono (h:RawV W E A0 A1 c0 c1 r) (hf:∀ k,D k->E k):RawV W D A0 A1 c0 c1 r :=
 ⟨h.l0,Kd.F_mono h.f0 (λk hk hd=>hk (hf k hd)),h.l1,Kd.F_mono h.f1 (λk hk hd=>hk (hf k hd))⟩
theorem foot_wide {α:Type} {e:Kd α} {A:Option Addr} {n m:Nat} {xs:List α} {X:Nat->Prop} (f:Kd.F e W (λk=>¬ (D k\/X k)) A n xs) (h:Step W W1 D E):Kd.F e W1 (λk=>¬ (E k\/X k\/(W.heap.size<=k/\k<m))) A n xs :=
 Kd.F_mono (Kd.F_step (Kd.F_bound f) (λk hk hlt=>h.block k hlt (λq=>hk.1 (.inl q)))) (λk hk hd=>by
  rcases hd with h1|h1|h1
  ·rcases h.new k h1 with h2|h2
   ·exact hk.1 (.inl h2)
   ·omega
  ·exact hk.1 (.inr h1)
  ·omega)
theorem RawV.wide {m:Nat} {X:Nat->Prop} (h:RawV W (λk=>D k\/X k) A0 A1 c0 c1 r) (hs:Step W W1 D E):RawV W1 (λk=>E k\/X k\/(W.heap.size<=k/\k<m)) A0 A1 c0 c1 r :=
 ⟨h.l0,foot_wide h.f0 hs,h.l1,foot_wide h.f1 hs⟩
set_option maxHeartbeats 8000000 in
set_option maxRecDepth 100000 in
theorem lawDo2 (h:Raw w0 W g v0 v1 D d) (X:Nat->Prop) (hX:∀ k,X k->k<W.heap.size) (hr:RawV W (λk=>D k\/X k) A0 A1 c0 c1 r) (hg:d.Good) (hgr:r.Good) (i n:Int) (B K:Option Addr) (mb cb mk ck:Nat) (b keep:List Int) (hmb:mb=b.length) (hcb:mb<=cb) (hB:Kd.F U8 W (λk=>¬ (D k\/X k)) B mb b) (hmx:mb<=140737488355328) (hmk:mk=keep.length) (hK:Kd.F (Kd.int .i64) W (λk=>¬ (D k\/X k)) K mk keep) :
  Calls Try.prog 18 #[.pointer (some ⟨g,0,none⟩),.agg #[.slice A0 r.b0.length c0,.int .i64 r.s0,.slice A1 r.b1.length c1,.int .i64 r.s1,.int .i64 r.room,.int .i64 r.stop,.bool r.dead],.agg #[.int .i64 2,.int .i64 i,.slice B mb cb,.int .i64 n,.slice K mk ck]] W λe w'=>∃ v t,e = .returned (.tuple #[v,.bool t])/\∃ D',At w0 w' g D' (d.doing 2 i b n keep)/\Is w' (λk=>D' k\/X k) v (r.doing 2 i b n keep)/\Step W w' D D':=by
 have H:=Aside0.mk h
 have HR:=Aside0.mk hr
 have HXX:=Aside0.mk hX
 have HG:=Aside0.mk hg
 have HGR:=Aside0.mk hgr
 have HBB:=Aside0.mk hB
 have HKK:=Aside0.mk hK
 have HMB:=Aside0.mk hmb
 have HMK:=Aside0.mk hmk
 clear h hr hg hgr hB hK hmb hmk hX
 go_enter Try.func18,Try.ntmps18
 go_upto_region 4 with (fail)
 have hb:Below W.heap.size W (((W.alloc (.cells #[.slice A0 r.b0.length c0,.int .i64 r.s0,.slice A1 r.b1.length c1,.int .i64 r.s1,.int .i64 r.room,.int .i64 r.stop,.bool r.dead] 43)).alloc (.cells #[.int .i64 2,.int .i64 i,.slice B mb cb,.int .i64 n,.slice K mk ck] 49)).alloc (.cells #[.slice none 0 0,.int .i64 0,.slice none 0 0,.int .i64 0,.int .i64 0,.int .i64 0,.bool false] 43)):=below_alloc (below_alloc (below_alloc (Below.refl _ _) _) _) _
 have s1:(W.alloc (.cells #[.slice A0 r.b0.length c0,.int .i64 r.s0,.slice A1 r.b1.length c1,.int .i64 r.s1,.int .i64 r.room,.int .i64 r.stop,.bool r.dead] 43)).heap.size=W.heap.size+1:=by simp
 have s2:((W.alloc (.cells #[.slice A0 r.b0.length c0,.int .i64 r.s0,.slice A1 r.b1.length c1,.int .i64 r.s1,.int .i64 r.room,.int .i64 r.stop,.bool r.dead] 43)).alloc (.cells #[.int .i64 2,.int .i64 i,.slice B mb cb,.int .i64 n,.slice K mk ck] 49)).heap.size=W.heap.size+2:=by simp
 have x4:(((W.alloc (.cells #[.slice A0 r.b0.length c0,.int .i64 r.s0,.slice A1 r.b1.length c1,.int .i64 r.s1,.int .i64 r.room,.int .i64 r.stop,.bool r.dead] 43)).alloc (.cells #[.int .i64 2,.int .i64 i,.slice B mb cb,.int .i64 n,.slice K mk ck] 49)).alloc (.cells #[.slice none 0 0,.int .i64 0,.slice none 0 0,.int .i64 0,.int .i64 0,.int .i64 0,.bool false] 43)).heap[W.heap.size]? = some (.cells #[.slice A0 r.b0.length c0,.int .i64 r.s0,.slice A1 r.b1.length c1,.int .i64 r.s1,.int .i64 r.room,.int .i64 r.stop,.bool r.dead] 43 (0,0)):=blk_below (heap_alloc_new W _) (below_alloc (below_alloc (Below.refl _ _) _) _)
 have x5:(((W.alloc (.cells #[.slice A0 r.b0.length c0,.int .i64 r.s0,.slice A1 r.b1.length c1,.int .i64 r.s1,.int .i64 r.room,.int .i64 r.stop,.bool r.dead] 43)).alloc (.cells #[.int .i64 2,.int .i64 i,.slice B mb cb,.int .i64 n,.slice K mk ck] 49)).alloc (.cells #[.slice none 0 0,.int .i64 0,.slice none 0 0,.int .i64 0,.int .i64 0,.int .i64 0,.bool false] 43)).heap[W.heap.size+1]? = some (.cells #[.int .i64 2,.int .i64 i,.slice B mb cb,.int .i64 n,.slice K mk ck] 49 (0,0)):=by have h_:=blk_below (heap_alloc_new (W.alloc (.cells #[.slice A0 r.b0.length c0,.int .i64 r.s0,.slice A1 r.b1.length c1,.int .i64 r.s1,.int .i64 r.room,.int .i64 r.stop,.bool r.dead] 43)) (.cells #[.int .i64 2,.int .i64 i,.slice B mb cb,.int .i64 n,.slice K mk ck] 49)) (below_alloc (Below.refl _ _) (.cells #[.slice none 0 0,.int .i64 0,.slice none 0 0,.int .i64 0,.int .i64 0,.int .i64 0,.bool false] 43));rwa [s1] at h_
 have x6:(((W.alloc (.cells #[.slice A0 r.b0.length c0,.int .i64 r.s0,.slice A1 r.b1.length c1,.int .i64 r.s1,.int .i64 r.room,.int .i64 r.stop,.bool r.dead] 43)).alloc (.cells #[.int .i64 2,.int .i64 i,.slice B mb cb,.int .i64 n,.slice K mk ck] 49)).alloc (.cells #[.slice none 0 0,.int .i64 0,.slice none 0 0,.int .i64 0,.int .i64 0,.int .i64 0,.bool false] 43)).heap[W.heap.size+2]? = some (.cells #[.slice none 0 0,.int .i64 0,.slice none 0 0,.int .i64 0,.int .i64 0,.int .i64 0,.bool false] 43 (0,0)):=by have h_:=heap_alloc_new ((W.alloc (.cells #[.slice A0 r.b0.length c0,.int .i64 r.s0,.slice A1 r.b1.length c1,.int .i64 r.s1,.int .i64 r.room,.int .i64 r.stop,.bool r.dead] 43)).alloc (.cells #[.int .i64 2,.int .i64 i,.slice B mb cb,.int .i64 n,.slice K mk ck] 49)) (.cells #[.slice none 0 0,.int .i64 0,.slice none 0 0,.int .i64 0,.int .i64 0,.int .i64 0,.bool false] 43);rwa [s2] at h_
 have HB:=Aside0.mk hb
 have X4:=Aside0.mk x4
 have X5:=Aside0.mk x5
 have X6:=Aside0.mk x6
 clear hb x4 x5 x6 s1 s2
 generalize (((W.alloc (.cells #[.slice A0 r.b0.length c0,.int .i64 r.s0,.slice A1 r.b1.length c1,.int .i64 r.s1,.int .i64 r.room,.int .i64 r.stop,.bool r.dead] 43)).alloc (.cells #[.int .i64 2,.int .i64 i,.slice B mb cb,.int .i64 n,.slice K mk ck] 49)).alloc (.cells #[.slice none 0 0,.int .i64 0,.slice none 0 0,.int .i64 0,.int .i64 0,.int .i64 0,.bool false] 43))=w1 at HB X4 X5 X6 ⊢
 rw [show W.heap.size+1+1=W.heap.size+2 from rfl]
 have a0:=(blk_cell X5.out 0).trans (rfl:_=some (Value.int .i64 2))
 have a1:=(blk_cell X5.out 1).trans (rfl:_=some (Value.int .i64 i))
 have a2:=(blk_cell X5.out 2).trans (rfl:_=some (Value.slice B mb cb))
 have a3:=(blk_cell X5.out 3).trans (rfl:_=some (Value.int .i64 n))
 have a4:=(blk_cell X5.out 4).trans (rfl:_=some (Value.slice K mk ck))
 have hcl:=sync_calls (H.out.on HB.out) i
 have HCL:=Aside0.mk hcl
 clear hcl
 go_upto_region 19 with (first|(go_at_call 22;(with_reducible refine Calls.mono HCL.out ?_);rintro e wd ⟨rfl,D1,hat,hst⟩;have AT:=Aside0.mk hat;have HS:=Aside0.mk ((Step.of_below HB.out).trans hst);have nD:∀ k,D k->k<W.heap.size:=H.out.lt;have x4:=(hst.blk X4.out (λq=>by have:=nD _ q;omega)).1;have x5:=(hst.blk X5.out (λq=>by have:=nD _ q;omega)).1;have x6:=(hst.blk X6.out (λq=>by have:=nD _ q;omega)).1;have ND:=Aside0.mk (hst.blk X6.out (λq=>by have:=nD _ q;omega)).2;clear X4 X5 X6 a0 a1 a2 a3 a4 nD hat hst;have X4:=Aside0.mk x4;have X5:=Aside0.mk x5;have X6:=Aside0.mk x6;clear x4 x5 x6 HCL))
 have lt6:=Aside0.mk (blk_lt X6.out)
 obtain ⟨E,hE⟩:∃ E:Nat->Prop,E=λk=>D1 k\/X k\/(W.heap.size<=k/\k<W.heap.size+3):=⟨_,rfl⟩
 have vE:RawV wd E A0 A1 c0 c1 r:=by rw [hE];exact HR.out.wide HS.out
 have bE:Kd.F U8 wd (λk=>¬ E k) B mb b:=by rw [hE];exact foot_wide HBB.out HS.out
 have ltE:∀ k,E k->k<wd.heap.size:=λk hk=>by
  rw [hE] at hk
  rcases hk with h1|h1|h1
  ·exact AT.out.lt k h1
  ·have:=HXX.out k h1;have:=lt6.out;omega
  ·have:=lt6.out;omega
 have hDo:=Aside0.mk (refDo_calls vE ltE HGR.out 2 (by omega) i B mb cb b HMB.out hcb bE)
 have HE:=Aside0.mk hE
 clear hE vE bE ltE
 have k0:=(blk_cell X4.out 0).trans (rfl:_=some (Value.slice A0 r.b0.length c0))
 have k1:=(blk_cell X4.out 1).trans (rfl:_=some (Value.int .i64 r.s0))
 have k2:=(blk_cell X4.out 2).trans (rfl:_=some (Value.slice A1 r.b1.length c1))
 have k3:=(blk_cell X4.out 3).trans (rfl:_=some (Value.int .i64 r.s1))
 have k4:=(blk_cell X4.out 4).trans (rfl:_=some (Value.int .i64 r.room))
 have k5:=(blk_cell X4.out 5).trans (rfl:_=some (Value.int .i64 r.stop))
 have k6:=(blk_cell X4.out 6).trans (rfl:_=some (Value.bool r.dead))
 have a0:=(blk_cell X5.out 0).trans (rfl:_=some (Value.int .i64 2))
 have a1:=(blk_cell X5.out 1).trans (rfl:_=some (Value.int .i64 i))
 have a2:=(blk_cell X5.out 2).trans (rfl:_=some (Value.slice B mb cb))
 have a3:=(blk_cell X5.out 3).trans (rfl:_=some (Value.int .i64 n))
 have a4:=(blk_cell X5.out 4).trans (rfl:_=some (Value.slice K mk ck))
 go_upto_region 20 with (first|(go_at_call 24;(with_reducible refine Calls.mono hDo.out ?_);rintro e w5 ⟨vv,rfl,his,hb⟩;obtain ⟨P0,P1,p0,p1,ev,hv⟩:=his;subst ev;have HV:=Aside0.mk hv;clear hv k0 k1 k2 k3 k4 k5 k6 a0 a1 a2 a3 a4 hDo;have x4:=blk_below X4.out hb;have x5:=blk_below X5.out hb;have x6:=blk_below X6.out hb;have at2:=AT.out.on hb;have hs2:=HS.out.trans (Step.of_below hb);clear X4 X5 X6 AT HS;have X4:=Aside0.mk x4;have X5:=Aside0.mk x5;have X6:=Aside0.mk x6;have AT:=Aside0.mk at2;have HS:=Aside0.mk hs2;clear x4 x5 x6 at2 hs2 hb))
 obtain ⟨r1,hr1⟩:∃ r1,r1=(r.act 2 i b).1:=⟨_,rfl⟩
 obtain ⟨er,her⟩:∃ er,er=(r.act 2 i b).2:=⟨_,rfl⟩
 rw [<-hr1] at HV
 rw [<-hr1,<-her]
 have R1:=Aside0.mk hr1
 clear hr1 her
 have hb:=below_alloc (Below.refl w5.heap.size w5) (.cells #[.slice P0 r1.b0.length p0,.int .i64 r1.s0,.slice P1 r1.b1.length p1,.int .i64 r1.s1,.int .i64 r1.room,.int .i64 r1.stop,.bool r1.dead] 43)
 have X9:=Aside0.mk (heap_alloc_new w5 (.cells #[.slice P0 r1.b0.length p0,.int .i64 r1.s0,.slice P1 r1.b1.length p1,.int .i64 r1.s1,.int .i64 r1.room,.int .i64 r1.stop,.bool r1.dead] 43))
 have hv6:=HV.out.step (Step.of_below hb)
 have HV6:=Aside0.mk hv6
 have lt6':=Aside0.mk (blk_lt X6.out)
 have x4:=blk_below X4.out hb
 have x5:=blk_below X5.out hb
 have x6:=blk_below X6.out hb
 have at2:=AT.out.on hb
 have hs2:=HS.out.trans (Step.of_below hb)
 clear X4 X5 X6 AT HS
 have X4:=Aside0.mk x4
 have X5:=Aside0.mk x5
 have X6:=Aside0.mk x6
 have AT:=Aside0.mk at2
 have HS:=Aside0.mk hs2
 clear x4 x5 x6 at2 hs2 hb
 clear hv6 HV
 obtain ⟨b9,hb9⟩:∃ b9,b9=w5.heap.size:=⟨_,rfl⟩
 generalize w5.alloc (.cells #[.slice P0 r1.b0.length p0,.int .i64 r1.s0,.slice P1 r1.b1.length p1,.int .i64 r1.s1,.int .i64 r1.room,.int .i64 r1.stop,.bool r1.dead] 43)=w6 at X4 X5 X6 X9 AT HS HV6 ⊢
 rw [<-hb9] at X9 ⊢
 clear hb9
 have k0:=(blk_cell X9.out 0).trans (rfl:_=some (Value.slice P0 r1.b0.length p0))
 have k1:=(blk_cell X9.out 1).trans (rfl:_=some (Value.int .i64 r1.s0))
 have k2:=(blk_cell X9.out 2).trans (rfl:_=some (Value.slice P1 r1.b1.length p1))
 have k3:=(blk_cell X9.out 3).trans (rfl:_=some (Value.int .i64 r1.s1))
 have k4:=(blk_cell X9.out 4).trans (rfl:_=some (Value.int .i64 r1.room))
 have k5:=(blk_cell X9.out 5).trans (rfl:_=some (Value.int .i64 r1.stop))
 have k6:=(blk_cell X9.out 6).trans (rfl:_=some (Value.bool r1.dead))
 have z0:=(blk_cell X6.out 0).trans (rfl:_=some (Value.slice none 0 0))
 have z1:=(blk_cell X6.out 1).trans (rfl:_=some (Value.int .i64 0))
 have z2:=(blk_cell X6.out 2).trans (rfl:_=some (Value.slice none 0 0))
 have z3:=(blk_cell X6.out 3).trans (rfl:_=some (Value.int .i64 0))
 have z4:=(blk_cell X6.out 4).trans (rfl:_=some (Value.int .i64 0))
 have z5:=(blk_cell X6.out 5).trans (rfl:_=some (Value.int .i64 0))
 have z6:=(blk_cell X6.out 6).trans (rfl:_=some (Value.bool false))
 have f0:=blk_frozen X6.out 0
 have f1:=blk_frozen X6.out 1
 have f2:=blk_frozen X6.out 2
 have f3:=blk_frozen X6.out 3
 have f4:=blk_frozen X6.out 4
 have f5:=blk_frozen X6.out 5
 have f6:=blk_frozen X6.out 6
 go_wp2_with (first|((with_reducible refine store_event (t:=43) (p:=6) rfl rfl rfl (w1:=(((((((w6.setCell ⟨W.heap.size+2,0,none⟩ (Value.slice P0 r1.b0.length p0)).setCell ⟨W.heap.size+2,1,none⟩ (Value.int .i64 r1.s0)).setCell ⟨W.heap.size+2,2,none⟩ (Value.slice P1 r1.b1.length p1)).setCell ⟨W.heap.size+2,3,none⟩ (Value.int .i64 r1.s1)).setCell ⟨W.heap.size+2,4,none⟩ (Value.int .i64 r1.room)).setCell ⟨W.heap.size+2,5,none⟩ (Value.int .i64 r1.stop)).setCell ⟨W.heap.size+2,6,none⟩ (Value.bool r1.dead))) ?hrun ?_);(case hrun=>first|(go_simp;done)|(go_simp;rfl));intro w7 hw7;have Y6:=Aside0.mk (show w7.heap[W.heap.size+2]? = some (.cells #[Value.slice P0 r1.b0.length p0,Value.int .i64 r1.s0,Value.slice P1 r1.b1.length p1,Value.int .i64 r1.s1,Value.int .i64 r1.room,Value.int .i64 r1.stop,Value.bool r1.dead] 43 (0,0)) by rw [hw7];exact(blk_put ((blk_put ((blk_put ((blk_put ((blk_put ((blk_put ((blk_put (X6.out) 0 (Value.slice P0 r1.b0.length p0) rfl)) 1 (Value.int .i64 r1.s0) rfl)) 2 (Value.slice P1 r1.b1.length p1) rfl)) 3 (Value.int .i64 r1.s1) rfl)) 4 (Value.int .i64 r1.room) rfl)) 5 (Value.int .i64 r1.stop) rfl)) 6 (Value.bool r1.dead) rfl));have SZ7:=Aside0.mk (show w7.heap.size=w6.heap.size by rw [hw7];simp only [size_set]);have BB7:=Aside0.mk (show ∀ (x:World),Below x.heap.size x w6->x.heap.size<=W.heap.size+2->Below x.heap.size x w7 from λx hx hx2=>by rw [hw7];exact(below_set ((below_set ((below_set ((below_set ((below_set ((below_set ((below_set (hx) hx2)) hx2)) hx2)) hx2)) hx2)) hx2)) hx2));have CH7:=Aside0.mk (show ∀ k,k≠W.heap.size+2->w7.heap[k]? = w6.heap[k]? from λk hk=>by rw [hw7];exact((Below.heap_setCell ((((((w6.setCell ⟨W.heap.size+2,0,none⟩ (Value.slice P0 r1.b0.length p0)).setCell ⟨W.heap.size+2,1,none⟩ (Value.int .i64 r1.s0)).setCell ⟨W.heap.size+2,2,none⟩ (Value.slice P1 r1.b1.length p1)).setCell ⟨W.heap.size+2,3,none⟩ (Value.int .i64 r1.s1)).setCell ⟨W.heap.size+2,4,none⟩ (Value.int .i64 r1.room)).setCell ⟨W.heap.size+2,5,none⟩ (Value.int .i64 r1.stop)) ⟨W.heap.size+2,6,none⟩ (Value.bool r1.dead) k hk).trans (((Below.heap_setCell (((((w6.setCell ⟨W.heap.size+2,0,none⟩ (Value.slice P0 r1.b0.length p0)).setCell ⟨W.heap.size+2,1,none⟩ (Value.int .i64 r1.s0)).setCell ⟨W.heap.size+2,2,none⟩ (Value.slice P1 r1.b1.length p1)).setCell ⟨W.heap.size+2,3,none⟩ (Value.int .i64 r1.s1)).setCell ⟨W.heap.size+2,4,none⟩ (Value.int .i64 r1.room)) ⟨W.heap.size+2,5,none⟩ (Value.int .i64 r1.stop) k hk).trans (((Below.heap_setCell ((((w6.setCell ⟨W.heap.size+2,0,none⟩ (Value.slice P0 r1.b0.length p0)).setCell ⟨W.heap.size+2,1,none⟩ (Value.int .i64 r1.s0)).setCell ⟨W.heap.size+2,2,none⟩ (Value.slice P1 r1.b1.length p1)).setCell ⟨W.heap.size+2,3,none⟩ (Value.int .i64 r1.s1)) ⟨W.heap.size+2,4,none⟩ (Value.int .i64 r1.room) k hk).trans (((Below.heap_setCell (((w6.setCell ⟨W.heap.size+2,0,none⟩ (Value.slice P0 r1.b0.length p0)).setCell ⟨W.heap.size+2,1,none⟩ (Value.int .i64 r1.s0)).setCell ⟨W.heap.size+2,2,none⟩ (Value.slice P1 r1.b1.length p1)) ⟨W.heap.size+2,3,none⟩ (Value.int .i64 r1.s1) k hk).trans (((Below.heap_setCell ((w6.setCell ⟨W.heap.size+2,0,none⟩ (Value.slice P0 r1.b0.length p0)).setCell ⟨W.heap.size+2,1,none⟩ (Value.int .i64 r1.s0)) ⟨W.heap.size+2,2,none⟩ (Value.slice P1 r1.b1.length p1) k hk).trans (((Below.heap_setCell (w6.setCell ⟨W.heap.size+2,0,none⟩ (Value.slice P0 r1.b0.length p0)) ⟨W.heap.size+2,1,none⟩ (Value.int .i64 r1.s0) k hk).trans (((Below.heap_setCell w6 ⟨W.heap.size+2,0,none⟩ (Value.slice P0 r1.b0.length p0) k hk).trans (rfl)))))))))))))));clear hw7;have rr0:=(blk_cell Y6.out 0).trans (rfl:_=some (Value.slice P0 r1.b0.length p0));have rr1:=(blk_cell Y6.out 1).trans (rfl:_=some (Value.int .i64 r1.s0));have rr2:=(blk_cell Y6.out 2).trans (rfl:_=some (Value.slice P1 r1.b1.length p1));have rr3:=(blk_cell Y6.out 3).trans (rfl:_=some (Value.int .i64 r1.s1));have rr4:=(blk_cell Y6.out 4).trans (rfl:_=some (Value.int .i64 r1.room));have rr5:=(blk_cell Y6.out 5).trans (rfl:_=some (Value.int .i64 r1.stop));have rr6:=(blk_cell Y6.out 6).trans (rfl:_=some (Value.bool r1.dead))))
 refine bodyPost_ret (v:=.tuple #[.agg #[Value.slice P0 r1.b0.length p0,Value.int .i64 r1.s0,Value.slice P1 r1.b1.length p1,Value.int .i64 r1.s1,Value.int .i64 r1.room,Value.int .i64 r1.stop,Value.bool r1.dead],.bool ((d.syn i).2 == er)]) ?hres rfl ?_
 case hres =>
  simp only [results,rr0,rr1,rr2,rr3,rr4,rr5,rr6]
  first|rfl|(simp [rr0,rr1,rr2,rr3,rr4,rr5,rr6];done)|(go_simp;done)|(go_simp;rfl)
 have er1:r1=r.doing 2 i b n keep:=by rw [R1.out];unfold Dk.doing;rw [if_pos (by omega)]
 have ch:=CH7.out
 have sz:=SZ7.out
 have he:=HE.out
 have hs6:=HS.out
 have l6:=lt6'.out
 obtain ⟨q0,q1,hraw⟩:=AT.out
 have nd:∀ k,D1 k->k≠W.heap.size+2:=λk hk e=>ND.out (e ▸ hk)
 refine ⟨_,_,rfl,D1,⟨q0,q1,hraw.move (BB7.out w0 hraw.below (by have:=H.out.below.size;omega)) (by omega) (λk hk=>ch k (nd k hk))⟩,⟨P0,P1,p0,p1,by rw [<-er1],by rw [<-er1];exact((HV6.out.move (λk hk _=>ch k (λe=>hk (by rw [he,e];exact .inr (.inr ⟨by omega,by omega⟩))))).mono (λk hk=>by rw [he];exact hk.imp id .inl))⟩,⟨by have:=hs6.size;omega,λk hk hd=>(ch k (by omega)).trans (hs6.block k hk hd),hs6.new⟩⟩
set_option maxHeartbeats 8000000 in
set_option maxRecDepth 100000 in
theorem lawDo0 (h:Raw w0 W g v0 v1 D d) (X:Nat->Prop) (hX:∀ k,X k->k<W.heap.size) (hr:RawV W (λk=>D k\/X k) A0 A1 c0 c1 r) (hg:d.Good) (hgr:r.Good) (i n:Int) (B K:Option Addr) (mb cb mk ck:Nat) (b keep:List Int) (hmb:mb=b.length) (hcb:mb<=cb) (hB:Kd.F U8 W (λk=>¬ (D k\/X k)) B mb b) (hmx:mb<=140737488355328) (hmk:mk=keep.length) (hK:Kd.F (Kd.int .i64) W (λk=>¬ (D k\/X k)) K mk keep) :
  Calls Try.prog 18 #[.pointer (some ⟨g,0,none⟩),.agg #[.slice A0 r.b0.length c0,.int .i64 r.s0,.slice A1 r.b1.length c1,.int .i64 r.s1,.int .i64 r.room,.int .i64 r.stop,.bool r.dead],.agg #[.int .i64 0,.int .i64 i,.slice B mb cb,.int .i64 n,.slice K mk ck]] W λe w'=>∃ v t,e = .returned (.tuple #[v,.bool t])/\∃ D',At w0 w' g D' (d.doing 0 i b n keep)/\Is w' (λk=>D' k\/X k) v (r.doing 0 i b n keep)/\Step W w' D D':=by
 have H:=Aside0.mk h
 have HR:=Aside0.mk hr
 have HXX:=Aside0.mk hX
 have HG:=Aside0.mk hg
 have HGR:=Aside0.mk hgr
 have HBB:=Aside0.mk hB
 have HKK:=Aside0.mk hK
 have HMB:=Aside0.mk hmb
 have HMK:=Aside0.mk hmk
 clear h hr hg hgr hB hK hmb hmk hX
 go_enter Try.func18,Try.ntmps18
 go_upto_region 4 with (fail)
 have hb:Below W.heap.size W (((W.alloc (.cells #[.slice A0 r.b0.length c0,.int .i64 r.s0,.slice A1 r.b1.length c1,.int .i64 r.s1,.int .i64 r.room,.int .i64 r.stop,.bool r.dead] 43)).alloc (.cells #[.int .i64 0,.int .i64 i,.slice B mb cb,.int .i64 n,.slice K mk ck] 49)).alloc (.cells #[.slice none 0 0,.int .i64 0,.slice none 0 0,.int .i64 0,.int .i64 0,.int .i64 0,.bool false] 43)):=below_alloc (below_alloc (below_alloc (Below.refl _ _) _) _) _
 have s1:(W.alloc (.cells #[.slice A0 r.b0.length c0,.int .i64 r.s0,.slice A1 r.b1.length c1,.int .i64 r.s1,.int .i64 r.room,.int .i64 r.stop,.bool r.dead] 43)).heap.size=W.heap.size+1:=by simp
 have s2:((W.alloc (.cells #[.slice A0 r.b0.length c0,.int .i64 r.s0,.slice A1 r.b1.length c1,.int .i64 r.s1,.int .i64 r.room,.int .i64 r.stop,.bool r.dead] 43)).alloc (.cells #[.int .i64 0,.int .i64 i,.slice B mb cb,.int .i64 n,.slice K mk ck] 49)).heap.size=W.heap.size+2:=by simp
 have x4:(((W.alloc (.cells #[.slice A0 r.b0.length c0,.int .i64 r.s0,.slice A1 r.b1.length c1,.int .i64 r.s1,.int .i64 r.room,.int .i64 r.stop,.bool r.dead] 43)).alloc (.cells #[.int .i64 0,.int .i64 i,.slice B mb cb,.int .i64 n,.slice K mk ck] 49)).alloc (.cells #[.slice none 0 0,.int .i64 0,.slice none 0 0,.int .i64 0,.int .i64 0,.int .i64 0,.bool false] 43)).heap[W.heap.size]? = some (.cells #[.slice A0 r.b0.length c0,.int .i64 r.s0,.slice A1 r.b1.length c1,.int .i64 r.s1,.int .i64 r.room,.int .i64 r.stop,.bool r.dead] 43 (0,0)):=blk_below (heap_alloc_new W _) (below_alloc (below_alloc (Below.refl _ _) _) _)
 have x5:(((W.alloc (.cells #[.slice A0 r.b0.length c0,.int .i64 r.s0,.slice A1 r.b1.length c1,.int .i64 r.s1,.int .i64 r.room,.int .i64 r.stop,.bool r.dead] 43)).alloc (.cells #[.int .i64 0,.int .i64 i,.slice B mb cb,.int .i64 n,.slice K mk ck] 49)).alloc (.cells #[.slice none 0 0,.int .i64 0,.slice none 0 0,.int .i64 0,.int .i64 0,.int .i64 0,.bool false] 43)).heap[W.heap.size+1]? = some (.cells #[.int .i64 0,.int .i64 i,.slice B mb cb,.int .i64 n,.slice K mk ck] 49 (0,0)):=by have h_:=blk_below (heap_alloc_new (W.alloc (.cells #[.slice A0 r.b0.length c0,.int .i64 r.s0,.slice A1 r.b1.length c1,.int .i64 r.s1,.int .i64 r.room,.int .i64 r.stop,.bool r.dead] 43)) (.cells #[.int .i64 0,.int .i64 i,.slice B mb cb,.int .i64 n,.slice K mk ck] 49)) (below_alloc (Below.refl _ _) (.cells #[.slice none 0 0,.int .i64 0,.slice none 0 0,.int .i64 0,.int .i64 0,.int .i64 0,.bool false] 43));rwa [s1] at h_
 have x6:(((W.alloc (.cells #[.slice A0 r.b0.length c0,.int .i64 r.s0,.slice A1 r.b1.length c1,.int .i64 r.s1,.int .i64 r.room,.int .i64 r.stop,.bool r.dead] 43)).alloc (.cells #[.int .i64 0,.int .i64 i,.slice B mb cb,.int .i64 n,.slice K mk ck] 49)).alloc (.cells #[.slice none 0 0,.int .i64 0,.slice none 0 0,.int .i64 0,.int .i64 0,.int .i64 0,.bool false] 43)).heap[W.heap.size+2]? = some (.cells #[.slice none 0 0,.int .i64 0,.slice none 0 0,.int .i64 0,.int .i64 0,.int .i64 0,.bool false] 43 (0,0)):=by have h_:=heap_alloc_new ((W.alloc (.cells #[.slice A0 r.b0.length c0,.int .i64 r.s0,.slice A1 r.b1.length c1,.int .i64 r.s1,.int .i64 r.room,.int .i64 r.stop,.bool r.dead] 43)).alloc (.cells #[.int .i64 0,.int .i64 i,.slice B mb cb,.int .i64 n,.slice K mk ck] 49)) (.cells #[.slice none 0 0,.int .i64 0,.slice none 0 0,.int .i64 0,.int .i64 0,.int .i64 0,.bool false] 43);rwa [s2] at h_
 have HB:=Aside0.mk hb
 have X4:=Aside0.mk x4
 have X5:=Aside0.mk x5
 have X6:=Aside0.mk x6
 clear hb x4 x5 x6 s1 s2
 generalize (((W.alloc (.cells #[.slice A0 r.b0.length c0,.int .i64 r.s0,.slice A1 r.b1.length c1,.int .i64 r.s1,.int .i64 r.room,.int .i64 r.stop,.bool r.dead] 43)).alloc (.cells #[.int .i64 0,.int .i64 i,.slice B mb cb,.int .i64 n,.slice K mk ck] 49)).alloc (.cells #[.slice none 0 0,.int .i64 0,.slice none 0 0,.int .i64 0,.int .i64 0,.int .i64 0,.bool false] 43))=w1 at HB X4 X5 X6 ⊢
 rw [show W.heap.size+1+1=W.heap.size+2 from rfl]
 have a0:=(blk_cell X5.out 0).trans (rfl:_=some (Value.int .i64 0))
 have a1:=(blk_cell X5.out 1).trans (rfl:_=some (Value.int .i64 i))
 have a2:=(blk_cell X5.out 2).trans (rfl:_=some (Value.slice B mb cb))
 have a3:=(blk_cell X5.out 3).trans (rfl:_=some (Value.int .i64 n))
 have a4:=(blk_cell X5.out 4).trans (rfl:_=some (Value.slice K mk ck))
 go_upto_region 5 with (fail)
 clear a0 a1 a2 a3 a4
 have hC:=Kd.C_below (Kd.F_now HBB.out) HB.out
 have HC:=Aside0.mk hC
 clear hC
 refine region_cards (F:=?F5) 7 (λw'=>Aside0 (Below w1.heap.size w1 w'))
  [λv _ _ _=>v = .pointer (some ⟨g,0,none⟩),
  λv _ _ _=>v = .pointer (some ⟨W.heap.size+1,1,none⟩),
  λv _ _ _=>v = .int .i64 i,
  λv w' lo hi=>∃ b,v = .slice (some ⟨b,0,none⟩) 0 0/\w1.heap.size<=b/\w'.heap[b]? = some (.cells #[] 5 (0,0)),
  λv _ _ _=>v = .pointer (some ⟨W.heap.size+1,2,none⟩),
  λv _ _ _=>v = .slice B mb cb,
  λv w' _ _=>U8.R 5 w' w1.heap.size (λ_=>True) v b]
  (by kernel_rfl) (by kernel_rfl) ?hF5 ?hS05 ?hS5 ?hstay5 ?hsteps5 ?hend5
 case hF5 =>
  intro vs
  simp only [List.take_succ_cons,List.take_zero,fill,if_true,if_false,Act.put,List.setIfInBounds_toArray,List.set_cons_zero,List.set_cons_succ,Nat.reduceAdd,List.contains_cons,List.contains_nil,Nat.reduceBEq,Bool.or_false,Bool.false_or,Bool.not_true,Bool.not_false,Bool.false_eq_true,Bool.or_self,Bool.true_or]
  rfl
 case hS05=>exact ⟨below_drew (Below.refl _ _)⟩
 case hS5=>exact λw1 w2 hb hs=>⟨below_step hs.out hb⟩
 case hstay5=>exact ⟨λ_ _ _ _ _ _ h=>h,λ_ _ _ _ _ _ h=>h,λ_ _ _ _ _ _ h=>h,λ_ _ _ _ _ hb h=>by obtain ⟨k,q1,q2,q3⟩:=h;exact ⟨k,q1,q2,blk_below q3 hb⟩,λ_ _ _ _ _ _ h=>h,λ_ _ _ _ _ _ h=>h,λ_ _ _ _ _ hb h=>Kd.R_below h hb,trivial⟩
 case hsteps5 =>
  refine ⟨?s5_0,?s5_1,?s5_2,?s5_3,?s5_4,?s5_5,?s5_6,trivial⟩
  case s5_0 =>
   intro _ vs lo hi W_ hs hp
   exact does_val (by first|(go_simp;done)|(go_simp;rfl)) ⟨rfl,Below.refl _ _⟩
  case s5_1 =>
   intro _ vs lo hi W_ hs hp
   exact does_val (by first|(go_simp;done)|(go_simp;rfl)) ⟨rfl,Below.refl _ _⟩
  case s5_2 =>
   intro _ vs lo hi W_ hs hp
   have e1:vs 1 = .pointer (some ⟨W.heap.size+1,1,none⟩):=hp 1 (by kernel_rfl) rfl
   have hc:W_.cell? ⟨W.heap.size+1,1,none⟩=some (.int .i64 i):=(blk_cell (blk_below X5.out hs.out) 1).trans rfl
   exact does_val (by first|(go_simp;done)|(go_simp;rfl)) ⟨rfl,Below.refl _ _⟩
  case s5_3 =>
   intro _ vs lo hi W_ hs hp
   exact does_val (v:=.slice (some ⟨W_.heap.size,0,none⟩) 0 0) (w1:=W_.alloc (.cells #[] 5)) (by first|(go_simp;done)|(go_simp;rfl)) ⟨⟨W_.heap.size,rfl,below_size hs.out,heap_alloc_new W_ _⟩,below_alloc (Below.refl _ _) _⟩
  case s5_4 =>
   intro _ vs lo hi W_ hs hp
   exact does_val (by first|(go_simp;done)|(go_simp;rfl)) ⟨rfl,Below.refl _ _⟩
  case s5_5 =>
   intro _ vs lo hi W_ hs hp
   have e4:vs 4 = .pointer (some ⟨W.heap.size+1,2,none⟩):=hp 4 (by kernel_rfl) rfl
   have hc:W_.cell? ⟨W.heap.size+1,2,none⟩=some (.slice B mb cb):=(blk_cell (blk_below X5.out hs.out) 2).trans rfl
   exact does_val (by first|(go_simp;done)|(go_simp;rfl)) ⟨rfl,Below.refl _ _⟩
  case s5_6 =>
   intro _ vs lo hi W_ hs hp
   have e5:vs 5 = .slice B mb cb:=hp 5 (by kernel_rfl) rfl
   obtain ⟨k3,e3,hk3,hx3⟩:∃ k,vs 3 = .slice (some ⟨k,0,none⟩) 0 0/\w1.heap.size<=k/\W_.heap[k]? = some (.cells #[] 5 (0,0)):=hp 3 (by kernel_rfl) rfl
   obtain ⟨vv1,ww1,hrr,hR,hbb⟩:=fresh_append (m:=mb) (c:=cb) (base:=w1.heap.size) hk3 hx3 (below_size hs.out) (by have a_:=Kd.C_below HC.out hs.out;rw [HMB.out] at a_ ⊢;exact a_) hmx
   exact does_append (s:=.tmp 19) (x:=.tmp 21) rfl (by rw [<-e3];first|rfl|(go_simp;done)) (by rw [<-e5];first|rfl|(go_simp;done)) hrr ⟨hR,hbb⟩
 case hend5 =>
 intro vs lo_ hi_ Wc hs hp _
 simp only [List.drop_succ_cons,List.drop_zero]
 have e0:vs 0 = .pointer (some ⟨g,0,none⟩):=hp 0 (by decide)
 have e2:vs 2 = .int .i64 i:=hp 2 (by decide)
 have e6:U8.R 5 Wc w1.heap.size (λ_=>True) (vs 6) b:=hp 6 (by decide)
 obtain ⟨Bn,cn,en⟩:=Kd.R_slice e6
 rw [en] at e6
 rw [e0,e2,en]
 have hx_:=HB.out.size
 have x4:=blk_below X4.out hs.out
 have x5:=blk_below X5.out hs.out
 have x6:=blk_below X6.out hs.out
 have hb3:=below_step HB.out hs.out
 clear X4 X5 X6 HB
 have X4:=Aside0.mk x4
 have X5:=Aside0.mk x5
 have X6:=Aside0.mk x6
 have HB:=Aside0.mk hb3
 clear x4 x5 x6 hb3
 have hff:=F_fresh (D:=D) (W:=w1) (v:=.bool true) e6 (λk hk=>Nat.lt_of_lt_of_le (H.out.lt k hk) hx_)
 have hap:=append_calls (H.out.on HB.out) i Bn b.length cn b rfl hff.2.2 (by have:=HMB.out;omega) HG.out
 have HAP:=Aside0.mk hap
 clear hap hff e0 e2 e6 en hs hp hx_ HC
 have a0:=(blk_cell X5.out 0).trans (rfl:_=some (Value.int .i64 0))
 have a1:=(blk_cell X5.out 1).trans (rfl:_=some (Value.int .i64 i))
 have a2:=(blk_cell X5.out 2).trans (rfl:_=some (Value.slice B mb cb))
 have a3:=(blk_cell X5.out 3).trans (rfl:_=some (Value.int .i64 n))
 have a4:=(blk_cell X5.out 4).trans (rfl:_=some (Value.slice K mk ck))
 go_upto_region 19 with (first|(go_at_call 20;(with_reducible refine Calls.mono HAP.out ?_);rintro e wd ⟨rfl,D1,hat,hst⟩;have AT:=Aside0.mk hat;have HS:=Aside0.mk ((Step.of_below HB.out).trans hst);have nD:∀ k,D k->k<W.heap.size:=H.out.lt;have x4:=(hst.blk X4.out (λq=>by have:=nD _ q;omega)).1;have x5:=(hst.blk X5.out (λq=>by have:=nD _ q;omega)).1;have x6:=(hst.blk X6.out (λq=>by have:=nD _ q;omega)).1;have ND:=Aside0.mk (hst.blk X6.out (λq=>by have:=nD _ q;omega)).2;clear X4 X5 X6 a0 a1 a2 a3 a4 nD hat hst;have X4:=Aside0.mk x4;have X5:=Aside0.mk x5;have X6:=Aside0.mk x6;clear x4 x5 x6 HAP))
 have lt6:=Aside0.mk (blk_lt X6.out)
 obtain ⟨E,hE⟩:∃ E:Nat->Prop,E=λk=>D1 k\/X k\/(W.heap.size<=k/\k<W.heap.size+3):=⟨_,rfl⟩
 have vE:RawV wd E A0 A1 c0 c1 r:=by rw [hE];exact HR.out.wide HS.out
 have bE:Kd.F U8 wd (λk=>¬ E k) B mb b:=by rw [hE];exact foot_wide HBB.out HS.out
 have ltE:∀ k,E k->k<wd.heap.size:=λk hk=>by
  rw [hE] at hk
  rcases hk with h1|h1|h1
  ·exact AT.out.lt k h1
  ·have:=HXX.out k h1;have:=lt6.out;omega
  ·have:=lt6.out;omega
 have hDo:=Aside0.mk (refDo_calls vE ltE HGR.out 0 (by omega) i B mb cb b HMB.out hcb bE)
 have HE:=Aside0.mk hE
 clear hE vE bE ltE
 have k0:=(blk_cell X4.out 0).trans (rfl:_=some (Value.slice A0 r.b0.length c0))
 have k1:=(blk_cell X4.out 1).trans (rfl:_=some (Value.int .i64 r.s0))
 have k2:=(blk_cell X4.out 2).trans (rfl:_=some (Value.slice A1 r.b1.length c1))
 have k3:=(blk_cell X4.out 3).trans (rfl:_=some (Value.int .i64 r.s1))
 have k4:=(blk_cell X4.out 4).trans (rfl:_=some (Value.int .i64 r.room))
 have k5:=(blk_cell X4.out 5).trans (rfl:_=some (Value.int .i64 r.stop))
 have k6:=(blk_cell X4.out 6).trans (rfl:_=some (Value.bool r.dead))
 have a0:=(blk_cell X5.out 0).trans (rfl:_=some (Value.int .i64 0))
 have a1:=(blk_cell X5.out 1).trans (rfl:_=some (Value.int .i64 i))
 have a2:=(blk_cell X5.out 2).trans (rfl:_=some (Value.slice B mb cb))
 have a3:=(blk_cell X5.out 3).trans (rfl:_=some (Value.int .i64 n))
 have a4:=(blk_cell X5.out 4).trans (rfl:_=some (Value.slice K mk ck))
 go_upto_region 20 with (first|(go_at_call 24;(with_reducible refine Calls.mono hDo.out ?_);rintro e w5 ⟨vv,rfl,his,hb⟩;obtain ⟨P0,P1,p0,p1,ev,hv⟩:=his;subst ev;have HV:=Aside0.mk hv;clear hv k0 k1 k2 k3 k4 k5 k6 a0 a1 a2 a3 a4 hDo;have x4:=blk_below X4.out hb;have x5:=blk_below X5.out hb;have x6:=blk_below X6.out hb;have at2:=AT.out.on hb;have hs2:=HS.out.trans (Step.of_below hb);clear X4 X5 X6 AT HS;have X4:=Aside0.mk x4;have X5:=Aside0.mk x5;have X6:=Aside0.mk x6;have AT:=Aside0.mk at2;have HS:=Aside0.mk hs2;clear x4 x5 x6 at2 hs2 hb))
 obtain ⟨r1,hr1⟩:∃ r1,r1=(r.act 0 i b).1:=⟨_,rfl⟩
 obtain ⟨er,her⟩:∃ er,er=(r.act 0 i b).2:=⟨_,rfl⟩
 rw [<-hr1] at HV
 rw [<-hr1,<-her]
 have R1:=Aside0.mk hr1
 clear hr1 her
 have hb:=below_alloc (Below.refl w5.heap.size w5) (.cells #[.slice P0 r1.b0.length p0,.int .i64 r1.s0,.slice P1 r1.b1.length p1,.int .i64 r1.s1,.int .i64 r1.room,.int .i64 r1.stop,.bool r1.dead] 43)
 have X9:=Aside0.mk (heap_alloc_new w5 (.cells #[.slice P0 r1.b0.length p0,.int .i64 r1.s0,.slice P1 r1.b1.length p1,.int .i64 r1.s1,.int .i64 r1.room,.int .i64 r1.stop,.bool r1.dead] 43))
 have hv6:=HV.out.step (Step.of_below hb)
 have HV6:=Aside0.mk hv6
 have lt6':=Aside0.mk (blk_lt X6.out)
 have x4:=blk_below X4.out hb
 have x5:=blk_below X5.out hb
 have x6:=blk_below X6.out hb
 have at2:=AT.out.on hb
 have hs2:=HS.out.trans (Step.of_below hb)
 clear X4 X5 X6 AT HS
 have X4:=Aside0.mk x4
 have X5:=Aside0.mk x5
 have X6:=Aside0.mk x6
 have AT:=Aside0.mk at2
 have HS:=Aside0.mk hs2
 clear x4 x5 x6 at2 hs2 hb
 clear hv6 HV
 obtain ⟨b9,hb9⟩:∃ b9,b9=w5.heap.size:=⟨_,rfl⟩
 generalize w5.alloc (.cells #[.slice P0 r1.b0.length p0,.int .i64 r1.s0,.slice P1 r1.b1.length p1,.int .i64 r1.s1,.int .i64 r1.room,.int .i64 r1.stop,.bool r1.dead] 43)=w6 at X4 X5 X6 X9 AT HS HV6 ⊢
 rw [<-hb9] at X9 ⊢
 clear hb9
 have k0:=(blk_cell X9.out 0).trans (rfl:_=some (Value.slice P0 r1.b0.length p0))
 have k1:=(blk_cell X9.out 1).trans (rfl:_=some (Value.int .i64 r1.s0))
 have k2:=(blk_cell X9.out 2).trans (rfl:_=some (Value.slice P1 r1.b1.length p1))
 have k3:=(blk_cell X9.out 3).trans (rfl:_=some (Value.int .i64 r1.s1))
 have k4:=(blk_cell X9.out 4).trans (rfl:_=some (Value.int .i64 r1.room))
 have k5:=(blk_cell X9.out 5).trans (rfl:_=some (Value.int .i64 r1.stop))
 have k6:=(blk_cell X9.out 6).trans (rfl:_=some (Value.bool r1.dead))
 have z0:=(blk_cell X6.out 0).trans (rfl:_=some (Value.slice none 0 0))
 have z1:=(blk_cell X6.out 1).trans (rfl:_=some (Value.int .i64 0))
 have z2:=(blk_cell X6.out 2).trans (rfl:_=some (Value.slice none 0 0))
 have z3:=(blk_cell X6.out 3).trans (rfl:_=some (Value.int .i64 0))
 have z4:=(blk_cell X6.out 4).trans (rfl:_=some (Value.int .i64 0))
 have z5:=(blk_cell X6.out 5).trans (rfl:_=some (Value.int .i64 0))
 have z6:=(blk_cell X6.out 6).trans (rfl:_=some (Value.bool false))
 have f0:=blk_frozen X6.out 0
 have f1:=blk_frozen X6.out 1
 have f2:=blk_frozen X6.out 2
 have f3:=blk_frozen X6.out 3
 have f4:=blk_frozen X6.out 4
 have f5:=blk_frozen X6.out 5
 have f6:=blk_frozen X6.out 6
 go_wp2_with (first|((with_reducible refine store_event (t:=43) (p:=6) rfl rfl rfl (w1:=(((((((w6.setCell ⟨W.heap.size+2,0,none⟩ (Value.slice P0 r1.b0.length p0)).setCell ⟨W.heap.size+2,1,none⟩ (Value.int .i64 r1.s0)).setCell ⟨W.heap.size+2,2,none⟩ (Value.slice P1 r1.b1.length p1)).setCell ⟨W.heap.size+2,3,none⟩ (Value.int .i64 r1.s1)).setCell ⟨W.heap.size+2,4,none⟩ (Value.int .i64 r1.room)).setCell ⟨W.heap.size+2,5,none⟩ (Value.int .i64 r1.stop)).setCell ⟨W.heap.size+2,6,none⟩ (Value.bool r1.dead))) ?hrun ?_);(case hrun=>first|(go_simp;done)|(go_simp;rfl));intro w7 hw7;have Y6:=Aside0.mk (show w7.heap[W.heap.size+2]? = some (.cells #[Value.slice P0 r1.b0.length p0,Value.int .i64 r1.s0,Value.slice P1 r1.b1.length p1,Value.int .i64 r1.s1,Value.int .i64 r1.room,Value.int .i64 r1.stop,Value.bool r1.dead] 43 (0,0)) by rw [hw7];exact(blk_put ((blk_put ((blk_put ((blk_put ((blk_put ((blk_put ((blk_put (X6.out) 0 (Value.slice P0 r1.b0.length p0) rfl)) 1 (Value.int .i64 r1.s0) rfl)) 2 (Value.slice P1 r1.b1.length p1) rfl)) 3 (Value.int .i64 r1.s1) rfl)) 4 (Value.int .i64 r1.room) rfl)) 5 (Value.int .i64 r1.stop) rfl)) 6 (Value.bool r1.dead) rfl));have SZ7:=Aside0.mk (show w7.heap.size=w6.heap.size by rw [hw7];simp only [size_set]);have BB7:=Aside0.mk (show ∀ (x:World),Below x.heap.size x w6->x.heap.size<=W.heap.size+2->Below x.heap.size x w7 from λx hx hx2=>by rw [hw7];exact(below_set ((below_set ((below_set ((below_set ((below_set ((below_set ((below_set (hx) hx2)) hx2)) hx2)) hx2)) hx2)) hx2)) hx2));have CH7:=Aside0.mk (show ∀ k,k≠W.heap.size+2->w7.heap[k]? = w6.heap[k]? from λk hk=>by rw [hw7];exact((Below.heap_setCell ((((((w6.setCell ⟨W.heap.size+2,0,none⟩ (Value.slice P0 r1.b0.length p0)).setCell ⟨W.heap.size+2,1,none⟩ (Value.int .i64 r1.s0)).setCell ⟨W.heap.size+2,2,none⟩ (Value.slice P1 r1.b1.length p1)).setCell ⟨W.heap.size+2,3,none⟩ (Value.int .i64 r1.s1)).setCell ⟨W.heap.size+2,4,none⟩ (Value.int .i64 r1.room)).setCell ⟨W.heap.size+2,5,none⟩ (Value.int .i64 r1.stop)) ⟨W.heap.size+2,6,none⟩ (Value.bool r1.dead) k hk).trans (((Below.heap_setCell (((((w6.setCell ⟨W.heap.size+2,0,none⟩ (Value.slice P0 r1.b0.length p0)).setCell ⟨W.heap.size+2,1,none⟩ (Value.int .i64 r1.s0)).setCell ⟨W.heap.size+2,2,none⟩ (Value.slice P1 r1.b1.length p1)).setCell ⟨W.heap.size+2,3,none⟩ (Value.int .i64 r1.s1)).setCell ⟨W.heap.size+2,4,none⟩ (Value.int .i64 r1.room)) ⟨W.heap.size+2,5,none⟩ (Value.int .i64 r1.stop) k hk).trans (((Below.heap_setCell ((((w6.setCell ⟨W.heap.size+2,0,none⟩ (Value.slice P0 r1.b0.length p0)).setCell ⟨W.heap.size+2,1,none⟩ (Value.int .i64 r1.s0)).setCell ⟨W.heap.size+2,2,none⟩ (Value.slice P1 r1.b1.length p1)).setCell ⟨W.heap.size+2,3,none⟩ (Value.int .i64 r1.s1)) ⟨W.heap.size+2,4,none⟩ (Value.int .i64 r1.room) k hk).trans (((Below.heap_setCell (((w6.setCell ⟨W.heap.size+2,0,none⟩ (Value.slice P0 r1.b0.length p0)).setCell ⟨W.heap.size+2,1,none⟩ (Value.int .i64 r1.s0)).setCell ⟨W.heap.size+2,2,none⟩ (Value.slice P1 r1.b1.length p1)) ⟨W.heap.size+2,3,none⟩ (Value.int .i64 r1.s1) k hk).trans (((Below.heap_setCell ((w6.setCell ⟨W.heap.size+2,0,none⟩ (Value.slice P0 r1.b0.length p0)).setCell ⟨W.heap.size+2,1,none⟩ (Value.int .i64 r1.s0)) ⟨W.heap.size+2,2,none⟩ (Value.slice P1 r1.b1.length p1) k hk).trans (((Below.heap_setCell (w6.setCell ⟨W.heap.size+2,0,none⟩ (Value.slice P0 r1.b0.length p0)) ⟨W.heap.size+2,1,none⟩ (Value.int .i64 r1.s0) k hk).trans (((Below.heap_setCell w6 ⟨W.heap.size+2,0,none⟩ (Value.slice P0 r1.b0.length p0) k hk).trans (rfl)))))))))))))));clear hw7;have rr0:=(blk_cell Y6.out 0).trans (rfl:_=some (Value.slice P0 r1.b0.length p0));have rr1:=(blk_cell Y6.out 1).trans (rfl:_=some (Value.int .i64 r1.s0));have rr2:=(blk_cell Y6.out 2).trans (rfl:_=some (Value.slice P1 r1.b1.length p1));have rr3:=(blk_cell Y6.out 3).trans (rfl:_=some (Value.int .i64 r1.s1));have rr4:=(blk_cell Y6.out 4).trans (rfl:_=some (Value.int .i64 r1.room));have rr5:=(blk_cell Y6.out 5).trans (rfl:_=some (Value.int .i64 r1.stop));have rr6:=(blk_cell Y6.out 6).trans (rfl:_=some (Value.bool r1.dead))))
 refine bodyPost_ret (v:=.tuple #[.agg #[Value.slice P0 r1.b0.length p0,Value.int .i64 r1.s0,Value.slice P1 r1.b1.length p1,Value.int .i64 r1.s1,Value.int .i64 r1.room,Value.int .i64 r1.stop,Value.bool r1.dead],.bool ((d.app i b).2 == er)]) ?hres rfl ?_
 case hres =>
  simp only [results,rr0,rr1,rr2,rr3,rr4,rr5,rr6]
  first|rfl|(simp [rr0,rr1,rr2,rr3,rr4,rr5,rr6];done)|(go_simp;done)|(go_simp;rfl)
 have er1:r1=r.doing 0 i b n keep:=by rw [R1.out];unfold Dk.doing;rw [if_pos (by omega)]
 have ch:=CH7.out
 have sz:=SZ7.out
 have he:=HE.out
 have hs6:=HS.out
 have l6:=lt6'.out
 obtain ⟨q0,q1,hraw⟩:=AT.out
 have nd:∀ k,D1 k->k≠W.heap.size+2:=λk hk e=>ND.out (e ▸ hk)
 refine ⟨_,_,rfl,D1,⟨q0,q1,hraw.move (BB7.out w0 hraw.below (by have:=H.out.below.size;omega)) (by omega) (λk hk=>ch k (nd k hk))⟩,⟨P0,P1,p0,p1,by rw [<-er1],by rw [<-er1];exact((HV6.out.move (λk hk _=>ch k (λe=>hk (by rw [he,e];exact .inr (.inr ⟨by omega,by omega⟩))))).mono (λk hk=>by rw [he];exact hk.imp id .inl))⟩,⟨by have:=hs6.size;omega,λk hk hd=>(ch k (by omega)).trans (hs6.block k hk hd),hs6.new⟩⟩
set_option maxHeartbeats 8000000 in
set_option maxRecDepth 100000 in
theorem lawDo1 (h:Raw w0 W g v0 v1 D d) (X:Nat->Prop) (hX:∀ k,X k->k<W.heap.size) (hr:RawV W (λk=>D k\/X k) A0 A1 c0 c1 r) (hg:d.Good) (hgr:r.Good) (i n:Int) (B K:Option Addr) (mb cb mk ck:Nat) (b keep:List Int) (hmb:mb=b.length) (hcb:mb<=cb) (hB:Kd.F U8 W (λk=>¬ (D k\/X k)) B mb b) (hmx:mb<=140737488355328) (hmk:mk=keep.length) (hK:Kd.F (Kd.int .i64) W (λk=>¬ (D k\/X k)) K mk keep) :
  Calls Try.prog 18 #[.pointer (some ⟨g,0,none⟩),.agg #[.slice A0 r.b0.length c0,.int .i64 r.s0,.slice A1 r.b1.length c1,.int .i64 r.s1,.int .i64 r.room,.int .i64 r.stop,.bool r.dead],.agg #[.int .i64 1,.int .i64 i,.slice B mb cb,.int .i64 n,.slice K mk ck]] W λe w'=>∃ v t,e = .returned (.tuple #[v,.bool t])/\∃ D',At w0 w' g D' (d.doing 1 i b n keep)/\Is w' (λk=>D' k\/X k) v (r.doing 1 i b n keep)/\Step W w' D D':=by
 have H:=Aside0.mk h
 have HR:=Aside0.mk hr
 have HXX:=Aside0.mk hX
 have HG:=Aside0.mk hg
 have HGR:=Aside0.mk hgr
 have HBB:=Aside0.mk hB
 have HKK:=Aside0.mk hK
 have HMB:=Aside0.mk hmb
 have HMK:=Aside0.mk hmk
 clear h hr hg hgr hB hK hmb hmk hX
 go_enter Try.func18,Try.ntmps18
 go_upto_region 4 with (fail)
 have hb:Below W.heap.size W (((W.alloc (.cells #[.slice A0 r.b0.length c0,.int .i64 r.s0,.slice A1 r.b1.length c1,.int .i64 r.s1,.int .i64 r.room,.int .i64 r.stop,.bool r.dead] 43)).alloc (.cells #[.int .i64 1,.int .i64 i,.slice B mb cb,.int .i64 n,.slice K mk ck] 49)).alloc (.cells #[.slice none 0 0,.int .i64 0,.slice none 0 0,.int .i64 0,.int .i64 0,.int .i64 0,.bool false] 43)):=below_alloc (below_alloc (below_alloc (Below.refl _ _) _) _) _
 have s1:(W.alloc (.cells #[.slice A0 r.b0.length c0,.int .i64 r.s0,.slice A1 r.b1.length c1,.int .i64 r.s1,.int .i64 r.room,.int .i64 r.stop,.bool r.dead] 43)).heap.size=W.heap.size+1:=by simp
 have s2:((W.alloc (.cells #[.slice A0 r.b0.length c0,.int .i64 r.s0,.slice A1 r.b1.length c1,.int .i64 r.s1,.int .i64 r.room,.int .i64 r.stop,.bool r.dead] 43)).alloc (.cells #[.int .i64 1,.int .i64 i,.slice B mb cb,.int .i64 n,.slice K mk ck] 49)).heap.size=W.heap.size+2:=by simp
 have x4:(((W.alloc (.cells #[.slice A0 r.b0.length c0,.int .i64 r.s0,.slice A1 r.b1.length c1,.int .i64 r.s1,.int .i64 r.room,.int .i64 r.stop,.bool r.dead] 43)).alloc (.cells #[.int .i64 1,.int .i64 i,.slice B mb cb,.int .i64 n,.slice K mk ck] 49)).alloc (.cells #[.slice none 0 0,.int .i64 0,.slice none 0 0,.int .i64 0,.int .i64 0,.int .i64 0,.bool false] 43)).heap[W.heap.size]? = some (.cells #[.slice A0 r.b0.length c0,.int .i64 r.s0,.slice A1 r.b1.length c1,.int .i64 r.s1,.int .i64 r.room,.int .i64 r.stop,.bool r.dead] 43 (0,0)):=blk_below (heap_alloc_new W _) (below_alloc (below_alloc (Below.refl _ _) _) _)
 have x5:(((W.alloc (.cells #[.slice A0 r.b0.length c0,.int .i64 r.s0,.slice A1 r.b1.length c1,.int .i64 r.s1,.int .i64 r.room,.int .i64 r.stop,.bool r.dead] 43)).alloc (.cells #[.int .i64 1,.int .i64 i,.slice B mb cb,.int .i64 n,.slice K mk ck] 49)).alloc (.cells #[.slice none 0 0,.int .i64 0,.slice none 0 0,.int .i64 0,.int .i64 0,.int .i64 0,.bool false] 43)).heap[W.heap.size+1]? = some (.cells #[.int .i64 1,.int .i64 i,.slice B mb cb,.int .i64 n,.slice K mk ck] 49 (0,0)):=by have h_:=blk_below (heap_alloc_new (W.alloc (.cells #[.slice A0 r.b0.length c0,.int .i64 r.s0,.slice A1 r.b1.length c1,.int .i64 r.s1,.int .i64 r.room,.int .i64 r.stop,.bool r.dead] 43)) (.cells #[.int .i64 1,.int .i64 i,.slice B mb cb,.int .i64 n,.slice K mk ck] 49)) (below_alloc (Below.refl _ _) (.cells #[.slice none 0 0,.int .i64 0,.slice none 0 0,.int .i64 0,.int .i64 0,.int .i64 0,.bool false] 43));rwa [s1] at h_
 have x6:(((W.alloc (.cells #[.slice A0 r.b0.length c0,.int .i64 r.s0,.slice A1 r.b1.length c1,.int .i64 r.s1,.int .i64 r.room,.int .i64 r.stop,.bool r.dead] 43)).alloc (.cells #[.int .i64 1,.int .i64 i,.slice B mb cb,.int .i64 n,.slice K mk ck] 49)).alloc (.cells #[.slice none 0 0,.int .i64 0,.slice none 0 0,.int .i64 0,.int .i64 0,.int .i64 0,.bool false] 43)).heap[W.heap.size+2]? = some (.cells #[.slice none 0 0,.int .i64 0,.slice none 0 0,.int .i64 0,.int .i64 0,.int .i64 0,.bool false] 43 (0,0)):=by have h_:=heap_alloc_new ((W.alloc (.cells #[.slice A0 r.b0.length c0,.int .i64 r.s0,.slice A1 r.b1.length c1,.int .i64 r.s1,.int .i64 r.room,.int .i64 r.stop,.bool r.dead] 43)).alloc (.cells #[.int .i64 1,.int .i64 i,.slice B mb cb,.int .i64 n,.slice K mk ck] 49)) (.cells #[.slice none 0 0,.int .i64 0,.slice none 0 0,.int .i64 0,.int .i64 0,.int .i64 0,.bool false] 43);rwa [s2] at h_
 have HB:=Aside0.mk hb
 have X4:=Aside0.mk x4
 have X5:=Aside0.mk x5
 have X6:=Aside0.mk x6
 clear hb x4 x5 x6 s1 s2
 generalize (((W.alloc (.cells #[.slice A0 r.b0.length c0,.int .i64 r.s0,.slice A1 r.b1.length c1,.int .i64 r.s1,.int .i64 r.room,.int .i64 r.stop,.bool r.dead] 43)).alloc (.cells #[.int .i64 1,.int .i64 i,.slice B mb cb,.int .i64 n,.slice K mk ck] 49)).alloc (.cells #[.slice none 0 0,.int .i64 0,.slice none 0 0,.int .i64 0,.int .i64 0,.int .i64 0,.bool false] 43))=w1 at HB X4 X5 X6 ⊢
 rw [show W.heap.size+1+1=W.heap.size+2 from rfl]
 have a0:=(blk_cell X5.out 0).trans (rfl:_=some (Value.int .i64 1))
 have a1:=(blk_cell X5.out 1).trans (rfl:_=some (Value.int .i64 i))
 have a2:=(blk_cell X5.out 2).trans (rfl:_=some (Value.slice B mb cb))
 have a3:=(blk_cell X5.out 3).trans (rfl:_=some (Value.int .i64 n))
 have a4:=(blk_cell X5.out 4).trans (rfl:_=some (Value.slice K mk ck))
 have hcl:=clear_calls (H.out.on HB.out) i
 have HCL:=Aside0.mk hcl
 clear hcl
 go_upto_region 19 with (first|(go_at_call 30;(with_reducible refine Calls.mono HCL.out ?_);rintro e wd ⟨rfl,D1,hat,hst⟩;have AT:=Aside0.mk hat;have HS:=Aside0.mk ((Step.of_below HB.out).trans hst);have nD:∀ k,D k->k<W.heap.size:=H.out.lt;have x4:=(hst.blk X4.out (λq=>by have:=nD _ q;omega)).1;have x5:=(hst.blk X5.out (λq=>by have:=nD _ q;omega)).1;have x6:=(hst.blk X6.out (λq=>by have:=nD _ q;omega)).1;have ND:=Aside0.mk (hst.blk X6.out (λq=>by have:=nD _ q;omega)).2;clear X4 X5 X6 a0 a1 a2 a3 a4 nD hat hst;have X4:=Aside0.mk x4;have X5:=Aside0.mk x5;have X6:=Aside0.mk x6;clear x4 x5 x6 HCL))
 have lt6:=Aside0.mk (blk_lt X6.out)
 obtain ⟨E,hE⟩:∃ E:Nat->Prop,E=λk=>D1 k\/X k\/(W.heap.size<=k/\k<W.heap.size+3):=⟨_,rfl⟩
 have vE:RawV wd E A0 A1 c0 c1 r:=by rw [hE];exact HR.out.wide HS.out
 have bE:Kd.F U8 wd (λk=>¬ E k) B mb b:=by rw [hE];exact foot_wide HBB.out HS.out
 have ltE:∀ k,E k->k<wd.heap.size:=λk hk=>by
  rw [hE] at hk
  rcases hk with h1|h1|h1
  ·exact AT.out.lt k h1
  ·have:=HXX.out k h1;have:=lt6.out;omega
  ·have:=lt6.out;omega
 have hDo:=Aside0.mk (refDo_calls vE ltE HGR.out 1 (by omega) i B mb cb b HMB.out hcb bE)
 have HE:=Aside0.mk hE
 clear hE vE bE ltE
 have k0:=(blk_cell X4.out 0).trans (rfl:_=some (Value.slice A0 r.b0.length c0))
 have k1:=(blk_cell X4.out 1).trans (rfl:_=some (Value.int .i64 r.s0))
 have k2:=(blk_cell X4.out 2).trans (rfl:_=some (Value.slice A1 r.b1.length c1))
 have k3:=(blk_cell X4.out 3).trans (rfl:_=some (Value.int .i64 r.s1))
 have k4:=(blk_cell X4.out 4).trans (rfl:_=some (Value.int .i64 r.room))
 have k5:=(blk_cell X4.out 5).trans (rfl:_=some (Value.int .i64 r.stop))
 have k6:=(blk_cell X4.out 6).trans (rfl:_=some (Value.bool r.dead))
 have a0:=(blk_cell X5.out 0).trans (rfl:_=some (Value.int .i64 1))
 have a1:=(blk_cell X5.out 1).trans (rfl:_=some (Value.int .i64 i))
 have a2:=(blk_cell X5.out 2).trans (rfl:_=some (Value.slice B mb cb))
 have a3:=(blk_cell X5.out 3).trans (rfl:_=some (Value.int .i64 n))
 have a4:=(blk_cell X5.out 4).trans (rfl:_=some (Value.slice K mk ck))
 go_upto_region 20 with (first|(go_at_call 24;(with_reducible refine Calls.mono hDo.out ?_);rintro e w5 ⟨vv,rfl,his,hb⟩;obtain ⟨P0,P1,p0,p1,ev,hv⟩:=his;subst ev;have HV:=Aside0.mk hv;clear hv k0 k1 k2 k3 k4 k5 k6 a0 a1 a2 a3 a4 hDo;have x4:=blk_below X4.out hb;have x5:=blk_below X5.out hb;have x6:=blk_below X6.out hb;have at2:=AT.out.on hb;have hs2:=HS.out.trans (Step.of_below hb);clear X4 X5 X6 AT HS;have X4:=Aside0.mk x4;have X5:=Aside0.mk x5;have X6:=Aside0.mk x6;have AT:=Aside0.mk at2;have HS:=Aside0.mk hs2;clear x4 x5 x6 at2 hs2 hb))
 obtain ⟨r1,hr1⟩:∃ r1,r1=(r.act 1 i b).1:=⟨_,rfl⟩
 obtain ⟨er,her⟩:∃ er,er=(r.act 1 i b).2:=⟨_,rfl⟩
 rw [<-hr1] at HV
 rw [<-hr1,<-her]
 have R1:=Aside0.mk hr1
 clear hr1 her
 have hb:=below_alloc (Below.refl w5.heap.size w5) (.cells #[.slice P0 r1.b0.length p0,.int .i64 r1.s0,.slice P1 r1.b1.length p1,.int .i64 r1.s1,.int .i64 r1.room,.int .i64 r1.stop,.bool r1.dead] 43)
 have X9:=Aside0.mk (heap_alloc_new w5 (.cells #[.slice P0 r1.b0.length p0,.int .i64 r1.s0,.slice P1 r1.b1.length p1,.int .i64 r1.s1,.int .i64 r1.room,.int .i64 r1.stop,.bool r1.dead] 43))
 have hv6:=HV.out.step (Step.of_below hb)
 have HV6:=Aside0.mk hv6
 have lt6':=Aside0.mk (blk_lt X6.out)
 have x4:=blk_below X4.out hb
 have x5:=blk_below X5.out hb
 have x6:=blk_below X6.out hb
 have at2:=AT.out.on hb
 have hs2:=HS.out.trans (Step.of_below hb)
 clear X4 X5 X6 AT HS
 have X4:=Aside0.mk x4
 have X5:=Aside0.mk x5
 have X6:=Aside0.mk x6
 have AT:=Aside0.mk at2
 have HS:=Aside0.mk hs2
 clear x4 x5 x6 at2 hs2 hb
 clear hv6 HV
 obtain ⟨b9,hb9⟩:∃ b9,b9=w5.heap.size:=⟨_,rfl⟩
 generalize w5.alloc (.cells #[.slice P0 r1.b0.length p0,.int .i64 r1.s0,.slice P1 r1.b1.length p1,.int .i64 r1.s1,.int .i64 r1.room,.int .i64 r1.stop,.bool r1.dead] 43)=w6 at X4 X5 X6 X9 AT HS HV6 ⊢
 rw [<-hb9] at X9 ⊢
 clear hb9
 have k0:=(blk_cell X9.out 0).trans (rfl:_=some (Value.slice P0 r1.b0.length p0))
 have k1:=(blk_cell X9.out 1).trans (rfl:_=some (Value.int .i64 r1.s0))
 have k2:=(blk_cell X9.out 2).trans (rfl:_=some (Value.slice P1 r1.b1.length p1))
 have k3:=(blk_cell X9.out 3).trans (rfl:_=some (Value.int .i64 r1.s1))
 have k4:=(blk_cell X9.out 4).trans (rfl:_=some (Value.int .i64 r1.room))
 have k5:=(blk_cell X9.out 5).trans (rfl:_=some (Value.int .i64 r1.stop))
 have k6:=(blk_cell X9.out 6).trans (rfl:_=some (Value.bool r1.dead))
 have z0:=(blk_cell X6.out 0).trans (rfl:_=some (Value.slice none 0 0))
 have z1:=(blk_cell X6.out 1).trans (rfl:_=some (Value.int .i64 0))
 have z2:=(blk_cell X6.out 2).trans (rfl:_=some (Value.slice none 0 0))
 have z3:=(blk_cell X6.out 3).trans (rfl:_=some (Value.int .i64 0))
 have z4:=(blk_cell X6.out 4).trans (rfl:_=some (Value.int .i64 0))
 have z5:=(blk_cell X6.out 5).trans (rfl:_=some (Value.int .i64 0))
 have z6:=(blk_cell X6.out 6).trans (rfl:_=some (Value.bool false))
 have f0:=blk_frozen X6.out 0
 have f1:=blk_frozen X6.out 1
 have f2:=blk_frozen X6.out 2
 have f3:=blk_frozen X6.out 3
 have f4:=blk_frozen X6.out 4
 have f5:=blk_frozen X6.out 5
 have f6:=blk_frozen X6.out 6
 go_wp2_with (first|((with_reducible refine store_event (t:=43) (p:=6) rfl rfl rfl (w1:=(((((((w6.setCell ⟨W.heap.size+2,0,none⟩ (Value.slice P0 r1.b0.length p0)).setCell ⟨W.heap.size+2,1,none⟩ (Value.int .i64 r1.s0)).setCell ⟨W.heap.size+2,2,none⟩ (Value.slice P1 r1.b1.length p1)).setCell ⟨W.heap.size+2,3,none⟩ (Value.int .i64 r1.s1)).setCell ⟨W.heap.size+2,4,none⟩ (Value.int .i64 r1.room)).setCell ⟨W.heap.size+2,5,none⟩ (Value.int .i64 r1.stop)).setCell ⟨W.heap.size+2,6,none⟩ (Value.bool r1.dead))) ?hrun ?_);(case hrun=>first|(go_simp;done)|(go_simp;rfl));intro w7 hw7;have Y6:=Aside0.mk (show w7.heap[W.heap.size+2]? = some (.cells #[Value.slice P0 r1.b0.length p0,Value.int .i64 r1.s0,Value.slice P1 r1.b1.length p1,Value.int .i64 r1.s1,Value.int .i64 r1.room,Value.int .i64 r1.stop,Value.bool r1.dead] 43 (0,0)) by rw [hw7];exact(blk_put ((blk_put ((blk_put ((blk_put ((blk_put ((blk_put ((blk_put (X6.out) 0 (Value.slice P0 r1.b0.length p0) rfl)) 1 (Value.int .i64 r1.s0) rfl)) 2 (Value.slice P1 r1.b1.length p1) rfl)) 3 (Value.int .i64 r1.s1) rfl)) 4 (Value.int .i64 r1.room) rfl)) 5 (Value.int .i64 r1.stop) rfl)) 6 (Value.bool r1.dead) rfl));have SZ7:=Aside0.mk (show w7.heap.size=w6.heap.size by rw [hw7];simp only [size_set]);have BB7:=Aside0.mk (show ∀ (x:World),Below x.heap.size x w6->x.heap.size<=W.heap.size+2->Below x.heap.size x w7 from λx hx hx2=>by rw [hw7];exact(below_set ((below_set ((below_set ((below_set ((below_set ((below_set ((below_set (hx) hx2)) hx2)) hx2)) hx2)) hx2)) hx2)) hx2));have CH7:=Aside0.mk (show ∀ k,k≠W.heap.size+2->w7.heap[k]? = w6.heap[k]? from λk hk=>by rw [hw7];exact((Below.heap_setCell ((((((w6.setCell ⟨W.heap.size+2,0,none⟩ (Value.slice P0 r1.b0.length p0)).setCell ⟨W.heap.size+2,1,none⟩ (Value.int .i64 r1.s0)).setCell ⟨W.heap.size+2,2,none⟩ (Value.slice P1 r1.b1.length p1)).setCell ⟨W.heap.size+2,3,none⟩ (Value.int .i64 r1.s1)).setCell ⟨W.heap.size+2,4,none⟩ (Value.int .i64 r1.room)).setCell ⟨W.heap.size+2,5,none⟩ (Value.int .i64 r1.stop)) ⟨W.heap.size+2,6,none⟩ (Value.bool r1.dead) k hk).trans (((Below.heap_setCell (((((w6.setCell ⟨W.heap.size+2,0,none⟩ (Value.slice P0 r1.b0.length p0)).setCell ⟨W.heap.size+2,1,none⟩ (Value.int .i64 r1.s0)).setCell ⟨W.heap.size+2,2,none⟩ (Value.slice P1 r1.b1.length p1)).setCell ⟨W.heap.size+2,3,none⟩ (Value.int .i64 r1.s1)).setCell ⟨W.heap.size+2,4,none⟩ (Value.int .i64 r1.room)) ⟨W.heap.size+2,5,none⟩ (Value.int .i64 r1.stop) k hk).trans (((Below.heap_setCell ((((w6.setCell ⟨W.heap.size+2,0,none⟩ (Value.slice P0 r1.b0.length p0)).setCell ⟨W.heap.size+2,1,none⟩ (Value.int .i64 r1.s0)).setCell ⟨W.heap.size+2,2,none⟩ (Value.slice P1 r1.b1.length p1)).setCell ⟨W.heap.size+2,3,none⟩ (Value.int .i64 r1.s1)) ⟨W.heap.size+2,4,none⟩ (Value.int .i64 r1.room) k hk).trans (((Below.heap_setCell (((w6.setCell ⟨W.heap.size+2,0,none⟩ (Value.slice P0 r1.b0.length p0)).setCell ⟨W.heap.size+2,1,none⟩ (Value.int .i64 r1.s0)).setCell ⟨W.heap.size+2,2,none⟩ (Value.slice P1 r1.b1.length p1)) ⟨W.heap.size+2,3,none⟩ (Value.int .i64 r1.s1) k hk).trans (((Below.heap_setCell ((w6.setCell ⟨W.heap.size+2,0,none⟩ (Value.slice P0 r1.b0.length p0)).setCell ⟨W.heap.size+2,1,none⟩ (Value.int .i64 r1.s0)) ⟨W.heap.size+2,2,none⟩ (Value.slice P1 r1.b1.length p1) k hk).trans (((Below.heap_setCell (w6.setCell ⟨W.heap.size+2,0,none⟩ (Value.slice P0 r1.b0.length p0)) ⟨W.heap.size+2,1,none⟩ (Value.int .i64 r1.s0) k hk).trans (((Below.heap_setCell w6 ⟨W.heap.size+2,0,none⟩ (Value.slice P0 r1.b0.length p0) k hk).trans (rfl)))))))))))))));clear hw7;have rr0:=(blk_cell Y6.out 0).trans (rfl:_=some (Value.slice P0 r1.b0.length p0));have rr1:=(blk_cell Y6.out 1).trans (rfl:_=some (Value.int .i64 r1.s0));have rr2:=(blk_cell Y6.out 2).trans (rfl:_=some (Value.slice P1 r1.b1.length p1));have rr3:=(blk_cell Y6.out 3).trans (rfl:_=some (Value.int .i64 r1.s1));have rr4:=(blk_cell Y6.out 4).trans (rfl:_=some (Value.int .i64 r1.room));have rr5:=(blk_cell Y6.out 5).trans (rfl:_=some (Value.int .i64 r1.stop));have rr6:=(blk_cell Y6.out 6).trans (rfl:_=some (Value.bool r1.dead))))
 refine bodyPost_ret (v:=.tuple #[.agg #[Value.slice P0 r1.b0.length p0,Value.int .i64 r1.s0,Value.slice P1 r1.b1.length p1,Value.int .i64 r1.s1,Value.int .i64 r1.room,Value.int .i64 r1.stop,Value.bool r1.dead],.bool ((d.clr i).2 == er)]) ?hres rfl ?_
 case hres =>
  simp only [results,rr0,rr1,rr2,rr3,rr4,rr5,rr6]
  first|rfl|(simp [rr0,rr1,rr2,rr3,rr4,rr5,rr6];done)|(go_simp;done)|(go_simp;rfl)
 have er1:r1=r.doing 1 i b n keep:=by rw [R1.out];unfold Dk.doing;rw [if_pos (by omega)]
 have ch:=CH7.out
 have sz:=SZ7.out
 have he:=HE.out
 have hs6:=HS.out
 have l6:=lt6'.out
 obtain ⟨q0,q1,hraw⟩:=AT.out
 have nd:∀ k,D1 k->k≠W.heap.size+2:=λk hk e=>ND.out (e ▸ hk)
 refine ⟨_,_,rfl,D1,⟨q0,q1,hraw.move (BB7.out w0 hraw.below (by have:=H.out.below.size;omega)) (by omega) (λk hk=>ch k (nd k hk))⟩,⟨P0,P1,p0,p1,by rw [<-er1],by rw [<-er1];exact((HV6.out.move (λk hk _=>ch k (λe=>hk (by rw [he,e];exact .inr (.inr ⟨by omega,by omega⟩))))).mono (λk hk=>by rw [he];exact hk.imp id .inl))⟩,⟨by have:=hs6.size;omega,λk hk hd=>(ch k (by omega)).trans (hs6.block k hk hd),hs6.new⟩⟩
set_option maxHeartbeats 8000000 in
set_option maxRecDepth 100000 in
theorem lawDoX (h:Raw w0 W g v0 v1 D d) (X:Nat->Prop) (hX:∀ k,X k->k<W.heap.size) (hr:RawV W (λk=>D k\/X k) A0 A1 c0 c1 r) (hg:d.Good) (hgr:r.Good) (i n:Int) (B K:Option Addr) (mb cb mk ck:Nat) (b keep:List Int) (hmb:mb=b.length) (hcb:mb<=cb) (hB:Kd.F U8 W (λk=>¬ (D k\/X k)) B mb b) (hmx:mb<=140737488355328) (hmk:mk=keep.length) (hK:Kd.F (Kd.int .i64) W (λk=>¬ (D k\/X k)) K mk keep) (o:Int) (ho:o<0\/5<=o) :
  Calls Try.prog 18 #[.pointer (some ⟨g,0,none⟩),.agg #[.slice A0 r.b0.length c0,.int .i64 r.s0,.slice A1 r.b1.length c1,.int .i64 r.s1,.int .i64 r.room,.int .i64 r.stop,.bool r.dead],.agg #[.int .i64 o,.int .i64 i,.slice B mb cb,.int .i64 n,.slice K mk ck]] W λe w'=>∃ v t,e = .returned (.tuple #[v,.bool t])/\∃ D',At w0 w' g D' (d.doing o i b n keep)/\Is w' (λk=>D' k\/X k) v (r.doing o i b n keep)/\Step W w' D D':=by
 have ed:d.doing o i b n keep=d:=by unfold Dk.doing;rw [if_neg (by omega),if_neg (by omega),if_neg (by omega)]
 have er:r.doing o i b n keep=r:=by unfold Dk.doing;rw [if_neg (by omega),if_neg (by omega),if_neg (by omega)]
 rw [ed,er]
 have o0:(o == 0)=false:=beq_eq_false_iff_ne.2 (by omega)
 have o1:(o == 1)=false:=beq_eq_false_iff_ne.2 (by omega)
 have o2:(o == 2)=false:=beq_eq_false_iff_ne.2 (by omega)
 have o3:(o == 3)=false:=beq_eq_false_iff_ne.2 (by omega)
 have o4:(o == 4)=false:=beq_eq_false_iff_ne.2 (by omega)
 clear ed er ho
 have H:=Aside0.mk h
 have HR:=Aside0.mk hr
 have HXX:=Aside0.mk hX
 have HG:=Aside0.mk hg
 have HGR:=Aside0.mk hgr
 have HBB:=Aside0.mk hB
 have HKK:=Aside0.mk hK
 have HMB:=Aside0.mk hmb
 have HMK:=Aside0.mk hmk
 clear h hr hg hgr hB hK hmb hmk hX
 go_enter Try.func18,Try.ntmps18
 go_upto_region 4 with (fail)
 have hb:Below W.heap.size W (((W.alloc (.cells #[.slice A0 r.b0.length c0,.int .i64 r.s0,.slice A1 r.b1.length c1,.int .i64 r.s1,.int .i64 r.room,.int .i64 r.stop,.bool r.dead] 43)).alloc (.cells #[.int .i64 o,.int .i64 i,.slice B mb cb,.int .i64 n,.slice K mk ck] 49)).alloc (.cells #[.slice none 0 0,.int .i64 0,.slice none 0 0,.int .i64 0,.int .i64 0,.int .i64 0,.bool false] 43)):=below_alloc (below_alloc (below_alloc (Below.refl _ _) _) _) _
 have s1:(W.alloc (.cells #[.slice A0 r.b0.length c0,.int .i64 r.s0,.slice A1 r.b1.length c1,.int .i64 r.s1,.int .i64 r.room,.int .i64 r.stop,.bool r.dead] 43)).heap.size=W.heap.size+1:=by simp
 have s2:((W.alloc (.cells #[.slice A0 r.b0.length c0,.int .i64 r.s0,.slice A1 r.b1.length c1,.int .i64 r.s1,.int .i64 r.room,.int .i64 r.stop,.bool r.dead] 43)).alloc (.cells #[.int .i64 o,.int .i64 i,.slice B mb cb,.int .i64 n,.slice K mk ck] 49)).heap.size=W.heap.size+2:=by simp
 have x4:(((W.alloc (.cells #[.slice A0 r.b0.length c0,.int .i64 r.s0,.slice A1 r.b1.length c1,.int .i64 r.s1,.int .i64 r.room,.int .i64 r.stop,.bool r.dead] 43)).alloc (.cells #[.int .i64 o,.int .i64 i,.slice B mb cb,.int .i64 n,.slice K mk ck] 49)).alloc (.cells #[.slice none 0 0,.int .i64 0,.slice none 0 0,.int .i64 0,.int .i64 0,.int .i64 0,.bool false] 43)).heap[W.heap.size]? = some (.cells #[.slice A0 r.b0.length c0,.int .i64 r.s0,.slice A1 r.b1.length c1,.int .i64 r.s1,.int .i64 r.room,.int .i64 r.stop,.bool r.dead] 43 (0,0)):=blk_below (heap_alloc_new W _) (below_alloc (below_alloc (Below.refl _ _) _) _)
 have x5:(((W.alloc (.cells #[.slice A0 r.b0.length c0,.int .i64 r.s0,.slice A1 r.b1.length c1,.int .i64 r.s1,.int .i64 r.room,.int .i64 r.stop,.bool r.dead] 43)).alloc (.cells #[.int .i64 o,.int .i64 i,.slice B mb cb,.int .i64 n,.slice K mk ck] 49)).alloc (.cells #[.slice none 0 0,.int .i64 0,.slice none 0 0,.int .i64 0,.int .i64 0,.int .i64 0,.bool false] 43)).heap[W.heap.size+1]? = some (.cells #[.int .i64 o,.int .i64 i,.slice B mb cb,.int .i64 n,.slice K mk ck] 49 (0,0)):=by have h_:=blk_below (heap_alloc_new (W.alloc (.cells #[.slice A0 r.b0.length c0,.int .i64 r.s0,.slice A1 r.b1.length c1,.int .i64 r.s1,.int .i64 r.room,.int .i64 r.stop,.bool r.dead] 43)) (.cells #[.int .i64 o,.int .i64 i,.slice B mb cb,.int .i64 n,.slice K mk ck] 49)) (below_alloc (Below.refl _ _) (.cells #[.slice none 0 0,.int .i64 0,.slice none 0 0,.int .i64 0,.int .i64 0,.int .i64 0,.bool false] 43));rwa [s1] at h_
 have x6:(((W.alloc (.cells #[.slice A0 r.b0.length c0,.int .i64 r.s0,.slice A1 r.b1.length c1,.int .i64 r.s1,.int .i64 r.room,.int .i64 r.stop,.bool r.dead] 43)).alloc (.cells #[.int .i64 o,.int .i64 i,.slice B mb cb,.int .i64 n,.slice K mk ck] 49)).alloc (.cells #[.slice none 0 0,.int .i64 0,.slice none 0 0,.int .i64 0,.int .i64 0,.int .i64 0,.bool false] 43)).heap[W.heap.size+2]? = some (.cells #[.slice none 0 0,.int .i64 0,.slice none 0 0,.int .i64 0,.int .i64 0,.int .i64 0,.bool false] 43 (0,0)):=by have h_:=heap_alloc_new ((W.alloc (.cells #[.slice A0 r.b0.length c0,.int .i64 r.s0,.slice A1 r.b1.length c1,.int .i64 r.s1,.int .i64 r.room,.int .i64 r.stop,.bool r.dead] 43)).alloc (.cells #[.int .i64 o,.int .i64 i,.slice B mb cb,.int .i64 n,.slice K mk ck] 49)) (.cells #[.slice none 0 0,.int .i64 0,.slice none 0 0,.int .i64 0,.int .i64 0,.int .i64 0,.bool false] 43);rwa [s2] at h_
 have HB:=Aside0.mk hb
 have X4:=Aside0.mk x4
 have X5:=Aside0.mk x5
 have X6:=Aside0.mk x6
 clear hb x4 x5 x6 s1 s2
 generalize (((W.alloc (.cells #[.slice A0 r.b0.length c0,.int .i64 r.s0,.slice A1 r.b1.length c1,.int .i64 r.s1,.int .i64 r.room,.int .i64 r.stop,.bool r.dead] 43)).alloc (.cells #[.int .i64 o,.int .i64 i,.slice B mb cb,.int .i64 n,.slice K mk ck] 49)).alloc (.cells #[.slice none 0 0,.int .i64 0,.slice none 0 0,.int .i64 0,.int .i64 0,.int .i64 0,.bool false] 43))=w1 at HB X4 X5 X6 ⊢
 rw [show W.heap.size+1+1=W.heap.size+2 from rfl]
 have k0:=(blk_cell X4.out 0).trans (rfl:_=some (Value.slice A0 r.b0.length c0))
 have k1:=(blk_cell X4.out 1).trans (rfl:_=some (Value.int .i64 r.s0))
 have k2:=(blk_cell X4.out 2).trans (rfl:_=some (Value.slice A1 r.b1.length c1))
 have k3:=(blk_cell X4.out 3).trans (rfl:_=some (Value.int .i64 r.s1))
 have k4:=(blk_cell X4.out 4).trans (rfl:_=some (Value.int .i64 r.room))
 have k5:=(blk_cell X4.out 5).trans (rfl:_=some (Value.int .i64 r.stop))
 have k6:=(blk_cell X4.out 6).trans (rfl:_=some (Value.bool r.dead))
 have z0:=(blk_cell X6.out 0).trans (rfl:_=some (Value.slice none 0 0))
 have z1:=(blk_cell X6.out 1).trans (rfl:_=some (Value.int .i64 0))
 have z2:=(blk_cell X6.out 2).trans (rfl:_=some (Value.slice none 0 0))
 have z3:=(blk_cell X6.out 3).trans (rfl:_=some (Value.int .i64 0))
 have z4:=(blk_cell X6.out 4).trans (rfl:_=some (Value.int .i64 0))
 have z5:=(blk_cell X6.out 5).trans (rfl:_=some (Value.int .i64 0))
 have z6:=(blk_cell X6.out 6).trans (rfl:_=some (Value.bool false))
 have f0:=blk_frozen X6.out 0
 have f1:=blk_frozen X6.out 1
 have f2:=blk_frozen X6.out 2
 have f3:=blk_frozen X6.out 3
 have f4:=blk_frozen X6.out 4
 have f5:=blk_frozen X6.out 5
 have f6:=blk_frozen X6.out 6
 go_wp2_with (first|((with_reducible refine store_event (t:=43) (p:=6) rfl rfl rfl (w1:=(((((((w1.setCell ⟨W.heap.size+2,0,none⟩ (Value.slice A0 r.b0.length c0)).setCell ⟨W.heap.size+2,1,none⟩ (Value.int .i64 r.s0)).setCell ⟨W.heap.size+2,2,none⟩ (Value.slice A1 r.b1.length c1)).setCell ⟨W.heap.size+2,3,none⟩ (Value.int .i64 r.s1)).setCell ⟨W.heap.size+2,4,none⟩ (Value.int .i64 r.room)).setCell ⟨W.heap.size+2,5,none⟩ (Value.int .i64 r.stop)).setCell ⟨W.heap.size+2,6,none⟩ (Value.bool r.dead))) ?hrun ?_);(case hrun=>first|(go_simp;done)|(go_simp;rfl));intro w7 hw7;have Y6:=Aside0.mk (show w7.heap[W.heap.size+2]? = some (.cells #[.slice A0 r.b0.length c0,.int .i64 r.s0,.slice A1 r.b1.length c1,.int .i64 r.s1,.int .i64 r.room,.int .i64 r.stop,.bool r.dead] 43 (0,0)) by rw [hw7];exact(blk_put ((blk_put ((blk_put ((blk_put ((blk_put ((blk_put ((blk_put (X6.out) 0 (Value.slice A0 r.b0.length c0) rfl)) 1 (Value.int .i64 r.s0) rfl)) 2 (Value.slice A1 r.b1.length c1) rfl)) 3 (Value.int .i64 r.s1) rfl)) 4 (Value.int .i64 r.room) rfl)) 5 (Value.int .i64 r.stop) rfl)) 6 (Value.bool r.dead) rfl));have SZ7:=Aside0.mk (show w7.heap.size=w1.heap.size by rw [hw7];simp only [size_set]);have BB7:=Aside0.mk (show ∀ (x:World),Below x.heap.size x w1->x.heap.size<=W.heap.size+2->Below x.heap.size x w7 from λx hx hx2=>by rw [hw7];exact(below_set ((below_set ((below_set ((below_set ((below_set ((below_set ((below_set (hx) hx2)) hx2)) hx2)) hx2)) hx2)) hx2)) hx2));have CH7:=Aside0.mk (show ∀ k,k≠W.heap.size+2->w7.heap[k]? = w1.heap[k]? from λk hk=>by rw [hw7];exact((Below.heap_setCell ((((((w1.setCell ⟨W.heap.size+2,0,none⟩ (Value.slice A0 r.b0.length c0)).setCell ⟨W.heap.size+2,1,none⟩ (Value.int .i64 r.s0)).setCell ⟨W.heap.size+2,2,none⟩ (Value.slice A1 r.b1.length c1)).setCell ⟨W.heap.size+2,3,none⟩ (Value.int .i64 r.s1)).setCell ⟨W.heap.size+2,4,none⟩ (Value.int .i64 r.room)).setCell ⟨W.heap.size+2,5,none⟩ (Value.int .i64 r.stop)) ⟨W.heap.size+2,6,none⟩ (Value.bool r.dead) k hk).trans (((Below.heap_setCell (((((w1.setCell ⟨W.heap.size+2,0,none⟩ (Value.slice A0 r.b0.length c0)).setCell ⟨W.heap.size+2,1,none⟩ (Value.int .i64 r.s0)).setCell ⟨W.heap.size+2,2,none⟩ (Value.slice A1 r.b1.length c1)).setCell ⟨W.heap.size+2,3,none⟩ (Value.int .i64 r.s1)).setCell ⟨W.heap.size+2,4,none⟩ (Value.int .i64 r.room)) ⟨W.heap.size+2,5,none⟩ (Value.int .i64 r.stop) k hk).trans (((Below.heap_setCell ((((w1.setCell ⟨W.heap.size+2,0,none⟩ (Value.slice A0 r.b0.length c0)).setCell ⟨W.heap.size+2,1,none⟩ (Value.int .i64 r.s0)).setCell ⟨W.heap.size+2,2,none⟩ (Value.slice A1 r.b1.length c1)).setCell ⟨W.heap.size+2,3,none⟩ (Value.int .i64 r.s1)) ⟨W.heap.size+2,4,none⟩ (Value.int .i64 r.room) k hk).trans (((Below.heap_setCell (((w1.setCell ⟨W.heap.size+2,0,none⟩ (Value.slice A0 r.b0.length c0)).setCell ⟨W.heap.size+2,1,none⟩ (Value.int .i64 r.s0)).setCell ⟨W.heap.size+2,2,none⟩ (Value.slice A1 r.b1.length c1)) ⟨W.heap.size+2,3,none⟩ (Value.int .i64 r.s1) k hk).trans (((Below.heap_setCell ((w1.setCell ⟨W.heap.size+2,0,none⟩ (Value.slice A0 r.b0.length c0)).setCell ⟨W.heap.size+2,1,none⟩ (Value.int .i64 r.s0)) ⟨W.heap.size+2,2,none⟩ (Value.slice A1 r.b1.length c1) k hk).trans (((Below.heap_setCell (w1.setCell ⟨W.heap.size+2,0,none⟩ (Value.slice A0 r.b0.length c0)) ⟨W.heap.size+2,1,none⟩ (Value.int .i64 r.s0) k hk).trans (((Below.heap_setCell w1 ⟨W.heap.size+2,0,none⟩ (Value.slice A0 r.b0.length c0) k hk).trans (rfl)))))))))))))));clear hw7;have rr0:=(blk_cell Y6.out 0).trans (rfl:_=some (Value.slice A0 r.b0.length c0));have rr1:=(blk_cell Y6.out 1).trans (rfl:_=some (Value.int .i64 r.s0));have rr2:=(blk_cell Y6.out 2).trans (rfl:_=some (Value.slice A1 r.b1.length c1));have rr3:=(blk_cell Y6.out 3).trans (rfl:_=some (Value.int .i64 r.s1));have rr4:=(blk_cell Y6.out 4).trans (rfl:_=some (Value.int .i64 r.room));have rr5:=(blk_cell Y6.out 5).trans (rfl:_=some (Value.int .i64 r.stop));have rr6:=(blk_cell Y6.out 6).trans (rfl:_=some (Value.bool r.dead))))
 refine bodyPost_ret (v:=.tuple #[.agg #[Value.slice A0 r.b0.length c0,Value.int .i64 r.s0,Value.slice A1 r.b1.length c1,Value.int .i64 r.s1,Value.int .i64 r.room,Value.int .i64 r.stop,Value.bool r.dead],.bool true]) ?hres rfl ?_
 case hres =>
  simp only [results,rr0,rr1,rr2,rr3,rr4,rr5,rr6]
  first|rfl|(simp [rr0,rr1,rr2,rr3,rr4,rr5,rr6];done)|(go_simp;done)|(go_simp;rfl)
 have ch:=CH7.out
 have sz:=SZ7.out
 have hbW:Below W.heap.size W w7:=BB7.out W HB.out (Nat.le_add_right _ _)
 exact ⟨_,_,rfl,D,⟨_,_,H.out.on hbW⟩,⟨_,_,_,_,rfl,HR.out.step (Step.of_below hbW)⟩,Step.of_below hbW⟩
set_option maxHeartbeats 8000000 in
set_option maxRecDepth 100000 in
theorem lawDo3 (h:Raw w0 W g v0 v1 D d) (X:Nat->Prop) (hX:∀ k,X k->k<W.heap.size) (hr:RawV W (λk=>D k\/X k) A0 A1 c0 c1 r) (hg:d.Good) (hgr:r.Good) (i n:Int) (B K:Option Addr) (mb cb mk ck:Nat) (b keep:List Int) (hmb:mb=b.length) (hcb:mb<=cb) (hB:Kd.F U8 W (λk=>¬ (D k\/X k)) B mb b) (hmx:mb<=140737488355328) (hmk:mk=keep.length) (hK:Kd.F (Kd.int .i64) W (λk=>¬ (D k\/X k)) K mk keep) :
  Calls Try.prog 18 #[.pointer (some ⟨g,0,none⟩),.agg #[.slice A0 r.b0.length c0,.int .i64 r.s0,.slice A1 r.b1.length c1,.int .i64 r.s1,.int .i64 r.room,.int .i64 r.stop,.bool r.dead],.agg #[.int .i64 3,.int .i64 i,.slice B mb cb,.int .i64 n,.slice K mk ck]] W λe w'=>∃ v t,e = .returned (.tuple #[v,.bool t])/\∃ D',At w0 w' g D' (d.doing 3 i b n keep)/\Is w' (λk=>D' k\/X k) v (r.doing 3 i b n keep)/\Step W w' D D':=by
 have H:=Aside0.mk h
 have HR:=Aside0.mk hr
 have HXX:=Aside0.mk hX
 have HG:=Aside0.mk hg
 have HGR:=Aside0.mk hgr
 have HBB:=Aside0.mk hB
 have HKK:=Aside0.mk hK
 have HMB:=Aside0.mk hmb
 have HMK:=Aside0.mk hmk
 clear h hr hg hgr hB hK hmb hmk hX
 go_enter Try.func18,Try.ntmps18
 go_upto_region 4 with (fail)
 have hb:Below W.heap.size W (((W.alloc (.cells #[.slice A0 r.b0.length c0,.int .i64 r.s0,.slice A1 r.b1.length c1,.int .i64 r.s1,.int .i64 r.room,.int .i64 r.stop,.bool r.dead] 43)).alloc (.cells #[.int .i64 3,.int .i64 i,.slice B mb cb,.int .i64 n,.slice K mk ck] 49)).alloc (.cells #[.slice none 0 0,.int .i64 0,.slice none 0 0,.int .i64 0,.int .i64 0,.int .i64 0,.bool false] 43)):=below_alloc (below_alloc (below_alloc (Below.refl _ _) _) _) _
 have s1:(W.alloc (.cells #[.slice A0 r.b0.length c0,.int .i64 r.s0,.slice A1 r.b1.length c1,.int .i64 r.s1,.int .i64 r.room,.int .i64 r.stop,.bool r.dead] 43)).heap.size=W.heap.size+1:=by simp
 have s2:((W.alloc (.cells #[.slice A0 r.b0.length c0,.int .i64 r.s0,.slice A1 r.b1.length c1,.int .i64 r.s1,.int .i64 r.room,.int .i64 r.stop,.bool r.dead] 43)).alloc (.cells #[.int .i64 3,.int .i64 i,.slice B mb cb,.int .i64 n,.slice K mk ck] 49)).heap.size=W.heap.size+2:=by simp
 have x4:(((W.alloc (.cells #[.slice A0 r.b0.length c0,.int .i64 r.s0,.slice A1 r.b1.length c1,.int .i64 r.s1,.int .i64 r.room,.int .i64 r.stop,.bool r.dead] 43)).alloc (.cells #[.int .i64 3,.int .i64 i,.slice B mb cb,.int .i64 n,.slice K mk ck] 49)).alloc (.cells #[.slice none 0 0,.int .i64 0,.slice none 0 0,.int .i64 0,.int .i64 0,.int .i64 0,.bool false] 43)).heap[W.heap.size]? = some (.cells #[.slice A0 r.b0.length c0,.int .i64 r.s0,.slice A1 r.b1.length c1,.int .i64 r.s1,.int .i64 r.room,.int .i64 r.stop,.bool r.dead] 43 (0,0)):=blk_below (heap_alloc_new W _) (below_alloc (below_alloc (Below.refl _ _) _) _)
 have x5:(((W.alloc (.cells #[.slice A0 r.b0.length c0,.int .i64 r.s0,.slice A1 r.b1.length c1,.int .i64 r.s1,.int .i64 r.room,.int .i64 r.stop,.bool r.dead] 43)).alloc (.cells #[.int .i64 3,.int .i64 i,.slice B mb cb,.int .i64 n,.slice K mk ck] 49)).alloc (.cells #[.slice none 0 0,.int .i64 0,.slice none 0 0,.int .i64 0,.int .i64 0,.int .i64 0,.bool false] 43)).heap[W.heap.size+1]? = some (.cells #[.int .i64 3,.int .i64 i,.slice B mb cb,.int .i64 n,.slice K mk ck] 49 (0,0)):=by have h_:=blk_below (heap_alloc_new (W.alloc (.cells #[.slice A0 r.b0.length c0,.int .i64 r.s0,.slice A1 r.b1.length c1,.int .i64 r.s1,.int .i64 r.room,.int .i64 r.stop,.bool r.dead] 43)) (.cells #[.int .i64 3,.int .i64 i,.slice B mb cb,.int .i64 n,.slice K mk ck] 49)) (below_alloc (Below.refl _ _) (.cells #[.slice none 0 0,.int .i64 0,.slice none 0 0,.int .i64 0,.int .i64 0,.int .i64 0,.bool false] 43));rwa [s1] at h_
 have x6:(((W.alloc (.cells #[.slice A0 r.b0.length c0,.int .i64 r.s0,.slice A1 r.b1.length c1,.int .i64 r.s1,.int .i64 r.room,.int .i64 r.stop,.bool r.dead] 43)).alloc (.cells #[.int .i64 3,.int .i64 i,.slice B mb cb,.int .i64 n,.slice K mk ck] 49)).alloc (.cells #[.slice none 0 0,.int .i64 0,.slice none 0 0,.int .i64 0,.int .i64 0,.int .i64 0,.bool false] 43)).heap[W.heap.size+2]? = some (.cells #[.slice none 0 0,.int .i64 0,.slice none 0 0,.int .i64 0,.int .i64 0,.int .i64 0,.bool false] 43 (0,0)):=by have h_:=heap_alloc_new ((W.alloc (.cells #[.slice A0 r.b0.length c0,.int .i64 r.s0,.slice A1 r.b1.length c1,.int .i64 r.s1,.int .i64 r.room,.int .i64 r.stop,.bool r.dead] 43)).alloc (.cells #[.int .i64 3,.int .i64 i,.slice B mb cb,.int .i64 n,.slice K mk ck] 49)) (.cells #[.slice none 0 0,.int .i64 0,.slice none 0 0,.int .i64 0,.int .i64 0,.int .i64 0,.bool false] 43);rwa [s2] at h_
 have HB:=Aside0.mk hb
 have X4:=Aside0.mk x4
 have X5:=Aside0.mk x5
 have X6:=Aside0.mk x6
 clear hb x4 x5 x6 s1 s2
 generalize (((W.alloc (.cells #[.slice A0 r.b0.length c0,.int .i64 r.s0,.slice A1 r.b1.length c1,.int .i64 r.s1,.int .i64 r.room,.int .i64 r.stop,.bool r.dead] 43)).alloc (.cells #[.int .i64 3,.int .i64 i,.slice B mb cb,.int .i64 n,.slice K mk ck] 49)).alloc (.cells #[.slice none 0 0,.int .i64 0,.slice none 0 0,.int .i64 0,.int .i64 0,.int .i64 0,.bool false] 43))=w1 at HB X4 X5 X6 ⊢
 rw [show W.heap.size+1+1=W.heap.size+2 from rfl]
 have a0:=(blk_cell X5.out 0).trans (rfl:_=some (Value.int .i64 3))
 have a1:=(blk_cell X5.out 1).trans (rfl:_=some (Value.int .i64 i))
 have a2:=(blk_cell X5.out 2).trans (rfl:_=some (Value.slice B mb cb))
 have a3:=(blk_cell X5.out 3).trans (rfl:_=some (Value.int .i64 n))
 have a4:=(blk_cell X5.out 4).trans (rfl:_=some (Value.slice K mk ck))
 have hst:=stop_calls (H.out.on HB.out) n
 have HST:=Aside0.mk hst
 clear hst
 go_upto_region 12 with (first|(go_at_call 31;(with_reducible refine Calls.mono HST.out ?_);rintro e wd ⟨rfl,hat,hst⟩;have AT:=Aside0.mk hat;have HS:=Aside0.mk ((Step.of_below HB.out).trans hst);have nD:∀ k,D k->k<W.heap.size:=H.out.lt;have x4:=(hst.blk X4.out (λq=>by have:=nD _ q;omega)).1;have x5:=(hst.blk X5.out (λq=>by have:=nD _ q;omega)).1;have x6:=(hst.blk X6.out (λq=>by have:=nD _ q;omega)).1;clear X4 X5 X6 a0 a1 a2 a3 a4 nD hat hst;have X4:=Aside0.mk x4;have X5:=Aside0.mk x5;have X6:=Aside0.mk x6;clear x4 x5 x6 HST))
 have a0:=(blk_cell X5.out 0).trans (rfl:_=some (Value.int .i64 3))
 have a1:=(blk_cell X5.out 1).trans (rfl:_=some (Value.int .i64 i))
 have a2:=(blk_cell X5.out 2).trans (rfl:_=some (Value.slice B mb cb))
 have a3:=(blk_cell X5.out 3).trans (rfl:_=some (Value.int .i64 n))
 have a4:=(blk_cell X5.out 4).trans (rfl:_=some (Value.slice K mk ck))
 have k5:=(blk_cell X4.out 5).trans (rfl:_=some (Value.int .i64 r.stop))
 have g5:=blk_frozen X4.out 5
 have x4a:=blk_put (cs':=#[.slice A0 r.b0.length c0,.int .i64 r.s0,.slice A1 r.b1.length c1,.int .i64 r.s1,.int .i64 r.room,.int .i64 n,.bool r.dead]) X4.out 5 (.int .i64 n) rfl
 have x4b:=blk_put (cs':=#[.slice A0 r.b0.length c0,.int .i64 r.s0,.slice A1 r.b1.length c1,.int .i64 r.s1,.int .i64 r.room,.int .i64 (-1),.bool r.dead]) x4a 5 (.int .i64 (-1)) rfl
 have XA:=Aside0.mk x4a
 have XB:=Aside0.mk x4b
 clear x4a x4b
 have fin:∀ w2:World,Below w0.heap.size w0 w2->w2.heap.size=wd.heap.size->(∀ k,k≠W.heap.size->w2.heap[k]? = wd.heap[k]?)->True->∀ w7:World,w7.heap.size=w2.heap.size->(∀ k,k≠W.heap.size+2->w7.heap[k]? = w2.heap[k]?)->Below w0.heap.size w0 w7->∃ v t,Ending.returned (.tuple #[.agg #[.slice A0 r.b0.length c0,.int .i64 r.s0,.slice A1 r.b1.length c1,.int .i64 r.s1,.int .i64 r.room,.int .i64 (hi n (-1)),.bool r.dead],.bool true]) = .returned (.tuple #[v,.bool t])/\∃ D',At w0 w7 g D' (d.doing 3 i b n keep)/\Is w7 (λk=>D' k\/X k) v (r.doing 3 i b n keep)/\Step W w7 D D':=by
  intro w2 _ s2 f2 _ w7 s7 f7 b7
  have hf:∀ k,k<W.heap.size->w7.heap[k]? = wd.heap[k]?:=λk hk=>(f7 k (by omega)).trans (f2 k (by omega))
  refine ⟨_,_,rfl,D,⟨_,_,AT.out.move b7 (by omega) (λk hk=>hf k (H.out.lt k hk))⟩,⟨A0,A1,c0,c1,rfl,?_⟩,⟨by have:=HS.out.size;omega,λk hk hd=>(hf k hk).trans (HS.out.block k hk hd),λk hk=>.inl hk⟩⟩
  have hm:∀ k,¬ (D k\/X k)/\k<W.heap.size->k<W.heap.size->w7.heap[k]? = W.heap[k]?:=λk hk hlt=>(hf k hlt).trans (HS.out.block k hlt (λq=>hk.1 (.inl q)))
  exact ⟨HR.out.l0,Kd.F_mono (Kd.F_step (Kd.F_bound HR.out.f0) hm) (λk hk=>hk.1),HR.out.l1,Kd.F_mono (Kd.F_step (Kd.F_bound HR.out.f1) hm) (λk hk=>hk.1)⟩
 have FI:=Aside0.mk fin
 clear fin
 have base:Below w0.heap.size w0 wd:=AT.out.below
 have BA:=Aside0.mk base
 clear base
 have lw:w0.heap.size<=W.heap.size:=H.out.below.size
 have LW:=Aside0.mk lw
 have bw:Below W.heap.size W wd\/True:=.inr trivial
 clear bw lw
 by_cases hn:n<0
 ·have n1:decide (n<0)=true:=decide_eq_true hn
  have en:hi n (-1) = -1:=by unfold hi;split<;>omega
  rw [en] at FI
  clear hn en
  go_upto_region 15 with (fail)
  clear a0 a1 a2 a3 a4 k5 g5 n1
  obtain ⟨w2,hw2⟩:∃ w2,w2=((wd.setCell ⟨W.heap.size,5,none⟩ (.int .i64 n)).setCell ⟨W.heap.size,5,none⟩ (.int .i64 (-1))):=⟨_,rfl⟩
  have f2:∀ k,k≠W.heap.size->w2.heap[k]? = wd.heap[k]?:=λk hk=>by rw [hw2];exact(Below.heap_setCell (wd.setCell ⟨W.heap.size,5,none⟩ (.int .i64 n)) ⟨W.heap.size,5,none⟩ (.int .i64 (-1)) k hk).trans (Below.heap_setCell wd ⟨W.heap.size,5,none⟩ (.int .i64 n) k hk)
  have s2:w2.heap.size=wd.heap.size:=by rw [hw2];simp only [size_set]
  have x4:w2.heap[W.heap.size]? = some (.cells #[Value.slice A0 r.b0.length c0,Value.int .i64 r.s0,Value.slice A1 r.b1.length c1,Value.int .i64 r.s1,Value.int .i64 r.room,Value.int .i64 (-1),Value.bool r.dead] 43 (0,0)):=by rw [hw2];exact XB.out
  have x6:=(f2 (W.heap.size+2) (by omega)).trans X6.out
  have b2:Below w0.heap.size w0 w2:=by rw [hw2];exact below_set (below_set BA.out LW.out) LW.out
  rw [<-hw2]
  clear hw2 X4 X5 X6
  have X4:=Aside0.mk x4
  have X6:=Aside0.mk x6
  have F2:=Aside0.mk f2
  have S2:=Aside0.mk s2
  have B2:=Aside0.mk b2
  clear x4 x6 f2 s2 b2
  have k0:=(blk_cell X4.out 0).trans (rfl:_=some (Value.slice A0 r.b0.length c0))
  have k1:=(blk_cell X4.out 1).trans (rfl:_=some (Value.int .i64 r.s0))
  have k2:=(blk_cell X4.out 2).trans (rfl:_=some (Value.slice A1 r.b1.length c1))
  have k3:=(blk_cell X4.out 3).trans (rfl:_=some (Value.int .i64 r.s1))
  have k4:=(blk_cell X4.out 4).trans (rfl:_=some (Value.int .i64 r.room))
  have k5:=(blk_cell X4.out 5).trans (rfl:_=some (Value.int .i64 (-1)))
  have k6:=(blk_cell X4.out 6).trans (rfl:_=some (Value.bool r.dead))
  have z0:=(blk_cell X6.out 0).trans (rfl:_=some (Value.slice none 0 0))
  have z1:=(blk_cell X6.out 1).trans (rfl:_=some (Value.int .i64 0))
  have z2:=(blk_cell X6.out 2).trans (rfl:_=some (Value.slice none 0 0))
  have z3:=(blk_cell X6.out 3).trans (rfl:_=some (Value.int .i64 0))
  have z4:=(blk_cell X6.out 4).trans (rfl:_=some (Value.int .i64 0))
  have z5:=(blk_cell X6.out 5).trans (rfl:_=some (Value.int .i64 0))
  have z6:=(blk_cell X6.out 6).trans (rfl:_=some (Value.bool false))
  have f0:=blk_frozen X6.out 0
  have f1:=blk_frozen X6.out 1
  have f2:=blk_frozen X6.out 2
  have f3:=blk_frozen X6.out 3
  have f4:=blk_frozen X6.out 4
  have f5:=blk_frozen X6.out 5
  have f6:=blk_frozen X6.out 6
  go_wp2_with (first|((with_reducible refine store_event (t:=43) (p:=6) rfl rfl rfl (w1:=(((((((w2.setCell ⟨W.heap.size+2,0,none⟩ (Value.slice A0 r.b0.length c0)).setCell ⟨W.heap.size+2,1,none⟩ (Value.int .i64 r.s0)).setCell ⟨W.heap.size+2,2,none⟩ (Value.slice A1 r.b1.length c1)).setCell ⟨W.heap.size+2,3,none⟩ (Value.int .i64 r.s1)).setCell ⟨W.heap.size+2,4,none⟩ (Value.int .i64 r.room)).setCell ⟨W.heap.size+2,5,none⟩ (Value.int .i64 (-1))).setCell ⟨W.heap.size+2,6,none⟩ (Value.bool r.dead))) ?hrun ?_);(case hrun=>first|(go_simp;done)|(go_simp;rfl));intro w7 hw7;have Y6:=Aside0.mk (show w7.heap[W.heap.size+2]? = some (.cells #[Value.slice A0 r.b0.length c0,Value.int .i64 r.s0,Value.slice A1 r.b1.length c1,Value.int .i64 r.s1,Value.int .i64 r.room,Value.int .i64 (-1),Value.bool r.dead] 43 (0,0)) by rw [hw7];exact(blk_put ((blk_put ((blk_put ((blk_put ((blk_put ((blk_put ((blk_put (X6.out) 0 (Value.slice A0 r.b0.length c0) rfl)) 1 (Value.int .i64 r.s0) rfl)) 2 (Value.slice A1 r.b1.length c1) rfl)) 3 (Value.int .i64 r.s1) rfl)) 4 (Value.int .i64 r.room) rfl)) 5 (Value.int .i64 (-1)) rfl)) 6 (Value.bool r.dead) rfl));have SZ7:=Aside0.mk (show w7.heap.size=w2.heap.size by rw [hw7];simp only [size_set]);have BB7:=Aside0.mk (show ∀ (x:World),Below x.heap.size x w2->x.heap.size<=W.heap.size+2->Below x.heap.size x w7 from λx hx hx2=>by rw [hw7];exact(below_set ((below_set ((below_set ((below_set ((below_set ((below_set ((below_set (hx) hx2)) hx2)) hx2)) hx2)) hx2)) hx2)) hx2));have CH7:=Aside0.mk (show ∀ k,k≠W.heap.size+2->w7.heap[k]? = w2.heap[k]? from λk hk=>by rw [hw7];exact((Below.heap_setCell ((((((w2.setCell ⟨W.heap.size+2,0,none⟩ (Value.slice A0 r.b0.length c0)).setCell ⟨W.heap.size+2,1,none⟩ (Value.int .i64 r.s0)).setCell ⟨W.heap.size+2,2,none⟩ (Value.slice A1 r.b1.length c1)).setCell ⟨W.heap.size+2,3,none⟩ (Value.int .i64 r.s1)).setCell ⟨W.heap.size+2,4,none⟩ (Value.int .i64 r.room)).setCell ⟨W.heap.size+2,5,none⟩ (Value.int .i64 (-1))) ⟨W.heap.size+2,6,none⟩ (Value.bool r.dead) k hk).trans (((Below.heap_setCell (((((w2.setCell ⟨W.heap.size+2,0,none⟩ (Value.slice A0 r.b0.length c0)).setCell ⟨W.heap.size+2,1,none⟩ (Value.int .i64 r.s0)).setCell ⟨W.heap.size+2,2,none⟩ (Value.slice A1 r.b1.length c1)).setCell ⟨W.heap.size+2,3,none⟩ (Value.int .i64 r.s1)).setCell ⟨W.heap.size+2,4,none⟩ (Value.int .i64 r.room)) ⟨W.heap.size+2,5,none⟩ (Value.int .i64 (-1)) k hk).trans (((Below.heap_setCell ((((w2.setCell ⟨W.heap.size+2,0,none⟩ (Value.slice A0 r.b0.length c0)).setCell ⟨W.heap.size+2,1,none⟩ (Value.int .i64 r.s0)).setCell ⟨W.heap.size+2,2,none⟩ (Value.slice A1 r.b1.length c1)).setCell ⟨W.heap.size+2,3,none⟩ (Value.int .i64 r.s1)) ⟨W.heap.size+2,4,none⟩ (Value.int .i64 r.room) k hk).trans (((Below.heap_setCell (((w2.setCell ⟨W.heap.size+2,0,none⟩ (Value.slice A0 r.b0.length c0)).setCell ⟨W.heap.size+2,1,none⟩ (Value.int .i64 r.s0)).setCell ⟨W.heap.size+2,2,none⟩ (Value.slice A1 r.b1.length c1)) ⟨W.heap.size+2,3,none⟩ (Value.int .i64 r.s1) k hk).trans (((Below.heap_setCell ((w2.setCell ⟨W.heap.size+2,0,none⟩ (Value.slice A0 r.b0.length c0)).setCell ⟨W.heap.size+2,1,none⟩ (Value.int .i64 r.s0)) ⟨W.heap.size+2,2,none⟩ (Value.slice A1 r.b1.length c1) k hk).trans (((Below.heap_setCell (w2.setCell ⟨W.heap.size+2,0,none⟩ (Value.slice A0 r.b0.length c0)) ⟨W.heap.size+2,1,none⟩ (Value.int .i64 r.s0) k hk).trans (((Below.heap_setCell w2 ⟨W.heap.size+2,0,none⟩ (Value.slice A0 r.b0.length c0) k hk).trans (rfl)))))))))))))));clear hw7;have rr0:=(blk_cell Y6.out 0).trans (rfl:_=some (Value.slice A0 r.b0.length c0));have rr1:=(blk_cell Y6.out 1).trans (rfl:_=some (Value.int .i64 r.s0));have rr2:=(blk_cell Y6.out 2).trans (rfl:_=some (Value.slice A1 r.b1.length c1));have rr3:=(blk_cell Y6.out 3).trans (rfl:_=some (Value.int .i64 r.s1));have rr4:=(blk_cell Y6.out 4).trans (rfl:_=some (Value.int .i64 r.room));have rr5:=(blk_cell Y6.out 5).trans (rfl:_=some (Value.int .i64 (-1)));have rr6:=(blk_cell Y6.out 6).trans (rfl:_=some (Value.bool r.dead))))
  refine bodyPost_ret (v:=.tuple #[.agg #[Value.slice A0 r.b0.length c0,Value.int .i64 r.s0,Value.slice A1 r.b1.length c1,Value.int .i64 r.s1,Value.int .i64 r.room,Value.int .i64 (-1),Value.bool r.dead],.bool true]) ?hres rfl ?_
  case hres =>
   simp only [results,rr0,rr1,rr2,rr3,rr4,rr5,rr6]
   first|rfl|(simp [rr0,rr1,rr2,rr3,rr4,rr5,rr6];done)|(go_simp;done)|(go_simp;rfl)
  have ch:=CH7.out
  have sz:=SZ7.out
  exact FI.out w2 B2.out S2.out F2.out trivial w7 sz ch (BB7.out w0 B2.out (by have:=LW.out;omega))
 ·have n1:decide (n<0)=false:=decide_eq_false hn
  have en:hi n (-1)=n:=by unfold hi;split<;>omega
  rw [en] at FI
  clear hn en
  go_upto_region 15 with (fail)
  clear a0 a1 a2 a3 a4 k5 g5 n1
  obtain ⟨w2,hw2⟩:∃ w2,w2=(wd.setCell ⟨W.heap.size,5,none⟩ (.int .i64 n)):=⟨_,rfl⟩
  have f2:∀ k,k≠W.heap.size->w2.heap[k]? = wd.heap[k]?:=λk hk=>by rw [hw2];exact Below.heap_setCell wd ⟨W.heap.size,5,none⟩ (.int .i64 n) k hk
  have s2:w2.heap.size=wd.heap.size:=by rw [hw2];simp only [size_set]
  have x4:w2.heap[W.heap.size]? = some (.cells #[Value.slice A0 r.b0.length c0,Value.int .i64 r.s0,Value.slice A1 r.b1.length c1,Value.int .i64 r.s1,Value.int .i64 r.room,Value.int .i64 (n),Value.bool r.dead] 43 (0,0)):=by rw [hw2];exact XA.out
  have x6:=(f2 (W.heap.size+2) (by omega)).trans X6.out
  have b2:Below w0.heap.size w0 w2:=by rw [hw2];exact below_set BA.out LW.out
  rw [<-hw2]
  clear hw2 X4 X5 X6
  have X4:=Aside0.mk x4
  have X6:=Aside0.mk x6
  have F2:=Aside0.mk f2
  have S2:=Aside0.mk s2
  have B2:=Aside0.mk b2
  clear x4 x6 f2 s2 b2
  have k0:=(blk_cell X4.out 0).trans (rfl:_=some (Value.slice A0 r.b0.length c0))
  have k1:=(blk_cell X4.out 1).trans (rfl:_=some (Value.int .i64 r.s0))
  have k2:=(blk_cell X4.out 2).trans (rfl:_=some (Value.slice A1 r.b1.length c1))
  have k3:=(blk_cell X4.out 3).trans (rfl:_=some (Value.int .i64 r.s1))
  have k4:=(blk_cell X4.out 4).trans (rfl:_=some (Value.int .i64 r.room))
  have k5:=(blk_cell X4.out 5).trans (rfl:_=some (Value.int .i64 (n)))
  have k6:=(blk_cell X4.out 6).trans (rfl:_=some (Value.bool r.dead))
  have z0:=(blk_cell X6.out 0).trans (rfl:_=some (Value.slice none 0 0))
  have z1:=(blk_cell X6.out 1).trans (rfl:_=some (Value.int .i64 0))
  have z2:=(blk_cell X6.out 2).trans (rfl:_=some (Value.slice none 0 0))
  have z3:=(blk_cell X6.out 3).trans (rfl:_=some (Value.int .i64 0))
  have z4:=(blk_cell X6.out 4).trans (rfl:_=some (Value.int .i64 0))
  have z5:=(blk_cell X6.out 5).trans (rfl:_=some (Value.int .i64 0))
  have z6:=(blk_cell X6.out 6).trans (rfl:_=some (Value.bool false))
  have f0:=blk_frozen X6.out 0
  have f1:=blk_frozen X6.out 1
  have f2:=blk_frozen X6.out 2
  have f3:=blk_frozen X6.out 3
  have f4:=blk_frozen X6.out 4
  have f5:=blk_frozen X6.out 5
  have f6:=blk_frozen X6.out 6
  go_wp2_with (first|((with_reducible refine store_event (t:=43) (p:=6) rfl rfl rfl (w1:=(((((((w2.setCell ⟨W.heap.size+2,0,none⟩ (Value.slice A0 r.b0.length c0)).setCell ⟨W.heap.size+2,1,none⟩ (Value.int .i64 r.s0)).setCell ⟨W.heap.size+2,2,none⟩ (Value.slice A1 r.b1.length c1)).setCell ⟨W.heap.size+2,3,none⟩ (Value.int .i64 r.s1)).setCell ⟨W.heap.size+2,4,none⟩ (Value.int .i64 r.room)).setCell ⟨W.heap.size+2,5,none⟩ (Value.int .i64 (n))).setCell ⟨W.heap.size+2,6,none⟩ (Value.bool r.dead))) ?hrun ?_);(case hrun=>first|(go_simp;done)|(go_simp;rfl));intro w7 hw7;have Y6:=Aside0.mk (show w7.heap[W.heap.size+2]? = some (.cells #[Value.slice A0 r.b0.length c0,Value.int .i64 r.s0,Value.slice A1 r.b1.length c1,Value.int .i64 r.s1,Value.int .i64 r.room,Value.int .i64 (n),Value.bool r.dead] 43 (0,0)) by rw [hw7];exact(blk_put ((blk_put ((blk_put ((blk_put ((blk_put ((blk_put ((blk_put (X6.out) 0 (Value.slice A0 r.b0.length c0) rfl)) 1 (Value.int .i64 r.s0) rfl)) 2 (Value.slice A1 r.b1.length c1) rfl)) 3 (Value.int .i64 r.s1) rfl)) 4 (Value.int .i64 r.room) rfl)) 5 (Value.int .i64 (n)) rfl)) 6 (Value.bool r.dead) rfl));have SZ7:=Aside0.mk (show w7.heap.size=w2.heap.size by rw [hw7];simp only [size_set]);have BB7:=Aside0.mk (show ∀ (x:World),Below x.heap.size x w2->x.heap.size<=W.heap.size+2->Below x.heap.size x w7 from λx hx hx2=>by rw [hw7];exact(below_set ((below_set ((below_set ((below_set ((below_set ((below_set ((below_set (hx) hx2)) hx2)) hx2)) hx2)) hx2)) hx2)) hx2));have CH7:=Aside0.mk (show ∀ k,k≠W.heap.size+2->w7.heap[k]? = w2.heap[k]? from λk hk=>by rw [hw7];exact((Below.heap_setCell ((((((w2.setCell ⟨W.heap.size+2,0,none⟩ (Value.slice A0 r.b0.length c0)).setCell ⟨W.heap.size+2,1,none⟩ (Value.int .i64 r.s0)).setCell ⟨W.heap.size+2,2,none⟩ (Value.slice A1 r.b1.length c1)).setCell ⟨W.heap.size+2,3,none⟩ (Value.int .i64 r.s1)).setCell ⟨W.heap.size+2,4,none⟩ (Value.int .i64 r.room)).setCell ⟨W.heap.size+2,5,none⟩ (Value.int .i64 (n))) ⟨W.heap.size+2,6,none⟩ (Value.bool r.dead) k hk).trans (((Below.heap_setCell (((((w2.setCell ⟨W.heap.size+2,0,none⟩ (Value.slice A0 r.b0.length c0)).setCell ⟨W.heap.size+2,1,none⟩ (Value.int .i64 r.s0)).setCell ⟨W.heap.size+2,2,none⟩ (Value.slice A1 r.b1.length c1)).setCell ⟨W.heap.size+2,3,none⟩ (Value.int .i64 r.s1)).setCell ⟨W.heap.size+2,4,none⟩ (Value.int .i64 r.room)) ⟨W.heap.size+2,5,none⟩ (Value.int .i64 (n)) k hk).trans (((Below.heap_setCell ((((w2.setCell ⟨W.heap.size+2,0,none⟩ (Value.slice A0 r.b0.length c0)).setCell ⟨W.heap.size+2,1,none⟩ (Value.int .i64 r.s0)).setCell ⟨W.heap.size+2,2,none⟩ (Value.slice A1 r.b1.length c1)).setCell ⟨W.heap.size+2,3,none⟩ (Value.int .i64 r.s1)) ⟨W.heap.size+2,4,none⟩ (Value.int .i64 r.room) k hk).trans (((Below.heap_setCell (((w2.setCell ⟨W.heap.size+2,0,none⟩ (Value.slice A0 r.b0.length c0)).setCell ⟨W.heap.size+2,1,none⟩ (Value.int .i64 r.s0)).setCell ⟨W.heap.size+2,2,none⟩ (Value.slice A1 r.b1.length c1)) ⟨W.heap.size+2,3,none⟩ (Value.int .i64 r.s1) k hk).trans (((Below.heap_setCell ((w2.setCell ⟨W.heap.size+2,0,none⟩ (Value.slice A0 r.b0.length c0)).setCell ⟨W.heap.size+2,1,none⟩ (Value.int .i64 r.s0)) ⟨W.heap.size+2,2,none⟩ (Value.slice A1 r.b1.length c1) k hk).trans (((Below.heap_setCell (w2.setCell ⟨W.heap.size+2,0,none⟩ (Value.slice A0 r.b0.length c0)) ⟨W.heap.size+2,1,none⟩ (Value.int .i64 r.s0) k hk).trans (((Below.heap_setCell w2 ⟨W.heap.size+2,0,none⟩ (Value.slice A0 r.b0.length c0) k hk).trans (rfl)))))))))))))));clear hw7;have rr0:=(blk_cell Y6.out 0).trans (rfl:_=some (Value.slice A0 r.b0.length c0));have rr1:=(blk_cell Y6.out 1).trans (rfl:_=some (Value.int .i64 r.s0));have rr2:=(blk_cell Y6.out 2).trans (rfl:_=some (Value.slice A1 r.b1.length c1));have rr3:=(blk_cell Y6.out 3).trans (rfl:_=some (Value.int .i64 r.s1));have rr4:=(blk_cell Y6.out 4).trans (rfl:_=some (Value.int .i64 r.room));have rr5:=(blk_cell Y6.out 5).trans (rfl:_=some (Value.int .i64 (n)));have rr6:=(blk_cell Y6.out 6).trans (rfl:_=some (Value.bool r.dead))))
  refine bodyPost_ret (v:=.tuple #[.agg #[Value.slice A0 r.b0.length c0,Value.int .i64 r.s0,Value.slice A1 r.b1.length c1,Value.int .i64 r.s1,Value.int .i64 r.room,Value.int .i64 (n),Value.bool r.dead],.bool true]) ?hres rfl ?_
  case hres =>
   simp only [results,rr0,rr1,rr2,rr3,rr4,rr5,rr6]
   first|rfl|(simp [rr0,rr1,rr2,rr3,rr4,rr5,rr6];done)|(go_simp;done)|(go_simp;rfl)
  have ch:=CH7.out
  have sz:=SZ7.out
  exact FI.out w2 B2.out S2.out F2.out trivial w7 sz ch (BB7.out w0 B2.out (by have:=LW.out;omega))
end
end Go.Proofs.Ytpahdlgpiecdkaa.Dsk
