/- a part -/
import Derived.Test.YtpahdlgpiecdkaaDkLaw
import Derived.Test.YtpahdlgpiecdkaaDkCrash
namespace Go.Proofs.Ytpahdlgpiecdkaa.Dsk
open Go.RowKit Go.Proofs.YtpahdlgpiecdkaaW.PrintWords Go.Proofs.YtpahdlgpiecdkaaW.PrintLast Go.Proofs.YtpahdlgpiecdkaaW.PrintMore Go.Proofs.Ytpahdlgpiecdkaa.Hand Go.Proofs.Ytpahdlgpiecdkaa.Cards Go.Proofs.Ytpahdlgpiecdkaa.PDk
set_option linter.unusedVariables false
set_option linter.unusedSimpArgs false
section
variable {w0 W W1 : World} {D E : Nat -> Prop} {d r : Dk} {A0 A1 : Option Addr} {c0 c1 g : Nat} {v0 v1 : Value}
set_option maxHeartbeats 8000000 in
set_option maxRecDepth 100000 in
theorem lawDo4 (h:Raw w0 W g v0 v1 D d) (X:Nat->Prop) (hX:∀ k,X k->k<W.heap.size) (hr:RawV W (λk=>D k\/X k) A0 A1 c0 c1 r) (hg:d.Good) (hgr:r.Good) (i n:Int) (B K:Option Addr) (mb cb mk ck:Nat) (b keep:List Int) (hmb:mb=b.length) (hcb:mb<=cb) (hB:Kd.F U8 W (λk=>¬ (D k\/X k)) B mb b) (hmx:mb<=140737488355328) (hmk:mk=keep.length) (hK:Kd.F (Kd.int .i64) W (λk=>¬ (D k\/X k)) K mk keep) :
  Calls Try.prog 18 #[.pointer (some ⟨g,0,none⟩),.agg #[.slice A0 r.b0.length c0,.int .i64 r.s0,.slice A1 r.b1.length c1,.int .i64 r.s1,.int .i64 r.room,.int .i64 r.stop,.bool r.dead],.agg #[.int .i64 4,.int .i64 i,.slice B mb cb,.int .i64 n,.slice K mk ck]] W λe w'=>∃ v t,e = .returned (.tuple #[v,.bool t])/\∃ D',At w0 w' g D' (d.doing 4 i b n keep)/\Is w' (λk=>D' k\/X k) v (r.doing 4 i b n keep)/\Step W w' D D':=by
 have H:=Aside0.mk h
 have HR:=Aside0.mk hr
 have HXX:=Aside0.mk hX
 have HG:=Aside0.mk hg
 have HGR:=Aside0.mk hgr
 have HBB:=Aside0.mk hB
 have HKK:=Aside0.mk hK
 have HMB:=Aside0.mk hmb
 have HMK:=Aside0.mk hmk
 clear h hr hg hgr hB hK hmb hmk hX
 go_enter Try.func18,Try.ntmps18
 go_upto_region 4 with (fail)
 have hb:Below W.heap.size W (((W.alloc (.cells #[.slice A0 r.b0.length c0,.int .i64 r.s0,.slice A1 r.b1.length c1,.int .i64 r.s1,.int .i64 r.room,.int .i64 r.stop,.bool r.dead] 43)).alloc (.cells #[.int .i64 4,.int .i64 i,.slice B mb cb,.int .i64 n,.slice K mk ck] 49)).alloc (.cells #[.slice none 0 0,.int .i64 0,.slice none 0 0,.int .i64 0,.int .i64 0,.int .i64 0,.bool false] 43)):=below_alloc (below_alloc (below_alloc (Below.refl _ _) _) _) _
 have s1:(W.alloc (.cells #[.slice A0 r.b0.length c0,.int .i64 r.s0,.slice A1 r.b1.length c1,.int .i64 r.s1,.int .i64 r.room,.int .i64 r.stop,.bool r.dead] 43)).heap.size=W.heap.size+1:=by simp
 have s2:((W.alloc (.cells #[.slice A0 r.b0.length c0,.int .i64 r.s0,.slice A1 r.b1.length c1,.int .i64 r.s1,.int .i64 r.room,.int .i64 r.stop,.bool r.dead] 43)).alloc (.cells #[.int .i64 4,.int .i64 i,.slice B mb cb,.int .i64 n,.slice K mk ck] 49)).heap.size=W.heap.size+2:=by simp
 have x4:(((W.alloc (.cells #[.slice A0 r.b0.length c0,.int .i64 r.s0,.slice A1 r.b1.length c1,.int .i64 r.s1,.int .i64 r.room,.int .i64 r.stop,.bool r.dead] 43)).alloc (.cells #[.int .i64 4,.int .i64 i,.slice B mb cb,.int .i64 n,.slice K mk ck] 49)).alloc (.cells #[.slice none 0 0,.int .i64 0,.slice none 0 0,.int .i64 0,.int .i64 0,.int .i64 0,.bool false] 43)).heap[W.heap.size]? = some (.cells #[.slice A0 r.b0.length c0,.int .i64 r.s0,.slice A1 r.b1.length c1,.int .i64 r.s1,.int .i64 r.room,.int .i64 r.stop,.bool r.dead] 43 (0,0)):=blk_below (heap_alloc_new W _) (below_alloc (below_alloc (Below.refl _ _) _) _)
 have x5:(((W.alloc (.cells #[.slice A0 r.b0.length c0,.int .i64 r.s0,.slice A1 r.b1.length c1,.int .i64 r.s1,.int .i64 r.room,.int .i64 r.stop,.bool r.dead] 43)).alloc (.cells #[.int .i64 4,.int .i64 i,.slice B mb cb,.int .i64 n,.slice K mk ck] 49)).alloc (.cells #[.slice none 0 0,.int .i64 0,.slice none 0 0,.int .i64 0,.int .i64 0,.int .i64 0,.bool false] 43)).heap[W.heap.size+1]? = some (.cells #[.int .i64 4,.int .i64 i,.slice B mb cb,.int .i64 n,.slice K mk ck] 49 (0,0)):=by have h_:=blk_below (heap_alloc_new (W.alloc (.cells #[.slice A0 r.b0.length c0,.int .i64 r.s0,.slice A1 r.b1.length c1,.int .i64 r.s1,.int .i64 r.room,.int .i64 r.stop,.bool r.dead] 43)) (.cells #[.int .i64 4,.int .i64 i,.slice B mb cb,.int .i64 n,.slice K mk ck] 49)) (below_alloc (Below.refl _ _) (.cells #[.slice none 0 0,.int .i64 0,.slice none 0 0,.int .i64 0,.int .i64 0,.int .i64 0,.bool false] 43));rwa [s1] at h_
 have x6:(((W.alloc (.cells #[.slice A0 r.b0.length c0,.int .i64 r.s0,.slice A1 r.b1.length c1,.int .i64 r.s1,.int .i64 r.room,.int .i64 r.stop,.bool r.dead] 43)).alloc (.cells #[.int .i64 4,.int .i64 i,.slice B mb cb,.int .i64 n,.slice K mk ck] 49)).alloc (.cells #[.slice none 0 0,.int .i64 0,.slice none 0 0,.int .i64 0,.int .i64 0,.int .i64 0,.bool false] 43)).heap[W.heap.size+2]? = some (.cells #[.slice none 0 0,.int .i64 0,.slice none 0 0,.int .i64 0,.int .i64 0,.int .i64 0,.bool false] 43 (0,0)):=by have h_:=heap_alloc_new ((W.alloc (.cells #[.slice A0 r.b0.length c0,.int .i64 r.s0,.slice A1 r.b1.length c1,.int .i64 r.s1,.int .i64 r.room,.int .i64 r.stop,.bool r.dead] 43)).alloc (.cells #[.int .i64 4,.int .i64 i,.slice B mb cb,.int .i64 n,.slice K mk ck] 49)) (.cells #[.slice none 0 0,.int .i64 0,.slice none 0 0,.int .i64 0,.int .i64 0,.int .i64 0,.bool false] 43);rwa [s2] at h_
 have HB:=Aside0.mk hb
 have X4:=Aside0.mk x4
 have X5:=Aside0.mk x5
 have X6:=Aside0.mk x6
 clear hb x4 x5 x6 s1 s2
 generalize (((W.alloc (.cells #[.slice A0 r.b0.length c0,.int .i64 r.s0,.slice A1 r.b1.length c1,.int .i64 r.s1,.int .i64 r.room,.int .i64 r.stop,.bool r.dead] 43)).alloc (.cells #[.int .i64 4,.int .i64 i,.slice B mb cb,.int .i64 n,.slice K mk ck] 49)).alloc (.cells #[.slice none 0 0,.int .i64 0,.slice none 0 0,.int .i64 0,.int .i64 0,.int .i64 0,.bool false] 43))=w1 at HB X4 X5 X6 ⊢
 rw [show W.heap.size+1+1=W.heap.size+2 from rfl]
 have a0:=(blk_cell X5.out 0).trans (rfl:_=some (Value.int .i64 4))
 have a1:=(blk_cell X5.out 1).trans (rfl:_=some (Value.int .i64 i))
 have a2:=(blk_cell X5.out 2).trans (rfl:_=some (Value.slice B mb cb))
 have a3:=(blk_cell X5.out 3).trans (rfl:_=some (Value.int .i64 n))
 have a4:=(blk_cell X5.out 4).trans (rfl:_=some (Value.slice K mk ck))
 have hcl:=crash_calls (H.out.on HB.out) HG.out K mk ck keep HMK.out (Kd.F_mono (Kd.F_below HKK.out HB.out) (λk hk q=>hk (.inl q)))
 have HCL:=Aside0.mk hcl
 clear hcl
 go_upto_region 18 with (first|(go_at_call 19;(with_reducible refine Calls.mono HCL.out ?_);rintro e wd ⟨rfl,D1,hat,hst⟩;have AT:=Aside0.mk hat;have HS:=Aside0.mk ((Step.of_below HB.out).trans hst);have nD:∀ k,D k->k<W.heap.size:=H.out.lt;have x4:=(hst.blk X4.out (λq=>by have:=nD _ q;omega)).1;have x5:=(hst.blk X5.out (λq=>by have:=nD _ q;omega)).1;have x6:=(hst.blk X6.out (λq=>by have:=nD _ q;omega)).1;have ND:=Aside0.mk (hst.blk X6.out (λq=>by have:=nD _ q;omega)).2;clear X4 X5 X6 a0 a1 a2 a3 a4 nD hat hst;have X4:=Aside0.mk x4;have X5:=Aside0.mk x5;have X6:=Aside0.mk x6;clear x4 x5 x6 HCL))
 have lt6:=Aside0.mk (blk_lt X6.out)
 obtain ⟨E,hE⟩:∃ E:Nat->Prop,E=λk=>D1 k\/X k\/(W.heap.size<=k/\k<W.heap.size+3):=⟨_,rfl⟩
 have vE:RawV wd E A0 A1 c0 c1 r:=by rw [hE];exact HR.out.wide HS.out
 have kE:Kd.F (Kd.int .i64) wd (λk=>¬ E k) K mk keep:=by rw [hE];exact foot_wide HKK.out HS.out
 have ltE:∀ k,E k->k<wd.heap.size:=λk hk=>by
  rw [hE] at hk
  rcases hk with h1|h1|h1
  ·exact AT.out.lt k h1
  ·have:=HXX.out k h1;have:=lt6.out;omega
  ·have:=lt6.out;omega
 have hDo:=Aside0.mk (refCrash_calls vE ltE HGR.out K mk ck keep HMK.out kE)
 have HE:=Aside0.mk hE
 clear hE vE kE ltE
 have k0:=(blk_cell X4.out 0).trans (rfl:_=some (Value.slice A0 r.b0.length c0))
 have k1:=(blk_cell X4.out 1).trans (rfl:_=some (Value.int .i64 r.s0))
 have k2:=(blk_cell X4.out 2).trans (rfl:_=some (Value.slice A1 r.b1.length c1))
 have k3:=(blk_cell X4.out 3).trans (rfl:_=some (Value.int .i64 r.s1))
 have k4:=(blk_cell X4.out 4).trans (rfl:_=some (Value.int .i64 r.room))
 have k5:=(blk_cell X4.out 5).trans (rfl:_=some (Value.int .i64 r.stop))
 have k6:=(blk_cell X4.out 6).trans (rfl:_=some (Value.bool r.dead))
 have a0:=(blk_cell X5.out 0).trans (rfl:_=some (Value.int .i64 4))
 have a1:=(blk_cell X5.out 1).trans (rfl:_=some (Value.int .i64 i))
 have a2:=(blk_cell X5.out 2).trans (rfl:_=some (Value.slice B mb cb))
 have a3:=(blk_cell X5.out 3).trans (rfl:_=some (Value.int .i64 n))
 have a4:=(blk_cell X5.out 4).trans (rfl:_=some (Value.slice K mk ck))
 go_wp2_with (first|(go_at_call 32;(with_reducible refine Calls.mono hDo.out ?_);rintro e w5 ⟨vv,rfl,his,hb⟩;obtain ⟨P0,P1,p0,p1,ev,hv⟩:=his;obtain ⟨r1,hr1⟩:∃ r1,r1=r.crash keep:=⟨_,rfl⟩;rw [<-hr1] at ev hv;subst ev;have HV:=Aside0.mk hv;have R1:=Aside0.mk hr1;clear hv hr1 k0 k1 k2 k3 k4 k5 k6 a0 a1 a2 a3 a4 hDo;have x4:=blk_below X4.out hb;have x5:=blk_below X5.out hb;have x6:=blk_below X6.out hb;have at2:=AT.out.on hb;have hs2:=HS.out.trans (Step.of_below hb);clear X4 X5 X6 AT HS;have X4:=Aside0.mk x4;have X5:=Aside0.mk x5;have X6:=Aside0.mk x6;have AT:=Aside0.mk at2;have HS:=Aside0.mk hs2;clear x4 x5 x6 at2 hs2 hb;have lt6':=Aside0.mk (blk_lt X6.out);have z0:=(blk_cell X6.out 0).trans (rfl:_=some (Value.slice none 0 0));have z1:=(blk_cell X6.out 1).trans (rfl:_=some (Value.int .i64 0));have z2:=(blk_cell X6.out 2).trans (rfl:_=some (Value.slice none 0 0));have z3:=(blk_cell X6.out 3).trans (rfl:_=some (Value.int .i64 0));have z4:=(blk_cell X6.out 4).trans (rfl:_=some (Value.int .i64 0));have z5:=(blk_cell X6.out 5).trans (rfl:_=some (Value.int .i64 0));have z6:=(blk_cell X6.out 6).trans (rfl:_=some (Value.bool false));have f0:=blk_frozen X6.out 0;have f1:=blk_frozen X6.out 1;have f2:=blk_frozen X6.out 2;have f3:=blk_frozen X6.out 3;have f4:=blk_frozen X6.out 4;have f5:=blk_frozen X6.out 5;have f6:=blk_frozen X6.out 6)|((with_reducible refine store_event (t:=43) (p:=6) rfl rfl rfl (w1:=(((((((w5.setCell ⟨W.heap.size+2,0,none⟩ (Value.slice P0 r1.b0.length p0)).setCell ⟨W.heap.size+2,1,none⟩ (Value.int .i64 r1.s0)).setCell ⟨W.heap.size+2,2,none⟩ (Value.slice P1 r1.b1.length p1)).setCell ⟨W.heap.size+2,3,none⟩ (Value.int .i64 r1.s1)).setCell ⟨W.heap.size+2,4,none⟩ (Value.int .i64 r1.room)).setCell ⟨W.heap.size+2,5,none⟩ (Value.int .i64 r1.stop)).setCell ⟨W.heap.size+2,6,none⟩ (Value.bool r1.dead))) ?hrun ?_);(case hrun=>first|(go_simp;done)|(go_simp;rfl));intro w7 hw7;have Y6:=Aside0.mk (show w7.heap[W.heap.size+2]? = some (.cells #[Value.slice P0 r1.b0.length p0,Value.int .i64 r1.s0,Value.slice P1 r1.b1.length p1,Value.int .i64 r1.s1,Value.int .i64 r1.room,Value.int .i64 r1.stop,Value.bool r1.dead] 43 (0,0)) by rw [hw7];exact(blk_put ((blk_put ((blk_put ((blk_put ((blk_put ((blk_put ((blk_put (X6.out) 0 (Value.slice P0 r1.b0.length p0) rfl)) 1 (Value.int .i64 r1.s0) rfl)) 2 (Value.slice P1 r1.b1.length p1) rfl)) 3 (Value.int .i64 r1.s1) rfl)) 4 (Value.int .i64 r1.room) rfl)) 5 (Value.int .i64 r1.stop) rfl)) 6 (Value.bool r1.dead) rfl));have SZ7:=Aside0.mk (show w7.heap.size=w5.heap.size by rw [hw7];simp only [size_set]);have BB7:=Aside0.mk (show ∀ (x:World),Below x.heap.size x w5->x.heap.size<=W.heap.size+2->Below x.heap.size x w7 from λx hx hx2=>by rw [hw7];exact(below_set ((below_set ((below_set ((below_set ((below_set ((below_set ((below_set (hx) hx2)) hx2)) hx2)) hx2)) hx2)) hx2)) hx2));have CH7:=Aside0.mk (show ∀ k,k≠W.heap.size+2->w7.heap[k]? = w5.heap[k]? from λk hk=>by rw [hw7];exact((Below.heap_setCell ((((((w5.setCell ⟨W.heap.size+2,0,none⟩ (Value.slice P0 r1.b0.length p0)).setCell ⟨W.heap.size+2,1,none⟩ (Value.int .i64 r1.s0)).setCell ⟨W.heap.size+2,2,none⟩ (Value.slice P1 r1.b1.length p1)).setCell ⟨W.heap.size+2,3,none⟩ (Value.int .i64 r1.s1)).setCell ⟨W.heap.size+2,4,none⟩ (Value.int .i64 r1.room)).setCell ⟨W.heap.size+2,5,none⟩ (Value.int .i64 r1.stop)) ⟨W.heap.size+2,6,none⟩ (Value.bool r1.dead) k hk).trans (((Below.heap_setCell (((((w5.setCell ⟨W.heap.size+2,0,none⟩ (Value.slice P0 r1.b0.length p0)).setCell ⟨W.heap.size+2,1,none⟩ (Value.int .i64 r1.s0)).setCell ⟨W.heap.size+2,2,none⟩ (Value.slice P1 r1.b1.length p1)).setCell ⟨W.heap.size+2,3,none⟩ (Value.int .i64 r1.s1)).setCell ⟨W.heap.size+2,4,none⟩ (Value.int .i64 r1.room)) ⟨W.heap.size+2,5,none⟩ (Value.int .i64 r1.stop) k hk).trans (((Below.heap_setCell ((((w5.setCell ⟨W.heap.size+2,0,none⟩ (Value.slice P0 r1.b0.length p0)).setCell ⟨W.heap.size+2,1,none⟩ (Value.int .i64 r1.s0)).setCell ⟨W.heap.size+2,2,none⟩ (Value.slice P1 r1.b1.length p1)).setCell ⟨W.heap.size+2,3,none⟩ (Value.int .i64 r1.s1)) ⟨W.heap.size+2,4,none⟩ (Value.int .i64 r1.room) k hk).trans (((Below.heap_setCell (((w5.setCell ⟨W.heap.size+2,0,none⟩ (Value.slice P0 r1.b0.length p0)).setCell ⟨W.heap.size+2,1,none⟩ (Value.int .i64 r1.s0)).setCell ⟨W.heap.size+2,2,none⟩ (Value.slice P1 r1.b1.length p1)) ⟨W.heap.size+2,3,none⟩ (Value.int .i64 r1.s1) k hk).trans (((Below.heap_setCell ((w5.setCell ⟨W.heap.size+2,0,none⟩ (Value.slice P0 r1.b0.length p0)).setCell ⟨W.heap.size+2,1,none⟩ (Value.int .i64 r1.s0)) ⟨W.heap.size+2,2,none⟩ (Value.slice P1 r1.b1.length p1) k hk).trans (((Below.heap_setCell (w5.setCell ⟨W.heap.size+2,0,none⟩ (Value.slice P0 r1.b0.length p0)) ⟨W.heap.size+2,1,none⟩ (Value.int .i64 r1.s0) k hk).trans (((Below.heap_setCell w5 ⟨W.heap.size+2,0,none⟩ (Value.slice P0 r1.b0.length p0) k hk).trans (rfl)))))))))))))));clear hw7;have rr0:=(blk_cell Y6.out 0).trans (rfl:_=some (Value.slice P0 r1.b0.length p0));have rr1:=(blk_cell Y6.out 1).trans (rfl:_=some (Value.int .i64 r1.s0));have rr2:=(blk_cell Y6.out 2).trans (rfl:_=some (Value.slice P1 r1.b1.length p1));have rr3:=(blk_cell Y6.out 3).trans (rfl:_=some (Value.int .i64 r1.s1));have rr4:=(blk_cell Y6.out 4).trans (rfl:_=some (Value.int .i64 r1.room));have rr5:=(blk_cell Y6.out 5).trans (rfl:_=some (Value.int .i64 r1.stop));have rr6:=(blk_cell Y6.out 6).trans (rfl:_=some (Value.bool r1.dead))))
 refine bodyPost_ret (v:=.tuple #[.agg #[Value.slice P0 r1.b0.length p0,Value.int .i64 r1.s0,Value.slice P1 r1.b1.length p1,Value.int .i64 r1.s1,Value.int .i64 r1.room,Value.int .i64 r1.stop,Value.bool r1.dead],.bool true]) ?hres rfl ?_
 case hres =>
  simp only [results,rr0,rr1,rr2,rr3,rr4,rr5,rr6]
  first|rfl|(simp [rr0,rr1,rr2,rr3,rr4,rr5,rr6];done)|(go_simp;done)|(go_simp;rfl)
 have ch:=CH7.out
 have sz:=SZ7.out
 have er1:r1=r.doing 4 i b n keep:=by rw [R1.out];unfold Dk.doing;rw [if_neg (by omega),if_neg (by omega),if_pos rfl]
 have he:=HE.out
 have hs6:=HS.out
 have l6:=lt6'.out
 obtain ⟨q0,q1,hraw⟩:=AT.out
 have nd:∀ k,D1 k->k≠W.heap.size+2:=λk hk e=>ND.out (e ▸ hk)
 refine ⟨_,_,rfl,D1,⟨q0,q1,hraw.move (BB7.out w0 hraw.below (by have:=H.out.below.size;omega)) (by omega) (λk hk=>ch k (nd k hk))⟩,⟨P0,P1,p0,p1,by rw [<-er1],by rw [<-er1];exact((HV.out.move (λk hk _=>ch k (λe=>hk (by rw [he,e];exact .inr (.inr ⟨by omega,by omega⟩))))).mono (λk hk=>by rw [he];exact hk.imp id .inl))⟩,⟨by have:=hs6.size;omega,λk hk hd=>(ch k (by omega)).trans (hs6.block k hk hd),hs6.new⟩⟩
theorem lawDoAll (h:Raw w0 W g v0 v1 D d) (X:Nat->Prop) (hX:∀ k,X k->k<W.heap.size) (hr:RawV W (λk=>D k\/X k) A0 A1 c0 c1 r) (hg:d.Good) (hgr:r.Good) (i n:Int) (B K:Option Addr) (mb cb mk ck:Nat) (b keep:List Int) (hmb:mb=b.length) (hcb:mb<=cb) (hB:Kd.F U8 W (λk=>¬ (D k\/X k)) B mb b) (hmx:mb<=140737488355328) (hmk:mk=keep.length) (hK:Kd.F (Kd.int .i64) W (λk=>¬ (D k\/X k)) K mk keep) (o:Int) :
  Calls Try.prog 18 #[.pointer (some ⟨g,0,none⟩),.agg #[.slice A0 r.b0.length c0,.int .i64 r.s0,.slice A1 r.b1.length c1,.int .i64 r.s1,.int .i64 r.room,.int .i64 r.stop,.bool r.dead],.agg #[.int .i64 o,.int .i64 i,.slice B mb cb,.int .i64 n,.slice K mk ck]] W λe w'=>∃ v t,e = .returned (.tuple #[v,.bool t])/\∃ D',At w0 w' g D' (d.doing o i b n keep)/\Is w' (λk=>D' k\/X k) v (r.doing o i b n keep)/\Step W w' D D':=by
 have co:o=0\/o=1\/o=2\/o=3\/o=4\/(o<0\/5<=o):=by omega
 rcases co with rfl|rfl|rfl|rfl|rfl|ho2
 ·exact lawDo0 h X hX hr hg hgr i n B K mb cb mk ck b keep hmb hcb hB hmx hmk hK
 ·exact lawDo1 h X hX hr hg hgr i n B K mb cb mk ck b keep hmb hcb hB hmx hmk hK
 ·exact lawDo2 h X hX hr hg hgr i n B K mb cb mk ck b keep hmb hcb hB hmx hmk hK
 ·exact lawDo3 h X hX hr hg hgr i n B K mb cb mk ck b keep hmb hcb hB hmx hmk hK
 ·exact lawDo4 h X hX hr hg hgr i n B K mb cb mk ck b keep hmb hcb hB hmx hmk hK
 ·exact lawDoX h X hX hr hg hgr i n B K mb cb mk ck b keep hmb hcb hB hmx hmk hK o ho2
end
end Go.Proofs.Ytpahdlgpiecdkaa.Dsk
