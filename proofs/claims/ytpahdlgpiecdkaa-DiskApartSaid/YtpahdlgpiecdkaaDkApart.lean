/- a part -/
import Derived.Test.YtpahdlgpiecdkaaDkLaw
import Derived.Test.YtpahdlgpiecdkaaDkAwake
namespace Go.Proofs.Ytpahdlgpiecdkaa.Dsk
open Go.RowKit Go.Proofs.YtpahdlgpiecdkaaW.PrintWords Go.Proofs.YtpahdlgpiecdkaaW.PrintLast Go.Proofs.YtpahdlgpiecdkaaW.PrintMore Go.Proofs.Ytpahdlgpiecdkaa.Hand Go.Proofs.Ytpahdlgpiecdkaa.Cards Go.Proofs.Ytpahdlgpiecdkaa.PDk
set_option linter.unusedVariables false
set_option linter.unusedSimpArgs false
section
variable {w0 W W1 : World} {D E : Nat -> Prop} {d r : Dk} {A0 A1 : Option Addr} {c0 c1 g : Nat} {v0 v1 : Value}
theorem bytes_from (l:List Int) (hl:l.length<=9223372036854775806):∀ (d i:Nat),i+d=l.length->r02_Bytes.l0 (d+1) l l (i:Int)=some true
 | 0,i,h=>by
  unfold r02_Bytes.l0
  rw [if_neg (by omega)]
 | d+1,i,h=>by
  unfold r02_Bytes.l0
  rw [if_pos (by omega),if_pos (by omega),if_pos (by omega),if_pos rfl,show wrap64 ((i:Int)+1)=((i+1:Nat):Int) by unfold wrap64;omega]
  exact bytes_from l hl d (i+1) (by omega)
theorem bytes_same (l:List Int) (hl:l.length<=9223372036854775806):r02_Bytes.f (l.length+1) l l=some true:=by
 unfold r02_Bytes.f
 rw [if_pos rfl]
 exact bytes_from l hl l.length 0 (by omega)
theorem light_from (l:List S49) (hl:l.length<=9223372036854775806):∀ (d i:Nat),i+d=l.length->∃ r,w06_Light.l0 (2*d+2) l (i:Int)=some r
 | 0,i,h=>by
  unfold w06_Light.l0
  rw [if_neg (by omega)]
  unfold w06_Light.j1
  exact ⟨_,rfl⟩
 | d+1,i,h=>by
  rw [show 2*(d+1)+2=(2*d+2)+1+1 by omega]
  unfold w06_Light.l0
  rw [if_pos (by omega)]
  unfold w06_Light.j1
  split
  ·rw [if_pos (by omega),if_pos (by omega)]
   split
   ·exact ⟨_,rfl⟩
   ·split
    ·exact ⟨_,rfl⟩
    ·rw [show wrap64 ((i:Int)+1)=((i+1:Nat):Int) by unfold wrap64;omega]
     exact light_from l hl d (i+1) (by omega)
  ·exact ⟨_,rfl⟩
theorem light_some (l:List S49) (hl:l.length<=9223372036854775806):∃ r,w06_Light.f (2*l.length+2) l=some r:=light_from l hl l.length 0 (by omega)
theorem lawDoLow (h:Raw w0 W g v0 v1 D d) (X:Nat->Prop) (hX:∀ k,X k->k<W.heap.size) (hr:RawV W (λk=>D k\/X k) A0 A1 c0 c1 r) (hg:d.Good) (hgr:r.Good) (i n:Int) (B K:Option Addr) (mb cb mk ck:Nat) (b keep:List Int) (hmb:mb=b.length) (hcb:mb<=cb) (hB:Kd.F U8 W (λk=>¬ (D k\/X k)) B mb b) (hmx:mb<=140737488355328) (hmk:mk=keep.length) (hK:Kd.F (Kd.int .i64) W (λk=>¬ (D k\/X k)) K mk keep) (o:Int) (ho:o<3) :
  Calls Try.prog 18 #[.pointer (some ⟨g,0,none⟩),.agg #[.slice A0 r.b0.length c0,.int .i64 r.s0,.slice A1 r.b1.length c1,.int .i64 r.s1,.int .i64 r.room,.int .i64 r.stop,.bool r.dead],.agg #[.int .i64 o,.int .i64 i,.slice B mb cb,.int .i64 n,.slice K mk ck]] W λe w'=>∃ v t,e = .returned (.tuple #[v,.bool t])/\∃ D',At w0 w' g D' (d.doing o i b n keep)/\Is w' (λk=>D' k\/X k) v (r.doing o i b n keep)/\Step W w' D D':=by
 have co:o=0\/o=1\/o=2\/o<0:=by omega
 rcases co with rfl|rfl|rfl|ho2
 ·exact lawDo0 h X hX hr hg hgr i n B K mb cb mk ck b keep hmb hcb hB hmx hmk hK
 ·exact lawDo1 h X hX hr hg hgr i n B K mb cb mk ck b keep hmb hcb hB hmx hmk hK
 ·exact lawDo2 h X hX hr hg hgr i n B K mb cb mk ck b keep hmb hcb hB hmx hmk hK
 ·exact lawDoX h X hX hr hg hgr i n B K mb cb mk ck b keep hmb hcb hB hmx hmk hK o (.inl ho2)
structure Inv (d:Dk) (j:Int):Prop where
 good:d.Good
 stop:d.stop = -1
 dead:d.dead=false
 row:d.row j=[5,6]
theorem Inv.doing {d:Dk} {i j:Int} (h:Inv d j) (hij:¬ (i=0↔j=0)) {o:Int} (ho:o<3) (b:List Int) (n:Int) (keep:List Int):Inv (d.doing o i b n keep) j:=by
 have hr:=Dk.row_doing (d:=d) (o:=o) (i:=i) (c:=b) (n:=n) (keep:=keep) ho hij
 have hs:=h.stop
 rcases hr with hr|hr
 ·exact ⟨h.good.doing o i b n keep,Dk.stop_doing ho h.stop,hr.2.trans h.dead,hr.1.trans h.row⟩
 ·omega
theorem inv_start (j:Int) (hj:j=0\/j=1):Inv ((Dk.new 3000).app j [5,6]).1 j:=by
 have g:=(Dk.good_new (room:=3000) (by decide) (by decide)).app j [5,6]
 rcases hj with rfl|rfl
 ·exact ⟨g,by decide +kernel,by decide +kernel,by decide +kernel⟩
 ·exact ⟨g,by decide +kernel,by decide +kernel,by decide +kernel⟩
structure Loop (w1 wr:World) (g b8:Nat) (d r:Dk):Prop where
 ex:∃ D P0 P1 p0 p1,At w1 wr g D d/\wr.heap[b8]? = some (.cells #[.slice P0 r.b0.length p0,.int .i64 r.s0,.slice P1 r.b1.length p1,.int .i64 r.s1,.int .i64 r.room,.int .i64 r.stop,.bool r.dead] 43 (0,0))/\¬ D b8/\w1.heap.size<=b8/\RawV wr (λk=>D k\/k=b8) P0 P1 p0 p1 r
theorem Loop.on {w1 wr w2:World} {b8:Nat} (h:Loop w1 wr g b8 d r) (hb:Below wr.heap.size wr w2):Loop w1 w2 g b8 d r:=by
 obtain ⟨D,P0,P1,p0,p1,h1,h2,h3,h4,h5⟩:=h.ex
 exact ⟨D,P0,P1,p0,p1,h1.on hb,blk_below h2 hb,h3,h4,h5.step (Step.of_below hb)⟩
theorem Loop.below {w1 wr:World} {b8:Nat} (h:Loop w1 wr g b8 d r):Below w1.heap.size w1 wr:=by
 obtain ⟨D,P0,P1,p0,p1,h1,h2,h3,h4,h5⟩:=h.ex
 exact h1.below
set_option maxHeartbeats 16000000 in
set_option maxRecDepth 100000 in
theorem apart0_calls (AL:Option Addr) (cl:Nat) (l0:List S49) (w:World) (hr0:Kd.C k49 w AL l0.length l0) (hc0:l0.length<=cl) (hl:l0.length<=9223372036854775806) (hb0:∀ x ∈ l0,x.f2.length<=140737488355328) :
  Calls Try.prog 8 #[.slice AL l0.length cl,.bool false] w λe w'=>e = .returned (.bool true)/\Below w.heap.size w w':=by
 obtain ⟨lr,hlr⟩:=light_some l0 hl
 have hL:=w06_Light.calls _ AL cl l0 lr w hr0 hc0 hlr
 have HL:=Aside0.mk hL
 have HR:=Aside0.mk hr0
 have HLE:=Aside0.mk hb0
 clear hL hlr hr0 hb0
 go_enter Try.func8,Try.ntmps8
 cases lr with
 | false =>
  go_wp2_with (first|(go_at_call 14;(with_reducible refine Calls.mono HL.out ?_);rintro e w1 ⟨rfl,hd⟩;have HB:=Aside0.mk hd.below;clear hd)|(go_at_call 15;refine(awake_calls _).mono ?_;rintro e w2 ⟨rfl,hb⟩;have HB2:=Aside0.mk (below_step HB.out hb);clear hb))
  go_ret
  exact ⟨rfl,HB2.out⟩
 | true =>
 go_upto_region 9 with (first|(go_at_call 14;(with_reducible refine Calls.mono HL.out ?_);rintro e w1 ⟨rfl,hd⟩;have HB:=Aside0.mk hd.below;clear hd)|(go_at_call 16;refine(new_calls 3000 (by decide) (by decide) w1).mono ?_;rintro e w2 ⟨g,rfl,⟨D,hat⟩,hb⟩;have AT:=Aside0.mk hat;clear hat hb))
 have at1:=AT.out.on (below_alloc (Below.refl w2.heap.size w2) (.cells (nums .u8 [5,6]).toArray 5))
 obtain ⟨q0,q1,hraw⟩:=at1
 have hc:Calls Try.prog 20 #[.pointer (some ⟨g,0,none⟩),.int .i64 1,.slice (some ⟨w2.heap.size,0,none⟩) 2 2] (w2.alloc (.cells #[.int .u8 5,.int .u8 6] 5)) _:=append_calls hraw 1 (some ⟨w2.heap.size,0,none⟩) 2 2 [5,6] rfl (lit_F [5,6] (by decide) AT.out.lt) (by decide) (Dk.good_new (by decide) (by decide))
 have HC:=Aside0.mk hc
 clear hc hraw
 go_upto_region 10 with (first|(go_at_call 20;(with_reducible refine Calls.mono HC.out ?_);rintro e w3 ⟨rfl,D3,hat,hst⟩;clear AT HC hst;have AT:=Aside0.mk hat;clear hat))
 have G2:=Aside0.mk (inv_start 1 (by omega))
 obtain ⟨d0,hd0⟩:∃ d0,d0=((Dk.new 3000).app 1 [5,6]).1:=⟨_,rfl⟩
 rw [<-hd0] at AT G2
 have HD0:=Aside0.mk hd0
 clear hd0
 go_upto_region 11 with (first|(go_at_call 17;refine(r06_New.calls 3000 [] 0 [] 0 3000 (-1) false w3 rfl).mono ?_;rintro e w4 ⟨qa,qb,rfl,hv0,hv2,hb⟩;obtain ⟨A0,c0,ea⟩:=Kd.R_slice hv0;obtain ⟨A1,c1,eb⟩:=Kd.R_slice hv2;subst ea;subst eb;have f0:=F_fresh (D:=D3) (W:=w4) (v:=.bool true) (Kd.R_mono hv0 (λ_ _=>trivial)) AT.out.lt;have f1:=F_fresh (D:=D3) (W:=w4) (v:=.bool true) (Kd.R_mono hv2 (λ_ _=>trivial)) AT.out.lt;have at4:=AT.out.on hb;have bl:=below_alloc (Below.refl w4.heap.size w4) (.cells (nums .u8 [5,6]).toArray 5);have at5:=at4.on bl;have rv:RawV w4 D3 A0 A1 c0 c1 (Dk.new 3000):=⟨f0.2.1,f0.2.2,f1.2.1,f1.2.2⟩;have hcD:Calls Try.prog 24 #[.agg #[.slice A0 0 c0,.int .i64 0,.slice A1 0 c1,.int .i64 0,.int .i64 3000,.int .i64 (-1),.bool false],.int .i64 0,.int .i64 1,.slice (some ⟨w4.heap.size,0,none⟩) 2 2] (w4.alloc (.cells #[.int .u8 5,.int .u8 6] 5)) _:=refDo_calls (rv.step (Step.of_below bl)) at5.lt (Dk.good_new (by decide) (by decide)) 0 (.inl rfl) 1 (some ⟨w4.heap.size,0,none⟩) 2 2 [5,6] rfl (Nat.le_refl _) (lit_F [5,6] (by decide) at4.lt);have HCD:=Aside0.mk hcD;clear AT;have AT:=Aside0.mk at5;clear hcD rv at4 at5 bl f0 f1 hv0 hv2 hb)|(go_at_call 24;(with_reducible refine Calls.mono HCD.out ?_);rintro e w5 ⟨v,rfl,his,hb⟩;have at5:=AT.out.on hb;clear AT HCD;have AT:=Aside0.mk at5;obtain ⟨P0,P1,p0,p1,ev,hv⟩:=his;rw [show((Dk.new 3000).act 0 1 [5,6]).1=d0 from HD0.out.symm] at ev hv;subst ev;have HV:=Aside0.mk hv;clear at5 hv hb))
 have hb:=below_alloc (Below.refl w5.heap.size w5) (.cells #[.slice P0 d0.b0.length p0,.int .i64 d0.s0,.slice P1 d0.b1.length p1,.int .i64 d0.s1,.int .i64 d0.room,.int .i64 d0.stop,.bool d0.dead] 43)
 have x8:=heap_alloc_new w5 (.cells #[.slice P0 d0.b0.length p0,.int .i64 d0.s0,.slice P1 d0.b1.length p1,.int .i64 d0.s1,.int .i64 d0.room,.int .i64 d0.stop,.bool d0.dead] 43)
 have lp:Loop w1 (w5.alloc (.cells #[.slice P0 d0.b0.length p0,.int .i64 d0.s0,.slice P1 d0.b1.length p1,.int .i64 d0.s1,.int .i64 d0.room,.int .i64 d0.stop,.bool d0.dead] 43)) g w5.heap.size d0 d0:=⟨D3,P0,P1,p0,p1,AT.out.on hb,x8,λq=>Nat.lt_irrefl _ (AT.out.lt _ q),AT.out.below.size,⟨HV.out.l0,Kd.F_mono (Kd.F_below (Kd.F_bound HV.out.f0) hb) (λk hk q=>q.elim (λq=>hk.1 q) (λq=>by have:=hk.2;omega)),HV.out.l1,Kd.F_mono (Kd.F_below (Kd.F_bound HV.out.f1) hb) (λk hk q=>q.elim (λq=>hk.1 q) (λq=>by have:=hk.2;omega))⟩⟩
 have LP:=Aside0.mk lp
 clear lp hb x8 AT HV
 obtain ⟨b8,hb8⟩:∃ b8,b8=w5.heap.size:=⟨_,rfl⟩
 generalize w5.alloc (.cells #[.slice P0 d0.b0.length p0,.int .i64 d0.s0,.slice P1 d0.b1.length p1,.int .i64 d0.s1,.int .i64 d0.room,.int .i64 d0.stop,.bool d0.dead] 43)=w6 at LP ⊢
 rw [<-hb8] at LP ⊢
 clear hb8
 go_wp2
 go_loopg [10] l0.length (λkn_ v10 wx=>∃ (n:Nat) (d r:Dk),v10 = .int .i64 (n:Int)/\n+kn_=l0.length/\Aside0 (d=r/\Inv d 1)/\Aside0 (Loop w1 wx g b8 d r))
 case atStart=>exact ⟨0,d0,d0,rfl,by omega,⟨rfl,G2.out⟩,LP⟩
 case round =>
  clear LP G2 HD0
  obtain ⟨n,d,r,rfl,hnk,HI,LP⟩:=hrel
  by_cases hn:n<l0.length
  case neg =>
   have cn:decide ((n:Int)<(l0.length:Int))=false:=decide_eq_false (by omega)
   go_upto_region 16 with (fail)
   obtain ⟨edr,inv⟩:=HI.out
   subst edr
   clear HI cn
   have hwj:d.why 1=0:=Dk.why_ok inv.dead (by omega)
   have hwi:d.why 0=0:=Dk.why_ok inv.dead (by omega)
   have INV:=Aside0.mk inv
   have WI:=Aside0.mk hwi
   obtain ⟨D,P0,P1,p0,p1,⟨q0,q1,hraw⟩,hX8,hND,hGE,hRV⟩:=LP.out.ex
   have hc:=read_calls hraw inv.good 1
   rw [hwj,if_pos rfl,inv.row] at hc
   have HC:=Aside0.mk hc
   clear hc hraw hX8 hND hGE hRV hwj hwi inv D P0 P1 p0 p1 q0 q1
   go_upto_region 17 with (first|(go_at_call 21;(with_reducible refine Calls.mono HC.out ?_);rintro e w2 ⟨v,rfl,hv,hb⟩;obtain ⟨Aj,cj,er⟩:=Kd.R_slice hv;subst er;have lp:=LP.out.on hb;have RJ:=Aside0.mk (Kd.R_reads' hv).2;clear LP HC hv hb;have LP:=Aside0.mk lp;clear lp))
   obtain ⟨D,P0,P1,p0,p1,⟨q0,q1,hraw⟩,hX8,hND,hGE,hRV⟩:=LP.out.ex
   have hc:=read_calls hraw INV.out.good 0
   rw [WI.out,if_pos rfl,show d.row 0=d.b0 from rfl] at hc
   have HC:=Aside0.mk hc
   clear hc hraw hX8 hND hGE hRV D P0 P1 p0 p1 q0 q1
   go_upto_region 18 with (first|(go_at_call 21;(with_reducible refine Calls.mono HC.out ?_);rintro e w3 ⟨v,rfl,hv,hb⟩;obtain ⟨Ai,ci,er⟩:=Kd.R_slice hv;subst er;have lp:=LP.out.on hb;have rj:=Kd.C_below RJ.out.2 hb;have lj:=RJ.out.1;have RI:=Aside0.mk (Kd.R_reads' hv).2;clear LP HC RJ hv hb;have LP:=Aside0.mk lp;have RJ:=Aside0.mk rj;have LJ:=Aside0.mk lj;clear lp rj lj))
   obtain ⟨D,P0,P1,p0,p1,hAT,hX8,hND,hGE,hRV⟩:=LP.out.ex
   have X8:=Aside0.mk hX8
   have RV:=Aside0.mk hRV
   have bl:=below_alloc (Below.refl w3.heap.size w3) (.cells (nums .u8 [5,6]).toArray 5)
   have hc1:Calls Try.prog 23 #[.slice Aj 2 cj,.slice (some ⟨w3.heap.size,0,none⟩) 2 2] (w3.alloc (.cells #[.int .u8 5,.int .u8 6] 5)) _:=r02_Bytes.calls _ Aj cj [5,6] (some ⟨w3.heap.size,0,none⟩) 2 [5,6] true _ (Kd.C_below RJ.out bl) LJ.out (Kd.F_now (lit_F (D:=λ_=>False) [5,6] (by decide) (λ_ h=>h.elim))) (Nat.le_refl _) (bytes_same [5,6] (by decide))
   have HC1:=Aside0.mk hc1
   have hc2:∀ W,Below w3.heap.size w3 W->Calls Try.prog 23 #[.slice Ai d.b0.length ci,.slice P0 d.b0.length p0] W λe w'=>e = .returned (.bool true)/\Below W.heap.size W w':=λW hW=>(r02_Bytes.calls _ Ai ci d.b0 P0 p0 d.b0 true W (Kd.C_below RI.out.2 hW) RI.out.1 (Kd.C_below (Kd.F_now RV.out.f0) hW) RV.out.l0 (bytes_same d.b0 (by have:=INV.out.good.len0;omega))).mono λe w' h_=>⟨h_.1,h_.2.below⟩
   have HC2:=Aside0.mk hc2
   have hfl:∀ W:World,(Instr.field 41 (.agg #[.slice P0 d.b0.length p0,.int .i64 d.s0]) 0).run Try.prog W = .ok (.slice P0 d.b0.length p0) W:=λ_=>by kernel_rfl
   have BL:=Aside0.mk bl
   clear hc1 hc2 bl hAT hX8 hND hGE hRV
   go_wp2_with (first|(go_at_call 23;(with_reducible refine Calls.mono HC1.out ?_);rintro e w4 ⟨rfl,hd⟩;have b4:=below_step BL.out hd.below;have B4:=Aside0.mk b4;have x8:=blk_below X8.out b4;have X9:=Aside0.mk x8;have z0:=(blk_cell X9.out 0).trans (rfl:_=some (Value.slice P0 d.b0.length p0));have z1:=(blk_cell X9.out 1).trans (rfl:_=some (Value.int .i64 d.s0));have z2:=(blk_cell X9.out 2).trans (rfl:_=some (Value.slice P1 d.b1.length p1));have z3:=(blk_cell X9.out 3).trans (rfl:_=some (Value.int .i64 d.s1));have z4:=(blk_cell X9.out 4).trans (rfl:_=some (Value.int .i64 d.room));have z5:=(blk_cell X9.out 5).trans (rfl:_=some (Value.int .i64 d.stop));have z6:=(blk_cell X9.out 6).trans (rfl:_=some (Value.bool d.dead));clear hd b4 x8 HC1)|(go_at_call 25;(with_reducible refine Calls.mono (refGet_zero w4 P0 P1 p0 p1 d) ?_);rintro e w5 ⟨rfl,hb⟩;have B5:=Aside0.mk (below_step B4.out hb);clear hb)|(go_at_call 23;(with_reducible refine Calls.mono (HC2.out w5 B5.out) ?_);rintro e w6 ⟨rfl,hb⟩;have B6:=Aside0.mk (below_step B5.out hb);clear hb)|(go_at_call 15;refine(awake_calls _).mono ?_;rintro e w7 ⟨rfl,hb⟩;have B7:=Aside0.mk (below_step B6.out hb);clear hb))
   go_ret
   exact ⟨rfl,below_step HB.out (below_step LP.out.below B7.out)⟩
  have cn:decide ((n:Int)<(l0.length:Int))=true:=decide_eq_true (by omega)
  have hmem:rd_T49 l0 (n:Int) ∈ l0:=by unfold rd_T49;rw [Int.toNat_natCast,List.getD_eq_getElem?_getD,List.getElem?_eq_getElem hn,Option.getD_some];exact List.getElem_mem _
  obtain ⟨ad,B2,b2,B4,b4,e_,f0,f1,f2,f3,f4,l2,g2,l4,g4⟩:=at_T49 HR.out (n:Int) (by omega) (by omega)
  subst e_
  have hbig:=HLE.out _ hmem
  rw [Int.toNat_natCast] at f0 f1 f2 f3 f4
  generalize rd_T49 l0 (n:Int)=st at f0 f1 f2 f3 f4 l2 g2 l4 g4 hbig
  clear hmem
  have bw:=below_step HB.out LP.out.below
  have BW:=Aside0.mk bw
  have F0:=Aside0.mk (pw_cell_below bw f0)
  have F1:=Aside0.mk (pw_cell_below bw f1)
  have F2:=Aside0.mk (pw_cell_below bw f2)
  have F3:=Aside0.mk (pw_cell_below bw f3)
  have F4:=Aside0.mk (pw_cell_below bw f4)
  have L2:=Aside0.mk l2
  have HBIG:=Aside0.mk hbig
  have R2:=Aside0.mk (Kd.F_below (Kd.C_F (Kd.heap_int .u8) g2) bw)
  have R4:=Aside0.mk (Kd.F_below (Kd.C_F (Kd.heap_int .i64) g4) bw)
  clear f0 f1 f2 f3 f4 l2 g2 l4 g4 bw hbig
  have y0:=F0.out
  have y1:=F1.out
  have d01:(0<=(n:Int))=True:=eq_true (by omega)
  have dn2:((n:Int)<(l0.length:Int))=True:=eq_true (by omega)
  by_cases ho:st.f0<3
  case neg =>
   have o1:decide (st.f0<3)=false:=decide_eq_false ho
   clear ho
   go_wp2
   go_roundg (l0.length - (n+1))
   case measure=>omega
   case rel=>exact ⟨n+1,d,r,by first|(rw [Int.natCast_add];rfl)|rw [show wrap64 ((n:Int)+1)=((n+1:Nat):Int) by unfold wrap64;omega],by omega,HI,LP⟩
  have o1:decide (st.f0<3)=true:=decide_eq_true ho
  have HO:=Aside0.mk ho
  by_cases hi:st.f1=0
  case neg =>
   have o2:(st.f1 == 0)=false:=beq_eq_false_iff_ne.2 hi
   clear ho hi
   go_wp2
   go_roundg (l0.length - (n+1))
   case measure=>omega
   case rel=>exact ⟨n+1,d,r,by first|(rw [Int.natCast_add];rfl)|rw [show wrap64 ((n:Int)+1)=((n+1:Nat):Int) by unfold wrap64;omega],by omega,HI,LP⟩
  have o2:(st.f1 == 0)=true:=beq_iff_eq.2 hi
  have HIQ:=Aside0.mk hi
  clear ho hi
  go_upto_region 15 with (fail)
  clear y0 y1 o1 o2
  obtain ⟨D,P0,P1,p0,p1,hAT,hX8,hND,hGE,hRV⟩:=LP.out.ex
  have X8:=Aside0.mk hX8
  have AT:=Aside0.mk hAT
  have ND:=Aside0.mk hND
  have G8:=Aside0.mk hGE
  have RV:=Aside0.mk hRV
  clear hAT hX8 hND hGE hRV LP
  refine region_cards2 (F:=?F15) 6 (λw'=>Aside0 (Below wr.heap.size wr w'))
   [λv _ _ _=>v = .pointer (some ⟨g,0,none⟩),
   λv _ _ _=>v = .agg #[Value.slice P0 r.b0.length p0,Value.int .i64 r.s0,Value.slice P1 r.b1.length p1,Value.int .i64 r.s1,Value.int .i64 r.room,Value.int .i64 r.stop,Value.bool r.dead],
   λv _ _ _=>v = .slice (some ad) l0.length cl,
   λv _ _ _=>v = .int .i64 (n:Int),
   λv _ _ _=>v = .pointer (some (ad.add (n*5))),
   λv _ _ _=>v = .agg #[.int .i64 st.f0,.int .i64 st.f1,.slice B2 st.f2.length b2,.int .i64 st.f3,.slice B4 st.f4.length b4]]
   (by kernel_rfl) (by kernel_rfl) ?hF15 ?hS015 ?hS15 ?hstay15 ?hsteps15 ?hend15
  case hF15 =>
   intro vs
   simp only [List.take_succ_cons,List.take_zero,fill,if_true,if_false,Act.put,List.setIfInBounds_toArray,List.set_cons_zero,List.set_cons_succ,Nat.reduceAdd,List.contains_cons,List.contains_nil,Nat.reduceBEq,Bool.or_false,Bool.false_or,Bool.not_true,Bool.not_false,Bool.false_eq_true,Bool.or_self,Bool.true_or]
   rfl
  case hS015=>exact ⟨below_drew (Below.refl _ _)⟩
  case hS15=>exact λw1 w2 hb hs=>⟨below_step hs.out hb⟩
  case hstay15=>exact ⟨λ_ _ _ _ _ _ h=>h,λ_ _ _ _ _ _ h=>h,λ_ _ _ _ _ _ h=>h,λ_ _ _ _ _ _ h=>h,λ_ _ _ _ _ _ h=>h,λ_ _ _ _ _ _ h=>h,trivial⟩
  case hsteps15 =>
   refine ⟨?s15_0,?s15_1,?s15_2,?s15_3,?s15_4,?s15_5,trivial⟩
   case s15_0 =>
    intro _ vs lo hi W_ hs hp
    exact does_val (by first|(go_simp;done)|(go_simp;rfl)) ⟨rfl,Below.refl _ _⟩
   case s15_1 =>
    intro _ vs lo hi W_ hs hp
    have X8_:=Aside0.mk (blk_below X8.out hs.out)
    have x0:=(blk_cell X8_.out 0).trans (rfl:_=some (Value.slice P0 r.b0.length p0))
    have x1:=(blk_cell X8_.out 1).trans (rfl:_=some (Value.int .i64 r.s0))
    have x2:=(blk_cell X8_.out 2).trans (rfl:_=some (Value.slice P1 r.b1.length p1))
    have x3:=(blk_cell X8_.out 3).trans (rfl:_=some (Value.int .i64 r.s1))
    have x4:=(blk_cell X8_.out 4).trans (rfl:_=some (Value.int .i64 r.room))
    have x5:=(blk_cell X8_.out 5).trans (rfl:_=some (Value.int .i64 r.stop))
    have x6:=(blk_cell X8_.out 6).trans (rfl:_=some (Value.bool r.dead))
    exact does_val (by first|(go_simp;done)|(go_simp;rfl)) ⟨rfl,Below.refl _ _⟩
   case s15_2 =>
    intro _ vs lo hi W_ hs hp
    exact does_val (by first|(go_simp;done)|(go_simp;rfl)) ⟨rfl,Below.refl _ _⟩
   case s15_3 =>
    intro _ vs lo hi W_ hs hp
    exact does_val (by first|(go_simp;done)|(go_simp;rfl)) ⟨rfl,Below.refl _ _⟩
   case s15_4 =>
    intro _ vs lo hi W_ hs hp
    have e2:vs 2 = .slice (some ad) l0.length cl:=hp 2 (by kernel_rfl) rfl
    have e3:vs 3 = .int .i64 (n:Int):=hp 3 (by kernel_rfl) rfl
    have c01_:(0<=(n:Int))=True:=eq_true (by omega)
    have ci2_:((n:Int)<(l0.length:Int))=True:=eq_true (by omega)
    exact does_val (by first|(go_simp;done)|(go_simp;rfl)) ⟨rfl,Below.refl _ _⟩
   case s15_5 =>
    intro _ vs lo hi W_ hs hp
    have e4:vs 4 = .pointer (some (ad.add (n*5))):=hp 4 (by kernel_rfl) rfl
    have y0:=pw_cell_below hs.out F0.out
    have y1:=pw_cell_below hs.out F1.out
    have y2:=pw_cell_below hs.out F2.out
    have y3:=pw_cell_below hs.out F3.out
    have y4:=pw_cell_below hs.out F4.out
    exact does_val (by first|(go_simp;done)|(go_simp;rfl)) ⟨rfl,Below.refl _ _⟩
  case hend15 =>
  intro vs lo_ hi_ Wc hs hp _
  have e0:vs 0 = .pointer (some ⟨g,0,none⟩):=hp 0 (by decide)
  have e1:vs 1 = .agg #[Value.slice P0 r.b0.length p0,Value.int .i64 r.s0,Value.slice P1 r.b1.length p1,Value.int .i64 r.s1,Value.int .i64 r.room,Value.int .i64 r.stop,Value.bool r.dead]:=hp 1 (by decide)
  have e5:vs 5 = .agg #[.int .i64 st.f0,.int .i64 st.f1,.slice B2 st.f2.length b2,.int .i64 st.f3,.slice B4 st.f4.length b4]:=hp 5 (by decide)
  rw [e0,e1,e5]
  have hbc:=hs.out
  obtain ⟨q0,q1,hraw⟩:=AT.out.on hbc
  have x8:=blk_below X8.out hbc
  have lt8:=blk_lt X8.out
  have av:∀ k,k<w.heap.size->¬ (D k\/k=b8):=λk hk q=>by
   have h1:=HB.out.size
   rcases q with q|q
   ·have:=AT.out.ge k q;omega
   ·have:=G8.out;omega
  have hDo:=lawDoLow hraw (λk=>k=b8) (λk hk=>by have:=hbc.size;omega) (RV.out.step (Step.of_below hbc)) HI.out.2.good (HI.out.1 ▸ HI.out.2.good) st.f1 st.f3 B2 B4 st.f2.length b2 st.f4.length b4 st.f2 st.f4 rfl L2.out (Kd.F_mono (Kd.F_below R2.out hbc) av) HBIG.out rfl (Kd.F_mono (Kd.F_below R4.out hbc) av) st.f0 HO.out
  have HDO:=Aside0.mk hDo
  clear X8
  have X8:=Aside0.mk x8
  clear hDo x8 lt8 av hraw hs hbc e0 e1 e5 hp
  refine any_does (i:=6) (N:=some 71) rfl rfl (by kernel_rfl) rfl ?_
  refine does_call Try.func18 (by kernel_rfl) rfl #[.pointer (some ⟨g,0,none⟩),.agg #[Value.slice P0 r.b0.length p0,Value.int .i64 r.s0,Value.slice P1 r.b1.length p1,Value.int .i64 r.s1,Value.int .i64 r.room,Value.int .i64 r.stop,Value.bool r.dead],.agg #[.int .i64 st.f0,.int .i64 st.f1,.slice B2 st.f2.length b2,.int .i64 st.f3,.slice B4 st.f4.length b4]] rfl rfl (by simp only [List.map_toArray,List.map_cons,List.map_nil];first|rfl|(go_simp;done)|(simp [Act.eval];done)) ?_
  refine Calls.mono HDO.out ?_
  rintro e w5 ⟨v,t,rfl,D',hat,his,hst⟩
  refine ⟨_,rfl,?_⟩
  obtain ⟨Q0,Q1,q0,q1,ev,hv⟩:=his
  obtain ⟨r1,hr1⟩:∃ r1,r1=r.doing st.f0 st.f1 st.f2 st.f3 st.f4:=⟨_,rfl⟩
  rw [<-hr1] at ev hv
  subst ev
  have R1:=Aside0.mk hr1
  have AT5:=Aside0.mk hat
  have HB5:=Aside0.mk hat.below
  have RV5:=Aside0.mk hv
  have x8:=hst.blk X8.out ND.out
  have ND5:=Aside0.mk x8.2
  clear X8
  have X8:=Aside0.mk x8.1
  clear x8 hat hst hv hr1 HDO
  have z0:=(blk_cell X8.out 0).trans (rfl:_=some (Value.slice P0 r.b0.length p0))
  have z1:=(blk_cell X8.out 1).trans (rfl:_=some (Value.int .i64 r.s0))
  have z2:=(blk_cell X8.out 2).trans (rfl:_=some (Value.slice P1 r.b1.length p1))
  have z3:=(blk_cell X8.out 3).trans (rfl:_=some (Value.int .i64 r.s1))
  have z4:=(blk_cell X8.out 4).trans (rfl:_=some (Value.int .i64 r.room))
  have z5:=(blk_cell X8.out 5).trans (rfl:_=some (Value.int .i64 r.stop))
  have z6:=(blk_cell X8.out 6).trans (rfl:_=some (Value.bool r.dead))
  have f0:=blk_frozen X8.out 0
  have f1:=blk_frozen X8.out 1
  have f2:=blk_frozen X8.out 2
  have f3:=blk_frozen X8.out 3
  have f4:=blk_frozen X8.out 4
  have f5:=blk_frozen X8.out 5
  have f6:=blk_frozen X8.out 6
  refine any_does (i:=7) (N:=some 64) rfl rfl (by kernel_rfl) rfl ?_
  refine does_val (v:=.tuple #[dkV Q0 Q1 q0 q1 r1,.bool t]) (w1:=w5) (by first|(go_simp;done)|(go_simp;rfl)) ?_
  refine take_pre (i:=8) (N:=some 72) (v:=dkV Q0 Q1 q0 q1 r1) rfl rfl (by kernel_rfl) (by kernel_rfl) (by kernel_rfl) (λ_ _ _ h=>h) (by rfl) ?_ ?_
  ·intro w_
   first|(go_simp;done)|(go_simp;rfl)
  refine take_pre (i:=9) (N:=some 73) (v:=.bool t) rfl rfl (by kernel_rfl) (by kernel_rfl) (by kernel_rfl) (λ_ _ _ h=>h) (by rfl) ?_ ?_
  ·intro w_
   first|(go_simp;done)|(go_simp;rfl)
  refine wpAny_of_path [10] (_ :: []) _ _ _ rfl (by kernel_rfl) ?_
  (try simp only [List.getElem_toArray,List.getElem_cons_succ,List.getElem_cons_zero])
  (try simp only [Act.put,List.setIfInBounds_toArray,List.set_cons_zero,List.set_cons_succ])
  go_wp2_with (first|((with_reducible refine store_event (t:=43) (p:=8) rfl rfl rfl (w1:=(((((((w5.setCell ⟨b8,0,none⟩ (Value.slice Q0 r1.b0.length q0)).setCell ⟨b8,1,none⟩ (Value.int .i64 r1.s0)).setCell ⟨b8,2,none⟩ (Value.slice Q1 r1.b1.length q1)).setCell ⟨b8,3,none⟩ (Value.int .i64 r1.s1)).setCell ⟨b8,4,none⟩ (Value.int .i64 r1.room)).setCell ⟨b8,5,none⟩ (Value.int .i64 r1.stop)).setCell ⟨b8,6,none⟩ (Value.bool r1.dead))) ?hrun ?_);(case hrun=>first|(go_simp;done)|(go_simp;rfl));intro w7 hw7;have Y8:=Aside0.mk (show w7.heap[b8]? = some (.cells #[Value.slice Q0 r1.b0.length q0,Value.int .i64 r1.s0,Value.slice Q1 r1.b1.length q1,Value.int .i64 r1.s1,Value.int .i64 r1.room,Value.int .i64 r1.stop,Value.bool r1.dead] 43 (0,0)) by rw [hw7];exact(blk_put ((blk_put ((blk_put ((blk_put ((blk_put ((blk_put ((blk_put (X8.out) 0 (Value.slice Q0 r1.b0.length q0) rfl)) 1 (Value.int .i64 r1.s0) rfl)) 2 (Value.slice Q1 r1.b1.length q1) rfl)) 3 (Value.int .i64 r1.s1) rfl)) 4 (Value.int .i64 r1.room) rfl)) 5 (Value.int .i64 r1.stop) rfl)) 6 (Value.bool r1.dead) rfl));have SZ7:=Aside0.mk (show w7.heap.size=w5.heap.size by rw [hw7];simp only [size_set]);have BB7:=Aside0.mk (show Below w1.heap.size w1 w7 by rw [hw7];exact(below_set ((below_set ((below_set ((below_set ((below_set ((below_set ((below_set (HB5.out) G8.out)) G8.out)) G8.out)) G8.out)) G8.out)) G8.out)) G8.out));have CH7:=Aside0.mk (show ∀ k,k≠b8->w7.heap[k]? = w5.heap[k]? from λk hk=>by rw [hw7];exact((Below.heap_setCell ((((((w5.setCell ⟨b8,0,none⟩ (Value.slice Q0 r1.b0.length q0)).setCell ⟨b8,1,none⟩ (Value.int .i64 r1.s0)).setCell ⟨b8,2,none⟩ (Value.slice Q1 r1.b1.length q1)).setCell ⟨b8,3,none⟩ (Value.int .i64 r1.s1)).setCell ⟨b8,4,none⟩ (Value.int .i64 r1.room)).setCell ⟨b8,5,none⟩ (Value.int .i64 r1.stop)) ⟨b8,6,none⟩ (Value.bool r1.dead) k hk).trans (((Below.heap_setCell (((((w5.setCell ⟨b8,0,none⟩ (Value.slice Q0 r1.b0.length q0)).setCell ⟨b8,1,none⟩ (Value.int .i64 r1.s0)).setCell ⟨b8,2,none⟩ (Value.slice Q1 r1.b1.length q1)).setCell ⟨b8,3,none⟩ (Value.int .i64 r1.s1)).setCell ⟨b8,4,none⟩ (Value.int .i64 r1.room)) ⟨b8,5,none⟩ (Value.int .i64 r1.stop) k hk).trans (((Below.heap_setCell ((((w5.setCell ⟨b8,0,none⟩ (Value.slice Q0 r1.b0.length q0)).setCell ⟨b8,1,none⟩ (Value.int .i64 r1.s0)).setCell ⟨b8,2,none⟩ (Value.slice Q1 r1.b1.length q1)).setCell ⟨b8,3,none⟩ (Value.int .i64 r1.s1)) ⟨b8,4,none⟩ (Value.int .i64 r1.room) k hk).trans (((Below.heap_setCell (((w5.setCell ⟨b8,0,none⟩ (Value.slice Q0 r1.b0.length q0)).setCell ⟨b8,1,none⟩ (Value.int .i64 r1.s0)).setCell ⟨b8,2,none⟩ (Value.slice Q1 r1.b1.length q1)) ⟨b8,3,none⟩ (Value.int .i64 r1.s1) k hk).trans (((Below.heap_setCell ((w5.setCell ⟨b8,0,none⟩ (Value.slice Q0 r1.b0.length q0)).setCell ⟨b8,1,none⟩ (Value.int .i64 r1.s0)) ⟨b8,2,none⟩ (Value.slice Q1 r1.b1.length q1) k hk).trans (((Below.heap_setCell (w5.setCell ⟨b8,0,none⟩ (Value.slice Q0 r1.b0.length q0)) ⟨b8,1,none⟩ (Value.int .i64 r1.s0) k hk).trans (((Below.heap_setCell w5 ⟨b8,0,none⟩ (Value.slice Q0 r1.b0.length q0) k hk).trans (rfl)))))))))))))));clear hw7))
  go_roundg (l0.length - (n+1))
  case measure=>omega
  case rel =>
   obtain ⟨q0',q1',hraw⟩:=AT5.out
   refine ⟨n+1,d.doing st.f0 st.f1 st.f2 st.f3 st.f4,r1,by first|(rw [Int.natCast_add];rfl)|rw [show wrap64 ((n:Int)+1)=((n+1:Nat):Int) by unfold wrap64;omega],by omega,⟨by rw [R1.out,HI.out.1],HI.out.2.doing (by have:=HIQ.out;omega) HO.out _ _ _⟩,⟨⟨D',Q0,Q1,q0,q1,⟨q0',q1',hraw.move BB7.out (by have:=SZ7.out;omega) (λk hk=>CH7.out k (λe=>ND5.out (e ▸ hk)))⟩,Y8.out,ND5.out,G8.out,RV5.out.move (λk hk _=>CH7.out k (λe=>hk (.inr e)))⟩⟩⟩
set_option maxHeartbeats 16000000 in
set_option maxRecDepth 100000 in
theorem apart1_calls (AL:Option Addr) (cl:Nat) (l0:List S49) (w:World) (hr0:Kd.C k49 w AL l0.length l0) (hc0:l0.length<=cl) (hl:l0.length<=9223372036854775806) (hb0:∀ x ∈ l0,x.f2.length<=140737488355328) :
  Calls Try.prog 8 #[.slice AL l0.length cl,.bool true] w λe w'=>e = .returned (.bool true)/\Below w.heap.size w w':=by
 obtain ⟨lr,hlr⟩:=light_some l0 hl
 have hL:=w06_Light.calls _ AL cl l0 lr w hr0 hc0 hlr
 have HL:=Aside0.mk hL
 have HR:=Aside0.mk hr0
 have HLE:=Aside0.mk hb0
 clear hL hlr hr0 hb0
 go_enter Try.func8,Try.ntmps8
 cases lr with
 | false =>
  go_wp2_with (first|(go_at_call 14;(with_reducible refine Calls.mono HL.out ?_);rintro e w1 ⟨rfl,hd⟩;have HB:=Aside0.mk hd.below;clear hd)|(go_at_call 15;refine(awake_calls _).mono ?_;rintro e w2 ⟨rfl,hb⟩;have HB2:=Aside0.mk (below_step HB.out hb);clear hb))
  go_ret
  exact ⟨rfl,HB2.out⟩
 | true =>
 go_upto_region 9 with (first|(go_at_call 14;(with_reducible refine Calls.mono HL.out ?_);rintro e w1 ⟨rfl,hd⟩;have HB:=Aside0.mk hd.below;clear hd)|(go_at_call 16;refine(new_calls 3000 (by decide) (by decide) w1).mono ?_;rintro e w2 ⟨g,rfl,⟨D,hat⟩,hb⟩;have AT:=Aside0.mk hat;clear hat hb))
 have at1:=AT.out.on (below_alloc (Below.refl w2.heap.size w2) (.cells (nums .u8 [5,6]).toArray 5))
 obtain ⟨q0,q1,hraw⟩:=at1
 have hc:Calls Try.prog 20 #[.pointer (some ⟨g,0,none⟩),.int .i64 0,.slice (some ⟨w2.heap.size,0,none⟩) 2 2] (w2.alloc (.cells #[.int .u8 5,.int .u8 6] 5)) _:=append_calls hraw 0 (some ⟨w2.heap.size,0,none⟩) 2 2 [5,6] rfl (lit_F [5,6] (by decide) AT.out.lt) (by decide) (Dk.good_new (by decide) (by decide))
 have HC:=Aside0.mk hc
 clear hc hraw
 go_upto_region 10 with (first|(go_at_call 20;(with_reducible refine Calls.mono HC.out ?_);rintro e w3 ⟨rfl,D3,hat,hst⟩;clear AT HC hst;have AT:=Aside0.mk hat;clear hat))
 have G2:=Aside0.mk (inv_start 0 (by omega))
 obtain ⟨d0,hd0⟩:∃ d0,d0=((Dk.new 3000).app 0 [5,6]).1:=⟨_,rfl⟩
 rw [<-hd0] at AT G2
 have HD0:=Aside0.mk hd0
 clear hd0
 go_upto_region 11 with (first|(go_at_call 17;refine(r06_New.calls 3000 [] 0 [] 0 3000 (-1) false w3 rfl).mono ?_;rintro e w4 ⟨qa,qb,rfl,hv0,hv2,hb⟩;obtain ⟨A0,c0,ea⟩:=Kd.R_slice hv0;obtain ⟨A1,c1,eb⟩:=Kd.R_slice hv2;subst ea;subst eb;have f0:=F_fresh (D:=D3) (W:=w4) (v:=.bool true) (Kd.R_mono hv0 (λ_ _=>trivial)) AT.out.lt;have f1:=F_fresh (D:=D3) (W:=w4) (v:=.bool true) (Kd.R_mono hv2 (λ_ _=>trivial)) AT.out.lt;have at4:=AT.out.on hb;have bl:=below_alloc (Below.refl w4.heap.size w4) (.cells (nums .u8 [5,6]).toArray 5);have at5:=at4.on bl;have rv:RawV w4 D3 A0 A1 c0 c1 (Dk.new 3000):=⟨f0.2.1,f0.2.2,f1.2.1,f1.2.2⟩;have hcD:Calls Try.prog 24 #[.agg #[.slice A0 0 c0,.int .i64 0,.slice A1 0 c1,.int .i64 0,.int .i64 3000,.int .i64 (-1),.bool false],.int .i64 0,.int .i64 0,.slice (some ⟨w4.heap.size,0,none⟩) 2 2] (w4.alloc (.cells #[.int .u8 5,.int .u8 6] 5)) _:=refDo_calls (rv.step (Step.of_below bl)) at5.lt (Dk.good_new (by decide) (by decide)) 0 (.inl rfl) 0 (some ⟨w4.heap.size,0,none⟩) 2 2 [5,6] rfl (Nat.le_refl _) (lit_F [5,6] (by decide) at4.lt);have HCD:=Aside0.mk hcD;clear AT;have AT:=Aside0.mk at5;clear hcD rv at4 at5 bl f0 f1 hv0 hv2 hb)|(go_at_call 24;(with_reducible refine Calls.mono HCD.out ?_);rintro e w5 ⟨v,rfl,his,hb⟩;have at5:=AT.out.on hb;clear AT HCD;have AT:=Aside0.mk at5;obtain ⟨P0,P1,p0,p1,ev,hv⟩:=his;rw [show((Dk.new 3000).act 0 0 [5,6]).1=d0 from HD0.out.symm] at ev hv;subst ev;have HV:=Aside0.mk hv;clear at5 hv hb))
 have hb:=below_alloc (Below.refl w5.heap.size w5) (.cells #[.slice P0 d0.b0.length p0,.int .i64 d0.s0,.slice P1 d0.b1.length p1,.int .i64 d0.s1,.int .i64 d0.room,.int .i64 d0.stop,.bool d0.dead] 43)
 have x8:=heap_alloc_new w5 (.cells #[.slice P0 d0.b0.length p0,.int .i64 d0.s0,.slice P1 d0.b1.length p1,.int .i64 d0.s1,.int .i64 d0.room,.int .i64 d0.stop,.bool d0.dead] 43)
 have lp:Loop w1 (w5.alloc (.cells #[.slice P0 d0.b0.length p0,.int .i64 d0.s0,.slice P1 d0.b1.length p1,.int .i64 d0.s1,.int .i64 d0.room,.int .i64 d0.stop,.bool d0.dead] 43)) g w5.heap.size d0 d0:=⟨D3,P0,P1,p0,p1,AT.out.on hb,x8,λq=>Nat.lt_irrefl _ (AT.out.lt _ q),AT.out.below.size,⟨HV.out.l0,Kd.F_mono (Kd.F_below (Kd.F_bound HV.out.f0) hb) (λk hk q=>q.elim (λq=>hk.1 q) (λq=>by have:=hk.2;omega)),HV.out.l1,Kd.F_mono (Kd.F_below (Kd.F_bound HV.out.f1) hb) (λk hk q=>q.elim (λq=>hk.1 q) (λq=>by have:=hk.2;omega))⟩⟩
 have LP:=Aside0.mk lp
 clear lp hb x8 AT HV
 obtain ⟨b8,hb8⟩:∃ b8,b8=w5.heap.size:=⟨_,rfl⟩
 generalize w5.alloc (.cells #[.slice P0 d0.b0.length p0,.int .i64 d0.s0,.slice P1 d0.b1.length p1,.int .i64 d0.s1,.int .i64 d0.room,.int .i64 d0.stop,.bool d0.dead] 43)=w6 at LP ⊢
 rw [<-hb8] at LP ⊢
 clear hb8
 go_wp2
 go_loopg [10] l0.length (λkn_ v10 wx=>∃ (n:Nat) (d r:Dk),v10 = .int .i64 (n:Int)/\n+kn_=l0.length/\Aside0 (d=r/\Inv d 0)/\Aside0 (Loop w1 wx g b8 d r))
 case atStart=>exact ⟨0,d0,d0,rfl,by omega,⟨rfl,G2.out⟩,LP⟩
 case round =>
  clear LP G2 HD0
  obtain ⟨n,d,r,rfl,hnk,HI,LP⟩:=hrel
  by_cases hn:n<l0.length
  case neg =>
   have cn:decide ((n:Int)<(l0.length:Int))=false:=decide_eq_false (by omega)
   go_upto_region 16 with (fail)
   obtain ⟨edr,inv⟩:=HI.out
   subst edr
   clear HI cn
   have hwj:d.why 0=0:=Dk.why_ok inv.dead (by omega)
   have hwi:d.why 1=0:=Dk.why_ok inv.dead (by omega)
   have INV:=Aside0.mk inv
   have WI:=Aside0.mk hwi
   obtain ⟨D,P0,P1,p0,p1,⟨q0,q1,hraw⟩,hX8,hND,hGE,hRV⟩:=LP.out.ex
   have hc:=read_calls hraw inv.good 0
   rw [hwj,if_pos rfl,inv.row] at hc
   have HC:=Aside0.mk hc
   clear hc hraw hX8 hND hGE hRV hwj hwi inv D P0 P1 p0 p1 q0 q1
   go_upto_region 17 with (first|(go_at_call 21;(with_reducible refine Calls.mono HC.out ?_);rintro e w2 ⟨v,rfl,hv,hb⟩;obtain ⟨Aj,cj,er⟩:=Kd.R_slice hv;subst er;have lp:=LP.out.on hb;have RJ:=Aside0.mk (Kd.R_reads' hv).2;clear LP HC hv hb;have LP:=Aside0.mk lp;clear lp))
   obtain ⟨D,P0,P1,p0,p1,⟨q0,q1,hraw⟩,hX8,hND,hGE,hRV⟩:=LP.out.ex
   have hc:=read_calls hraw INV.out.good 1
   rw [WI.out,if_pos rfl,show d.row 1=d.b1 from rfl] at hc
   have HC:=Aside0.mk hc
   clear hc hraw hX8 hND hGE hRV D P0 P1 p0 p1 q0 q1
   go_upto_region 18 with (first|(go_at_call 21;(with_reducible refine Calls.mono HC.out ?_);rintro e w3 ⟨v,rfl,hv,hb⟩;obtain ⟨Ai,ci,er⟩:=Kd.R_slice hv;subst er;have lp:=LP.out.on hb;have rj:=Kd.C_below RJ.out.2 hb;have lj:=RJ.out.1;have RI:=Aside0.mk (Kd.R_reads' hv).2;clear LP HC RJ hv hb;have LP:=Aside0.mk lp;have RJ:=Aside0.mk rj;have LJ:=Aside0.mk lj;clear lp rj lj))
   obtain ⟨D,P0,P1,p0,p1,hAT,hX8,hND,hGE,hRV⟩:=LP.out.ex
   have X8:=Aside0.mk hX8
   have RV:=Aside0.mk hRV
   have bl:=below_alloc (Below.refl w3.heap.size w3) (.cells (nums .u8 [5,6]).toArray 5)
   have hc1:Calls Try.prog 23 #[.slice Aj 2 cj,.slice (some ⟨w3.heap.size,0,none⟩) 2 2] (w3.alloc (.cells #[.int .u8 5,.int .u8 6] 5)) _:=r02_Bytes.calls _ Aj cj [5,6] (some ⟨w3.heap.size,0,none⟩) 2 [5,6] true _ (Kd.C_below RJ.out bl) LJ.out (Kd.F_now (lit_F (D:=λ_=>False) [5,6] (by decide) (λ_ h=>h.elim))) (Nat.le_refl _) (bytes_same [5,6] (by decide))
   have HC1:=Aside0.mk hc1
   have hc2:∀ W,Below w3.heap.size w3 W->Calls Try.prog 23 #[.slice Ai d.b1.length ci,.slice P1 d.b1.length p1] W λe w'=>e = .returned (.bool true)/\Below W.heap.size W w':=λW hW=>(r02_Bytes.calls _ Ai ci d.b1 P1 p1 d.b1 true W (Kd.C_below RI.out.2 hW) RI.out.1 (Kd.C_below (Kd.F_now RV.out.f1) hW) RV.out.l1 (bytes_same d.b1 (by have:=INV.out.good.len1;omega))).mono λe w' h_=>⟨h_.1,h_.2.below⟩
   have HC2:=Aside0.mk hc2
   have hfl:∀ W:World,(Instr.field 41 (.agg #[.slice P1 d.b1.length p1,.int .i64 d.s1]) 0).run Try.prog W = .ok (.slice P1 d.b1.length p1) W:=λ_=>by kernel_rfl
   have BL:=Aside0.mk bl
   clear hc1 hc2 bl hAT hX8 hND hGE hRV
   go_wp2_with (first|(go_at_call 23;(with_reducible refine Calls.mono HC1.out ?_);rintro e w4 ⟨rfl,hd⟩;have b4:=below_step BL.out hd.below;have B4:=Aside0.mk b4;have x8:=blk_below X8.out b4;have X9:=Aside0.mk x8;have z0:=(blk_cell X9.out 0).trans (rfl:_=some (Value.slice P0 d.b0.length p0));have z1:=(blk_cell X9.out 1).trans (rfl:_=some (Value.int .i64 d.s0));have z2:=(blk_cell X9.out 2).trans (rfl:_=some (Value.slice P1 d.b1.length p1));have z3:=(blk_cell X9.out 3).trans (rfl:_=some (Value.int .i64 d.s1));have z4:=(blk_cell X9.out 4).trans (rfl:_=some (Value.int .i64 d.room));have z5:=(blk_cell X9.out 5).trans (rfl:_=some (Value.int .i64 d.stop));have z6:=(blk_cell X9.out 6).trans (rfl:_=some (Value.bool d.dead));clear hd b4 x8 HC1)|(go_at_call 25;(with_reducible refine Calls.mono (refGet_one w4 P0 P1 p0 p1 d) ?_);rintro e w5 ⟨rfl,hb⟩;have B5:=Aside0.mk (below_step B4.out hb);clear hb)|(go_at_call 23;(with_reducible refine Calls.mono (HC2.out w5 B5.out) ?_);rintro e w6 ⟨rfl,hb⟩;have B6:=Aside0.mk (below_step B5.out hb);clear hb)|(go_at_call 15;refine(awake_calls _).mono ?_;rintro e w7 ⟨rfl,hb⟩;have B7:=Aside0.mk (below_step B6.out hb);clear hb))
   go_ret
   exact ⟨rfl,below_step HB.out (below_step LP.out.below B7.out)⟩
  have cn:decide ((n:Int)<(l0.length:Int))=true:=decide_eq_true (by omega)
  have hmem:rd_T49 l0 (n:Int) ∈ l0:=by unfold rd_T49;rw [Int.toNat_natCast,List.getD_eq_getElem?_getD,List.getElem?_eq_getElem hn,Option.getD_some];exact List.getElem_mem _
  obtain ⟨ad,B2,b2,B4,b4,e_,f0,f1,f2,f3,f4,l2,g2,l4,g4⟩:=at_T49 HR.out (n:Int) (by omega) (by omega)
  subst e_
  have hbig:=HLE.out _ hmem
  rw [Int.toNat_natCast] at f0 f1 f2 f3 f4
  generalize rd_T49 l0 (n:Int)=st at f0 f1 f2 f3 f4 l2 g2 l4 g4 hbig
  clear hmem
  have bw:=below_step HB.out LP.out.below
  have BW:=Aside0.mk bw
  have F0:=Aside0.mk (pw_cell_below bw f0)
  have F1:=Aside0.mk (pw_cell_below bw f1)
  have F2:=Aside0.mk (pw_cell_below bw f2)
  have F3:=Aside0.mk (pw_cell_below bw f3)
  have F4:=Aside0.mk (pw_cell_below bw f4)
  have L2:=Aside0.mk l2
  have HBIG:=Aside0.mk hbig
  have R2:=Aside0.mk (Kd.F_below (Kd.C_F (Kd.heap_int .u8) g2) bw)
  have R4:=Aside0.mk (Kd.F_below (Kd.C_F (Kd.heap_int .i64) g4) bw)
  clear f0 f1 f2 f3 f4 l2 g2 l4 g4 bw hbig
  have y0:=F0.out
  have y1:=F1.out
  have d01:(0<=(n:Int))=True:=eq_true (by omega)
  have dn2:((n:Int)<(l0.length:Int))=True:=eq_true (by omega)
  by_cases ho:st.f0<3
  case neg =>
   have o1:decide (st.f0<3)=false:=decide_eq_false ho
   clear ho
   go_wp2
   go_roundg (l0.length - (n+1))
   case measure=>omega
   case rel=>exact ⟨n+1,d,r,by first|(rw [Int.natCast_add];rfl)|rw [show wrap64 ((n:Int)+1)=((n+1:Nat):Int) by unfold wrap64;omega],by omega,HI,LP⟩
  have o1:decide (st.f0<3)=true:=decide_eq_true ho
  have HO:=Aside0.mk ho
  by_cases hi:st.f1=1
  case neg =>
   have o2:(st.f1 == 1)=false:=beq_eq_false_iff_ne.2 hi
   clear ho hi
   go_wp2
   go_roundg (l0.length - (n+1))
   case measure=>omega
   case rel=>exact ⟨n+1,d,r,by first|(rw [Int.natCast_add];rfl)|rw [show wrap64 ((n:Int)+1)=((n+1:Nat):Int) by unfold wrap64;omega],by omega,HI,LP⟩
  have o2:(st.f1 == 1)=true:=beq_iff_eq.2 hi
  have HIQ:=Aside0.mk hi
  clear ho hi
  go_upto_region 15 with (fail)
  clear y0 y1 o1 o2
  obtain ⟨D,P0,P1,p0,p1,hAT,hX8,hND,hGE,hRV⟩:=LP.out.ex
  have X8:=Aside0.mk hX8
  have AT:=Aside0.mk hAT
  have ND:=Aside0.mk hND
  have G8:=Aside0.mk hGE
  have RV:=Aside0.mk hRV
  clear hAT hX8 hND hGE hRV LP
  refine region_cards2 (F:=?F15) 6 (λw'=>Aside0 (Below wr.heap.size wr w'))
   [λv _ _ _=>v = .pointer (some ⟨g,0,none⟩),
   λv _ _ _=>v = .agg #[Value.slice P0 r.b0.length p0,Value.int .i64 r.s0,Value.slice P1 r.b1.length p1,Value.int .i64 r.s1,Value.int .i64 r.room,Value.int .i64 r.stop,Value.bool r.dead],
   λv _ _ _=>v = .slice (some ad) l0.length cl,
   λv _ _ _=>v = .int .i64 (n:Int),
   λv _ _ _=>v = .pointer (some (ad.add (n*5))),
   λv _ _ _=>v = .agg #[.int .i64 st.f0,.int .i64 st.f1,.slice B2 st.f2.length b2,.int .i64 st.f3,.slice B4 st.f4.length b4]]
   (by kernel_rfl) (by kernel_rfl) ?hF15 ?hS015 ?hS15 ?hstay15 ?hsteps15 ?hend15
  case hF15 =>
   intro vs
   simp only [List.take_succ_cons,List.take_zero,fill,if_true,if_false,Act.put,List.setIfInBounds_toArray,List.set_cons_zero,List.set_cons_succ,Nat.reduceAdd,List.contains_cons,List.contains_nil,Nat.reduceBEq,Bool.or_false,Bool.false_or,Bool.not_true,Bool.not_false,Bool.false_eq_true,Bool.or_self,Bool.true_or]
   rfl
  case hS015=>exact ⟨below_drew (Below.refl _ _)⟩
  case hS15=>exact λw1 w2 hb hs=>⟨below_step hs.out hb⟩
  case hstay15=>exact ⟨λ_ _ _ _ _ _ h=>h,λ_ _ _ _ _ _ h=>h,λ_ _ _ _ _ _ h=>h,λ_ _ _ _ _ _ h=>h,λ_ _ _ _ _ _ h=>h,λ_ _ _ _ _ _ h=>h,trivial⟩
  case hsteps15 =>
   refine ⟨?s15_0,?s15_1,?s15_2,?s15_3,?s15_4,?s15_5,trivial⟩
   case s15_0 =>
    intro _ vs lo hi W_ hs hp
    exact does_val (by first|(go_simp;done)|(go_simp;rfl)) ⟨rfl,Below.refl _ _⟩
   case s15_1 =>
    intro _ vs lo hi W_ hs hp
    have X8_:=Aside0.mk (blk_below X8.out hs.out)
    have x0:=(blk_cell X8_.out 0).trans (rfl:_=some (Value.slice P0 r.b0.length p0))
    have x1:=(blk_cell X8_.out 1).trans (rfl:_=some (Value.int .i64 r.s0))
    have x2:=(blk_cell X8_.out 2).trans (rfl:_=some (Value.slice P1 r.b1.length p1))
    have x3:=(blk_cell X8_.out 3).trans (rfl:_=some (Value.int .i64 r.s1))
    have x4:=(blk_cell X8_.out 4).trans (rfl:_=some (Value.int .i64 r.room))
    have x5:=(blk_cell X8_.out 5).trans (rfl:_=some (Value.int .i64 r.stop))
    have x6:=(blk_cell X8_.out 6).trans (rfl:_=some (Value.bool r.dead))
    exact does_val (by first|(go_simp;done)|(go_simp;rfl)) ⟨rfl,Below.refl _ _⟩
   case s15_2 =>
    intro _ vs lo hi W_ hs hp
    exact does_val (by first|(go_simp;done)|(go_simp;rfl)) ⟨rfl,Below.refl _ _⟩
   case s15_3 =>
    intro _ vs lo hi W_ hs hp
    exact does_val (by first|(go_simp;done)|(go_simp;rfl)) ⟨rfl,Below.refl _ _⟩
   case s15_4 =>
    intro _ vs lo hi W_ hs hp
    have e2:vs 2 = .slice (some ad) l0.length cl:=hp 2 (by kernel_rfl) rfl
    have e3:vs 3 = .int .i64 (n:Int):=hp 3 (by kernel_rfl) rfl
    have c01_:(0<=(n:Int))=True:=eq_true (by omega)
    have ci2_:((n:Int)<(l0.length:Int))=True:=eq_true (by omega)
    exact does_val (by first|(go_simp;done)|(go_simp;rfl)) ⟨rfl,Below.refl _ _⟩
   case s15_5 =>
    intro _ vs lo hi W_ hs hp
    have e4:vs 4 = .pointer (some (ad.add (n*5))):=hp 4 (by kernel_rfl) rfl
    have y0:=pw_cell_below hs.out F0.out
    have y1:=pw_cell_below hs.out F1.out
    have y2:=pw_cell_below hs.out F2.out
    have y3:=pw_cell_below hs.out F3.out
    have y4:=pw_cell_below hs.out F4.out
    exact does_val (by first|(go_simp;done)|(go_simp;rfl)) ⟨rfl,Below.refl _ _⟩
  case hend15 =>
  intro vs lo_ hi_ Wc hs hp _
  have e0:vs 0 = .pointer (some ⟨g,0,none⟩):=hp 0 (by decide)
  have e1:vs 1 = .agg #[Value.slice P0 r.b0.length p0,Value.int .i64 r.s0,Value.slice P1 r.b1.length p1,Value.int .i64 r.s1,Value.int .i64 r.room,Value.int .i64 r.stop,Value.bool r.dead]:=hp 1 (by decide)
  have e5:vs 5 = .agg #[.int .i64 st.f0,.int .i64 st.f1,.slice B2 st.f2.length b2,.int .i64 st.f3,.slice B4 st.f4.length b4]:=hp 5 (by decide)
  rw [e0,e1,e5]
  have hbc:=hs.out
  obtain ⟨q0,q1,hraw⟩:=AT.out.on hbc
  have x8:=blk_below X8.out hbc
  have lt8:=blk_lt X8.out
  have av:∀ k,k<w.heap.size->¬ (D k\/k=b8):=λk hk q=>by
   have h1:=HB.out.size
   rcases q with q|q
   ·have:=AT.out.ge k q;omega
   ·have:=G8.out;omega
  have hDo:=lawDoLow hraw (λk=>k=b8) (λk hk=>by have:=hbc.size;omega) (RV.out.step (Step.of_below hbc)) HI.out.2.good (HI.out.1 ▸ HI.out.2.good) st.f1 st.f3 B2 B4 st.f2.length b2 st.f4.length b4 st.f2 st.f4 rfl L2.out (Kd.F_mono (Kd.F_below R2.out hbc) av) HBIG.out rfl (Kd.F_mono (Kd.F_below R4.out hbc) av) st.f0 HO.out
  have HDO:=Aside0.mk hDo
  clear X8
  have X8:=Aside0.mk x8
  clear hDo x8 lt8 av hraw hs hbc e0 e1 e5 hp
  refine any_does (i:=6) (N:=some 71) rfl rfl (by kernel_rfl) rfl ?_
  refine does_call Try.func18 (by kernel_rfl) rfl #[.pointer (some ⟨g,0,none⟩),.agg #[Value.slice P0 r.b0.length p0,Value.int .i64 r.s0,Value.slice P1 r.b1.length p1,Value.int .i64 r.s1,Value.int .i64 r.room,Value.int .i64 r.stop,Value.bool r.dead],.agg #[.int .i64 st.f0,.int .i64 st.f1,.slice B2 st.f2.length b2,.int .i64 st.f3,.slice B4 st.f4.length b4]] rfl rfl (by simp only [List.map_toArray,List.map_cons,List.map_nil];first|rfl|(go_simp;done)|(simp [Act.eval];done)) ?_
  refine Calls.mono HDO.out ?_
  rintro e w5 ⟨v,t,rfl,D',hat,his,hst⟩
  refine ⟨_,rfl,?_⟩
  obtain ⟨Q0,Q1,q0,q1,ev,hv⟩:=his
  obtain ⟨r1,hr1⟩:∃ r1,r1=r.doing st.f0 st.f1 st.f2 st.f3 st.f4:=⟨_,rfl⟩
  rw [<-hr1] at ev hv
  subst ev
  have R1:=Aside0.mk hr1
  have AT5:=Aside0.mk hat
  have HB5:=Aside0.mk hat.below
  have RV5:=Aside0.mk hv
  have x8:=hst.blk X8.out ND.out
  have ND5:=Aside0.mk x8.2
  clear X8
  have X8:=Aside0.mk x8.1
  clear x8 hat hst hv hr1 HDO
  have z0:=(blk_cell X8.out 0).trans (rfl:_=some (Value.slice P0 r.b0.length p0))
  have z1:=(blk_cell X8.out 1).trans (rfl:_=some (Value.int .i64 r.s0))
  have z2:=(blk_cell X8.out 2).trans (rfl:_=some (Value.slice P1 r.b1.length p1))
  have z3:=(blk_cell X8.out 3).trans (rfl:_=some (Value.int .i64 r.s1))
  have z4:=(blk_cell X8.out 4).trans (rfl:_=some (Value.int .i64 r.room))
  have z5:=(blk_cell X8.out 5).trans (rfl:_=some (Value.int .i64 r.stop))
  have z6:=(blk_cell X8.out 6).trans (rfl:_=some (Value.bool r.dead))
  have f0:=blk_frozen X8.out 0
  have f1:=blk_frozen X8.out 1
  have f2:=blk_frozen X8.out 2
  have f3:=blk_frozen X8.out 3
  have f4:=blk_frozen X8.out 4
  have f5:=blk_frozen X8.out 5
  have f6:=blk_frozen X8.out 6
  refine any_does (i:=7) (N:=some 64) rfl rfl (by kernel_rfl) rfl ?_
  refine does_val (v:=.tuple #[dkV Q0 Q1 q0 q1 r1,.bool t]) (w1:=w5) (by first|(go_simp;done)|(go_simp;rfl)) ?_
  refine take_pre (i:=8) (N:=some 72) (v:=dkV Q0 Q1 q0 q1 r1) rfl rfl (by kernel_rfl) (by kernel_rfl) (by kernel_rfl) (λ_ _ _ h=>h) (by rfl) ?_ ?_
  ·intro w_
   first|(go_simp;done)|(go_simp;rfl)
  refine take_pre (i:=9) (N:=some 73) (v:=.bool t) rfl rfl (by kernel_rfl) (by kernel_rfl) (by kernel_rfl) (λ_ _ _ h=>h) (by rfl) ?_ ?_
  ·intro w_
   first|(go_simp;done)|(go_simp;rfl)
  refine wpAny_of_path [10] (_ :: []) _ _ _ rfl (by kernel_rfl) ?_
  (try simp only [List.getElem_toArray,List.getElem_cons_succ,List.getElem_cons_zero])
  (try simp only [Act.put,List.setIfInBounds_toArray,List.set_cons_zero,List.set_cons_succ])
  go_wp2_with (first|((with_reducible refine store_event (t:=43) (p:=8) rfl rfl rfl (w1:=(((((((w5.setCell ⟨b8,0,none⟩ (Value.slice Q0 r1.b0.length q0)).setCell ⟨b8,1,none⟩ (Value.int .i64 r1.s0)).setCell ⟨b8,2,none⟩ (Value.slice Q1 r1.b1.length q1)).setCell ⟨b8,3,none⟩ (Value.int .i64 r1.s1)).setCell ⟨b8,4,none⟩ (Value.int .i64 r1.room)).setCell ⟨b8,5,none⟩ (Value.int .i64 r1.stop)).setCell ⟨b8,6,none⟩ (Value.bool r1.dead))) ?hrun ?_);(case hrun=>first|(go_simp;done)|(go_simp;rfl));intro w7 hw7;have Y8:=Aside0.mk (show w7.heap[b8]? = some (.cells #[Value.slice Q0 r1.b0.length q0,Value.int .i64 r1.s0,Value.slice Q1 r1.b1.length q1,Value.int .i64 r1.s1,Value.int .i64 r1.room,Value.int .i64 r1.stop,Value.bool r1.dead] 43 (0,0)) by rw [hw7];exact(blk_put ((blk_put ((blk_put ((blk_put ((blk_put ((blk_put ((blk_put (X8.out) 0 (Value.slice Q0 r1.b0.length q0) rfl)) 1 (Value.int .i64 r1.s0) rfl)) 2 (Value.slice Q1 r1.b1.length q1) rfl)) 3 (Value.int .i64 r1.s1) rfl)) 4 (Value.int .i64 r1.room) rfl)) 5 (Value.int .i64 r1.stop) rfl)) 6 (Value.bool r1.dead) rfl));have SZ7:=Aside0.mk (show w7.heap.size=w5.heap.size by rw [hw7];simp only [size_set]);have BB7:=Aside0.mk (show Below w1.heap.size w1 w7 by rw [hw7];exact(below_set ((below_set ((below_set ((below_set ((below_set ((below_set ((below_set (HB5.out) G8.out)) G8.out)) G8.out)) G8.out)) G8.out)) G8.out)) G8.out));have CH7:=Aside0.mk (show ∀ k,k≠b8->w7.heap[k]? = w5.heap[k]? from λk hk=>by rw [hw7];exact((Below.heap_setCell ((((((w5.setCell ⟨b8,0,none⟩ (Value.slice Q0 r1.b0.length q0)).setCell ⟨b8,1,none⟩ (Value.int .i64 r1.s0)).setCell ⟨b8,2,none⟩ (Value.slice Q1 r1.b1.length q1)).setCell ⟨b8,3,none⟩ (Value.int .i64 r1.s1)).setCell ⟨b8,4,none⟩ (Value.int .i64 r1.room)).setCell ⟨b8,5,none⟩ (Value.int .i64 r1.stop)) ⟨b8,6,none⟩ (Value.bool r1.dead) k hk).trans (((Below.heap_setCell (((((w5.setCell ⟨b8,0,none⟩ (Value.slice Q0 r1.b0.length q0)).setCell ⟨b8,1,none⟩ (Value.int .i64 r1.s0)).setCell ⟨b8,2,none⟩ (Value.slice Q1 r1.b1.length q1)).setCell ⟨b8,3,none⟩ (Value.int .i64 r1.s1)).setCell ⟨b8,4,none⟩ (Value.int .i64 r1.room)) ⟨b8,5,none⟩ (Value.int .i64 r1.stop) k hk).trans (((Below.heap_setCell ((((w5.setCell ⟨b8,0,none⟩ (Value.slice Q0 r1.b0.length q0)).setCell ⟨b8,1,none⟩ (Value.int .i64 r1.s0)).setCell ⟨b8,2,none⟩ (Value.slice Q1 r1.b1.length q1)).setCell ⟨b8,3,none⟩ (Value.int .i64 r1.s1)) ⟨b8,4,none⟩ (Value.int .i64 r1.room) k hk).trans (((Below.heap_setCell (((w5.setCell ⟨b8,0,none⟩ (Value.slice Q0 r1.b0.length q0)).setCell ⟨b8,1,none⟩ (Value.int .i64 r1.s0)).setCell ⟨b8,2,none⟩ (Value.slice Q1 r1.b1.length q1)) ⟨b8,3,none⟩ (Value.int .i64 r1.s1) k hk).trans (((Below.heap_setCell ((w5.setCell ⟨b8,0,none⟩ (Value.slice Q0 r1.b0.length q0)).setCell ⟨b8,1,none⟩ (Value.int .i64 r1.s0)) ⟨b8,2,none⟩ (Value.slice Q1 r1.b1.length q1) k hk).trans (((Below.heap_setCell (w5.setCell ⟨b8,0,none⟩ (Value.slice Q0 r1.b0.length q0)) ⟨b8,1,none⟩ (Value.int .i64 r1.s0) k hk).trans (((Below.heap_setCell w5 ⟨b8,0,none⟩ (Value.slice Q0 r1.b0.length q0) k hk).trans (rfl)))))))))))))));clear hw7))
  go_roundg (l0.length - (n+1))
  case measure=>omega
  case rel =>
   obtain ⟨q0',q1',hraw⟩:=AT5.out
   refine ⟨n+1,d.doing st.f0 st.f1 st.f2 st.f3 st.f4,r1,by first|(rw [Int.natCast_add];rfl)|rw [show wrap64 ((n:Int)+1)=((n+1:Nat):Int) by unfold wrap64;omega],by omega,⟨by rw [R1.out,HI.out.1],HI.out.2.doing (by have:=HIQ.out;omega) HO.out _ _ _⟩,⟨⟨D',Q0,Q1,q0,q1,⟨q0',q1',hraw.move BB7.out (by have:=SZ7.out;omega) (λk hk=>CH7.out k (λe=>ND5.out (e ▸ hk)))⟩,Y8.out,ND5.out,G8.out,RV5.out.move (λk hk _=>CH7.out k (λe=>hk (.inr e)))⟩⟩⟩
theorem apart_calls (s:Bool) (AL:Option Addr) (cl:Nat) (l0:List S49) (w:World) (hr0:Kd.C k49 w AL l0.length l0) (hc0:l0.length<=cl) (hl:l0.length<=9223372036854775806) (hb0:∀ x ∈ l0,x.f2.length<=140737488355328) :
  Calls Try.prog 8 #[.slice AL l0.length cl,.bool s] w λe w'=>e = .returned (.bool true)/\Below w.heap.size w w':=by
 cases s with
 | false=>exact apart0_calls AL cl l0 w hr0 hc0 hl hb0
 | true=>exact apart1_calls AL cl l0 w hr0 hc0 hl hb0
end
end Go.Proofs.Ytpahdlgpiecdkaa.Dsk
