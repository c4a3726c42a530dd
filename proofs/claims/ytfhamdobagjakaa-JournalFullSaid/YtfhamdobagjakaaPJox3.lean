/- a part -/
import Derived.Test.YtfhamdobagjakaaPJox1
import Derived.Test.YtfhamdobagjakaaPJox2
namespace Go.Proofs.Ytfhamdobagjakaa.PJo
open Go.RowKit Go.Proofs.YtfhamdobagjakaaW.PrintWords Go.Proofs.YtfhamdobagjakaaW.PrintLast Go.Proofs.YtfhamdobagjakaaW.PrintMore
attribute [local go_sem] max2_int min2_int max_two min_two max_three min_three max_four min_four
set_option linter.unusedVariables false
set_option linter.unusedSimpArgs false
set_option maxHeartbeats 8000000
set_option maxRecDepth 100000
theorem z3_1 {P:Prop} (h:P:=by simp only [Act.put,List.setIfInBounds_toArray,List.set_cons_zero,List.set_cons_succ,i64_w,i32_w];rfl):P:=h
theorem z3_5 {P:Prop} (h:P:=by(with_reducible repeat(first|apply Kd.V_alloc|apply Kd.V_drewN|apply Kd.V_drew));exact HO_0.out):P:=h
theorem z3_7 {P:Prop} (h:P:=by exact(Reps.one (show Kd.M (Kd.int .u8) _ _ _ ((t168 / 16777216) % 256) [.int .u8 ((t168 / 16777216) % 256)] from rfl) (Reps.one (show Kd.M (Kd.int .u8) _ _ _ ((t168 / 65536) % 256) [.int .u8 ((t168 / 65536) % 256)] from rfl) (Reps.one (show Kd.M (Kd.int .u8) _ _ _ ((t168 / 256) % 256) [.int .u8 ((t168 / 256) % 256)] from rfl) (Reps.one (show Kd.M (Kd.int .u8) _ _ _ ((t168) % 256) [.int .u8 ((t168) % 256)] from rfl) (Reps.none _ _)))))):P:=h
theorem z3_8 {P:Prop} (h:P:=by exact(Reps.one (show Kd.FK (Kd.slice 5 (Kd.int .u8)) _ _ y160 [.slice A0 y160.length c0] from(Kd.FK_slice_mk (Kd.V_reads' (e:=0) (base:=0) (Kd.V_mono (e:=0) (base:=0) (ok':=(λk_=>(P0_ k_\/w.heap.size<=k_))) (HO164.out) (λk_ hk=>hk))).2.1 (Kd.V_F (e:=0) (base:=0) (Kd.V_mono (e:=0) (base:=0) (ok':=(λk_=>(P0_ k_\/w.heap.size<=k_))) (HO164.out) (λk_ hk=>hk))))) (Reps.none _ _))):P:=h
theorem z3_9 {P:Prop} (h:P:=by(with_reducible repeat(first|apply Kd.V_alloc|apply Kd.V_drewN|apply Kd.V_drew));exact HO164.out):P:=h
theorem z3_10 {P:Prop} (h:P:=by(with_reducible repeat(first|apply Kd.N_alloc|apply Kd.N_drewN|apply Kd.N_drew));exact HO167.out):P:=h
theorem z3_11 {P:Prop} (h:P:=by(with_reducible repeat(first|apply Kd.V_alloc|apply Kd.V_drewN|apply Kd.V_drew));exact HO173.out):P:=h
theorem z3_12 {P:Prop} (h:P:=by repeat(first|exact(Kd.V_reads' HO150.out).2.2|(with_reducible refine Kd.C_alloc ?_ _)|(with_reducible refine Kd.C_drewN ?_ _)|(with_reducible refine Kd.C_drew ?_))):P:=h
theorem z3_13 {P:Prop} (h:P:=by repeat(first|exact(Kd.N_reads' HO167.out).2.2|(with_reducible refine Kd.C_alloc ?_ _)|(with_reducible refine Kd.C_drewN ?_ _)|(with_reducible refine Kd.C_drew ?_))):P:=h
theorem z3_14 {P:Prop} (h:P:=by repeat(first|exact(Kd.V_reads' HO173.out).2.2|(with_reducible refine Kd.C_alloc ?_ _)|(with_reducible refine Kd.C_drewN ?_ _)|(with_reducible refine Kd.C_drew ?_))):P:=h
theorem z3_15 {P:Prop} (h:P:=by repeat(first|exact(Kd.R_reads' HO176.out).2.2|(with_reducible refine Kd.C_alloc ?_ _)|(with_reducible refine Kd.C_drewN ?_ _)|(with_reducible refine Kd.C_drew ?_))):P:=h
theorem z3_17 {P:Prop} (h:P:=by kernel_rfl):P:=h
def bytes_Equal.f (l0:List Int) (l1:List Int):Option (Bool):=some ((strOfNums l0).toList == (strOfNums l1).toList)
theorem bytes_Equal.calls (A0:Option Addr) (c0:Nat) (l0:List Int) (A1:Option Addr) (c1:Nat) (l1:List Int) (r:Bool) (w:World) (hr0:Kd.C (Kd.int .u8) w A0 l0.length l0) (hc0:l0.length<=c0) (hr1:Kd.C (Kd.int .u8) w A1 l1.length l1) (hc1:l1.length<=c1) (h:bytes_Equal.f l0 l1=some r) :
  Calls Try.prog 113 #[.slice A0 l0.length c0,.slice A1 l1.length c1] w λe w'=>e = .returned (.bool r)/\Drawn0 w w':=by
 have HR0:=Aside0.mk hr0
 have HC0:=Aside0.mk hc0
 clear hr0 hc0
 have HR1:=Aside0.mk hr1
 have HC1:=Aside0.mk hc1
 clear hr1 hc1
 have H:(some ((strOfNums l0).toList == (strOfNums l1).toList))=some r:=h
 clear h
 obtain rfl:=sI_ H
 have hcv3:=Kd.C_string (P:=Try.prog) (A:=A0) (c:=c0) Try.underlying38 Try.underlying5 Try.underlying9 HR0.out
 have hcv4:=Kd.C_string (P:=Try.prog) (A:=A1) (c:=c1) Try.underlying38 Try.underlying5 Try.underlying9 HR1.out
 go_enter Try.func113,Try.ntmps113
 go_wp2
 go_ret
 exact ⟨z2_1,(by repeat(first|exact Drawn0.refl _|apply Drawn0.step))⟩
def bytes_Clone.f (l0:List Int):Option (List Int):=(some (([]:List Int):List Int)).bind λy138=>(if y138.length+l0.length<140737488355328 then(some (y138++l0)) else(none))
theorem bytes_Clone.calls_some (A0_:Addr) (c0:Nat) (l0:List Int) (r:List Int) (w:World) (hr0:Kd.C (Kd.int .u8) w (some A0_) l0.length l0) (hc0:l0.length<=c0) (h:bytes_Clone.f l0=some r) :
  Calls Try.prog 114 #[.slice (some A0_) l0.length c0] w λe w'=>∃ v0_:Value,e = .returned (v0_)/\Kd.R (Kd.int .u8) 5 w' w.heap.size (λ_=>True) v0_ r/\Below w.heap.size w w':=by
 have HR0:=Aside0.mk hr0
 have HC0:=Aside0.mk hc0
 clear hr0 hc0
 have HB:=U (Below.refl w.heap.size w)
 have H:((some (([]:List Int):List Int)).bind λy138=>(if y138.length+l0.length<140737488355328 then(some (y138++l0)) else(none)))=some r:=h
 clear h
 obtain ⟨y138,hy138⟩:∃ y_:List Int,y_=(([]:List Int)):=⟨_,rfl⟩
 replace H:(if y138.length+l0.length<140737488355328 then(some (y138++l0)) else(none))=some r:=by first|(rw [hy138];with_reducible exact H)|(have H2_:=(Option.bind_some _ _).symm.trans H;rw [hy138];with_reducible exact H2_)|(have H2_:=(Option.bind_some _ _).symm.trans H;with_reducible exact H2_)|with_reducible exact H|(rw [hy138];exact H)|exact H
 have Ny138:=Aside0.mk hy138
 clear hy138
 by_cases c2:y138.length+l0.length<140737488355328
 rotate_left
 ·rw [if_neg c2] at H
  exact absurd H (by simp)
 rw [if_pos c2] at H
 have LMc2:=Aside0.mk c2
 clear c2
 obtain ⟨y141,hy141⟩:∃ y_:List Int,y_=(y138++l0):=⟨_,rfl⟩
 replace H:(some y141)=some r:=by first|(rw [hy141];with_reducible exact H)|(have H2_:=(Option.bind_some _ _).symm.trans H;rw [hy141];with_reducible exact H2_)|(have H2_:=(Option.bind_some _ _).symm.trans H;with_reducible exact H2_)|with_reducible exact H|(rw [hy141];exact H)|exact H
 have Ny141:=Aside0.mk hy141
 clear hy141
 obtain rfl:=sI_ H
 have hnil_:=λW:World=>Lib.run_eql_slice_nil (P:=Try.prog) W 38 5 (some A0_) l0.length c0 0 0 z3_17
 go_enter Try.func114,Try.ntmps114
 go_wp2_with (first|((with_reducible refine gate_dst (N:=5) rfl ?_);refine Kd.R_lit (Kd.int .u8) _ 5 ?hg (N:=5) ?hd (xs:=([]:List Int)) (inner:=[]) (ok:=λ_=>True) (okp:=λ_=>True) ?hr ?hp (λ_ hk=>hk) trivial (Below.refl _ _) (Nat.le_refl _) (by simp) ?_;(case hd=>rfl);(case hg=>rfl);(case hr=>exact z1_11);(case hp=>exact(Reps.none _ _));intro v139 w3 ho4 hb hg_ hnew_;clear hg_ hnew_;(first|rw [<-Ny138.out] at ho4|(simp only [Int.reduceToNat] at ho4;rw [<-Ny138.out] at ho4));have HO140:=U (Kd.R_lower ho4 (below_size z1_0));replace HB:=U (below_step z1_0 hb);clear hb ho4)|((with_reducible refine gate_builtin (b:=.append) (xs:=#[.tmp 5,.tmp 6]) rfl ?_);at_builtin;refine Kd.R_append_rows (Kd.int .u8) (w0:=w) w.heap.size rfl (.tmp 5) (.tmp 6) 38 5 (.int .u8 0) 1 rfl Try.underlying38 info5 rfl (by decide) (by omega) v139 y138 l0 _ _ _ (λ_=>True) (λ_=>False) rfl rfl ?aO ?aR (λ_ _ h=>h) (λ_ h=>h.elim) ?aF ?aB ?aS ?aL ?_;(case aR=>repeat(first|exact(Kd.C_below HR0.out HB.out)|(with_reducible refine Kd.C_alloc ?_ _)|(with_reducible refine Kd.C_drewN ?_ _)|(with_reducible refine Kd.C_drew ?_)));(case aB=>exact z1_0);(case aF=>exact(λ_ _=>trivial));(case aO=>exact(by(with_reducible repeat(first|apply Kd.R_alloc|apply Kd.R_drewN|apply Kd.R_drew));exact HO140.out));(case aS=>exact(below_size z1_0));(case aL=>have:=LMc2.out;omega);intro v142 w5 ho hb hg hat;rw [<-Ny141.out] at ho;replace HB:=U (hb);have HO143:=U (ho);clear HO140;clear ho hb hg hat))
 go_ret
 exact ⟨_,z1_10,(by(with_reducible repeat(first|apply Kd.R_alloc|apply Kd.R_drewN|apply Kd.R_drew));exact HO143.out),z1_0⟩
theorem bytes_Clone.calls (A0:Option Addr) (c0:Nat) (l0:List Int) (r:List Int) (w:World) (hr0:Kd.C (Kd.int .u8) w A0 l0.length l0) (hc0:l0.length<=c0) (h:bytes_Clone.f l0=some r) :
  Calls Try.prog 114 #[.slice A0 l0.length c0] w λe w'=>∃ v0_:Value,e = .returned (v0_)/\Kd.R (Kd.int .u8) 5 w' w.heap.size (λ_=>True) v0_ r/\Below w.heap.size w w':=by
 cases A0 with
 | some A0_=>exact bytes_Clone.calls_some _ c0 l0 r w hr0 hc0 h
 | none =>
 have hl:l0=[]:=by
  rcases Nat.eq_zero_or_pos l0.length with h0|h0
  ·exact List.length_eq_zero_iff.1 h0
  ·obtain ⟨ad,e,_⟩:=hr0.2.2 h0
   cases e
 subst hl
 obtain rfl:r=[]:=by
  simp [bytes_Clone.f] at h
  first|exact h|exact h.symm
 have hnil_:=λW:World=>Lib.run_eql_slice_nil (P:=Try.prog) W 38 5 none 0 c0 0 0 z3_17
 clear h
 go_enter Try.func114,Try.ntmps114
 go_wp2
 go_ret
 exact ⟨_,rfl,(by first|exact Kd.R_nil _ _ _ _ _|exact Kd.N_nil _ _ _ _ _|exact Kd.V_nil _ _ _ _ _),Below.refl _ _⟩
mutual
def wire_GetRecord.j0:Nat->List Int->Bool->Option (Int×List Int×Int×Int)
 | 0,_,_=>none
 | k+1,x0,x15=>if x15=true then(some (0,([]:List Int),0,2)) else(if 1<=(x0.length:Int) then((wire_short.f k (x0.drop 1) 65536).bind λt151=>(if t151=true then(some (0,([]:List Int),0,3)) else((wire_GetNum.f k (x0.drop 1)).bind λbt157=>(if bt157.2.2=0 then(wire_GetRecord.j1 k x0 bt157.1 bt157.2.1 (decide (bt157.1 > 65536))) else(wire_GetRecord.j1 k x0 bt157.1 bt157.2.1 true))))) else(none))
def wire_GetRecord.j1:Nat->List Int->Int->Int->Bool->Option (Int×List Int×Int×Int)
 | 0,_,_,_,_=>none
 | k+1,x0,x6,x7,x42=>if x42=true then(some (0,([]:List Int),0,2)) else(if (x0.length:Int)<(wrap64 ((wrap64 ((wrap64 (1+x7))+(wrap64 (x6))))+4)) then(some (0,([]:List Int),0,3)) else(if 0<=(wrap64 ((wrap64 (1+x7))+(wrap64 (x6)))) then(if (wrap64 ((wrap64 (1+x7))+(wrap64 (x6))))<=(x0.length:Int) then((sum_Of.f k (([(x0.take ((wrap64 ((wrap64 (1+x7))+(wrap64 (x6)))):Int).toNat)]:List (List Int)))).bind λt168=>(if (wrap64 ((wrap64 (1+x7))+(wrap64 (x6))))<=(wrap64 ((wrap64 ((wrap64 (1+x7))+(wrap64 (x6))))+4)) then(if (wrap64 ((wrap64 ((wrap64 (1+x7))+(wrap64 (x6))))+4))<=(x0.length:Int) then((bytes_Equal.f ((x0.take ((wrap64 ((wrap64 ((wrap64 (1+x7))+(wrap64 (x6))))+4)):Int).toNat).drop ((wrap64 ((wrap64 (1+x7))+(wrap64 (x6)))):Int).toNat) (([(t168 / 16777216) % 256,(t168 / 65536) % 256,(t168 / 256) % 256,(t168) % 256]:List Int))).bind λt177=>(if t177=true then(if 0<(x0.length:Int) then(if 0<=(wrap64 (1+x7)) then(if (wrap64 (1+x7))<=(wrap64 ((wrap64 (1+x7))+(wrap64 (x6)))) then((bytes_Clone.f ((x0.take ((wrap64 ((wrap64 (1+x7))+(wrap64 (x6)))):Int).toNat).drop ((wrap64 (1+x7)):Int).toNat)).bind λt184=>(some (wrap64 (rd x0 0),t184,wrap64 ((wrap64 ((wrap64 (1+x7))+(wrap64 (x6))))+4),0))) else(none)) else(none)) else(none)) else(some (0,([]:List Int),0,2)))) else(none)) else(none))) else(none)) else(none)))
end
def wire_GetRecord.f (k:Nat) (l0:List Int):Option (Int×List Int×Int×Int):=if (l0.length:Int)=0 then(some (0,([]:List Int),0,3)) else(if 0<(l0.length:Int) then(if (rd l0 0)<1 then(wire_GetRecord.j0 k l0 true) else(wire_GetRecord.j0 k l0 (decide ((rd l0 0) > 200)))) else(none))
def wire_GetRecord.T17:Bool×List (List Nat×List Nat):=(true,[([],[]),([0],[0]),([1],[1]),([2],[2]),([],[]),([],[]),([],[]),([4,5,6],[4,5,6]),([7],[7]),([],[]),([9],[9]),([3,8,0,1,2,3],[3]),([8,11,0,1,2,3,4,5,6,7,8,11],[8]),([10,12,0,1,2,3,4,5,6,7,8,9,10,11,12],[10]),([13,0,1,2,3,4,5,6,7,8,9,10,11,12,13],[])])
def wire_GetRecord.B17:List Nat:=[0,1,3,7,0,0,0,112,240,0,512,511,2559,8191,16383]
theorem wire_GetRecord.tab17:rtab .any (opsOf Try.f82 17)=wire_GetRecord.T17:=by kernel_rfl
theorem wire_GetRecord.bits17:waitsOk wire_GetRecord.T17.2 wire_GetRecord.B17=true:=by kernel_rfl
theorem wire_GetRecord.calls (k:Nat) (P0_:Nat->Prop) (A0:Option Addr) (c0:Nat) (l0:List Int) (r1:Int) (r2:List Int) (r3:Int) (r4:Int) (w:World) (hs0:Kd.V (Kd.int .u8) 5 w w.heap.size (λk_=>P0_ k_) (.slice A0 l0.length c0) l0) (h:wire_GetRecord.f k l0=some (r1,r2,r3,r4)) :
  Calls Try.prog 82 #[.slice A0 l0.length c0] w λe w'=>∃ v1_:Value,e = .returned (.tuple #[.int .i64 r1,v1_,.int .i64 r3,.int .i64 r4])/\Kd.R (Kd.int .u8) 5 w' w.heap.size (λk_=>(w.heap.size<=k_)) v1_ r2/\Below w.heap.size w w':=by
 have HO0:=U (show Kd.V (Kd.int .u8) 5 w w.heap.size (λk_=>(P0_ k_\/w.heap.size<=k_)) (.slice A0 l0.length c0) l0 from Kd.V_mono hs0 (λk_ hk=>.inl hk))
 have HB:=U (Below.refl w.heap.size w)
 have H:(if (l0.length:Int)=0 then(some (0,([]:List Int),0,3)) else(if 0<(l0.length:Int) then(if (rd l0 0)<1 then(wire_GetRecord.j0 k l0 true) else(wire_GetRecord.j0 k l0 (decide ((rd l0 0) > 200)))) else(none)))=some (r1,r2,r3,r4):=h
 clear h
 by_cases c2:(l0.length:Int)=0
 ·rw [if_pos c2] at H
  have c2b0:((l0.length:Int) == 0)=true:=beq_iff_eq.mpr c2
  have c2b1:((l0.length:Int) != 0)=false:=bne_eq_false_iff_eq.mpr c2
  clear c2
  simp only [Option.some.injEq,Prod.mk.injEq] at H
  obtain ⟨rfl,rfl,rfl,rfl⟩:=H
  go_enter Try.func82,Try.ntmps82
  go_wp2
  refine bodyPost_ret (results_list (rs:=[.tmp 2,.tmp 3,.tmp 4,.tmp 5]) rfl (by simp) (.tmp (.tmp (.tmp (.tmp .nil))))) rfl ?_
  exact ⟨_,z1_10,z1_9,z1_0⟩
 rw [if_neg c2] at H
 have c2b0:((l0.length:Int) == 0)=false:=beq_eq_false_iff_ne.mpr c2
 have c2b1:((l0.length:Int) != 0)=true:=bne_iff_ne.mpr c2
 have c2b2:¬ (l0=[]):=λh_=>c2 (by rw [h_];rfl)
 have HC3:=Aside0.mk H
 clear H
 go_enter Try.func82,Try.ntmps82
 go_upto_region 3 with (fail)
 go_cut [15] (λv15 wc=>∃ (kq:Nat) (x15_2:Bool),v15 = .bool x15_2/\Aside0 (wire_GetRecord.j0 kq l0 x15_2=some (r1,r2,r3,r4))/\Aside0 (kq<=k)/\Aside0 (Kd.V (Kd.int .u8) 5 wc w.heap.size (λk_=>(P0_ k_\/w.heap.size<=k_)) (.slice A0 l0.length c0) l0)/\Aside0 (Below w.heap.size w wc))
 case first =>
  have H:=HC3.out
  clear HC3
  by_cases c4:0<(l0.length:Int)
  rotate_left
  ·rw [if_neg c4] at H
   exact absurd H (by simp)
  rw [if_pos c4] at H
  have c4b0:decide (0<(l0.length:Int))=true:=dT_ c4
  have c4b1:decide (0<l0.length)=true:=dT_ (by omega)
  clear c4
  (first|rw [c4b0]|(simp only [i64_w,i32_w];rw [c4b0])|skip)
  by_cases c5:(rd l0 0)<1
  ·rw [if_pos c5] at H
   have c5b0:decide ((rd l0 0)<1)=true:=dT_ c5
   clear c5
   have H':=Aside0.mk H
   clear H
   have p144:0<=(0:Int):=(by omega)
   have q144:0<(l0.length:Int):=oD_ z2_0
   obtain ⟨ad144,e144,hx144_0⟩:=Kd.at_int (Kd.V_reads' HO0.out).2.2 0 p144 q144
   cases e144
   have qi144:(0<l0.length)=True:=eq_true (by omega)
   (try rw [show((0:Int)).toNat=0 from rfl] at hx144_0)
   (try rw [Addr.add_zero'] at hx144_0)
   replace p144:=eq_true p144
   replace q144:=eq_true q144
   go_wp2
   go_meet
   case rel=>exact ⟨_,(true),z2_1,H',⟨(by first|omega|exact Nat.le_refl _)⟩,⟨(by(with_reducible repeat(first|apply Kd.V_alloc|apply Kd.V_drewN|apply Kd.V_drew));exact HO0.out)⟩,⟨z1_0⟩⟩
  rw [if_neg c5] at H
  have c5b0:decide ((rd l0 0)<1)=false:=dF_ c5
  clear c5
  have H':=Aside0.mk H
  clear H
  have p144:0<=(0:Int):=(by omega)
  have q144:0<(l0.length:Int):=oD_ z2_0
  obtain ⟨ad144,e144,hx144_0⟩:=Kd.at_int (Kd.V_reads' HO0.out).2.2 0 p144 q144
  cases e144
  have qi144:(0<l0.length)=True:=eq_true (by omega)
  (try rw [show((0:Int)).toNat=0 from rfl] at hx144_0)
  (try rw [Addr.add_zero'] at hx144_0)
  replace p144:=eq_true p144
  replace q144:=eq_true q144
  have p145:0<=(0:Int):=(by omega)
  have q145:0<(l0.length:Int):=oD_ z2_0
  obtain ⟨ad145,e145,hx145_0⟩:=Kd.at_int (Kd.V_reads' HO0.out).2.2 0 p145 q145
  obtain rfl:ad144=ad145:=(by injection e145)
  have qi145:(0<l0.length)=True:=eq_true (by omega)
  (try rw [show((0:Int)).toNat=0 from rfl] at hx145_0)
  (try rw [Addr.add_zero'] at hx145_0)
  replace p145:=eq_true p145
  replace q145:=eq_true q145
  go_wp2
  go_meet
  case rel=>exact ⟨_,(decide ((rd l0 0) > 200)),z2_1,H',⟨(by first|omega|exact Nat.le_refl _)⟩,⟨(by(with_reducible repeat(first|apply Kd.V_alloc|apply Kd.V_drewN|apply Kd.V_drew));exact HO0.out)⟩,⟨z1_0⟩⟩
 case rest =>
 clear HC3
 try clear p1
 try clear q1
 try clear hx1
 try clear qi1
 try clear c2
 try clear c2b0
 try clear c2b1
 try clear c2b2
 try clear p2
 try clear c4
 try clear c4b0
 try clear c4b1
 try clear c5
 try clear c5b0
 try clear hx144_0
 try clear hx145_0
 try clear p144
 try clear p145
 try clear q144
 try clear q145
 obtain ⟨kq,x15_2,rfl,HA,HJ2,HO_0,HB⟩:=hcut
 cases kq with
 | zero=>exact absurd HA.out (by simp [wire_GetRecord.j0])
 | succ kj2 =>
 have H:=HA.out
 clear HA
 simp only [wire_GetRecord.j0] at H
 by_cases c6:x15_2=true
 ·subst c6
  have H1:(some (0,([]:List Int),0,2))=some (r1,r2,r3,r4):=by rw [if_pos rfl] at H;exact H
  clear H
  have H:=H1
  clear H1
  simp only [Option.some.injEq,Prod.mk.injEq] at H
  obtain ⟨rfl,rfl,rfl,rfl⟩:=H
  go_wp2
  refine bodyPost_ret (results_list (rs:=[.tmp 2,.tmp 3,.tmp 4,.tmp 5]) rfl (by simp) (.tmp (.tmp (.tmp (.tmp .nil))))) rfl ?_
  exact ⟨_,z1_10,z1_9,z1_0⟩
 replace c6:=Bool.eq_false_iff.mpr c6
 subst c6
 have H1:(if 1<=(l0.length:Int) then((wire_short.f kj2 (l0.drop 1) 65536).bind λt151=>(if t151=true then(some (0,([]:List Int),0,3)) else((wire_GetNum.f kj2 (l0.drop 1)).bind λbt157=>(if bt157.2.2=0 then(wire_GetRecord.j1 kj2 l0 bt157.1 bt157.2.1 (decide (bt157.1 > 65536))) else(wire_GetRecord.j1 kj2 l0 bt157.1 bt157.2.1 true))))) else(none))=some (r1,r2,r3,r4):=by rw [if_neg (show ¬ (false=true) by decide)] at H;exact H
 clear H
 have H:=H1
 clear H1
 by_cases c7:1<=(l0.length:Int)
 rotate_left
 ·rw [if_neg c7] at H
  exact absurd H (by simp)
 rw [if_pos c7] at H
 have c7b0:=eq_true c7
 have c7b1:decide (1<=(l0.length:Int))=true:=dT_ c7
 clear c7
 obtain ⟨y146,hy146⟩:∃ y_:List Int,y_=(l0.drop 1):=⟨_,rfl⟩
 replace H:((wire_short.f kj2 y146 65536).bind λt151=>(if t151=true then(some (0,([]:List Int),0,3)) else((wire_GetNum.f kj2 (l0.drop 1)).bind λbt157=>(if bt157.2.2=0 then(wire_GetRecord.j1 kj2 l0 bt157.1 bt157.2.1 (decide (bt157.1 > 65536))) else(wire_GetRecord.j1 kj2 l0 bt157.1 bt157.2.1 true)))))=some (r1,r2,r3,r4):=by first|(rw [hy146];with_reducible exact H)|(have H2_:=(Option.bind_some _ _).symm.trans H;rw [hy146];with_reducible exact H2_)|(have H2_:=(Option.bind_some _ _).symm.trans H;with_reducible exact H2_)|with_reducible exact H|(rw [hy146];exact H)|exact H
 have Ny146:=Aside0.mk hy146
 clear hy146
 replace H:=oB_ H
 obtain ⟨t151,A80,H⟩:=H
 replace H:(if t151=true then(some (0,([]:List Int),0,3)) else((wire_GetNum.f kj2 (l0.drop 1)).bind λbt157=>(if bt157.2.2=0 then(wire_GetRecord.j1 kj2 l0 bt157.1 bt157.2.1 (decide (bt157.1 > 65536))) else(wire_GetRecord.j1 kj2 l0 bt157.1 bt157.2.1 true))))=some (r1,r2,r3,r4):=H
 have A8:=Aside0.mk A80
 clear A80
 by_cases c9:t151=true
 ·subst c9
  have H1:(some (0,([]:List Int),0,3))=some (r1,r2,r3,r4):=by rw [if_pos rfl] at H;exact H
  clear H
  have H:=H1
  clear H1
  simp only [Option.some.injEq,Prod.mk.injEq] at H
  obtain ⟨rfl,rfl,rfl,rfl⟩:=H
  have q10:(1:Int)<=((l0.length:Int):Int):=oD_ z2_0
  obtain ⟨i010,hi010,_,hsz10,_⟩:=info_parts info5
  have hroom10:l0.length<=c0:=(Kd.V_reads' HO_0.out).2.1
  have hC10:Kd.F (Kd.int .u8) _ _ A0 l0.length l0:=(Kd.V_at (base:=w.heap.size) HO_0.out).2.2
  have hcut10:=cut_from (P:=Try.prog) 38 5 .i64 Try.underlying38 hi010 1 hsz10 A0 l0.length c0 1 (by omega) q10
  have hr10:=Kd.F_cut (m:=(1:Int).toNat) (c:=c0) hC10 (by omega) hroom10
  obtain ⟨A10,hA10⟩:∃ A1,A1=(if c0=(1:Int).toNat then A0 else(A0:Option Addr).map (·.add ((1:Int).toNat*1))):=⟨_,rfl⟩
  obtain ⟨c10,hc10⟩:∃ c1,c1=c0 - (1:Int).toNat:=⟨_,rfl⟩
  have hy10:y146.length=l0.length - (1:Int).toNat:=(by rw [Ny146.out,List.length_drop]<;>omega)
  rw [show(l0).drop (1:Int).toNat=y146 from Ny146.out.symm] at hr10
  replace hr10:Kd.F (Kd.int .u8) _ _ A10 y146.length y146:=(by rw [hA10];exact hr10)
  rw [<-hy10,<-hA10,<-hc10] at hcut10
  have HO150:=U (show Kd.V (Kd.int .u8) 5 _ w.heap.size _ (.slice A10 y146.length c10) y146 from Kd.V_mk (by rw [hy10,hc10];exact Nat.sub_le_sub_right hroom10 _) hr10)
  have HC150:=U (show y146.length<=c10 from by rw [hy10,hc10];exact Nat.sub_le_sub_right hroom10 _)
  have KC10:=Aside0.mk hc10
  clear hr10 hC10 hroom10 hi010 hsz10 hc10
  have KY10:=Aside0.mk hy10
  have KA10:=Aside0.mk hA10
  clear hy10 hA10
  replace q10:=eq_true q10
  go_wp2_with (first|((with_reducible refine gate_callee (f:=112) rfl ?_);refine goesL_ (some 29) rfl rfl Try.func112 z3_17 rfl #[.slice A10 y146.length c10,.int .u64 65536] rfl z1_4 ?_;(with_reducible refine(wire_short.calls kj2 _ _ y146 65536 true _ ?side1 ?side2 A8.out).mono ?_);(case side1=>exact z3_12);(case side2=>exact(Kd.V_reads' HO150.out).2.1);rintro e w' ⟨rfl,⟨nd,rfl⟩⟩;refine ⟨_,rfl,?_⟩))
  refine bodyPost_ret (results_list (rs:=[.tmp 2,.tmp 3,.tmp 4,.tmp 5]) rfl (by simp) (.tmp (.tmp (.tmp (.tmp .nil))))) rfl ?_
  exact ⟨_,z1_10,z1_9,z1_0⟩
 replace c9:=Bool.eq_false_iff.mpr c9
 subst c9
 have H1:((wire_GetNum.f kj2 (l0.drop 1)).bind λbt157=>(if bt157.2.2=0 then(wire_GetRecord.j1 kj2 l0 bt157.1 bt157.2.1 (decide (bt157.1 > 65536))) else(wire_GetRecord.j1 kj2 l0 bt157.1 bt157.2.1 true)))=some (r1,r2,r3,r4):=by rw [if_neg (show ¬ (false=true) by decide)] at H;exact H
 clear H
 have H:=H1
 clear H1
 have c11b0:=eq_true (oD_ z2_0:1<=(l0.length:Int))
 obtain ⟨y152,hy152⟩:∃ y_:List Int,y_=(l0.drop 1):=⟨_,rfl⟩
 replace H:((wire_GetNum.f kj2 y152).bind λbt157=>(if bt157.2.2=0 then(wire_GetRecord.j1 kj2 l0 bt157.1 bt157.2.1 (decide (bt157.1 > 65536))) else(wire_GetRecord.j1 kj2 l0 bt157.1 bt157.2.1 true)))=some (r1,r2,r3,r4):=by first|(rw [hy152];with_reducible exact H)|(have H2_:=(Option.bind_some _ _).symm.trans H;rw [hy152];with_reducible exact H2_)|(have H2_:=(Option.bind_some _ _).symm.trans H;with_reducible exact H2_)|with_reducible exact H|(rw [hy152];exact H)|exact H
 have Ny152:=Aside0.mk hy152
 clear hy152
 replace H:=oB_ H
 obtain ⟨⟨t157,t158,t159⟩,A120,H⟩:=H
 replace H:(if t159=0 then(wire_GetRecord.j1 kj2 l0 t157 t158 (decide (t157 > 65536))) else(wire_GetRecord.j1 kj2 l0 t157 t158 true))=some (r1,r2,r3,r4):=H
 have A12:=Aside0.mk A120
 clear A120
 have HC13:=Aside0.mk H
 clear H
 have q14:(1:Int)<=((l0.length:Int):Int):=oD_ z2_0
 obtain ⟨i014,hi014,_,hsz14,_⟩:=info_parts info5
 have hroom14:l0.length<=c0:=(Kd.V_reads' HO_0.out).2.1
 have hC14:Kd.F (Kd.int .u8) _ _ A0 l0.length l0:=(Kd.V_at (base:=w.heap.size) HO_0.out).2.2
 have hcut14:=cut_from (P:=Try.prog) 38 5 .i64 Try.underlying38 hi014 1 hsz14 A0 l0.length c0 1 (by omega) q14
 have hr14:=Kd.F_cut (m:=(1:Int).toNat) (c:=c0) hC14 (by omega) hroom14
 obtain ⟨A14,hA14⟩:∃ A1,A1=(if c0=(1:Int).toNat then A0 else(A0:Option Addr).map (·.add ((1:Int).toNat*1))):=⟨_,rfl⟩
 obtain ⟨c14,hc14⟩:∃ c1,c1=c0 - (1:Int).toNat:=⟨_,rfl⟩
 have hy14:y146.length=l0.length - (1:Int).toNat:=(by rw [Ny146.out,List.length_drop]<;>omega)
 rw [show(l0).drop (1:Int).toNat=y146 from Ny146.out.symm] at hr14
 replace hr14:Kd.F (Kd.int .u8) _ _ A14 y146.length y146:=(by rw [hA14];exact hr14)
 rw [<-hy14,<-hA14,<-hc14] at hcut14
 have HO150:=U (show Kd.V (Kd.int .u8) 5 _ w.heap.size _ (.slice A14 y146.length c14) y146 from Kd.V_mk (by rw [hy14,hc14];exact Nat.sub_le_sub_right hroom14 _) hr14)
 have HC150:=U (show y146.length<=c14 from by rw [hy14,hc14];exact Nat.sub_le_sub_right hroom14 _)
 have KC14:=Aside0.mk hc14
 clear hr14 hC14 hroom14 hi014 hsz14 hc14
 have KY14:=Aside0.mk hy14
 have KA14:=Aside0.mk hA14
 clear hy14 hA14
 replace q14:=eq_true q14
 go_upto_region 8 with (first|((with_reducible refine gate_callee (f:=112) rfl ?_);refine goesL_ (some 29) rfl rfl Try.func112 z3_17 rfl #[.slice A14 y146.length c14,.int .u64 65536] rfl z1_4 ?_;(with_reducible refine(wire_short.calls kj2 _ _ y146 65536 false _ ?side1 ?side2 A8.out).mono ?_);(case side1=>exact z3_12);(case side2=>exact(Kd.V_reads' HO150.out).2.1);rintro e w' ⟨rfl,⟨nd,rfl⟩⟩;refine ⟨_,rfl,?_⟩;have q15:(1:Int)<=((l0.length:Int):Int):=oD_ z2_0;obtain ⟨i015,hi015,_,hsz15,_⟩:=info_parts info5;have hroom15:l0.length<=c0:=(Kd.V_reads' HO_0.out).2.1;have hC15:Kd.F (Kd.int .u8) _ _ A0 l0.length l0:=(Kd.V_at (base:=w.heap.size) HO_0.out).2.2;(try clear hcut14);have hcut15:=cut_from (P:=Try.prog) 38 5 .i64 Try.underlying38 hi015 1 hsz15 A0 l0.length c0 1 (by omega) q15;have hr15:=Kd.F_cut (m:=(1:Int).toNat) (c:=c0) hC15 (by omega) hroom15;obtain ⟨A15,hA15⟩:∃ A1,A1=(if c0=(1:Int).toNat then A0 else(A0:Option Addr).map (·.add ((1:Int).toNat*1))):=⟨_,rfl⟩;obtain ⟨c15,hc15⟩:∃ c1,c1=c0 - (1:Int).toNat:=⟨_,rfl⟩;have hy15:y152.length=l0.length - (1:Int).toNat:=(by rw [Ny152.out,List.length_drop]<;>omega);rw [show(l0).drop (1:Int).toNat=y152 from Ny152.out.symm] at hr15;replace hr15:Kd.F (Kd.int .u8) _ _ A15 y152.length y152:=(by rw [hA15];exact hr15);rw [<-hy15,<-hA15,<-hc15] at hcut15;have HO156:=U (show Kd.V (Kd.int .u8) 5 _ w.heap.size _ (.slice A15 y152.length c15) y152 from Kd.V_mk (by rw [hy15,hc15];exact Nat.sub_le_sub_right hroom15 _) hr15);have HC156:=U (show y152.length<=c15 from by rw [hy15,hc15];exact Nat.sub_le_sub_right hroom15 _);have KC15:=Aside0.mk hc15;clear hr15 hC15 hroom15 hi015 hsz15 hc15;have KY15:=Aside0.mk hy15;have KA15:=Aside0.mk hA15;clear hy15 hA15;(try rw [show y146=y152 from Ny146.out.trans Ny152.out.symm]);(try rw [show A14=A15 from KA14.out.trans KA15.out.symm]);(try rw [show c14=c15 from KC14.out.trans KC15.out.symm]);replace q15:=eq_true q15)|((with_reducible refine gate_callee (f:=83) rfl ?_);refine goesL_ (some 33) rfl rfl Try.func83 z3_17 rfl #[.slice A15 y152.length c15] rfl z1_4 ?_;(with_reducible refine(wire_GetNum.calls kj2 _ _ y152 t157 t158 t159 _ ?side1 ?side2 A12.out).mono ?_);(case side1=>repeat(first|exact(Kd.V_reads' HO156.out).2.2|(with_reducible refine Kd.C_alloc ?_ _)|(with_reducible refine Kd.C_drewN ?_ _)|(with_reducible refine Kd.C_drew ?_)));(case side2=>exact(Kd.V_reads' HO156.out).2.1);rintro e w' ⟨rfl,⟨nd,rfl⟩⟩;refine ⟨_,rfl,?_⟩))
 (try simp only [Act.put,List.setIfInBounds_toArray,List.set_cons_zero,List.set_cons_succ])
 go_cut [42] (λv42 wc=>∃ (kq:Nat) (x42_12:Bool),v42 = .bool x42_12/\Aside0 (wire_GetRecord.j1 kq l0 t157 t158 x42_12=some (r1,r2,r3,r4))/\Aside0 (kq<=kj2)/\Aside0 (Kd.V (Kd.int .u8) 5 wc w.heap.size (λk_=>(P0_ k_\/w.heap.size<=k_)) (.slice A0 l0.length c0) l0)/\Aside0 (Below w.heap.size w wc))
 case first =>
  have H:=HC13.out
  clear HC13
  by_cases c16:t159=0
  rotate_left
  ·rw [if_neg c16] at H
   have c16b0:(t159 == 0)=false:=beq_eq_false_iff_ne.mpr c16
   have c16b1:(t159 != 0)=true:=bne_iff_ne.mpr c16
   (first|rw [c16b0]|(simp only [i64_w,i32_w];rw [c16b0])|skip)
   have H':=Aside0.mk H
   clear H
   go_wp2
   go_meet
   case rel=>exact ⟨_,(true),z2_1,H',⟨(by have:=HJ2.out;first|omega|exact Nat.le_refl _)⟩,⟨z3_5⟩,⟨z1_0⟩⟩
  rw [if_pos c16] at H
  have c16b0:(t159 == 0)=true:=beq_iff_eq.mpr c16
  have c16b1:(t159 != 0)=false:=bne_eq_false_iff_eq.mpr c16
  clear c16
  (first|rw [c16b0]|(simp only [i64_w,i32_w];rw [c16b0])|skip)
  have H':=Aside0.mk H
  clear H
  go_wp2
  go_meet
  case rel=>exact ⟨_,(decide (t157 > 65536)),z2_1,H',⟨(by have:=HJ2.out;first|omega|exact Nat.le_refl _)⟩,⟨z3_5⟩,⟨z1_0⟩⟩
 case rest =>
 clear HC13
 try clear c1
 try clear p1
 try clear q1
 try clear hx1
 try clear qi1
 try clear c2
 try clear c2b0
 try clear c2b1
 try clear c2b2
 try clear p2
 try clear c4
 try clear c4b0
 try clear c4b1
 try clear c5
 try clear c5b0
 try clear c6
 try clear c7
 try clear c7b0
 try clear c7b1
 try clear c8
 try clear c9
 try clear c10
 try clear q10
 try clear c11
 try clear c11b0
 try clear c14
 try clear p14
 try clear q14
 try clear hx14
 try clear qi14
 try clear c15
 try clear q15
 try clear c16
 try clear c16b0
 try clear c16b1
 try clear hx144_0
 try clear hx145_0
 try clear p1
 try clear p144
 try clear p145
 try clear p2
 try clear q1
 try clear q10
 try clear q14
 try clear q144
 try clear q145
 try clear q15
 obtain ⟨kq,x42_12,rfl,HA,HJ12,HO_0,HB⟩:=hcut
 cases kq with
 | zero=>exact absurd HA.out (by simp [wire_GetRecord.j1])
 | succ kj12 =>
 have H:=HA.out
 clear HA
 simp only [wire_GetRecord.j1] at H
 by_cases c17:x42_12=true
 ·subst c17
  have H1:(some (0,([]:List Int),0,2))=some (r1,r2,r3,r4):=by rw [if_pos rfl] at H;exact H
  clear H
  have H:=H1
  clear H1
  simp only [Option.some.injEq,Prod.mk.injEq] at H
  obtain ⟨rfl,rfl,rfl,rfl⟩:=H
  go_wp2
  refine bodyPost_ret (results_list (rs:=[.tmp 2,.tmp 3,.tmp 4,.tmp 5]) rfl (by simp) (.tmp (.tmp (.tmp (.tmp .nil))))) rfl ?_
  exact ⟨_,z1_10,z1_9,z1_0⟩
 replace c17:=Bool.eq_false_iff.mpr c17
 subst c17
 have H1:(if (l0.length:Int)<(wrap64 ((wrap64 ((wrap64 (1+t158))+(wrap64 (t157))))+4)) then(some (0,([]:List Int),0,3)) else(if 0<=(wrap64 ((wrap64 (1+t158))+(wrap64 (t157)))) then(if (wrap64 ((wrap64 (1+t158))+(wrap64 (t157))))<=(l0.length:Int) then((sum_Of.f kj12 (([(l0.take ((wrap64 ((wrap64 (1+t158))+(wrap64 (t157)))):Int).toNat)]:List (List Int)))).bind λt168=>(if (wrap64 ((wrap64 (1+t158))+(wrap64 (t157))))<=(wrap64 ((wrap64 ((wrap64 (1+t158))+(wrap64 (t157))))+4)) then(if (wrap64 ((wrap64 ((wrap64 (1+t158))+(wrap64 (t157))))+4))<=(l0.length:Int) then((bytes_Equal.f ((l0.take ((wrap64 ((wrap64 ((wrap64 (1+t158))+(wrap64 (t157))))+4)):Int).toNat).drop ((wrap64 ((wrap64 (1+t158))+(wrap64 (t157)))):Int).toNat) (([(t168 / 16777216) % 256,(t168 / 65536) % 256,(t168 / 256) % 256,(t168) % 256]:List Int))).bind λt177=>(if t177=true then(if 0<(l0.length:Int) then(if 0<=(wrap64 (1+t158)) then(if (wrap64 (1+t158))<=(wrap64 ((wrap64 (1+t158))+(wrap64 (t157)))) then((bytes_Clone.f ((l0.take ((wrap64 ((wrap64 (1+t158))+(wrap64 (t157)))):Int).toNat).drop ((wrap64 (1+t158)):Int).toNat)).bind λt184=>(some (wrap64 (rd l0 0),t184,wrap64 ((wrap64 ((wrap64 (1+t158))+(wrap64 (t157))))+4),0))) else(none)) else(none)) else(none)) else(some (0,([]:List Int),0,2)))) else(none)) else(none))) else(none)) else(none)))=some (r1,r2,r3,r4):=by rw [if_neg (show ¬ (false=true) by decide)] at H;exact H
 clear H
 have H:=H1
 clear H1
 by_cases c18:(l0.length:Int)<(wrap64 ((wrap64 ((wrap64 (1+t158))+(wrap64 (t157))))+4))
 ·rw [if_pos c18] at H
  have c18b0:decide ((l0.length:Int)<(wrap64 ((wrap64 ((wrap64 (1+t158))+(wrap64 (t157))))+4)))=true:=dT_ c18
  clear c18
  simp only [Option.some.injEq,Prod.mk.injEq] at H
  obtain ⟨rfl,rfl,rfl,rfl⟩:=H
  go_wp2
  refine bodyPost_ret (results_list (rs:=[.tmp 2,.tmp 3,.tmp 4,.tmp 5]) rfl (by simp) (.tmp (.tmp (.tmp (.tmp .nil))))) rfl ?_
  exact ⟨_,z1_10,z1_9,z1_0⟩
 rw [if_neg c18] at H
 have c18b0:decide ((l0.length:Int)<(wrap64 ((wrap64 ((wrap64 (1+t158))+(wrap64 (t157))))+4)))=false:=dF_ c18
 clear c18
 obtain ⟨ji19,hji19⟩:∃ j_:Int,(wrap64 ((wrap64 (1+t158))+(wrap64 (t157))))=j_:=⟨_,rfl⟩
 replace H:(if 0<=(ji19) then(if (ji19)<=(l0.length:Int) then((sum_Of.f kj12 (([(l0.take ((ji19):Int).toNat)]:List (List Int)))).bind λt168=>(if (ji19)<=(wrap64 ((ji19)+4)) then(if (wrap64 ((ji19)+4))<=(l0.length:Int) then((bytes_Equal.f ((l0.take ((wrap64 ((ji19)+4)):Int).toNat).drop ((ji19):Int).toNat) (([(t168 / 16777216) % 256,(t168 / 65536) % 256,(t168 / 256) % 256,(t168) % 256]:List Int))).bind λt177=>(if t177=true then(if 0<(l0.length:Int) then(if 0<=(wrap64 (1+t158)) then(if (wrap64 (1+t158))<=(ji19) then((bytes_Clone.f ((l0.take ((ji19):Int).toNat).drop ((wrap64 (1+t158)):Int).toNat)).bind λt184=>(some (wrap64 (rd l0 0),t184,wrap64 ((ji19)+4),0))) else(none)) else(none)) else(none)) else(some (0,([]:List Int),0,2)))) else(none)) else(none))) else(none)) else(none))=some (r1,r2,r3,r4):=by first|(rw [hji19] at H;exact H)|(simp only [hji19] at H ⊢;exact H)
 (try rw [hji19] at c18b0)
 have hji19w:(IntKind.i64.wrap ((wrap64 (1+t158))+(wrap64 (t157))))=ji19:=(i64_w _).trans hji19
 (try rw [hji19] at c2b0)
 (try rw [hji19] at c2b0)
 (try rw [hji19] at c4b0)
 (try rw [hji19] at c5b0)
 (try rw [hji19] at c5b0)
 (try rw [hji19] at c16b0)
 (try rw [hji19] at c16b0)
 (try rw [hji19] at c18b0)
 (try rw [hji19] at c18b0)
 by_cases c20:0<=(ji19)
 rotate_left
 ·rw [if_neg c20] at H
  exact absurd H (by simp)
 rw [if_pos c20] at H
 have c20b0:=eq_true c20
 have c20b1:decide (0<=(ji19))=true:=dT_ c20
 clear c20
 by_cases c21:(ji19)<=(l0.length:Int)
 rotate_left
 ·rw [if_neg c21] at H
  exact absurd H (by simp)
 rw [if_pos c21] at H
 have c21b0:=eq_true c21
 have c21b1:decide ((ji19)<=(l0.length:Int))=true:=dT_ c21
 clear c21
 obtain ⟨y160,hy160⟩:∃ y_:List Int,y_=(l0.take ((ji19):Int).toNat):=⟨_,rfl⟩
 replace H:((sum_Of.f kj12 (([y160]:List (List Int)))).bind λt168=>(if (ji19)<=(wrap64 ((ji19)+4)) then(if (wrap64 ((ji19)+4))<=(l0.length:Int) then((bytes_Equal.f ((l0.take ((wrap64 ((ji19)+4)):Int).toNat).drop ((ji19):Int).toNat) (([(t168 / 16777216) % 256,(t168 / 65536) % 256,(t168 / 256) % 256,(t168) % 256]:List Int))).bind λt177=>(if t177=true then(if 0<(l0.length:Int) then(if 0<=(wrap64 (1+t158)) then(if (wrap64 (1+t158))<=(ji19) then((bytes_Clone.f ((l0.take ((ji19):Int).toNat).drop ((wrap64 (1+t158)):Int).toNat)).bind λt184=>(some (wrap64 (rd l0 0),t184,wrap64 ((ji19)+4),0))) else(none)) else(none)) else(none)) else(some (0,([]:List Int),0,2)))) else(none)) else(none)))=some (r1,r2,r3,r4):=by first|(rw [hy160];with_reducible exact H)|(have H2_:=(Option.bind_some _ _).symm.trans H;rw [hy160];with_reducible exact H2_)|(have H2_:=(Option.bind_some _ _).symm.trans H;with_reducible exact H2_)|with_reducible exact H|(rw [hy160];exact H)|exact H
 have Ny160:=Aside0.mk hy160
 clear hy160
 obtain ⟨y165,hy165⟩:∃ y_:List (List Int),y_=(([y160]:List (List Int))):=⟨_,rfl⟩
 replace H:((sum_Of.f kj12 y165).bind λt168=>(if (ji19)<=(wrap64 ((ji19)+4)) then(if (wrap64 ((ji19)+4))<=(l0.length:Int) then((bytes_Equal.f ((l0.take ((wrap64 ((ji19)+4)):Int).toNat).drop ((ji19):Int).toNat) (([(t168 / 16777216) % 256,(t168 / 65536) % 256,(t168 / 256) % 256,(t168) % 256]:List Int))).bind λt177=>(if t177=true then(if 0<(l0.length:Int) then(if 0<=(wrap64 (1+t158)) then(if (wrap64 (1+t158))<=(ji19) then((bytes_Clone.f ((l0.take ((ji19):Int).toNat).drop ((wrap64 (1+t158)):Int).toNat)).bind λt184=>(some (wrap64 (rd l0 0),t184,wrap64 ((ji19)+4),0))) else(none)) else(none)) else(none)) else(some (0,([]:List Int),0,2)))) else(none)) else(none)))=some (r1,r2,r3,r4):=by first|(rw [hy165];with_reducible exact H)|(have H2_:=(Option.bind_some _ _).symm.trans H;rw [hy165];with_reducible exact H2_)|(have H2_:=(Option.bind_some _ _).symm.trans H;with_reducible exact H2_)|with_reducible exact H|(rw [hy165];exact H)|exact H
 have Ny165:=Aside0.mk hy165
 clear hy165
 replace H:=oB_ H
 obtain ⟨t168,A220,H⟩:=H
 replace H:(if (ji19)<=(wrap64 ((ji19)+4)) then(if (wrap64 ((ji19)+4))<=(l0.length:Int) then((bytes_Equal.f ((l0.take ((wrap64 ((ji19)+4)):Int).toNat).drop ((ji19):Int).toNat) (([(t168 / 16777216) % 256,(t168 / 65536) % 256,(t168 / 256) % 256,(t168) % 256]:List Int))).bind λt177=>(if t177=true then(if 0<(l0.length:Int) then(if 0<=(wrap64 (1+t158)) then(if (wrap64 (1+t158))<=(ji19) then((bytes_Clone.f ((l0.take ((ji19):Int).toNat).drop ((wrap64 (1+t158)):Int).toNat)).bind λt184=>(some (wrap64 (rd l0 0),t184,wrap64 ((ji19)+4),0))) else(none)) else(none)) else(none)) else(some (0,([]:List Int),0,2)))) else(none)) else(none))=some (r1,r2,r3,r4):=H
 have A22:=Aside0.mk A220
 clear A220
 have c23b0:=eq_true (oD_ z2_0:0<=(ji19))
 by_cases c24:(ji19)<=(wrap64 ((ji19)+4))
 rotate_left
 ·rw [if_neg c24] at H
  exact absurd H (by simp)
 rw [if_pos c24] at H
 have c24b0:=eq_true c24
 have c24b1:decide ((ji19)<=(wrap64 ((ji19)+4)))=true:=dT_ c24
 by_cases c25:(wrap64 ((ji19)+4))<=(l0.length:Int)
 rotate_left
 ·rw [if_neg c25] at H
  exact absurd H (by simp)
 rw [if_pos c25] at H
 have c25b0:=eq_true c25
 have c25b1:decide ((wrap64 ((ji19)+4))<=(l0.length:Int))=true:=dT_ c25
 obtain ⟨y169,hy169⟩:∃ y_:List Int,y_=((l0.take ((wrap64 ((ji19)+4)):Int).toNat).drop ((ji19):Int).toNat):=⟨_,rfl⟩
 replace H:((bytes_Equal.f y169 (([(t168 / 16777216) % 256,(t168 / 65536) % 256,(t168 / 256) % 256,(t168) % 256]:List Int))).bind λt177=>(if t177=true then(if 0<(l0.length:Int) then(if 0<=(wrap64 (1+t158)) then(if (wrap64 (1+t158))<=(ji19) then((bytes_Clone.f ((l0.take ((ji19):Int).toNat).drop ((wrap64 (1+t158)):Int).toNat)).bind λt184=>(some (wrap64 (rd l0 0),t184,wrap64 ((ji19)+4),0))) else(none)) else(none)) else(none)) else(some (0,([]:List Int),0,2))))=some (r1,r2,r3,r4):=by first|(rw [hy169];with_reducible exact H)|(have H2_:=(Option.bind_some _ _).symm.trans H;rw [hy169];with_reducible exact H2_)|(have H2_:=(Option.bind_some _ _).symm.trans H;with_reducible exact H2_)|with_reducible exact H|(rw [hy169];exact H)|exact H
 have Ny169:=Aside0.mk hy169
 clear hy169
 obtain ⟨y174,hy174⟩:∃ y_:List Int,y_=(([(t168 / 16777216) % 256,(t168 / 65536) % 256,(t168 / 256) % 256,(t168) % 256]:List Int)):=⟨_,rfl⟩
 replace H:((bytes_Equal.f y169 y174).bind λt177=>(if t177=true then(if 0<(l0.length:Int) then(if 0<=(wrap64 (1+t158)) then(if (wrap64 (1+t158))<=(ji19) then((bytes_Clone.f ((l0.take ((ji19):Int).toNat).drop ((wrap64 (1+t158)):Int).toNat)).bind λt184=>(some (wrap64 (rd l0 0),t184,wrap64 ((ji19)+4),0))) else(none)) else(none)) else(none)) else(some (0,([]:List Int),0,2))))=some (r1,r2,r3,r4):=by first|(rw [hy174];with_reducible exact H)|(have H2_:=(Option.bind_some _ _).symm.trans H;rw [hy174];with_reducible exact H2_)|(have H2_:=(Option.bind_some _ _).symm.trans H;with_reducible exact H2_)|with_reducible exact H|(rw [hy174];exact H)|exact H
 have Ny174:=Aside0.mk hy174
 clear hy174
 replace H:=oB_ H
 obtain ⟨t177,A260,H⟩:=H
 replace H:(if t177=true then(if 0<(l0.length:Int) then(if 0<=(wrap64 (1+t158)) then(if (wrap64 (1+t158))<=(ji19) then((bytes_Clone.f ((l0.take ((ji19):Int).toNat).drop ((wrap64 (1+t158)):Int).toNat)).bind λt184=>(some (wrap64 (rd l0 0),t184,wrap64 ((ji19)+4),0))) else(none)) else(none)) else(none)) else(some (0,([]:List Int),0,2)))=some (r1,r2,r3,r4):=H
 have A26:=Aside0.mk A260
 clear A260
 by_cases c27:t177=true
 rotate_left
 ·replace c27:=Bool.eq_false_iff.mpr c27
  subst c27
  have H1:(some (0,([]:List Int),0,2))=some (r1,r2,r3,r4):=by rw [if_neg (show ¬ (false=true) by decide)] at H;exact H
  clear H
  have H:=H1
  clear H1
  simp only [Option.some.injEq,Prod.mk.injEq] at H
  obtain ⟨rfl,rfl,rfl,rfl⟩:=H
  have q45:((ji19):Int)<=((l0.length:Int):Int):=oD_ z2_0
  obtain ⟨i045,hi045,_,hsz45,_⟩:=info_parts info5
  have hroom45:l0.length<=c0:=(Kd.V_reads' HO_0.out).2.1
  have hC45:Kd.F (Kd.int .u8) _ _ A0 l0.length l0:=(Kd.V_at (base:=w.heap.size) HO_0.out).2.2
  have hcut45:=cut_to (P:=Try.prog) 38 5 .i64 Try.underlying38 hi045 A0 l0.length c0 (ji19) (oD_ z2_0) q45 hroom45
  have hr45:=Kd.F_take (m:=((ji19):Int).toNat) hC45 (by omega)
  have hy45:y160.length=((ji19):Int).toNat:=(by rw [Ny160.out,List.length_take];omega)
  rw [<-Ny160.out] at hr45
  rw [<-hy45] at hcut45
  have HO164:=U (show Kd.V (Kd.int .u8) 5 _ w.heap.size _ (.slice A0 y160.length c0) y160 from Kd.V_mk (by omega) hr45)
  have HC164:=U (show y160.length<=c0 from by omega)
  clear hr45 hC45 hroom45 hi045 hsz45
  have KY45:=Aside0.mk hy45
  clear hy45
  replace q45:=eq_true q45
  go_wp2_with (first|((with_reducible refine gate_dst (N:=57) rfl ?_);refine Kd.N_lit (Kd.slice 5 (Kd.int .u8)) _ 38 ?hg (N':=57) ?hd (xs:=([y160]:List (List Int))) (inner:=[.slice A0 y160.length c0]) (ok:=(λk_=>(P0_ k_\/w.heap.size<=k_))) (okp:=(λk_=>(P0_ k_\/w.heap.size<=k_))) ?hr ?hp (λ_ hk=>hk) ((show ∀ k_,wc.heap.size<=k_->(λk_=>(P0_ k_\/w.heap.size<=k_)) k_ from λk_ hk=>(.inr (Nat.le_trans (below_size z1_0) hk))) _ (Nat.le_refl _)) (Below.refl _ _) (Nat.le_refl _) (by simp) ?_;(case hd=>rfl);(case hg=>rfl);(case hr=>exact z1_11);(case hp=>exact z3_8);intro v166 w46 ho47 hb hg_ hnew_;clear hg_ hnew_;(first|rw [<-Ny165.out] at ho47|(simp only [Int.reduceToNat] at ho47;rw [<-Ny165.out] at ho47));replace HO_0:=U (Kd.V_elder' z3_5 (Kd.N_base ho47) hb);replace HO164:=U (Kd.V_elder' z3_9 (Kd.N_base ho47) hb);have HO167:=U (Kd.N_lower ho47 (below_size z1_0));replace HB:=U (below_step z1_0 hb);clear hb ho47;obtain ⟨Ao48,co48,eo48⟩:=Kd.N_slice HO167.out;subst eo48)|((with_reducible refine gate_callee (f:=104) rfl ?_);refine goesL_ (some 58) rfl rfl Try.func104 z3_17 rfl #[.slice Ao48 y165.length co48] rfl z1_4 ?_;(with_reducible refine(sum_Of.calls kj12 _ _ y165 t168 _ ?side1 ?side2 A22.out).mono ?_);(case side1=>exact z3_13);(case side2=>exact(Kd.N_reads' HO167.out).2.1);rintro e w' ⟨rfl,⟨nd,rfl⟩⟩;refine ⟨_,rfl,?_⟩;have q49:((wrap64 ((ji19)+4)):Int)<=((l0.length:Int):Int):=oD_ z2_0;obtain ⟨i049,hi049,_,hsz49,_⟩:=info_parts info5;have hroom49:l0.length<=c0:=(Kd.V_reads' HO_0.out).2.1;have hC49:Kd.F (Kd.int .u8) _ _ A0 l0.length l0:=(Kd.V_at (base:=w.heap.size) HO_0.out).2.2;have ql49:((ji19):Int)<=((wrap64 ((ji19)+4)):Int):=oD_ z2_0;have q049:(0:Int)<=((ji19):Int):=oD_ z2_0;have hcut49:=cut_mid (P:=Try.prog) 38 5 .i64 .i64 Try.underlying38 hi049 1 hsz49 A0 l0.length c0 (ji19) (wrap64 ((ji19)+4)) q049 ql49 q49 hroom49;have hr49:=Kd.F_mid (lo:=((ji19):Int).toNat) (hi:=((wrap64 ((ji19)+4)):Int).toNat) (c:=c0) hC49 (by omega) (by omega) hroom49;obtain ⟨A49,hA49⟩:∃ A1,A1=(if c0=((ji19):Int).toNat then A0 else(A0:Option Addr).map (·.add (((ji19):Int).toNat*1))):=⟨_,rfl⟩;obtain ⟨c49,hc49⟩:∃ c1,c1=c0 - ((ji19):Int).toNat:=⟨_,rfl⟩;have hy49:y169.length=((wrap64 ((ji19)+4)):Int).toNat - ((ji19):Int).toNat:=(by rw [Ny169.out,List.length_drop,List.length_take]<;>omega);rw [show((l0).take ((wrap64 ((ji19)+4)):Int).toNat).drop ((ji19):Int).toNat=y169 from Ny169.out.symm] at hr49;replace hr49:Kd.F (Kd.int .u8) _ _ A49 y169.length y169:=(by rw [hA49];exact hr49);rw [<-hy49,<-hA49,<-hc49] at hcut49;have HO173:=U (show Kd.V (Kd.int .u8) 5 _ w.heap.size _ (.slice A49 y169.length c49) y169 from Kd.V_mk (by rw [hy49,hc49];exact Nat.sub_le_sub_right (Nat.le_trans (by omega) hroom49) _) hr49);have HC173:=U (show y169.length<=c49 from by rw [hy49,hc49];exact Nat.sub_le_sub_right (Nat.le_trans (by omega) hroom49) _);have KC49:=Aside0.mk hc49;clear hr49 hC49 hroom49 hi049 hsz49 hc49;have KY49:=Aside0.mk hy49;have KA49:=Aside0.mk hA49;clear hy49 hA49;replace q49:=eq_true q49)|((with_reducible refine gate_dst (N:=75) rfl ?_);refine Kd.R_lit (Kd.int .u8) _ 5 ?hg (N:=75) ?hd (xs:=([(t168 / 16777216) % 256,(t168 / 65536) % 256,(t168 / 256) % 256,(t168) % 256]:List Int)) (inner:=[.int .u8 ((t168 / 16777216) % 256),.int .u8 ((t168 / 65536) % 256),.int .u8 ((t168 / 256) % 256),.int .u8 ((t168) % 256)]) (ok:=λ_=>True) (okp:=λ_=>True) ?hr ?hp (λ_ hk=>hk) trivial (Below.refl _ _) (Nat.le_refl _) (by simp) ?_;(case hd=>rfl);(case hg=>rfl);(case hr=>exact z1_11);(case hp=>exact z3_7);intro v175 w50 ho51 hb hg_ hnew_;clear hg_ hnew_;(first|rw [<-Ny174.out] at ho51|(simp only [Int.reduceToNat] at ho51;rw [<-Ny174.out] at ho51));replace HO_0:=U (Kd.V_elder' z3_5 (Kd.R_base ho51) hb);replace HO164:=U (Kd.V_elder' z3_9 (Kd.R_base ho51) hb);replace HO167:=U (Kd.N_elder' z3_10 (Kd.R_base ho51) hb);replace HO173:=U (Kd.V_elder' z3_11 (Kd.R_base ho51) hb);have HO176:=U (Kd.R_lower (Kd.R_newM (M:=λk_=>(w.heap.size<=k_)) ho51 (below_size z1_0) (λk_ h_=>h_)) (below_size z1_0));replace HB:=U (below_step z1_0 hb);clear hb ho51;obtain ⟨Ao52,co52,eo52⟩:=Kd.R_slice HO176.out;subst eo52)|((with_reducible refine gate_callee (f:=113) rfl ?_);refine goesL_ (some 76) rfl rfl Try.func113 z3_17 rfl #[.slice A49 y169.length c49,.slice Ao52 y174.length co52] rfl z1_4 ?_;(with_reducible refine(bytes_Equal.calls _ _ y169 _ _ y174 false _ ?side1 ?side2 ?side3 ?side4 A26.out).mono ?_);(case side1=>exact z3_14);(case side2=>exact(Kd.V_reads' HO173.out).2.1);(case side3=>exact z3_15);(case side4=>exact(Kd.R_reads' HO176.out).2.1);rintro e w' ⟨rfl,⟨nd,rfl⟩⟩;refine ⟨_,rfl,?_⟩))
  refine bodyPost_ret (results_list (rs:=[.tmp 2,.tmp 3,.tmp 4,.tmp 5]) rfl (by simp) (.tmp (.tmp (.tmp (.tmp .nil))))) rfl ?_
  exact ⟨_,(by first|rfl|(simp [errW_none,errW_some]<;>rfl)|(simp only [<-hji19];first|rfl|(simp [errW_none,errW_some]<;>rfl))|(simp [*,errW_none,errW_some]<;>rfl)),z1_9,z1_0⟩
 subst c27
 have H1:(if 0<(l0.length:Int) then(if 0<=(wrap64 (1+t158)) then(if (wrap64 (1+t158))<=(ji19) then((bytes_Clone.f ((l0.take ((ji19):Int).toNat).drop ((wrap64 (1+t158)):Int).toNat)).bind λt184=>(some (wrap64 (rd l0 0),t184,wrap64 ((ji19)+4),0))) else(none)) else(none)) else(none))=some (r1,r2,r3,r4):=by rw [if_pos rfl] at H;exact H
 clear H
 have H:=H1
 clear H1
 by_cases c28:0<(l0.length:Int)
 rotate_left
 ·rw [if_neg c28] at H
  exact absurd H (by simp)
 rw [if_pos c28] at H
 have c28b0:decide (0<(l0.length:Int))=true:=dT_ c28
 have c28b1:decide (0<l0.length)=true:=dT_ (by omega)
 clear c28
 obtain ⟨ji29,hji29⟩:∃ j_:Int,(wrap64 (1+t158))=j_:=⟨_,rfl⟩
 replace H:(if 0<=(ji29) then(if (ji29)<=(ji19) then((bytes_Clone.f ((l0.take ((ji19):Int).toNat).drop ((ji29):Int).toNat)).bind λt184=>(some (wrap64 (rd l0 0),t184,wrap64 ((ji19)+4),0))) else(none)) else(none))=some (r1,r2,r3,r4):=by first|(rw [hji29] at H;exact H)|(simp only [hji29] at H ⊢;exact H)
 (try rw [hji29] at c18b0)
 (try rw [hji29] at A22)
 (try rw [hji29] at A26)
 have hji29w:(IntKind.i64.wrap (1+t158))=ji29:=(i64_w _).trans hji29
 (try rw [hji29] at c2b0)
 (try rw [hji29] at c2b0)
 (try rw [hji29] at c4b0)
 (try rw [hji29] at c5b0)
 (try rw [hji29] at c5b0)
 (try rw [hji29] at c16b0)
 (try rw [hji29] at c16b0)
 (try rw [hji29] at c18b0)
 (try rw [hji29] at c18b0)
 (try rw [hji29] at c28b0)
 (try(have hji19xji29:=hji19;rw [hji29] at hji19xji29;have hji19yji29:=hji19w;rw [hji29] at hji19yji29))
 by_cases c30:0<=(ji29)
 rotate_left
 ·rw [if_neg c30] at H
  exact absurd H (by simp)
 rw [if_pos c30] at H
 have c30b0:=eq_true c30
 have c30b1:decide (0<=(ji29))=true:=dT_ c30
 clear c30
 by_cases c31:(ji29)<=(ji19)
 rotate_left
 ·rw [if_neg c31] at H
  exact absurd H (by simp)
 rw [if_pos c31] at H
 have c31b0:=eq_true c31
 have c31b1:decide ((ji29)<=(ji19))=true:=dT_ c31
 clear c31
 have c32b0:=eq_true (oD_ z2_0:(ji19)<=(l0.length:Int))
 obtain ⟨y179,hy179⟩:∃ y_:List Int,y_=((l0.take ((ji19):Int).toNat).drop ((ji29):Int).toNat):=⟨_,rfl⟩
 replace H:((bytes_Clone.f y179).bind λt184=>(some (wrap64 (rd l0 0),t184,wrap64 ((ji19)+4),0)))=some (r1,r2,r3,r4):=by first|(rw [hy179];with_reducible exact H)|(have H2_:=(Option.bind_some _ _).symm.trans H;rw [hy179];with_reducible exact H2_)|(have H2_:=(Option.bind_some _ _).symm.trans H;with_reducible exact H2_)|with_reducible exact H|(rw [hy179];exact H)|exact H
 have Ny179:=Aside0.mk hy179
 clear hy179
 replace H:=oB_ H
 obtain ⟨t184,A330,H⟩:=H
 replace H:(some (wrap64 (rd l0 0),t184,wrap64 ((ji19)+4),0))=some (r1,r2,r3,r4):=H
 have A33:=Aside0.mk A330
 clear A330
 simp only [Option.some.injEq,Prod.mk.injEq] at H
 obtain ⟨rfl,rfl,rfl,rfl⟩:=H
 have q34:((ji19):Int)<=((l0.length:Int):Int):=oD_ z2_0
 obtain ⟨i034,hi034,_,hsz34,_⟩:=info_parts info5
 have hroom34:l0.length<=c0:=(Kd.V_reads' HO_0.out).2.1
 have hC34:Kd.F (Kd.int .u8) _ _ A0 l0.length l0:=(Kd.V_at (base:=w.heap.size) HO_0.out).2.2
 have hcut34:=cut_to (P:=Try.prog) 38 5 .i64 Try.underlying38 hi034 A0 l0.length c0 (ji19) (oD_ z2_0) q34 hroom34
 have hr34:=Kd.F_take (m:=((ji19):Int).toNat) hC34 (by omega)
 have hy34:y160.length=((ji19):Int).toNat:=(by rw [Ny160.out,List.length_take];omega)
 rw [<-Ny160.out] at hr34
 rw [<-hy34] at hcut34
 have HO164:=U (show Kd.V (Kd.int .u8) 5 _ w.heap.size _ (.slice A0 y160.length c0) y160 from Kd.V_mk (by omega) hr34)
 have HC164:=U (show y160.length<=c0 from by omega)
 clear hr34 hC34 hroom34 hi034 hsz34
 have KY34:=Aside0.mk hy34
 clear hy34
 replace q34:=eq_true q34
 try go_wp2_with (first|((with_reducible refine gate_dst (N:=57) rfl ?_);refine Kd.N_lit (Kd.slice 5 (Kd.int .u8)) _ 38 ?hg (N':=57) ?hd (xs:=([y160]:List (List Int))) (inner:=[.slice A0 y160.length c0]) (ok:=(λk_=>(P0_ k_\/w.heap.size<=k_))) (okp:=(λk_=>(P0_ k_\/w.heap.size<=k_))) ?hr ?hp (λ_ hk=>hk) ((show ∀ k_,wc.heap.size<=k_->(λk_=>(P0_ k_\/w.heap.size<=k_)) k_ from λk_ hk=>(.inr (Nat.le_trans (below_size z1_0) hk))) _ (Nat.le_refl _)) (Below.refl _ _) (Nat.le_refl _) (by simp) ?_;(case hd=>rfl);(case hg=>rfl);(case hr=>exact z1_11);(case hp=>exact z3_8);intro v166 w35 ho36 hb hg_ hnew_;clear hg_ hnew_;(first|rw [<-Ny165.out] at ho36|(simp only [Int.reduceToNat] at ho36;rw [<-Ny165.out] at ho36));replace HO_0:=U (Kd.V_elder' z3_5 (Kd.N_base ho36) hb);replace HO164:=U (Kd.V_elder' z3_9 (Kd.N_base ho36) hb);have HO167:=U (Kd.N_lower ho36 (below_size z1_0));replace HB:=U (below_step z1_0 hb);clear hb ho36;obtain ⟨Ao37,co37,eo37⟩:=Kd.N_slice HO167.out;subst eo37)|((with_reducible refine gate_callee (f:=104) rfl ?_);refine goesL_ (some 58) rfl rfl Try.func104 z3_17 rfl #[.slice Ao37 y165.length co37] rfl z1_4 ?_;(with_reducible refine(sum_Of.calls kj12 _ _ y165 t168 _ ?side1 ?side2 A22.out).mono ?_);(case side1=>exact z3_13);(case side2=>exact(Kd.N_reads' HO167.out).2.1);rintro e w' ⟨rfl,⟨nd,rfl⟩⟩;refine ⟨_,rfl,?_⟩;have q38:((wrap64 ((ji19)+4)):Int)<=((l0.length:Int):Int):=oD_ z2_0;obtain ⟨i038,hi038,_,hsz38,_⟩:=info_parts info5;have hroom38:l0.length<=c0:=(Kd.V_reads' HO_0.out).2.1;have hC38:Kd.F (Kd.int .u8) _ _ A0 l0.length l0:=(Kd.V_at (base:=w.heap.size) HO_0.out).2.2;have ql38:((ji19):Int)<=((wrap64 ((ji19)+4)):Int):=oD_ z2_0;have q038:(0:Int)<=((ji19):Int):=oD_ z2_0;have hcut38:=cut_mid (P:=Try.prog) 38 5 .i64 .i64 Try.underlying38 hi038 1 hsz38 A0 l0.length c0 (ji19) (wrap64 ((ji19)+4)) q038 ql38 q38 hroom38;have hr38:=Kd.F_mid (lo:=((ji19):Int).toNat) (hi:=((wrap64 ((ji19)+4)):Int).toNat) (c:=c0) hC38 (by omega) (by omega) hroom38;obtain ⟨A38,hA38⟩:∃ A1,A1=(if c0=((ji19):Int).toNat then A0 else(A0:Option Addr).map (·.add (((ji19):Int).toNat*1))):=⟨_,rfl⟩;obtain ⟨c38,hc38⟩:∃ c1,c1=c0 - ((ji19):Int).toNat:=⟨_,rfl⟩;have hy38:y169.length=((wrap64 ((ji19)+4)):Int).toNat - ((ji19):Int).toNat:=(by rw [Ny169.out,List.length_drop,List.length_take]<;>omega);rw [show((l0).take ((wrap64 ((ji19)+4)):Int).toNat).drop ((ji19):Int).toNat=y169 from Ny169.out.symm] at hr38;replace hr38:Kd.F (Kd.int .u8) _ _ A38 y169.length y169:=(by rw [hA38];exact hr38);rw [<-hy38,<-hA38,<-hc38] at hcut38;have HO173:=U (show Kd.V (Kd.int .u8) 5 _ w.heap.size _ (.slice A38 y169.length c38) y169 from Kd.V_mk (by rw [hy38,hc38];exact Nat.sub_le_sub_right (Nat.le_trans (by omega) hroom38) _) hr38);have HC173:=U (show y169.length<=c38 from by rw [hy38,hc38];exact Nat.sub_le_sub_right (Nat.le_trans (by omega) hroom38) _);have KC38:=Aside0.mk hc38;clear hr38 hC38 hroom38 hi038 hsz38 hc38;have KY38:=Aside0.mk hy38;have KA38:=Aside0.mk hA38;clear hy38 hA38;replace q38:=eq_true q38)|((with_reducible refine gate_dst (N:=75) rfl ?_);refine Kd.R_lit (Kd.int .u8) _ 5 ?hg (N:=75) ?hd (xs:=([(t168 / 16777216) % 256,(t168 / 65536) % 256,(t168 / 256) % 256,(t168) % 256]:List Int)) (inner:=[.int .u8 ((t168 / 16777216) % 256),.int .u8 ((t168 / 65536) % 256),.int .u8 ((t168 / 256) % 256),.int .u8 ((t168) % 256)]) (ok:=λ_=>True) (okp:=λ_=>True) ?hr ?hp (λ_ hk=>hk) trivial (Below.refl _ _) (Nat.le_refl _) (by simp) ?_;(case hd=>rfl);(case hg=>rfl);(case hr=>exact z1_11);(case hp=>exact z3_7);intro v175 w39 ho40 hb hg_ hnew_;clear hg_ hnew_;(first|rw [<-Ny174.out] at ho40|(simp only [Int.reduceToNat] at ho40;rw [<-Ny174.out] at ho40));replace HO_0:=U (Kd.V_elder' z3_5 (Kd.R_base ho40) hb);replace HO164:=U (Kd.V_elder' z3_9 (Kd.R_base ho40) hb);replace HO167:=U (Kd.N_elder' z3_10 (Kd.R_base ho40) hb);replace HO173:=U (Kd.V_elder' z3_11 (Kd.R_base ho40) hb);have HO176:=U (Kd.R_lower (Kd.R_newM (M:=λk_=>(w.heap.size<=k_)) ho40 (below_size z1_0) (λk_ h_=>h_)) (below_size z1_0));replace HB:=U (below_step z1_0 hb);clear hb ho40;obtain ⟨Ao41,co41,eo41⟩:=Kd.R_slice HO176.out;subst eo41)|((with_reducible refine gate_callee (f:=113) rfl ?_);refine goesL_ (some 76) rfl rfl Try.func113 z3_17 rfl #[.slice A38 y169.length c38,.slice Ao41 y174.length co41] rfl z1_4 ?_;(with_reducible refine(bytes_Equal.calls _ _ y169 _ _ y174 true _ ?side1 ?side2 ?side3 ?side4 A26.out).mono ?_);(case side1=>exact z3_14);(case side2=>exact(Kd.V_reads' HO173.out).2.1);(case side3=>exact z3_15);(case side4=>exact(Kd.R_reads' HO176.out).2.1);rintro e w' ⟨rfl,⟨nd,rfl⟩⟩;refine ⟨_,rfl,?_⟩))
 (try(rw [drewN_self w39];generalize hq_:World.drewN w39 _=w39;have n0_:Aside0 (Kd.V (Kd.int .u8) 5 w39 w.heap.size (λk_=>(P0_ k_\/w.heap.size<=k_)/\some k_≠(.slice Ao37 y165.length co37:Value).ownBlock/\some k_≠(.slice Ao41 y174.length co41:Value).ownBlock) (.slice A0 y160.length c0) y160):=⟨(by rw [<-hq_];exact(by(with_reducible repeat(first|apply Kd.V_alloc|apply Kd.V_drewN|apply Kd.V_drew));exact Kd.V_mono HO164.out (λ_ hk=>⟨hk.1.1,⟨hk.1.2,hk.2⟩⟩)))⟩;have n1_:Aside0 (Kd.N (Kd.slice 5 (Kd.int .u8)) 38 w39 w.heap.size (λk_=>(P0_ k_\/w.heap.size<=k_)/\some k_≠(.slice Ao41 y174.length co41:Value).ownBlock) (.slice Ao37 y165.length co37) y165):=⟨(by rw [<-hq_];exact z3_10)⟩;have n2_:Aside0 (Kd.V (Kd.int .u8) 5 w39 w.heap.size (λk_=>(P0_ k_\/w.heap.size<=k_)/\some k_≠(.slice Ao37 y165.length co37:Value).ownBlock/\some k_≠(.slice Ao41 y174.length co41:Value).ownBlock) (.slice A38 y169.length c38) y169):=⟨(by rw [<-hq_];exact(by(with_reducible repeat(first|apply Kd.V_alloc|apply Kd.V_drewN|apply Kd.V_drew));exact Kd.V_mono HO173.out (λ_ hk=>⟨hk.1.1,⟨hk.1.2,hk.2⟩⟩)))⟩;have n3_:Aside0 (Kd.R (Kd.int .u8) 5 w39 w.heap.size (λk_=>(w.heap.size<=k_)) (.slice Ao41 y174.length co41) y174):=⟨(by rw [<-hq_];exact(by(with_reducible repeat(first|apply Kd.R_alloc|apply Kd.R_drewN|apply Kd.R_drew));exact Kd.R_mono HO176.out (λ_ hk=>hk.1)))⟩;have n4_:Aside0 (Kd.V (Kd.int .u8) 5 w39 w.heap.size (λk_=>(P0_ k_\/w.heap.size<=k_)/\some k_≠(.slice Ao37 y165.length co37:Value).ownBlock/\some k_≠(.slice Ao41 y174.length co41:Value).ownBlock) (.slice A0 l0.length c0) l0):=⟨(by rw [<-hq_];exact(by(with_reducible repeat(first|apply Kd.V_alloc|apply Kd.V_drewN|apply Kd.V_drew));exact Kd.V_mono HO_0.out (λ_ hk=>⟨hk.1.1,⟨hk.1.2,hk.2⟩⟩)))⟩;have n5_:Aside0 (Below w.heap.size w w39):=⟨(by rw [<-hq_];exact z1_0)⟩;clear HO164 HO167 HO173 HO176 HO_0 HB hq_;have HO164:=n0_;have HO167:=n1_;have HO173:=n2_;have HO176:=n3_;have HO_0:=n4_;have HB:=n5_;clear n0_ n1_ n2_ n3_ n4_ n5_))
 have n0_:=U (Kd.V_drew HO_0.out)
 have n1_:=U (Kd.V_drew HO164.out)
 have n2_:=U (Kd.N_drew HO167.out)
 have n3_:=U (Kd.V_drew HO173.out)
 have n4_:=U (Kd.R_drew HO176.out)
 have n5_:=U (below_drew1 HB.out)
 clear HO_0
 clear HO164
 clear HO167
 clear HO173
 clear HO176
 clear HB
 have HO_0:=n0_
 have HO164:=n1_
 have HO167:=n2_
 have HO173:=n3_
 have HO176:=n4_
 have HB:=n5_
 clear n0_ n1_ n2_ n3_ n4_ n5_
 have p178:0<=(0:Int):=(by omega)
 have q178:0<(l0.length:Int):=oD_ z2_0
 obtain ⟨ad178,e178,hx178_0⟩:=Kd.at_int (Kd.V_reads' HO_0.out).2.2 0 p178 q178
 cases e178
 have qi178:(0<l0.length)=True:=eq_true (by omega)
 (try rw [show((0:Int)).toNat=0 from rfl] at hx178_0)
 (try rw [Addr.add_zero'] at hx178_0)
 replace p178:=eq_true p178
 replace q178:=eq_true q178
 have q43:((ji19):Int)<=((l0.length:Int):Int):=oD_ z2_0
 obtain ⟨i043,hi043,_,hsz43,_⟩:=info_parts info5
 have hroom43:l0.length<=c0:=(Kd.V_reads' HO_0.out).2.1
 have hC43:Kd.F (Kd.int .u8) _ _ (some ad178) l0.length l0:=(Kd.V_at (base:=w.heap.size) HO_0.out).2.2
 have ql43:((ji29):Int)<=((ji19):Int):=oD_ z2_0
 have q043:(0:Int)<=((ji29):Int):=oD_ z2_0
 have hcut43:=cut_mid (P:=Try.prog) 38 5 .i64 .i64 Try.underlying38 hi043 1 hsz43 (some ad178) l0.length c0 (ji29) (ji19) q043 ql43 q43 hroom43
 have hr43:=Kd.F_mid (lo:=((ji29):Int).toNat) (hi:=((ji19):Int).toNat) (c:=c0) hC43 (by omega) (by omega) hroom43
 obtain ⟨A43,hA43⟩:∃ A1,A1=(if c0=((ji29):Int).toNat then(some ad178) else((some ad178):Option Addr).map (·.add (((ji29):Int).toNat*1))):=⟨_,rfl⟩
 obtain ⟨c43,hc43⟩:∃ c1,c1=c0 - ((ji29):Int).toNat:=⟨_,rfl⟩
 have hy43:y179.length=((ji19):Int).toNat - ((ji29):Int).toNat:=(by rw [Ny179.out,List.length_drop,List.length_take]<;>omega)
 rw [show((l0).take ((ji19):Int).toNat).drop ((ji29):Int).toNat=y179 from Ny179.out.symm] at hr43
 replace hr43:Kd.F (Kd.int .u8) _ _ A43 y179.length y179:=(by rw [hA43];exact hr43)
 rw [<-hy43,<-hA43,<-hc43] at hcut43
 have HO183:=U (show Kd.V (Kd.int .u8) 5 _ w.heap.size _ (.slice A43 y179.length c43) y179 from Kd.V_mk (by rw [hy43,hc43];exact Nat.sub_le_sub_right (Nat.le_trans (by omega) hroom43) _) hr43)
 have HC183:=U (show y179.length<=c43 from by rw [hy43,hc43];exact Nat.sub_le_sub_right (Nat.le_trans (by omega) hroom43) _)
 have KC43:=Aside0.mk hc43
 clear hr43 hC43 hroom43 hi043 hsz43 hc43
 have KY43:=Aside0.mk hy43
 have KA43:=Aside0.mk hA43
 clear hy43 hA43
 replace q43:=eq_true q43
 refine start_ (n:=15) (S:=λw'=>w'.cell? ad178=some (.int .u8 (rd l0 0))) (ds:=[]) #[L,L,L,L,L,L,L,L,L,L,L,L,L,L,L] z3_17 rfl rfl (hx178_0) (λhHeld=>?_);refine with_tabW wire_GetRecord.tab17 wire_GetRecord.bits17 (λHT_ HW_=>?_)
 generalize w39.drew=w42 at HO_0 HO164 HO167 HO173 HO176 HB HO183 hx178_0 hHeld ⊢
 refine pure_ (i:=0) (N:=some 78) (v:=?_) (a':=?_) #[Y,L,L,L,L,L,L,L,L,L,L,L,L,L,L] rfl rfl (any_of HT_.out z3_17) (λ_ _ _ h=>h) (Or.inl ⟨(by rfl),?_⟩) ?_ ?_
 rotate_left
 ·intro w'
  go_simp
  with_reducible rfl
 rotate_left
 ·exact z3_1
 refine pure_ (i:=1) (N:=some 79) (v:=?_) (a':=?_) #[Y,Y,L,L,L,L,L,L,L,L,L,L,L,L,L] rfl rfl (any_of HT_.out z3_17) (λ_ _ _ h=>h) (Or.inl ⟨(by rfl),?_⟩) ?_ ?_
 rotate_left
 ·intro w'
  go_simp
  with_reducible rfl
 rotate_left
 ·exact z3_1
 refine pure_ (i:=4) (N:=some 82) (v:=?_) (a':=?_) #[Y,Y,L,L,Y,L,L,L,L,L,L,L,L,L,L] rfl rfl (any_of HT_.out z3_17) (λ_ _ _ h=>h) (Or.inl ⟨(by rfl),?_⟩) ?_ ?_
 rotate_left
 ·intro w'
  go_simp
  with_reducible rfl
 rotate_left
 ·exact z3_1
 refine pure_ (i:=5) (N:=some 83) (v:=?_) (a':=?_) #[Y,Y,L,L,Y,Y,L,L,L,L,L,L,L,L,L] rfl rfl (any_of HT_.out z3_17) (λ_ _ _ h=>h) (Or.inl ⟨(by rfl),?_⟩) ?_ ?_
 rotate_left
 ·intro w'
  go_simp
  with_reducible rfl
 rotate_left
 ·exact z3_1
 refine pure_ (i:=6) (N:=some 84) (v:=?_) (a':=?_) #[Y,Y,L,L,Y,Y,Y,L,L,L,L,L,L,L,L] rfl rfl (any_of HT_.out z3_17) (λ_ _ _ h=>h) (Or.inl ⟨(by rfl),?_⟩) ?_ ?_
 rotate_left
 ·intro w'
  go_simp
  with_reducible rfl
 rotate_left
 ·exact z3_1
 refine pure_ (i:=7) (N:=some 85) (v:=?_) (a':=?_) #[Y,Y,L,L,Y,Y,Y,Y,L,L,L,L,L,L,L] rfl rfl (any_of HT_.out z3_17) (λ_ _ _ h=>h) (Or.inl ⟨(by rfl),?_⟩) ?_ ?_
 rotate_left
 ·intro w'
  go_simp
  with_reducible rfl
 rotate_left
 ·exact z3_1
 refine pure_ (i:=9) (N:=some 87) (v:=?_) (a':=?_) #[Y,Y,L,L,Y,Y,Y,Y,L,Y,L,L,L,L,L] rfl rfl (any_of HT_.out z3_17) (λ_ _ _ h=>h) (Or.inl ⟨(by rfl),?_⟩) ?_ ?_
 rotate_left
 ·intro w'
  go_simp
  with_reducible rfl
 rotate_left
 ·exact z3_1
 refine pure_ (i:=10) (N:=some 88) (v:=?_) (a':=?_) #[Y,Y,L,L,Y,Y,Y,Y,L,Y,Y,L,L,L,L] rfl rfl (any_of HT_.out z3_17) (λ_ _ _ h=>h) (Or.inl ⟨(by rfl),?_⟩) ?_ ?_
 rotate_left
 ·intro w'
  go_simp
  with_reducible rfl
 rotate_left
 ·exact z3_1
 refine take_ (i:=2) (N:=some 80) (v:=?_) (a':=?_) #[Y,Y,Y,L,Y,Y,Y,Y,L,Y,Y,L,L,L,L] rfl rfl (take_ofW HT_.out HW_.out z3_17) (λ_ _ _ h=>h) (Or.inl ⟨(by rfl),?_⟩) hHeld ?_ ?_
 rotate_left
 ·intro w' s0
  go_simp
  with_reducible rfl
 rotate_left
 ·exact z3_1
 refine pure_ (i:=3) (N:=some 81) (v:=?_) (a':=?_) #[Y,Y,Y,Y,Y,Y,Y,Y,L,Y,Y,L,L,L,L] rfl rfl (any_of HT_.out z3_17) (λ_ _ _ h=>h) (Or.inl ⟨(by rfl),?_⟩) ?_ ?_
 rotate_left
 ·intro w'
  go_simp
  with_reducible rfl
 rotate_left
 ·exact z3_1
 refine one_ (i:=8) (N:=some 86) #[Y,Y,Y,Y,Y,Y,Y,Y,Y,Y,Y,L,L,L,L] rfl rfl (one_of HT_.out z3_17) (by decide) (λK hK=>?_)
 refine goes_ Try.func114 z3_17 rfl #[.slice A43 y179.length c43] (by rfl) rfl rfl z1_4 ?_
 with_reducible refine(bytes_Clone.calls _ _ y179 t184 _ ?side1 ?side2 A33.out).mono ?_
 (case side1=>repeat(first|exact(Kd.V_reads' HO183.out).2.2|(with_reducible refine Kd.C_alloc ?_ _)|(with_reducible refine Kd.C_drewN ?_ _)|(with_reducible refine Kd.C_drew ?_)))
 (case side2=>exact(Kd.V_reads' HO183.out).2.1)
 rintro e w44 ⟨v185,rfl,ho0,hb⟩
 have HS0_:=(hb.cell (World.block_lt_of_cell? _ _ (hHeld))).trans (hHeld)
 refine ⟨_,rfl,?_⟩
 have n0_:=U (Kd.V_elder' z3_5 (Kd.R_base ho0) hb)
 have n1_:=U (Kd.V_elder' z3_9 (Kd.R_base ho0) hb)
 have n2_:=U (Kd.N_elder' z3_10 (Kd.R_base ho0) hb)
 have n3_:=U (Kd.V_elder' z3_11 (Kd.R_base ho0) hb)
 have n4_:=U (Kd.R_elder' (by(with_reducible repeat(first|apply Kd.R_alloc|apply Kd.R_drewN|apply Kd.R_drew));exact HO176.out) (Kd.R_base ho0) hb)
 have n5_:=U (Kd.V_elder' (by(with_reducible repeat(first|apply Kd.V_alloc|apply Kd.V_drewN|apply Kd.V_drew));exact HO183.out) (Kd.R_base ho0) hb)
 have n6_:=U (Kd.R_lower (Kd.R_new' (Kd.R_newM (M:=λk_=>(w.heap.size<=k_)) ho0 (below_size z1_0) (λk_ h_=>h_)) (Kd.R_lt (by(with_reducible repeat(first|apply Kd.R_alloc|apply Kd.R_drewN|apply Kd.R_drew));exact HO176.out))) (below_size z1_0))
 have n7_:=U (below_step z1_0 hb)
 clear HO_0
 clear HO164
 clear HO167
 clear HO173
 clear HO176
 clear HO183
 clear HB
 have HO_0:=n0_
 have HO164:=n1_
 have HO167:=n2_
 have HO173:=n3_
 have HO176:=n4_
 have HO183:=n5_
 have HO186:=n6_
 have HB:=n7_
 clear n0_ n1_ n2_ n3_ n4_ n5_ n6_ n7_
 (try clear hb)
 (try clear hb2)
 (try clear hk)
 (try clear hi)
 (try clear ho0)
 refine hK.out _ _ (HS0_) (λhHeld=>?_)
 clear hK K
 refine norm_ (a':=?_) ?_ ?_
 rotate_left
 ·show Act.put _ (some 86) _=_;simp only [Act.put,List.setIfInBounds_toArray,List.set_cons_zero,List.set_cons_succ,i64_w,i32_w];rfl
 refine pure_ (i:=11) (N:=some 2) (v:=?_) (a':=?_) #[Y,Y,Y,Y,Y,Y,Y,Y,Y,Y,Y,Y,L,L,L] rfl rfl (any_of HT_.out z3_17) (λ_ _ _ h=>h) (Or.inl ⟨(by rfl),?_⟩) ?_ ?_
 rotate_left
 ·intro w'
  go_simp
  with_reducible rfl
 rotate_left
 ·exact z3_1
 refine pure_ (i:=12) (N:=some 3) (v:=?_) (a':=?_) #[Y,Y,Y,Y,Y,Y,Y,Y,Y,Y,Y,Y,Y,L,L] rfl rfl (any_of HT_.out z3_17) (λ_ _ _ h=>h) (Or.inl ⟨(by rfl),?_⟩) ?_ ?_
 rotate_left
 ·intro w'
  go_simp
  with_reducible rfl
 rotate_left
 ·exact z3_1
 refine pure_ (i:=13) (N:=some 4) (v:=?_) (a':=?_) #[Y,Y,Y,Y,Y,Y,Y,Y,Y,Y,Y,Y,Y,Y,L] rfl rfl (any_of HT_.out z3_17) (λ_ _ _ h=>h) (Or.inl ⟨(by rfl),?_⟩) ?_ ?_
 rotate_left
 ·intro w'
  go_simp
  with_reducible rfl
 rotate_left
 ·exact z3_1
 refine pure_ (i:=14) (N:=some 5) (v:=?_) (a':=?_) #[Y,Y,Y,Y,Y,Y,Y,Y,Y,Y,Y,Y,Y,Y,Y] rfl rfl (any_of HT_.out z3_17) (λ_ _ _ h=>h) (Or.inl ⟨(by rfl),?_⟩) ?_ ?_
 rotate_left
 ·intro w'
  go_simp
  with_reducible rfl
 rotate_left
 ·exact z3_1
 refine done_ (done_of HT_.out z3_17) ?_
 try go_wp2
 refine bodyPost_ret (results_list (rs:=[.tmp 2,.tmp 3,.tmp 4,.tmp 5]) rfl (by simp) (.tmp (.tmp (.tmp (.tmp .nil))))) rfl ?_
 exact ⟨_,(by first|rfl|(simp [errW_none,errW_some]<;>rfl)|(simp only [<-hji19,<-hji29];first|rfl|(simp [errW_none,errW_some]<;>rfl))|(simp [*,errW_none,errW_some]<;>rfl)),(by(with_reducible repeat(first|apply Kd.R_alloc|apply Kd.R_drewN|apply Kd.R_drew));exact Kd.R_mono HO186.out (λ_ hk=>hk.1.1)),z1_0⟩
end Go.Proofs.Ytfhamdobagjakaa.PJo
