/- a part -/
import Derived.Test.YtfhamdobagjakaaDkWalk
namespace Go.Proofs.Ytfhamdobagjakaa.Dsk
open Go.RowKit Go.Proofs.YtfhamdobagjakaaW.PrintWords Go.Proofs.YtfhamdobagjakaaW.PrintLast Go.Proofs.YtfhamdobagjakaaW.PrintMore Go.Proofs.Ytfhamdobagjakaa.Hand Go.Proofs.Ytfhamdobagjakaa.Cards Go.Proofs.Ytfhamdobagjakaa.PJo
attribute [local go_sem] max2_name min2_name max_two min_two
set_option linter.unusedVariables false
set_option linter.unusedSimpArgs false
section
variable {w0 W : World} {g : Nat} {v0 v1 : Value} {D : Nat -> Prop} {d : Dk}
set_option maxHeartbeats 4000000 in
set_option maxRecDepth 100000 in
theorem read_calls (h:Raw w0 W g v0 v1 D d) (hg:d.Good) (i:Int) :
  Calls Try.prog 49 #[.pointer (some ⟨g,0,none⟩),.int .i64 i] W λe w'=>∃ v,e = .returned (.tuple #[v,.int .i64 (d.why i)])/\U8.R 5 w' W.heap.size (λ_=>True) v (if d.why i=0 then d.row i else [])/\Below W.heap.size W w':=by
 have H1:=Aside0.mk (at_calls h i)
 have HH:=Aside0.mk h
 have HG:=Aside0.mk hg
 clear h hg
 obtain ⟨y,hy⟩:∃ y,y=d.why i:=⟨_,rfl⟩
 rw [<-hy] at H1 ⊢
 have HY:=Aside0.mk hy
 clear hy
 obtain ⟨rr,hrr⟩:∃ rr,rr=(if y=0 then d.row i else []):=⟨_,rfl⟩
 rw [<-hrr]
 by_cases y0:y=0
 case neg =>
  have Y0:=Aside0.mk y0
  have y1:(y != 0)=true:=by simp [y0]
  rw [if_neg y0] at hrr
  subst hrr
  clear y0
  go_enter Try.func49,Try.ntmps49
  go_wp2_with (first|(go_at_call 81;with_reducible refine Calls.mono H1.out ?_;rintro e w1 ⟨rfl,hb⟩;have HB:=Aside0.mk hb;clear hb H1))
  refine bodyPost_ret (results_tmp2 rfl _ _ _) rfl ?_
  exact ⟨_,rfl,Kd.R_nil _ _ _ _ _,HB.out⟩
 have Y0:=Aside0.mk y0
 have y1:(y != 0)=false:=by simp [y0]
 rw [if_pos y0] at hrr
 have RR:=Aside0.mk hrr
 clear hrr
 have hin:=Dk.why_in (d:=d) (i:=i) (by rw [<-HY.out];omega)
 have HIN:=Aside0.mk hin
 clear y0 hin
 rcases HIN.out with rfl|rfl
 ·obtain ⟨Ar,cr,er⟩:=Kd.R_slice HH.out.r0
  subst er
  have LN:=Aside0.mk HG.out.len0
  go_enter Try.func49,Try.ntmps49
  go_upto_region 4 with (first|(go_at_call 81;with_reducible refine Calls.mono H1.out ?_;rintro e w1 ⟨rfl,hb⟩;have HB:=Aside0.mk hb;have HH1:=Aside0.mk (HH.out.on hb);clear hb H1))
  have c0:=HH1.out.c0
  go_upto_region 5 with (first|((with_reducible refine gate_dst (N:=22) rfl ?_);refine Kd.R_make U8 (w0:=W) W.heap.size 5 rfl (N:=22) rfl 38 _ _ rfl (d.b0.length:Int) rfl rfl Try.underlying38 (.int .u8 0) 1 info5 rfl (by decide) (by omega) 0 (ok:=λ_=>True) (okp:=λ_=>True) rfl (λ_ hk=>hk) trivial (by omega) (by have:=LN.out;omega) HB.out (below_size HB.out) ?_;intro v7 w5 ho hb hg hat;obtain ⟨zz,hzz⟩:∃ zz,zz=List.replicate ((d.b0.length:Int)).toNat (0:Int):=⟨_,rfl⟩;rw [<-hzz] at ho;have ZZ:=Aside0.mk hzz;obtain ⟨A7,c7,e7⟩:=Kd.R_slice ho;subst e7;have HO5:=Aside0.mk ho;have HB5:=Aside0.mk hb;have HH5:=Aside0.mk (HH1.out.on (below_of_grown' hg));clear ho hb hg hat hzz))
  clear c0 HH1 HB
  have c0:=HH5.out.c0
  have q5:=Aside0.mk (Kd.R_reads' HH5.out.r0).2.2
  have lz:zz.length=d.b0.length:=by rw [ZZ.out,List.length_replicate];omega
  have LZ:=Aside0.mk lz
  clear lz
  have e5:(Try.prog.info? 5).map (·.size)=some 1:=by kernel_rfl
  have E5:=Aside0.mk e5
  clear e5
  go_wp2_with (first|((with_reducible refine gate_builtin (b:=.copy) (xs:=#[.tmp 23,.tmp 30]) rfl ?_);refine Kd.R_copy (0:Int) (w0:=W) W.heap.size rfl (.tmp 23) (.tmp 30) 38 38 5 rfl Try.underlying38 E5.out _ zz d.b0 _ _ _ (λ_=>True) rfl rfl HO5.out q5.out HB5.out (below_size HB5.out) ?_;intro w6 ho hb hg;have HO6:=Aside0.mk ho;have HB6:=Aside0.mk hb;clear ho hb hg))
  refine bodyPost_ret (results_tmp2 rfl _ _ _) rfl ?_
  have ho:=HO6.out
  have lz:=LZ.out
  clear HO6 c0 q5
  have el:d.b0.take (min d.b0.length zz.length)++zz.drop (min d.b0.length zz.length)=d.b0:=by rw [lz,Nat.min_self,List.take_length,List.drop_eq_nil_of_le (by omega),List.append_nil]
  rw [el] at ho
  have er:rr=d.b0:=RR.out
  have y0:=Y0.out
  clear Y0 HY y1
  subst y0
  exact ⟨_,rfl,by rw [er];exact ho,HB6.out⟩
 ·obtain ⟨Ar,cr,er⟩:=Kd.R_slice HH.out.r1
  subst er
  have LN:=Aside0.mk HG.out.len1
  go_enter Try.func49,Try.ntmps49
  go_upto_region 4 with (first|(go_at_call 81;with_reducible refine Calls.mono H1.out ?_;rintro e w1 ⟨rfl,hb⟩;have HB:=Aside0.mk hb;have HH1:=Aside0.mk (HH.out.on hb);clear hb H1))
  have c0:=HH1.out.c2
  go_upto_region 5 with (first|((with_reducible refine gate_dst (N:=22) rfl ?_);refine Kd.R_make U8 (w0:=W) W.heap.size 5 rfl (N:=22) rfl 38 _ _ rfl (d.b1.length:Int) rfl rfl Try.underlying38 (.int .u8 0) 1 info5 rfl (by decide) (by omega) 0 (ok:=λ_=>True) (okp:=λ_=>True) rfl (λ_ hk=>hk) trivial (by omega) (by have:=LN.out;omega) HB.out (below_size HB.out) ?_;intro v7 w5 ho hb hg hat;obtain ⟨zz,hzz⟩:∃ zz,zz=List.replicate ((d.b1.length:Int)).toNat (0:Int):=⟨_,rfl⟩;rw [<-hzz] at ho;have ZZ:=Aside0.mk hzz;obtain ⟨A7,c7,e7⟩:=Kd.R_slice ho;subst e7;have HO5:=Aside0.mk ho;have HB5:=Aside0.mk hb;have HH5:=Aside0.mk (HH1.out.on (below_of_grown' hg));clear ho hb hg hat hzz))
  clear c0 HH1 HB
  have c0:=HH5.out.c2
  have q5:=Aside0.mk (Kd.R_reads' HH5.out.r1).2.2
  have lz:zz.length=d.b1.length:=by rw [ZZ.out,List.length_replicate];omega
  have LZ:=Aside0.mk lz
  clear lz
  have e5:(Try.prog.info? 5).map (·.size)=some 1:=by kernel_rfl
  have E5:=Aside0.mk e5
  clear e5
  go_wp2_with (first|((with_reducible refine gate_builtin (b:=.copy) (xs:=#[.tmp 23,.tmp 30]) rfl ?_);refine Kd.R_copy (0:Int) (w0:=W) W.heap.size rfl (.tmp 23) (.tmp 30) 38 38 5 rfl Try.underlying38 E5.out _ zz d.b1 _ _ _ (λ_=>True) rfl rfl HO5.out q5.out HB5.out (below_size HB5.out) ?_;intro w6 ho hb hg;have HO6:=Aside0.mk ho;have HB6:=Aside0.mk hb;clear ho hb hg))
  refine bodyPost_ret (results_tmp2 rfl _ _ _) rfl ?_
  have ho:=HO6.out
  have lz:=LZ.out
  clear HO6 c0 q5
  have el:d.b1.take (min d.b1.length zz.length)++zz.drop (min d.b1.length zz.length)=d.b1:=by rw [lz,Nat.min_self,List.take_length,List.drop_eq_nil_of_le (by omega),List.append_nil]
  rw [el] at ho
  have er:rr=d.b1:=RR.out
  have y0:=Y0.out
  clear Y0 HY y1
  subst y0
  exact ⟨_,rfl,by rw [er];exact ho,HB6.out⟩
set_option maxHeartbeats 4000000 in
set_option maxRecDepth 100000 in
theorem new_calls (room:Int) (r0:0<=room) (r1:room<=1048576) (W:World) :
  Calls Try.prog 44 #[.int .i64 room] W λe w'=>∃ g,e = .returned (.tuple #[.pointer (some ⟨g,0,none⟩),.int .i64 0])/\(∃ D,At W w' g D (Dk.new room))/\Below W.heap.size W w':=by
 have a1:decide (room<0)=false:=decide_eq_false (by omega)
 have a2:decide (room > 1048576)=false:=decide_eq_false (by omega)
 have a3:decide (1048576<room)=false:=decide_eq_false (by omega)
 have n1:At W (W.alloc (DkObj (.slice none 0 0) (.slice none 0 0) (Dk.new room))) W.heap.size (λk=>k=W.heap.size) (Dk.new room) :=
  ⟨_,_,below_alloc (Below.refl _ _) _,Nat.le_refl _,rfl,λk hk=>by rw [hk];simp,λk hk=>Nat.le_of_eq hk.symm,heap_alloc_new W _,Kd.R_nil _ _ _ _ _,Kd.R_nil _ _ _ _ _⟩
 have N1:=Aside0.mk n1
 clear n1
 go_enter Try.func44,Try.ntmps44
 go_wp2
 refine bodyPost_ret (results_tmp2 rfl _ _ _) rfl ?_
 exact ⟨_,rfl,⟨_,N1.out⟩,below_alloc (Below.refl _ _) _⟩
end
end Go.Proofs.Ytfhamdobagjakaa.Dsk
