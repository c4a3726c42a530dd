/- a part -/
import Derived.Test.YtjpjdipdhakjnaaClockSet
namespace Go.Proofs.Ytjpjdipdhakjnaa.ClockBase
open Go.RowKit Go.Lib Go.Proofs.YtjpjdipdhakjnaaW.PrintWords Go.Proofs.YtjpjdipdhakjnaaW.PrintLast Go.Proofs.YtjpjdipdhakjnaaW.PrintMore
set_option linter.unusedVariables false
set_option linter.unusedSimpArgs false
def greater (x y:Int):Int:=if x<y then y else x
theorem max2_name (k k':IntKind) (x y:Int):Builtin.max2 (.int k x) (.int k' y)=pure (.int k (greater x y)):=max2_int k k' x y
attribute [local go_sem] max2_name max_two
def joinS (ls:List (List Int)):List Int:=ls.foldl (λacc c=>List.zipWith greater acc (ofL c)) [0,0,0,0,0]
def joinFrom (acc:List Int) (ls:List (List Int)):List Int:=ls.foldl (λacc c=>List.zipWith greater acc (ofL c)) acc
theorem joinFrom_step {acc:List Int} {ls:List (List Int)} {k:Nat} (h:k<ls.length):joinFrom acc (ls.drop k)=joinFrom (List.zipWith greater acc (ofL (ls.getD k []))) (ls.drop (k+1)):=by
 unfold joinFrom
 rw [List.drop_eq_getElem_cons h,List.foldl_cons,List.getD_eq_getElem?_getD,List.getElem?_eq_getElem h]
 rfl
theorem row_at {w:World} {A:Option Addr} {q:Nat} {ls:List (List Int)} (h:Kd.C (Kd.slice q (Kd.int .i64)) w A ls.length ls) (k:Nat) (hk:k<ls.length):∃ ad A0 c0,A=some ad/\w.cell? (ad.add k)=some (.slice A0 (ls.getD k []).length c0)/\Kd.C (Kd.int .i64) w A0 (ls.getD k []).length (ls.getD k []):=by
 obtain ⟨ad,c,e,_,hK,hc0⟩:=Kd.C_get h ([]:List Int) (k:Int) (by omega) (by omega)
 simp only [Int.toNat_natCast] at hK hc0
 have hc:∀ j u,c[j]? = some u->w.cell? (ad.add (k*1+j))=some u:=hc0
 obtain ⟨A0,c0,rfl,l0,g0⟩:=hK
 exact ⟨ad,A0,c0,e,by have hq:=hc 0 _ rfl;rwa [Nat.mul_one,Nat.add_zero] at hq,g0⟩
set_option maxRecDepth 100000 in
set_option maxHeartbeats 4000000 in
theorem Join_calls (A:Option Addr) (c q:Nat) (ls:List (List Int)) (w:World) (hr:Kd.C (Kd.slice q (Kd.int .i64)) w A ls.length ls) :
  Calls Try.prog 13 #[.slice A ls.length c] w λe w'=>∃ v,e = .returned v/\Kd.R (Kd.int .i64) 3 w' w.heap.size (λ_=>True) v (trim (joinS ls))/\Below w.heap.size w w':=by
 have HR:=Aside0.mk hr
 have hn:ls.length<=9223372036854775807:=hr.2.1
 clear hr
 go_enter Try.func13,Try.ntmps13
 go_wp2
 go_loopg [10] ls.length (λgg s10 wr=>∃ (kk:Nat) (x0 x1 x2 x3 x4:Int),s10 = .int .i64 kk/\kk<=ls.length/\ls.length - kk<=gg/\Aside0 (wr.heap[w.heap.size]? = some (.cells #[.int .i64 x0,.int .i64 x1,.int .i64 x2,.int .i64 x3,.int .i64 x4] 73 (0,0)))/\Aside0 (Below w.heap.size w wr)/\Aside0 (joinFrom [x0,x1,x2,x3,x4] (ls.drop kk)=joinS ls))
 case atStart=>exact ⟨0,0,0,0,0,0,rfl,Nat.zero_le _,by omega,⟨alloc_last _ _⟩,⟨below_alloc (Below.refl _ _) _⟩,⟨rfl⟩⟩
 case round =>
  obtain ⟨kk,x0,x1,x2,x3,x4,rfl,hkk,hg,HG,HB,HJ⟩:=hrel
  by_cases hlt:kk<ls.length
  ·have hltz:(kk:Int)<(ls.length:Int):=by omega
   obtain ⟨ad,A0,c0,rfl,hcell,hC⟩:=row_at HR.out kk hlt
   have hcellr:wr.cell? (ad.add kk)=some (.slice A0 (ls.getD kk []).length c0):=pw_cell_below HB.out hcell
   clear hcell
   obtain ⟨y0,y1,y2,y3,y4,ey,hy⟩:=of_five (c:=c0) (Kd.C_below hC HB.out)
   replace hy:=hy wr (Below.refl _ _)
   have hs:=joinFrom_step (acc:=[x0,x1,x2,x3,x4]) hlt
   rw [ey] at hs
   have HS:=Aside0.mk (hs.symm.trans HJ.out)
   clear hs ey hC HJ
   have hi0:∀ W:World,(Instr.index 73 (.agg #[.int .i64 y0,.int .i64 y1,.int .i64 y2,.int .i64 y3,.int .i64 y4]) (.int .i64 0)).run Try.prog W = .ok (.int .i64 y0) W:=λ_=>by kernel_rfl
   have hi1:∀ W:World,(Instr.index 73 (.agg #[.int .i64 y0,.int .i64 y1,.int .i64 y2,.int .i64 y3,.int .i64 y4]) (.int .i64 1)).run Try.prog W = .ok (.int .i64 y1) W:=λ_=>by kernel_rfl
   have hi2:∀ W:World,(Instr.index 73 (.agg #[.int .i64 y0,.int .i64 y1,.int .i64 y2,.int .i64 y3,.int .i64 y4]) (.int .i64 2)).run Try.prog W = .ok (.int .i64 y2) W:=λ_=>by kernel_rfl
   have hi3:∀ W:World,(Instr.index 73 (.agg #[.int .i64 y0,.int .i64 y1,.int .i64 y2,.int .i64 y3,.int .i64 y4]) (.int .i64 3)).run Try.prog W = .ok (.int .i64 y3) W:=λ_=>by kernel_rfl
   have hi4:∀ W:World,(Instr.index 73 (.agg #[.int .i64 y0,.int .i64 y1,.int .i64 y2,.int .i64 y3,.int .i64 y4]) (.int .i64 4)).run Try.prog W = .ok (.int .i64 y4) W:=λ_=>by kernel_rfl
   generalize ls.getD kk []=cc at hcellr hy
   go_wp2_with (go_at_call 47;(with_reducible refine hy.mono ?_);rintro e w1 ⟨rfl,hB1⟩)
   have hg1:w1.heap[w.heap.size]? = some (.cells #[.int .i64 x0,.int .i64 x1,.int .i64 x2,.int .i64 x3,.int .i64 x4] 73 (0,0)):=(hB1.block _ (blk_lt HG.out)).trans HG.out
   have f0:=blk_cell hg1 0
   have f1:=blk_cell hg1 1
   have f2:=blk_cell hg1 2
   have f3:=blk_cell hg1 3
   have f4:=blk_cell hg1 4
   simp at f0 f1 f2 f3 f4
   have z0:=blk_frozen hg1 0
   have z1:=blk_frozen hg1 1
   have z2:=blk_frozen hg1 2
   have z3:=blk_frozen hg1 3
   have z4:=blk_frozen hg1 4
   have HG1:=Aside0.mk hg1
   have HB1:=Aside0.mk (below_step HB.out hB1)
   clear hg1 hB1 hy hcellr HG HB
   refine wp_loop_rounds 6 ?_
   repeat(rw [rounds_succ];go_wp2)
   go_roundg (ls.length - (kk+1))
   case measure=>omega
   case rel =>
    refine ⟨kk+1,greater x0 y0,greater x1 y1,greater x2 y2,greater x3 y3,greater x4 y4,by go_num,by omega,by omega,?_,?_,?_⟩
    ·exact ⟨blk_put (blk_put (blk_put (blk_put (blk_put HG1.out 0 _ rfl) 1 _ rfl) 2 _ rfl) 3 _ rfl) 4 _ rfl⟩
    ·exact ⟨Below.setCell (Below.setCell (Below.setCell (Below.setCell (Below.setCell HB1.out (Nat.le_refl _) _) (Nat.le_refl _) _) (Nat.le_refl _) _) (Nat.le_refl _) _) (Nat.le_refl _) _⟩
    ·exact HS
  ·have:kk=ls.length:=by omega
   subst this
   have hltz:¬ (ls.length:Int)<(ls.length:Int):=by omega
   have hJ:=HJ.out
   rw [List.drop_length] at hJ
   have hJ':[x0,x1,x2,x3,x4]=joinS ls:=hJ
   have HJ':=Aside0.mk (show trim [x0,x1,x2,x3,x4]=trim (joinS ls) by rw [hJ'])
   clear hJ hJ' HJ
   have hg1:=HG.out
   have f0:=blk_cell hg1 0
   have f1:=blk_cell hg1 1
   have f2:=blk_cell hg1 2
   have f3:=blk_cell hg1 3
   have f4:=blk_cell hg1 4
   simp at f0 f1 f2 f3 f4
   clear hg1 HG
   go_wp2_with (go_at_call 48;(with_reducible refine(plain_calls _ _ _ _ _ _).mono ?_);rintro e w3 ⟨v,rfl,hv,hB3⟩)
   go_ret
   rw [HJ'.out] at hv
   exact ⟨v,rfl,Kd.R_lower hv (below_size HB.out),below_step HB.out hB3⟩
end Go.Proofs.Ytjpjdipdhakjnaa.ClockBase
