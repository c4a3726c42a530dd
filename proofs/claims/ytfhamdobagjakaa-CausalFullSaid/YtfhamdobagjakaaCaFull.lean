/- a part -/
import Derived.Test.YtfhamdobagjakaaCaAwake
namespace Go.Proofs.Ytfhamdobagjakaa.Cau
open Go.RowKit Go.Proofs.YtfhamdobagjakaaW.PrintWords Go.Proofs.YtfhamdobagjakaaW.PrintLast Go.Proofs.YtfhamdobagjakaaW.PrintMore Go.Proofs.Ytfhamdobagjakaa.Hand Go.Proofs.Ytfhamdobagjakaa.Cards Go.Proofs.Ytfhamdobagjakaa.PCa Go.Proofs.Ytfhamdobagjakaa.DotMap
set_option linter.unusedVariables false
set_option linter.unusedSimpArgs false
section
variable {w0 W w W1 W2 w' : World} {g bm clk base k : Nat} {X : Nat -> Prop} {c p : List Int} {es : List En} {l wl : List Ev} {ok ok' : Nat -> Prop} {x : Ev} {v : Value} {A Ap Ae Ac Ac1 : Option Addr} {cl cp ce cc cc1 : Nat}
theorem full_wait {i:Nat} (hi:i<64) (h:Sb w0 W g bm X [] (ones 2 i)) (hx:EvR W ok (oneE (2+i)) Ap cp Ae ce):Calls Try.prog 22 #[.pointer (some ⟨g,0,none⟩),evV (oneE (2+i)) Ap cp Ae ce] W λe w'=>e = .returned (.tuple #[.slice none 0 0,.int .i64 0])/\Sb w0 w' g bm X [] (ones 2 (i+1)):=by
 refine(g_wait h hx (check_one (by omega) (by omega)) one_lens (λes he=>(known_ones he (by omega)).trans (decide_eq_false (by omega))) (can_nil (by omega) (by omega)) (by rw [ones_len];exact hi)).mono ?_
 rintro e w' ⟨rfl,hS,_⟩
 rw [ones_snoc] at hS
 exact ⟨rfl,hS⟩
theorem full_full {n:Int} (h0:0<=n) (h1:n<256) (h:Sb w0 W g bm X [] (ones 2 64)) (hx:EvR W ok (oneE (66+n)) Ap cp Ae ce):Calls Try.prog 22 #[.pointer (some ⟨g,0,none⟩),evV (oneE (66+n)) Ap cp Ae ce] W λe w'=>e = .returned (.tuple #[.slice none 0 0,.int .i64 6])/\Below W.heap.size W w' :=
 g_full h hx (check_one (by omega) (by omega)) (λes he=>(known_ones he (by omega)).trans (decide_eq_false (by omega))) (can_nil (by omega) (by omega)) (by rw [ones_len];exact Nat.le_refl _)
theorem full_known {s:Int} (h0:2<=s) (h1:s<66) (h:Sb w0 W g bm X [] (ones 2 64)) (hx:EvR W ok (oneE s) Ap cp Ae ce):Calls Try.prog 22 #[.pointer (some ⟨g,0,none⟩),evV (oneE s) Ap cp Ae ce] W λe w'=>e = .returned (.tuple #[.slice none 0 0,.int .i64 0])/\Below W.heap.size W w' :=
 g_known h hx (check_one (by omega) (by omega)) (λes he=>(known_ones he (by omega)).trans (decide_eq_true (by omega)))
theorem run_full:runS (ones 2 64).length (ClockBase.setS [] (oneE 1).f0.f0 (oneE 1).f0.f1) (ones 2 64)=(ones 2 64,[65],[]):=by
 show runS _ (ClockBase.setS [] 1 1) (ones (1+1) 64)=_
 rw [setS_nil (by decide),run_ones 64 _ 1 (by decide) (by decide) (by rw [ones_len];exact Nat.le_refl _)]
 rfl
theorem full_told (h:Sb w0 W g bm X [] (ones 2 64)) (hx:EvR W (λk=>¬ X k) (oneE 1) Ap cp Ae ce):Calls Try.prog 22 #[.pointer (some ⟨g,0,none⟩),evV (oneE 1) Ap cp Ae ce] W λe w'=>∃ A c,e = .returned (.tuple #[.slice A 65 c,.int .i64 0])/\Sb w0 w' g bm X [65] []:=by
 refine(g_told h hx (check_one (by decide) (by decide)) one_lens (one_set (by decide) (by decide)) (λy hy=>by obtain ⟨s,h1,h2,rfl⟩:=ones_mem _ _ hy;exact ⟨one_lens,one_set (by omega) (by omega)⟩) (λes he=>(known_ones he (by decide)).trans (by decide)) can_first (by rw [ones_len];decide) run_full).mono ?_
 rintro e w' ⟨v',rfl,hN,hS,_⟩
 obtain ⟨A3,c3,e3⟩:=Kd.N_slice hN
 subst e3
 rw [List.length_cons,ones_len]
 exact ⟨A3,c3,rfl,hS⟩
theorem full_none (h:Sb w0 W g bm X [65] []):Calls Try.prog 24 #[.pointer (some ⟨g,0,none⟩)] W λe w'=>∃ A c,e = .returned (.slice A 0 c)/\Sb w0 w' g bm X [65] []:=by
 refine(w_calls h (λy hy=>by cases hy) (Nat.zero_le _)).mono ?_
 rintro e w' ⟨v',rfl,hN,hb⟩
 obtain ⟨A3,c3,e3⟩:=Kd.N_slice hN
 subst e3
 exact ⟨A3,c3,rfl,h.on hb⟩
set_option maxHeartbeats 16000000 in
set_option maxRecDepth 100000 in
theorem full_calls (n:Int) (h0:0<=n) (h1:n<256) (W:World):Calls Try.prog 4 #[.int .u8 n] W λe w'=>e = .returned (.bool true)/\Below W.heap.size W w':=by
 go_enter Try.func4,Try.ntmps4
 go_upto_region 5 with (first|(go_at_call 21;(with_reducible refine Calls.mono (new_nil W) ?_);rintro e_ w1 ⟨g,bm,rfl,hS⟩;have S1:=Aside0.mk hS;clear hS))
 obtain ⟨X,hX⟩:∃ X:Nat->Prop,X=λk=>k<W.heap.size\/k=g\/k=bm:=⟨_,rfl⟩
 rw [<-hX] at S1
 clear hX
 go_loopg [5] 64 (λgg v5 wr=>∃ i:Nat,i<=64/\64 - i<=gg/\v5 = .int .i64 i/\Aside0 (Sb W wr g bm X [] (ones 2 i)))
 case atStart=>exact ⟨0,by omega,by omega,rfl,S1⟩
 case round =>
  clear S1
  obtain ⟨i,hi,hg,rfl,SS⟩:=hrel
  by_cases hlt:i<64
  ·have hltz:(i:Int)<64:=by omega
   go_wp2_with (first|(go_at_call 23;(with_reducible refine Calls.mono (one_ev (s:=2+(i:Int)) (by omega) (by omega) wr) ?_);rintro e_ w2 ⟨Ap,cp,Ae,ce,rfl,hE,hb⟩;have E2:=Aside0.mk hE;have S2:=Aside0.mk (SS.out.on hb);clear hE hb)|(go_at_call 22;(with_reducible refine Calls.mono (full_wait hlt S2.out E2.out) ?_);rintro e_ w3 ⟨rfl,hS⟩;have S3:=Aside0.mk hS;clear hS))
   go_roundg (64 - (i+1))
   case measure=>omega
   case rel=>exact ⟨i+1,by omega,by omega,by go_num,S3⟩
  ·have hltz:¬ (i:Int)<64:=by omega
   have e_:i=64:=by omega
   subst e_
   clear hi hg hlt
   go_upto_region 11 with (first|(go_at_call 23;(with_reducible refine Calls.mono (one_ev (s:=66+n) (by omega) (by omega) wr) ?_);rintro e_ w2 ⟨Ap,cp,Ae,ce,rfl,hE,hb⟩;have E2:=Aside0.mk hE;have S2:=Aside0.mk (SS.out.on hb);clear hE hb)|(go_at_call 22;(with_reducible refine Calls.mono (full_full h0 h1 S2.out E2.out) ?_);rintro e_ w3 ⟨rfl,hb⟩;have S3:=Aside0.mk (S2.out.on hb);clear hb))
   clear S2 E2 SS
   go_upto_region 12 with (first|(go_at_call 23;(with_reducible refine Calls.mono (one_ev (s:=2+n % 64) (by omega) (by omega) w3) ?_);rintro e_ w4 ⟨Ap1,cp1,Ae1,ce1,rfl,hE,hb⟩;have E4:=Aside0.mk hE;have S4:=Aside0.mk (S3.out.on hb);clear hE hb)|(go_at_call 22;(with_reducible refine Calls.mono (full_known (by omega) (by omega) S4.out E4.out) ?_);rintro e_ w5 ⟨rfl,hb⟩;have S5:=Aside0.mk (S4.out.on hb);clear hb))
   clear S3 S4 E4
   go_upto_region 13 with (first|(go_at_call 23;(with_reducible refine Calls.mono (one_ev (s:=1) (by decide) (by decide) w5) ?_);rintro e_ w6 ⟨Ap2,cp2,Ae2,ce2,rfl,hE,hb⟩;have E6:=Aside0.mk (hE.mono (ok':=λk=>¬ X k) (λk hk e=>hk (S5.out.xs k e)));have S6:=Aside0.mk (S5.out.on hb);clear hE hb)|(go_at_call 22;(with_reducible refine Calls.mono (full_told S6.out E6.out) ?_);rintro e_ w7 ⟨A7,c7,rfl,hS⟩;have S7:=Aside0.mk hS;clear hS))
   clear S5 S6 E6
   go_wp2_with (first|(go_at_call 24;(with_reducible refine Calls.mono (full_none S7.out) ?_);rintro e_ w8 ⟨A8,c8,rfl,hS⟩;have S8:=Aside0.mk hS;clear hS)|(go_at_call 25;(with_reducible refine Calls.mono (awake_calls w8) ?_);rintro e_ w9 ⟨rfl,hb⟩;have S9:=Aside0.mk (S8.out.on hb);clear hb))
   go_ret
   exact ⟨rfl,S9.out.below⟩
end
end Go.Proofs.Ytfhamdobagjakaa.Cau
