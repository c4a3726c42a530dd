/- a part -/
import Derived.Test.YtfhamdobagjakaaCaOne
namespace Go.Proofs.Ytfhamdobagjakaa.Cau
open Go.RowKit Go.Proofs.YtfhamdobagjakaaW.PrintWords Go.Proofs.YtfhamdobagjakaaW.PrintLast Go.Proofs.YtfhamdobagjakaaW.PrintMore Go.Proofs.Ytfhamdobagjakaa.Hand Go.Proofs.Ytfhamdobagjakaa.Cards Go.Proofs.Ytfhamdobagjakaa.PCa Go.Proofs.Ytfhamdobagjakaa.DotMap
set_option linter.unusedVariables false
set_option linter.unusedSimpArgs false
section
variable {w0 W w W1 W2 w' : World} {g bm clk base k : Nat} {X : Nat -> Prop} {c p : List Int} {es : List En} {l wl : List Ev} {ok ok' : Nat -> Prop} {x : Ev} {v : Value} {A Ap Ae Ac Ac1 : Option Addr} {cl cp ce cc cc1 : Nat}
structure Sb (w0 W:World) (g bm:Nat) (X:Nat->Prop) (c:List Int) (wl:List Ev):Prop where
 ex:∃ Ac cc es clk,Bf w0 W g bm X Ac cc c es clk/\es.map (·.x)=wl
 xs:∀ k,X k->k<W.heap.size
theorem Sb.on (h:Sb w0 W g bm X c wl) (hb:Below W.heap.size W w'):Sb w0 w' g bm X c wl:=by
 obtain ⟨Ac,cc,es,clk,h1,h2⟩:=h.ex
 exact ⟨⟨Ac,cc,es,clk,h1.on hb,h2⟩,λk hk=>Nat.lt_of_lt_of_le (h.xs k hk) hb.size⟩
theorem Sb.below (h:Sb w0 W g bm X c wl):Below w0.heap.size w0 W:=by
 obtain ⟨Ac,cc,es,clk,h1,h2⟩:=h.ex
 exact h1.below
theorem one_ev {s:Int} (h1:1<=s) (h2:s<=1000) (W:World):Calls Try.prog 23 #[.int .i64 s] W λe w'=>∃ Ap cp Ae ce,e = .returned (evV (oneE s) Ap cp Ae ce)/\EvR w' (λk=>¬ k<W.heap.size) (oneE s) Ap cp Ae ce/\Below W.heap.size W w':=by
 refine(w26_one.calls s 1 s _ _ W (one_f h1 h2)).mono ?_
 rintro e w' ⟨v2,v3,rfl,hr2,hr3,hb⟩
 obtain ⟨A2,c2,e2⟩:=Kd.R_slice hr2
 obtain ⟨A4,c4,e3⟩:=Kd.R_slice hr3
 subst e2 e3
 have f2:=F_new (X:=λk=>k<W.heap.size) hr2 (λk hk=>hk)
 have f3:=F_new (X:=λk=>k<W.heap.size) hr3 (λk hk=>hk)
 exact ⟨A2,c2,A4,c4,rfl,⟨f2.2.1,f2.2.2,f3.2.1,f3.2.2⟩,hb⟩
theorem new_nil (W:World):Calls Try.prog 21 #[.slice none 0 0] W λe w'=>∃ g bm,e = .returned (.tuple #[.pointer (some ⟨g,0,none⟩),.int .i64 0])/\Sb W w' g bm (λk=>k<W.heap.size\/k=g\/k=bm) [] []:=by
 refine(new_calls (W:=W) (A:=none) (cl:=0) (c:=[]) (p:=[]) (Kd.C_nil _ W) (Nat.le_refl 0) rfl rfl).mono ?_
 rintro e w' ⟨g,bm,Ac,cc,clk,rfl,h⟩
 refine ⟨g,bm,rfl,⟨Ac,cc,[],clk,h,rfl⟩,λk hk=>?_⟩
 rcases hk with hk|rfl|rfl
 ·have:=h.below.size
  omega
 ·exact blk_lt h.blk
 ·exact blk_lt h.map
theorem g_wait (h:Sb w0 W g bm X c wl) (hx:EvR W ok x Ap cp Ae ce) (hck:event_Check.f k x.f0.f0 x.f0.f1 x.f1 x.f2=some 0) (hlen:x.f1.length<=1000/\x.f2.length<=100000) (hk:∀ es:List En,es.map (·.x)=wl->knownB c es x=false) (hcan:canB c x=false) (hf:wl.length<64) :
  Calls Try.prog 22 #[.pointer (some ⟨g,0,none⟩),evV x Ap cp Ae ce] W λe w'=>e = .returned (.tuple #[.slice none 0 0,.int .i64 0])/\Sb w0 w' g bm X c (wl++[x])/\Only W w' g bm:=by
 obtain ⟨Ac,cc,es,clk,h1,h2⟩:=h.ex
 refine(give_wait h1 hx hck h.xs hlen (hk es h2) hcan (by rw [<-h2,List.length_map] at hf;exact hf)).mono ?_
 rintro e w' ⟨v',rfl,hb,ho⟩
 exact ⟨rfl,⟨⟨Ac,cc,_,_,hb,by rw [List.map_append,h2];rfl⟩,λk hk=>Nat.lt_of_lt_of_le (h.xs k hk) ho.size⟩,ho⟩
theorem g_told (h:Sb w0 W g bm X c wl) (hx:EvR W (λk=>¬ X k) x Ap cp Ae ce) (hck:event_Check.f k x.f0.f0 x.f0.f1 x.f1 x.f2=some 0) (hlen:x.f1.length<=1000/\x.f2.length<=100000) (hok:ClockBase.setOk x.f0.f0 x.f0.f1=true) (hall:∀ y ∈ wl,(y.f1.length<=1000/\y.f2.length<=100000)/\ClockBase.setOk y.f0.f0 y.f0.f1=true) (hk:∀ es:List En,es.map (·.x)=wl->knownB c es x=false) (hcan:canB c x=true) (hf:wl.length<=100000) {told:List Ev} {c':List Int} {wl':List Ev} (hrun:runS wl.length (ClockBase.setS c x.f0.f0 x.f0.f1) wl=(told,c',wl')) :
  Calls Try.prog 22 #[.pointer (some ⟨g,0,none⟩),evV x Ap cp Ae ce] W λe w'=>∃ v',e = .returned (.tuple #[v',.int .i64 0])/\Kd.N k59 59 w' W.heap.size (λk=>¬ X k) v' (x :: told)/\Sb w0 w' g bm X c' wl'/\Only W w' g bm:=by
 obtain ⟨Ac,cc,es,clk,h1,h2⟩:=h.ex
 have hl:es.length=wl.length:=by rw [<-h2,List.length_map]
 refine(give_told h1 hx hck h.xs hlen hok (λe he=>hall e.x (by rw [<-h2];exact List.mem_map.2 ⟨e,he,rfl⟩)) (by omega) (hk es h2) hcan).mono ?_
 rintro e w' ⟨v',Ac',cc',c2,es',rfl,hN,hb,ho,hR⟩
 rw [h2,hl,hrun] at hN hR
 simp only [Prod.mk.injEq] at hR
 obtain ⟨rfl,hR⟩:=hR
 exact ⟨v',rfl,hN,⟨⟨Ac',cc',es',clk,hb,hR.symm⟩,λk hk=>Nat.lt_of_lt_of_le (h.xs k hk) ho.size⟩,ho⟩
theorem g_known (h:Sb w0 W g bm X c wl) (hx:EvR W ok x Ap cp Ae ce) (hck:event_Check.f k x.f0.f0 x.f0.f1 x.f1 x.f2=some 0) (hk:∀ es:List En,es.map (·.x)=wl->knownB c es x=true) :
  Calls Try.prog 22 #[.pointer (some ⟨g,0,none⟩),evV x Ap cp Ae ce] W λe w'=>e = .returned (.tuple #[.slice none 0 0,.int .i64 0])/\Below W.heap.size W w':=by
 obtain ⟨Ac,cc,es,clk,h1,h2⟩:=h.ex
 exact give_known h1 hx hck (hk es h2)
theorem g_full (h:Sb w0 W g bm X c wl) (hx:EvR W ok x Ap cp Ae ce) (hck:event_Check.f k x.f0.f0 x.f0.f1 x.f1 x.f2=some 0) (hk:∀ es:List En,es.map (·.x)=wl->knownB c es x=false) (hcan:canB c x=false) (hf:64<=wl.length) :
  Calls Try.prog 22 #[.pointer (some ⟨g,0,none⟩),evV x Ap cp Ae ce] W λe w'=>e = .returned (.tuple #[.slice none 0 0,.int .i64 6])/\Below W.heap.size W w':=by
 obtain ⟨Ac,cc,es,clk,h1,h2⟩:=h.ex
 exact give_full h1 hx hck (hk es h2) hcan (by rw [<-h2,List.length_map] at hf;exact hf)
theorem w_calls (h:Sb w0 W g bm X c wl) (hall:∀ y ∈ wl,y.f1.length<=1000/\y.f2.length<=100000) (hn:wl.length<=1000000):Calls Try.prog 24 #[.pointer (some ⟨g,0,none⟩)] W λe w'=>∃ v,e = .returned v/\Kd.N k59 59 w' W.heap.size (λk=>W.heap.size<=k) v (Srt.ordL event_Order.lt wl)/\Below W.heap.size W w':=by
 obtain ⟨Ac,cc,es,clk,h1,h2⟩:=h.ex
 have:=waits_calls h1 h.xs (λe he=>hall e.x (by rw [<-h2];exact List.mem_map.2 ⟨e,he,rfl⟩)) (by rw [<-h2,List.length_map] at hn;exact hn)
 rw [h2] at this
 exact this
theorem first_seq {n:Nat} (h:Kd.N k59 59 W base ok (.slice A n cl) (x :: l)):∃ b,A=some ⟨b,0,none⟩/\W.cell? ⟨b,1,none⟩=some (.int .i64 x.f0.f1):=by
 have hn:=(N_foot h).1
 subst hn
 obtain ⟨ad,Ap,cp,Ae,ce,ea,y0,y1,_⟩:=at_ev (i:=0) h (by simp)
 subst ea
 obtain ⟨hok,rows,hrl,⟨hro,inner,hown,hrr⟩,hf⟩:=h
 rcases hown.2 with ⟨he,_⟩|⟨g,cap,cur,he,_⟩
 ·injection he with he _ _
  cases he
 ·injection he with he _ _
  injection he with he
  subst he
  refine ⟨g,rfl,?_⟩
  rw [Nat.zero_mul,add_plain] at y1
  exact y1
theorem run_awake:runS ([oneE 2]:List Ev).length (ClockBase.setS [] (oneE 1).f0.f0 (oneE 1).f0.f1) [oneE 2]=([oneE 2],[2],[]):=by
 show runS 1 (ClockBase.setS [] 1 1) (ones (1+1) 1)=_
 rw [setS_nil (by decide),run_ones 1 1 1 (by decide) (by decide) (by decide)]
 rfl
theorem awake_told (h:Sb w0 W g bm X [] ([]++[oneE 2])) (hx:EvR W (λk=>¬ X k) (oneE 1) Ap cp Ae ce):Calls Try.prog 22 #[.pointer (some ⟨g,0,none⟩),evV (oneE 1) Ap cp Ae ce] W λe w'=>∃ v',e = .returned (.tuple #[v',.int .i64 0])/\Kd.N k59 59 w' W.heap.size (λk=>¬ X k) v' [oneE 1,oneE 2]/\Sb w0 w' g bm X [2] []/\Only W w' g bm :=
 g_told (wl:=[oneE 2]) h hx (check_one (by decide) (by decide)) one_lens (one_set (by decide) (by decide)) (λy hy=>by rw [List.mem_singleton.1 hy];exact ⟨one_lens,one_set (by decide) (by decide)⟩) (λes he=>(known_ones (n:=1) he (by decide)).trans (by decide)) can_first (by decide) run_awake
set_option maxHeartbeats 16000000 in
set_option maxRecDepth 100000 in
theorem awake_calls (W:World):Calls Try.prog 25 #[] W λe w'=>e = .returned (.bool true)/\Below W.heap.size W w':=by
 go_enter Try.func25,Try.ntmps25
 go_upto_region 2 with (first|(go_at_call 21;(with_reducible refine Calls.mono (new_nil W) ?_);rintro e_ w1 ⟨g,bm,rfl,hS⟩;have S1:=Aside0.mk hS;clear hS))
 obtain ⟨X,hX⟩:∃ X:Nat->Prop,X=λk=>k<W.heap.size\/k=g\/k=bm:=⟨_,rfl⟩
 rw [<-hX] at S1
 clear hX
 go_upto_region 3 with (first|(go_at_call 23;(with_reducible refine Calls.mono (one_ev (s:=2) (by decide) (by decide) w1) ?_);rintro e_ w2 ⟨Ap,cp,Ae,ce,rfl,hE,hb⟩;have E2:=Aside0.mk hE;have S2:=Aside0.mk (S1.out.on hb);clear hE hb)|(go_at_call 22;(with_reducible refine Calls.mono (g_wait (x:=oneE 2) S2.out E2.out (check_one (by decide) (by decide)) one_lens (λes he=>(known_ones (n:=0) he (by decide)).trans (by decide)) (can_nil (by decide) (by decide)) (by decide)) ?_);rintro e_ w3 ⟨rfl,hS,hO⟩;have S3:=Aside0.mk hS;clear hS hO))
 clear S2 E2 S1
 go_upto_region 4 with (first|(go_at_call 23;(with_reducible refine Calls.mono (one_ev (s:=1) (by decide) (by decide) w3) ?_);rintro e_ w4 ⟨Ap1,cp1,Ae1,ce1,rfl,hE,hb⟩;have E4:=Aside0.mk (hE.mono (ok':=λk=>¬ X k) (λk hk e=>hk (S3.out.xs k e)));have S4:=Aside0.mk (S3.out.on hb);clear hE hb)|(go_at_call 22;(with_reducible refine Calls.mono (awake_told S4.out E4.out) ?_);rintro e_ w5 ⟨v5,rfl,hN,hS,hO⟩;have S5:=Aside0.mk hS;have N5:=Aside0.mk hN;obtain ⟨A5,c5,e5⟩:=Kd.N_slice hN;subst e5;clear hN hS hO))
 obtain ⟨b,hb,y1⟩:=first_seq N5.out
 subst hb
 go_wp2
 go_ret
 exact ⟨rfl,S5.out.below⟩
end
end Go.Proofs.Ytfhamdobagjakaa.Cau
