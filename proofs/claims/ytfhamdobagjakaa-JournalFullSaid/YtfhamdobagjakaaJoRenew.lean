/- a part -/
import Derived.Test.YtfhamdobagjakaaJoHere
import Derived.Test.YtfhamdobagjakaaPJox1
namespace Go.Proofs.Ytfhamdobagjakaa.Dsk
open Go.RowKit Go.Proofs.YtfhamdobagjakaaW.PrintWords Go.Proofs.YtfhamdobagjakaaW.PrintLast Go.Proofs.YtfhamdobagjakaaW.PrintMore Go.Proofs.Ytfhamdobagjakaa.Hand Go.Proofs.Ytfhamdobagjakaa.Cards Go.Proofs.Ytfhamdobagjakaa.PJo
set_option linter.unusedVariables false
set_option linter.unusedSimpArgs false
section
variable {w0 W W1 : World} {g gj b2 : Nat} {D D0 D1 : Nat -> Prop} {d d1 : Dk} {s t : Int}
def pk (e a b:Int):Int:=if e=0 then a else b
theorem pk_ok {e a b:Int} (h:e=0):pk e a b=a:=if_pos h
theorem pk_no {e a b:Int} (h:¬ e=0):pk e a b=b:=if_neg h
structure Rn (w0 W0 W:World) (g gj b2:Nat) (D0 D:Nat->Prop) (d:Dk) (s t:Int):Prop where
 jo:Jo w0 W g gj D d s t false
 st:Step W0 W (JD D0 gj) (JD D gj)
 bx:W.heap[b2]? = some (BoxJ gj)
 nb:¬ JD D gj b2
variable {W0 : World}
theorem Rn.on (h:Rn w0 W0 W g gj b2 D0 D d s t) (hb:Below W.heap.size W W1):Rn w0 W0 W1 g gj b2 D0 D d s t:=⟨h.jo.on hb,h.st.trans (Step.of_below hb),blk_below h.bx hb,h.nb⟩
theorem Rn.did (h:Rn w0 W0 W g gj b2 D0 D d s t) (ha:At w0 W1 g D1 d1) (hs:Step W W1 D D1):Rn w0 W0 W1 g gj b2 D0 D1 d1 s t:=by
 have h1:=h.jo.did ha hs
 have h2:=h1.2.blk h.bx h.nb
 exact ⟨h1.1,h.st.trans h1.2,h2.1,h2.2⟩
theorem Rn.cb (h:Rn w0 W0 W g gj b2 D0 D d s t):W.cell? ⟨b2,0,none⟩=some (.pointer (some ⟨gj,0,none⟩)):=(blk_cell h.bx 0).trans rfl
set_option maxHeartbeats 4000000 in
set_option maxRecDepth 100000 in
theorem clear_live (h:At w0 W g D d) (hv:d.Live) {o:Int} (ho:o=0\/o=1):Calls Try.prog 69 #[.pointer (some ⟨g,0,none⟩),.int .i64 o] W λe w'=>e = .returned (.int .i64 0)/\∃ D',At w0 w' g D' (d.put o [] 0)/\Step W w' D D':=by
 obtain ⟨v0,v1,h⟩:=h
 have q:=clear_calls h o
 rw [hv.clr ho] at q
 exact q
theorem append_any (h:At w0 W g D d) (hg:d.Good) (i:Int) {A:Option Addr} {m c:Nat} {b:List Int} (hm:m=b.length) (hA:Kd.F U8 W (λk=>¬ D k) A m b) (hmax:m<=140737488355328) {p:Dk×Int} (hp:d.app i b=p) :
  Calls Try.prog 63 #[.pointer (some ⟨g,0,none⟩),.int .i64 i,.slice A m c] W λe w'=>e = .returned (.int .i64 p.2)/\∃ D',At w0 w' g D' p.1/\Step W w' D D':=by
 obtain ⟨v0,v1,h⟩:=h
 have q:=append_calls h i A m c b hm hA hmax hg
 rw [hp] at q
 exact q
theorem sync_live (h:At w0 W g D d) (hv:d.Live) {o:Int} (ho:o=0\/o=1):Calls Try.prog 64 #[.pointer (some ⟨g,0,none⟩),.int .i64 o] W λe w'=>e = .returned (.int .i64 0)/\∃ D',At w0 w' g D' (d.syn o).1/\Step W w' D D':=by
 obtain ⟨v0,v1,h⟩:=h
 have q:=sync_calls h o
 rw [show(d.syn o).2=0 by rw [hv.syn ho]] at q
 exact q
theorem Dk.Live.apped {d:Dk} (h:d.Live) {i:Int} (hi:i=0\/i=1) (b:List Int):(d.app i b).1.Live:=by
 rw [h.app hi]
 split
 ·exact h
 ·exact h.put _ _ _
set_option maxHeartbeats 16000000 in
set_option maxRecDepth 100000 in
theorem renew_calls (h:Jo w0 W g gj D d s t false) (hg:d.Good) (hv:d.Live) {o:Int} (hs:wrap64 (1 - s)=o) (ho:o=0\/o=1) (ht:t≠1099511627776) {t':Int} (ht':IntKind.u64.wrap (t+1)=t')
  {A:Option Addr} {c kp kn kr:Nat} {l:List S92} {b nb hd ft:List Int} {e1 e2:Int} (hA:Kd.F k92 W (λk=>¬ JD D gj k) A l.length l) (hc:l.length<=c) (hput:journal_put.f kp l=some (b,0))
  (hN:wire_Num.f kn t'=some nb) (h1:wire_Record.f kr 1 nb=some (hd,e1)) (h2:wire_Record.f kr 2 []=some (ft,e2)) (hlen:hd.length+b.length+ft.length<=1000000000) {q:Dk×Int} (hq:d.renew o (hd++b++ft)=q) :
  Calls Try.prog 28 #[.pointer (some ⟨gj,0,none⟩),.slice A l.length c] W λe w'=>e = .returned (.int .i64 q.2) /\
   ∃ D',Jo w0 w' g gj D' q.1 (pk q.2 o s) (pk q.2 t' t) false/\Step W w' (JD D gj) (JD D' gj):=by
 have R:=Aside0.mk (show Rn w0 W (W.alloc (.cells #[.pointer (some ⟨gj,0,none⟩)] 29)) g gj W.heap.size D D d s t from
  ⟨h.on (below_alloc (Below.refl _ _) _),Step.of_below (below_alloc (Below.refl _ _) _),heap_alloc_new W _,λe=>by have:=h.lt _ e;omega⟩)
 have HA:=Aside0.mk hA
 have HG:=Aside0.mk hg
 have HV:=Aside0.mk hv
 have HP:=Aside0.mk hput
 have HN:=Aside0.mk hN
 have H1:=Aside0.mk h1
 have H2:=Aside0.mk h2
 have HC:=Aside0.mk hc
 have HO:=Aside0.mk ho
 have HL:=Aside0.mk hlen
 have HT:=Aside0.mk ht'
 have HS:=Aside0.mk hs
 have HQ:=Aside0.mk hq
 have ht2:(t == 1099511627776)=false:=by simp [ht]
 have hmf:∀ (fn:Fn) (first cap:Array Value) (w:World),(Instr.makeFunc fn first cap).run Try.prog w = .ok (.func fn first cap) w:=λ_ _ _ _=>rfl
 clear h hA hg hv hput hN h1 h2 hc ho hlen ht' hs hq
 go_enter_defers Try.func28,Try.ntmps28
 go_upto_region 1 with (fail)
 obtain ⟨b2,hb2⟩:∃ b2,b2=W.heap.size:=⟨_,rfl⟩
 rw [<-hb2] at R ⊢
 clear hb2
 generalize W.alloc (.cells #[.pointer (some ⟨gj,0,none⟩)] 29)=w1 at R ⊢
 have cb:=R.out.cb
 go_upto_region 6 with (first|(go_at_call 14;(with_reducible refine Calls.mono (broken_on R.out.jo.blk) ?_);rintro e w2 ⟨rfl,hb⟩;have q_:=R.out.on hb;clear R hb cb;have R:=Aside0.mk q_;clear q_)|(go_at_call 62;refine(journal_put.calls kp A c l b 0 w2 (Kd.F_now (R.out.st.foot HA.out)) HC.out HP.out).mono ?_;rintro e w3 ⟨vb,rfl,hR,hb⟩;have q_:=R.out.on hb;clear R hb;have R:=Aside0.mk q_;clear q_;have B:=Aside0.mk hR;clear hR))
 have cb:=R.out.cb
 have c2:=R.out.jo.c2
 go_upto_region 9 with (first|(go_at_call 66;rw [HT.out];(with_reducible refine Calls.mono (wire_Num.calls kn t' nb w3 HN.out) ?_);rintro e w4 ⟨vn,rfl,hR,hb⟩;have q_:=R.out.on hb;clear R cb c2;have R:=Aside0.mk q_;clear q_;have q_:=Kd.R_below B.out hb;clear B hb;have B:=Aside0.mk q_;clear q_;obtain ⟨An,cn,en⟩:=Kd.R_slice hR;subst en;have NR:=Aside0.mk (Kd.R_reads' hR).2;clear hR)|(go_at_call 65;(with_reducible refine Calls.mono (wire_Record.calls kr 1 An cn nb hd e1 w4 NR.out.2 NR.out.1 H1.out) ?_);rintro e w5 ⟨vh,rfl,hR,hb⟩;have BW:=Aside0.mk hb;have HD:=Aside0.mk hR;have q_:=Kd.R_below B.out hb;clear B hb hR;have B:=Aside0.mk q_;clear q_ NR))
 go_upto_region 10 with (first|(go_at_call 65;(with_reducible refine Calls.mono (wire_Record.calls kr 2 none 0 [] ft e2 w5 (Kd.C_nil _ _) (Nat.le_refl _) H2.out) ?_);rintro e w6 ⟨vf,rfl,hR,hb⟩;have FT:=Aside0.mk hR;have HLT:=Aside0.mk (Kd.R_lt HD.out);have q_:=Kd.R_below B.out hb;clear B;have B:=Aside0.mk q_;clear q_;have q_:=Kd.R_below HD.out hb;clear HD;have HD:=Aside0.mk q_;clear q_;have q_:=below_step BW.out hb;clear BW;have BW:=Aside0.mk q_;clear q_ hb hR))
 obtain ⟨Ab,cB,eb⟩:=Kd.R_slice B.out
 subst eb
 have LB:=Aside0.mk (show(hd.length+b.length)*1<=140737488355328 by have:=HL.out;omega)
 have LF:=Aside0.mk (show((hd++b).length+ft.length)*1<=140737488355328 by rw [List.length_append];have:=HL.out;omega)
 go_upto_region 11 with (first|((with_reducible refine gate_builtin (b:=.append) (xs:=#[.tmp 45,.tmp 46]) rfl ?_);at_builtin;refine Kd.R_append_rows U8 (w0:=w4) w4.heap.size rfl (.tmp 45) (.tmp 46) 38 5 (.int .u8 0) 1 rfl Try.underlying38 info5 rfl (by decide) (by omega) _ hd b _ _ _ _ (λ_=>False) rfl rfl HD.out (Kd.R_reads' B.out).2.2 (λ_ _ h=>h) (λ_ h=>h.elim) (λ_ _=>trivial) BW.out (below_size BW.out) LB.out ?_;intro v7 w7 ho hb hgr hat;have q_:=Kd.R_grown2 FT.out rfl hgr (λk h1_ h2_=>by have:=HLT.out k h1_;have:=Kd.R_base FT.out k h2_.symm;omega);clear FT B HD;have FT:=Aside0.mk q_;clear q_;have HD:=Aside0.mk ho;clear BW;have BW:=Aside0.mk hb;clear ho hb hgr hat;obtain ⟨Af,cF,ef⟩:=Kd.R_slice FT.out;subst ef)|((with_reducible refine gate_builtin (b:=.append) (xs:=#[.tmp 47,.tmp 48]) rfl ?_);at_builtin;refine Kd.R_append_rows U8 (w0:=w4) w4.heap.size rfl (.tmp 47) (.tmp 48) 38 5 (.int .u8 0) 1 rfl Try.underlying38 info5 rfl (by decide) (by omega) _ (hd++b) ft _ _ _ _ (λ_=>False) rfl rfl HD.out (Kd.R_reads' FT.out).2.2 (λ_ _ h=>h) (λ_ h=>h.elim) (λ_ _=>trivial) BW.out (below_size BW.out) LF.out ?_;intro v8 w8 ho hb hgr hat;clear FT HD;have HD:=Aside0.mk ho;clear BW;have BW:=Aside0.mk hb;clear ho hb hgr hat))
 obtain ⟨al,hal⟩:∃ al,al=hd++b++ft:=⟨_,rfl⟩
 rw [<-hal] at HD
 have HAL:=Aside0.mk hal
 have AL:=Aside0.mk (show al.length<=140737488355328 by rw [hal,List.length_append,List.length_append];have:=HL.out;omega)
 obtain ⟨Aa,cA,ea⟩:=Kd.R_slice HD.out
 subst ea
 have AF:=Aside0.mk (F_fresh (W:=w4) (v:=undef) (D:=D) HD.out (λk hk=>R.out.jo.dk.lt k hk)).2.2
 have q_:=R.out.on BW.out
 clear R
 have R:=Aside0.mk q_
 clear q_ hal HD BW
 have cb:=R.out.cb
 have c1:=R.out.jo.c1
 go_upto_region 13 with (fail)
 rw [HS.out]
 clear c1
 have c0:=R.out.jo.c0
 go_upto_region 16 with (first|(go_at_call 69;(with_reducible refine Calls.mono (clear_live R.out.jo.dk HV.out HO.out) ?_);rintro e w9 ⟨rfl,D9,ha,hs9⟩;have q_:=R.out.did ha hs9;have qf_:=hs9.foot AF.out;clear R cb c0 ha hs9 AF;have R:=Aside0.mk q_;have AF:=Aside0.mk qf_;clear q_ qf_))
 have cb:=R.out.cb
 have c0:=R.out.jo.c0
 obtain ⟨p,hp⟩:∃ p,p=(d.put o [] 0).app o al:=⟨_,rfl⟩
 have hr:d.renew o al=if p.2=0 then p.1.syn o else p:=by rw [hp];rfl
 have HR:=Aside0.mk hr
 have VP:=Aside0.mk (show p.1.Live by rw [hp];exact(HV.out.put o [] 0).apped HO.out al)
 have GP:=Aside0.mk (HG.out.clear HV.out HO.out)
 have HP2:=Aside0.mk hp.symm
 clear hp hr
 go_upto_region 17 with (first|(go_at_call 63;(with_reducible refine Calls.mono (append_any R.out.jo.dk GP.out o rfl AF.out AL.out HP2.out) ?_);rintro e w10 ⟨rfl,D10,ha,hs10⟩;have q_:=R.out.did ha hs10;clear R cb c0 ha hs10 AF;have R:=Aside0.mk q_;clear q_))
 by_cases z:p.2=0
 case neg =>
  have z1:(p.2 != 0)=true:=by simp [z]
  have Z:=Aside0.mk z
  clear z
  go_wp2
  refine leaves_cons (f:=67) (args:=#[.pointer (some ⟨b2,0,none⟩)]) (by simp) (by simp [go_sem]) ?_
  refine(renew1_calls R.out.jo R.out.bx .returning).mono ?_
  rintro e u' w11 ⟨rfl,rfl,hj,hs⟩
  refine ⟨_,results_tmp rfl _ _ _,?_⟩
  have hq_:q=p:=by rw [<-HQ.out,<-HAL.out,HR.out,if_neg Z.out]
  rw [hq_,pk_no Z.out,pk_no Z.out]
  rw [VP.out.1] at hj
  exact ⟨rfl,D10,hj,R.out.st.trans hs⟩
 have z1:(p.2 != 0)=false:=by simp [z]
 have Z:=Aside0.mk z
 clear z
 go_upto_region 19 with (fail)
 have cb:=R.out.cb
 have c0:=R.out.jo.c0
 have SY:=Aside0.mk (show(p.1.syn o).2=0 by rw [VP.out.syn HO.out])
 have VQ:=Aside0.mk (show(p.1.syn o).1.Live by rw [VP.out.syn HO.out];exact VP.out.put _ _ _)
 go_upto_region 22 with (first|(go_at_call 64;(with_reducible refine Calls.mono (sync_live R.out.jo.dk VP.out HO.out) ?_);rintro e w11 ⟨rfl,D11,ha,hs11⟩;have q_:=R.out.did ha hs11;clear R cb c0 ha hs11;have R:=Aside0.mk q_;clear q_))
 have cb:=R.out.cb
 have f1:=R.out.jo.fz 1
 have f2:=R.out.jo.fz 2
 have c1:=R.out.jo.c1
 have c2:=R.out.jo.c2
 have ne:b2≠gj:=λe=>R.out.nb (.inr e)
 have ne':gj≠b2:=λe=>ne e.symm
 go_region
 rw [HT.out]
 have j1:=R.out.jo.set (s1:=o) (t1:=t) (br1:=false) 1 (.int .i64 o) rfl
 have j2:=j1.1.set (s1:=o) (t1:=t') (br1:=false) 2 (.int .u64 t') rfl
 have x2:=j2.2.blk (j1.2.blk R.out.bx R.out.nb).1 (j1.2.blk R.out.bx R.out.nb).2
 have R2:=Aside0.mk (show Rn w0 W (((w11.setCell ⟨gj,1,none⟩ (.int .i64 o)).setCell ⟨gj,2,none⟩ (.int .u64 t')).drew) g gj b2 D D11 (p.1.syn o).1 o t' from
  Rn.on ⟨j2.1,(R.out.st.trans j1.2).trans j2.2,x2.1,x2.2⟩ (below_drew (Below.refl _ _)))
 clear R cb f1 f2 c1 c2 ne ne' j1 j2 x2
 generalize (((w11.setCell ⟨gj,1,none⟩ (.int .i64 o)).setCell ⟨gj,2,none⟩ (.int .u64 t')).drew)=w12 at R2 ⊢
 go_wp2
 refine leaves_cons (f:=67) (args:=#[.pointer (some ⟨b2,0,none⟩)]) (by simp) (by simp [go_sem]) ?_
 refine(renew1_calls R2.out.jo R2.out.bx .returning).mono ?_
 rintro e u' w13 ⟨rfl,rfl,hj,hs⟩
 refine ⟨_,results_tmp rfl _ _ _,?_⟩
 have hq_:q=p.1.syn o:=by rw [<-HQ.out,<-HAL.out,HR.out,if_pos Z.out]
 rw [hq_,pk_ok SY.out,pk_ok SY.out,SY.out]
 rw [VQ.out.1] at hj
 exact ⟨rfl,D11,hj,R2.out.st.trans hs⟩
end
end Go.Proofs.Ytfhamdobagjakaa.Dsk
