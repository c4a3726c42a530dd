/- GossipCloses: for every input the law returns true. -/
import Derived.Test.YtgocnchjpecafaaGoCl
import Derived.Test.YtgocnchjpecafaaPEvx40
import Derived.Test.YtgocnchjpecafaaRows
import Derived.Test.YtgocnchjpecafaaEvOpens
import Derived.ProofKit
import Derived.OpenShut
import Derived.ShutString
import Derived.ChangeOld
namespace Go.Proofs.Ytgocnchjpecafaa.Pure
open Go.RowKit Go.Proofs.Ytgocnchjpecafaa.PEv Go.Proofs.YtgocnchjpecafaaW.PrintWords Go.Proofs.YtgocnchjpecafaaW.PrintLast Go.Proofs.Ytgocnchjpecafaa.ClockBase Go.Proofs.Ytgocnchjpecafaa.Wr Go.Sort Go.Proofs.Ytgocnchjpecafaa.Srt
set_option linter.unusedVariables false
set_option linter.unusedSimpArgs false
theorem lkS_in {c:List Int} {most:Int} {P:S30->Prop}:∀ (l acc:List S30),(∀ z ∈ l,P z)->(∀ z ∈ acc,P z)->∀ z ∈ lkS c most l acc,P z
 | [],acc,_,ha=>ha
 | x :: l,acc,hl,ha=>by
  have hl':∀ z ∈ l,P z:=λz hz=>hl z (List.mem_cons_of_mem _ hz)
  unfold lkS
  split
  ·exact ha
  ·split
   ·refine lkS_in l _ hl' λz hz=>?_
    rcases List.mem_append.mp hz with hz|hz
    ·exact ha z hz
    ·rw [List.mem_singleton.mp hz];exact hl x List.mem_cons_self
   ·exact lkS_in l _ hl' ha
theorem closes_len {l part:List S30} (hw:WholeP l) (h:Inv l part) (most:Nat):(part++lkS (seenOf part) (most:Int) (ordL event_Order.lt l) []).length<=l.length:=by
 have hc:=(closes hw h most).1.nd
 have:=lenle ((part++lkS (seenOf part) (most:Int) (ordL event_Order.lt l) []).map dotOf) (l.map dotOf) hc (λd hd=>by
  obtain ⟨x,hx,rfl⟩:=List.mem_map.mp hd
  refine List.mem_map.mpr ⟨x,?_,rfl⟩
  rcases List.mem_append.mp hx with hx|hx
  ·exact h.sub x hx
  ·exact lkS_in (P:=λz=>z ∈ l) _ _ (λz hz=>(ordL_perm l).mem_iff.mp hz) (λz hz=>by cases hz) x hx)
 rwa [List.length_map,List.length_map] at this
theorem closes_l0 (l part:List S30) (hl:l.length<2199023255552) (hf:Fits l) (hw:WholeP l) (h:Inv l part) (hpl:part.length<=l.length) (most:Nat) (hm:most<=255) (d:Nat) :
  ∀ i:Nat,i+d=part.length->Ev (λk=>w28_GossipCloses.l0 k l (most:Int) (part.length:Int) part (seenOf (part.take i)) (i:Int)) true:=by
 induction d with
 | zero =>
  intro i hi
  rw [List.take_of_length_le (by omega)]
  refine Ev.step (λk=>by simp only [w28_GossipCloses.l0];rfl) ?_
  refine ck_else (by omega) ?_
  have ew:wrap64 (most:Int)=(most:Int):=by unfold wrap64;omega
  rw [ew]
  refine Ev.bind (goLacks_ev l hl (seenOf part) (most:Int)) ?_
  have hlen:=closes_len hw h most
  obtain ⟨hc,hor⟩:=closes hw h most
  generalize lkS (seenOf part) (most:Int) (ordL event_Order.lt l) []=L at hlen hc hor
  have hlen2:=hlen
  rw [List.length_append] at hlen2
  refine Ev.bind (Ev.now _) ?_
  refine ck_if (by rw [List.length_nil];omega) ?_
  refine Ev.bind (Ev.now _) ?_
  rw [List.nil_append]
  refine ck_if (by omega) ?_
  refine Ev.bind (Ev.now _) ?_
  obtain ⟨b,hb,hp⟩:=closed_ev (part++L) (λx hx=>OkE_len (hc.ok x hx)) (by omega)
  obtain rfl:=hp.mpr hc
  refine Ev.bind hb (ck_if rfl ?_)
  by_cases e:((part++L).length:Int)=(l.length:Int)
  ·exact ck_if e (Ev.bind awake28_ev (Ev.now _))
  ·refine ck_else e (ck_if ?_ (Ev.bind awake28_ev (Ev.now _)))
   rcases hor with h|h
   ·exact absurd (congrArg Nat.cast h) e
   ·rw [h]
 | succ d ih =>
  intro i hi
  have hlt:i<part.length:=by omega
  have hsl:=seenOf_le (part.take i)
  refine Ev.step (f:=λk=>(r03_Set.f k (seenOf (part.take i)) (part[i]).f0.f0 (part[i]).f0.f1).bind λt=>w28_GossipCloses.l0 k l (most:Int) (part.length:Int) part t ((i+1:Nat):Int)) (λk=>?_) ?_
  ·simp only [w28_GossipCloses.l0]
   rw [if_pos (by omega),if_pos (by omega),if_pos (by omega),rd30_at hlt,ck_w (by omega)]
  ·refine Ev.bind (set_ev _ _ _ (by omega) (setOk_of (hw.ok _ (h.sub _ (List.getElem_mem hlt))))) ?_
   have:=ih (i+1) (by omega)
   rw [show part.take (i+1)=part.take i++[part[i]] by rw [List.take_add_one,List.getElem?_eq_getElem hlt];rfl,seenOf_snoc] at this
   exact this
theorem closes_j (l:List S30) (hl:l.length<2199023255552) (hf:Fits l) (a most:Nat) (hm:most<=255) (ha:a<=255) (b:Bool) (hw:b=false->WholeP l):Ev (λk=>w28_GossipCloses.j0 k l (a:Int) (most:Int) b) true:=by
 refine Ev.step (λk=>by simp only [w28_GossipCloses.j0];rfl) ?_
 cases b with
 | true=>exact ck_if rfl (Ev.bind awake28_ev (Ev.now _))
 | false =>
  have hw:=hw rfl
  refine ck_else (by decide) ?_
  obtain ⟨o,ho,hol,hi⟩:=turned_ev l hf hl hw
  refine Ev.bind ho ?_
  have e1:wrap64 (a:Int)=(a:Int):=by unfold wrap64;omega
  have e2:wrap64 ((l.length:Int)+1)=((l.length+1:Nat):Int):=ck_w (by omega)
  have e3:Int.tmod (a:Int) ((l.length+1:Nat):Int)=((a % (l.length+1):Nat):Int):=rfl
  rw [e1,e2,e3]
  have hlt:=Nat.mod_lt a (show l.length+1 > 0 by omega)
  generalize a % (l.length+1)=m at hlt
  refine ck_else (by omega) ?_
  refine ck_else (by omega) ?_
  refine ck_if (by omega) ?_
  refine ck_if (by omega) ?_
  rw [Int.toNat_natCast]
  have hpl:(o.take m).length=m:=by rw [List.length_take];omega
  have:=closes_l0 l (o.take m) hl hf hw (hi m) (by omega) most hm (o.take m).length 0 (by omega)
  rw [hpl] at this
  exact this
theorem GossipCloses (l:List S30) (hz:l.length*64<=140737488351232) (hf:Fits l) (a1:Int) (h1:(Lit.int .u8 a1).wf=true) (a2:Int) (h2:(Lit.int .u8 a2).wf=true):∃ k,w28_GossipCloses.f k l a1 a2=some true:=by
 have hl:l.length<2199023255552:=by omega
 have b1:=bounds_u8 h1
 have b2:=bounds_u8 h2
 obtain ⟨a,rfl⟩:∃ a:Nat,a1=(a:Int):=⟨a1.toNat,by omega⟩
 obtain ⟨most,rfl⟩:∃ a:Nat,a2=(a:Int):=⟨a2.toNat,by omega⟩
 have ha:a<=255:=by omega
 have hm:most<=255:=by omega
 refine Ev.rounds (g:=λk=>w28_GossipCloses.f k l (a:Int) (most:Int)) ?_
 unfold w28_GossipCloses.f
 obtain ⟨b,hb⟩:=light_ev l (by omega) (λi hi=>by rw [rd30_at hi];exact(hf _ (List.getElem_mem hi)).2)
 refine Ev.bind hb ?_
 cases b with
 | false=>exact ck_else (by decide) (closes_j l hl hf a most hm ha true (λh=>by cases h))
 | true =>
  refine ck_if rfl ?_
  obtain ⟨b,hb,hp⟩:=wholeE_ev l hf (by omega)
  refine Ev.bind hb ?_
  refine closes_j l hl hf a most hm ha (!b) (λh=>hp.mp ?_)
  cases b with
  | true=>rfl
  | false=>cases h
end Go.Proofs.Ytgocnchjpecafaa.Pure
namespace Go.Proofs.Ytgocnchjpecafaa.gossipCloses
open Go.ChangeShapes Go.WideShapes Go.ChangeAt Go.RowKit Go.Proofs.YtgocnchjpecafaaW.PrintWords Go.Proofs.Ytgocnchjpecafaa.Open Go.Proofs.Ytgocnchjpecafaa.PEv
set_option linter.unusedVariables false
theorem own:ownKnob Try.prog.godebug=none:=by kernel_rfl
theorem laidOut:laidOutB Try.prog=true:=by kernel_rfl
set_option maxRecDepth 100000 in
theorem lifted (os:Os) (started:os.Started) (H:Type) (enc:TypeId×Value->H) :
  ReturnsInHanded {} Try.checked os 8 .any (Rows.gossipClosesSpec.pre6 enc Try.prog Try.f8 Rows.gossipClosesRow.domain false) (Rows.gossipClosesSpec.post enc Try.prog Try.f8 false true false false):=by
 refine returnsInHanded_of_change_sized (C:=Try.checked) own started (by kernel_rfl) Try.func8
  (ChangeSpec.witness6 (enc:=enc) (C:=Try.checked) false ⟨#[],#[.slice none 0 0,.int .u8 0,.int .u8 0],[]⟩ 8 (by kernel_rfl) (by kernel_rfl) (by kernel_rfl) (by kernel_rfl)) ?_
 intro W base args ds gs before hval0 hW hcnd hsz0 _
 have hval:∀ (j:Nat) t v,Try.f8.params[j]? = some t->args[j]? = some v->Value.okWide Try.prog W .any base t v:=hval0
 have hW':=hW
 obtain ⟨p,q,hA0,hV,rfl,hfz,hnd⟩:=hW
 have hA:DataW.TrodAll enc Try.prog W 0 (λ_=>true) true Try.f8.params.toList args.toList ds p:=hA0
 have hsz:(DataW.weightsEach Try.prog (Try.f8.params.toList++Rows.gossipClosesSpec.plain.varTypes Try.prog) (ds++gs)).all (·<=reachBytes)=true:=hsz0
 rw [Try.params8] at hA hval hsz
 obtain ⟨v0,vs0,d0,ds0,p0,q0,hargs,rfl,rfl,h0,r0⟩:=trodAll_cons hA
 obtain ⟨v1,vs1,d1,ds1,p1,q1,rfl,rfl,rfl,h1,r1⟩:=trodAll_cons r0
 obtain ⟨v2,vs2,d2,ds2,p2,q2,rfl,rfl,rfl,h2,r2⟩:=trodAll_cons r1
 obtain ⟨rfl,rfl,rfl⟩:=trodAll_nil r2
 obtain rfl:args=#[v0,v1,v2]:=by cases args;simp_all
 obtain ⟨rfl,rfl⟩:=trodVars_none hV
 obtain ⟨A0,len0,c0,rfl⟩:=okWide_slice Try.underlying38 (hval 0 38 v0 rfl rfl)
 have k0:=h0
 have lt0:∀ x ∈ p0,x.block<W.heap.size:=by obtain ⟨m,hm⟩:=k0;exact DataW.trod_lt m _ _ _ hm
 obtain ⟨l0,rfl,hl0,hr0,hg0⟩:=opens_row (opens_slice (d:=k30) (q:=0) Try.underlying38 (by kernel_rfl) (B:=64) (by kernel_rfl) o30) h0 (λn hn=>by simpa using List.all_eq_true.1 hsz _ (DataW.weights_mem_each (j:=0) (t:=38) rfl rfl n hn))
 obtain ⟨a1,rfl,rfl,rfl,w1⟩:=open_int Try.underlying5 (hval 1 5 v1 rfl rfl) h1
 obtain ⟨a2,rfl,rfl,rfl,w2⟩:=open_int Try.underlying5 (hval 2 5 v2 rfl rfl) h2
 clear hA0 hval0 hsz0 hsz
 obtain ⟨k,hk⟩:=Pure.GossipCloses l0 hg0.1 hg0.2 a1 w1 a2 w2
 refine(PEv.w28_GossipCloses.calls k A0 c0 l0 a1 a2 true W hr0 hl0 hk rfl).mono λe W' ⟨he,bel⟩=>?_
 subst he
 exact ⟨_,rfl,_,_,_,[],_,[],hW',trodAll_mk1 (shut_bool Try.underlying4 _),(trodAll_cons_mk (Below.trod laidOut (by kernel_rfl) (of_decide_eq_true (by kernel_rfl)) k0 bel lt0) (trodAll_cons_mk (shut_int Try.underlying5 w1) (trodAll_cons_mk (shut_int Try.underlying5 w2) trodAll_mk0))),rfl,bel.frame _,λh=>by cases h⟩
theorem over:Rows.gossipClosesRow.holds Try.pinned (OpenSpec.ofChange Rows.gossipClosesSpec) :=
 OpenClaim.holds_of_wide 8 Try.f8 rfl rfl rfl rfl rfl rfl rfl ⟨rfl,rfl,rfl,rfl,rfl⟩ rfl rfl rfl rfl rfl (by kernel_rfl) Try.func8 (by kernel_rfl)
  (of_decide_eq_true (by kernel_rfl)) (by unfold Func.isWrapper;first|(rw [if_pos (by decide +kernel)];kernel_rfl)|(rw [if_neg (by decide +kernel)];exact ⟨rfl,rfl⟩))
  (λos started H enc _=>lifted os started H enc)
theorem proved:Rows.GossipClosesSaid:=over
end Go.Proofs.Ytgocnchjpecafaa.gossipCloses
namespace Go.Proofs.Ytgocnchjpecafaa
theorem gossipCloses_holds:Rows.GossipClosesSaid:=gossipCloses.proved
end Go.Proofs.Ytgocnchjpecafaa
