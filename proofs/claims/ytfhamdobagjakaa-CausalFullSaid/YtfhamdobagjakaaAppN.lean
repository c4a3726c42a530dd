/- a part -/
import Derived.Test.YtfhamdobagjakaaHand
import Derived.Lib.SliceRun
namespace Go.Proofs.Ytfhamdobagjakaa.Hand
open Go.RowKit Go.Proofs.YtfhamdobagjakaaW.PrintWords Go.Proofs.YtfhamdobagjakaaW.PrintLast Go.Proofs.YtfhamdobagjakaaW.PrintMore Go.Proofs.Ytfhamdobagjakaa.Cards
set_option linter.unusedVariables false
set_option linter.unusedSimpArgs false
section
variable {α : Type} {d : Kd α} {e base m c : Nat} {ok okp : Nat -> Prop} {W w1 : World} {v : Value} {xs ys : List α} {A : Option Addr} {P : Program}
theorem F_reads (h:Kd.F d W okp A m ys) (hA:∀ ad,A=some ad->0<m->okp ad.block):ReadsRow (λx cs=>Kd.FK d W okp x cs) d.sz W A m ys:=by
 have h0:=Kd.F_now h
 refine ⟨h0.1,h0.2.1,λhp=>?_⟩
 obtain ⟨ad,ea,hc⟩:=h0.2.2 hp
 refine ⟨ad,ea,λj p hj=>?_⟩
 obtain ⟨cs,hl,hK,hcell⟩:=hc j p hj
 refine ⟨cs,hl,λW' hW=>?_,hcell⟩
 obtain ⟨ad',ea',hc'⟩:=(h W' hW).2.2 hp
 rw [ea] at ea'
 injection ea' with ea'
 subst ea'
 obtain ⟨cs',hl',hK',hcell'⟩:=hc' j p hj
 have e:cs'=cs:=by
  refine List.ext_getElem? λi=>?_
  by_cases hi:i<d.sz
  ·have g1:cs[i]? = some cs[i]:=List.getElem?_eq_getElem (by omega)
   have g2:cs'[i]? = some cs'[i]:=List.getElem?_eq_getElem (by omega)
   have c1:=hcell i _ g1
   have c2:=hcell' i _ g2
   have hb:(ad.add (j*d.sz+i)).block=ad.block:=add_block _ _
   have hlt:ad.block<W.heap.size:=by have h_:=World.block_lt_of_cell? W _ c1;rwa [hb] at h_
   have ec:W'.cell? (ad.add (j*d.sz+i))=W.cell? (ad.add (j*d.sz+i)):=World.cell?_of_block (by rw [hb];exact hW ad.block (hA ad ea hp) hlt)
   rw [ec,c1] at c2
   rw [g1,g2,c2]
  ·rw [List.getElem?_eq_none (by omega),List.getElem?_eq_none (by omega)]
 rw [<-e]
 exact hK'
theorem reps_one {R:α->List Value->Prop} {sz:Nat} {news:List Value} (hs0:0<sz) (h:Reps R sz ys news) (h1:∀ x cs,R x cs->∀ u ∈ cs,u.oneCell'=true):∀ u ∈ news,u.oneCell'=true:=by
 intro u hu
 obtain ⟨q,hq,rfl⟩:=List.mem_iff_getElem.1 hu
 have hql:q / sz<ys.length:=by
  rw [Nat.div_lt_iff_lt_mul hs0,<-h.1]
  exact hq
 have hc:=h.2 (q / sz) _ (List.getElem?_eq_getElem hql)
 refine h1 _ _ hc _ ?_
 rw [List.mem_iff_getElem?]
 refine ⟨q % sz,?_⟩
 rw [List.getElem?_take,if_pos (Nat.mod_lt _ hs0),List.getElem?_drop,Nat.mul_comm,Nat.div_add_mod,List.getElem?_eq_getElem hq]
theorem N_append_run {t ty:TypeId} {z:Value} {bytes:Nat} (ht:P.underlying t=some (.slice e)) (hinfo:(P.info? e).map (λi=>(i.zero,i.size,i.bytes))=some (some z,d.sz,bytes)) (hz:z.cells.size=d.sz) (hs0:0<d.sz) (hb0:0<bytes)
  (HO:Kd.N d e W base ok v xs) (HF:Kd.F d W okp A m ys) (hA:∀ ad,A=some ad->0<m->okp ad.block) (hokp:∀ k,okp k->ok k/\some k≠v.ownBlock) (hfresh:∀ k,W.heap.size<=k->ok k) (hbase:base<=W.heap.size) (hl:(xs.length+m)*bytes<=140737488355328) :
  ∃ v1 w1,(Builtin.append_ #[t,t] ty #[v,.slice A m c]).run P W = .ok v1 w1/\Kd.N d e w1 base ok v1 (xs++ys)/\W.grownBy w1 v.ownBlock/\(v1.ownBlock=v.ownBlock\/∃ b,v1.ownBlock=some b/\W.heap.size<=b):=by
 obtain ⟨i0,hi,hzz⟩:=Option.map_eq_some_iff.1 hinfo
 simp only [Prod.mk.injEq] at hzz
 obtain ⟨hz0,hz1,hz2⟩:=hzz
 have hm:ys.length=m:=(Kd.F_now HF).1
 have hlen:xs.length+m<=140737488355328:=Nat.le_trans (Nat.le_mul_of_pos_right _ hb0) hl
 obtain ⟨hok,rows,hrl,⟨hro,inner,hown,hrr⟩,hf⟩:=HO
 rcases A with _|ad
 ·have h0:m=0:=by
   rcases Nat.eq_zero_or_pos m with h0|h0
   ·exact h0
   ·obtain ⟨ad,h,_⟩:=(Kd.F_now HF).2.2 h0
    cases h
  subst h0
  obtain rfl:ys=[]:=List.eq_nil_of_length_eq_zero hm
  refine ⟨v,W,?_,by rw [List.append_nil];exact ⟨hok,rows,hrl,⟨hro,inner,hown,hrr⟩,hf⟩,World.grownBy.refl W _,.inl rfl⟩
  rcases hown.2 with ⟨rfl,hn⟩|⟨g,cap,cur,rfl,_,_,hnc,_⟩
  ·simp [Builtin.append_,run_underlying ht,sizeOf,typeInfo,hi,Builtin.lenOf,Builtin.firstCells]
  ·simp [Builtin.append_,run_underlying ht,sizeOf,typeInfo,hi,Builtin.lenOf,Builtin.firstCells,hnc,storeCells]
 ·obtain ⟨news,hnr,hnc⟩:=ReadsRow.inner_ (F_reads HF hA)
  have hone:=reps_one hs0 hnr (λx cs hk=>d.K_one (Kd.FK_now hk))
  obtain ⟨v1,w1,hrun,h2,hg,_,hat⟩:=run_append_own_at (P:=P) W base t ty e i0 z d.sz bytes ht hi hz0 hz1 hz2 hz hs0 v rows.length inner hown ad m c news (by rw [hnr.1,hm]) hnc hone (by simp only [maxLen];omega) (by rw [hrl];exact hl) hbase
  have hat':v1.ownBlock=v.ownBlock\/∃ b,v1.ownBlock=some b/\W.heap.size<=b:=by
   rcases hat with hat|hat
   ·exact .inl hat
   ·exact .inr ⟨_,hat,Nat.le_refl _⟩
  have hne:∀ k,some k≠v.ownBlock->k<W.heap.size->some k≠v1.ownBlock:=by
   intro k hk hlt
   rcases hat' with hat|⟨b,hb,hle⟩
   ·rw [hat];exact hk
   ·rw [hb]
    intro he
    injection he with he
    omega
  have step:∀ {x:α} {cs:List Value} {o:Nat->Prop},Kd.FK d W o x cs->(∀ k,o k->ok k/\some k≠v.ownBlock)->Kd.FK d w1 (λk=>ok k/\some k≠v1.ownBlock) x cs:=λhx ho =>
   Kd.FK_mono (Kd.FK_step (Kd.FK_bound hx) (λk hk hlt=>hg.block k hlt (ho k hk.1).2)) (λk hk=>⟨(ho k hk.1).1,hne k (ho k hk.1).2 hk.2⟩)
  have hcl:=Kd.chunks_length d.sz ys.length news
  refine ⟨v1,w1,hrun,⟨λk hk=>?_,rows++Kd.chunks d.sz ys.length news,by rw [List.length_append,List.length_append,hrl,hcl],⟨λk hk=>hk.symm,inner++news,by rw [List.length_append,hcl,hm];exact h2,Kd.reps_append hrr (Kd.reps_raw hnr (λx cs hk=>⟨d.K_len (Kd.FK_now hk),d.K_one (Kd.FK_now hk)⟩))⟩,λj x cs hx hc=>?_⟩,hg,hat'⟩
  ·rcases hat' with hat|⟨b,hb,hle⟩
   ·exact hok k (hat ▸ hk)
   ·rw [hb] at hk
    injection hk with hk
    exact hfresh k (by omega)
  ·rcases Nat.lt_or_ge j xs.length with hlt|hge
   ·rw [List.getElem?_append_left hlt] at hx
    rw [List.getElem?_append_left (by omega)] at hc
    exact step (hf j x cs hx hc) (λk hk=>hk)
   ·rw [List.getElem?_append_right hge] at hx
    rw [List.getElem?_append_right (by omega),hrl] at hc
    have:=Kd.chunks_get hc
    subst this
    exact step (hnr.2 _ x hx) hokp
theorem N_foot {n:Nat} (h:Kd.N d e W base ok (.slice A n c) xs):n=xs.length/\n<=c/\Kd.F d W ok A xs.length xs:=by
 have h1:=Kd.N_reads' h
 refine ⟨h1.1,h1.2.1,λW' hW=>?_⟩
 have h2:=Kd.N_reads' (Kd.N_step h hW)
 exact h2.2.2
end
end Go.Proofs.Ytfhamdobagjakaa.Hand
