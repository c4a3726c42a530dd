/- a part -/
import Derived.Test.YtfhamdobagjakaaWireGetRec
import Derived.Test.YtfhamdobagjakaaPJox4
import Derived.Test.YtfhamdobagjakaaPJox7
namespace Go.Proofs.Ytfhamdobagjakaa.PJo
open Go.RowKit Go.Proofs.YtfhamdobagjakaaW.PrintWords Go.Proofs.YtfhamdobagjakaaW.PrintLast Go.Proofs.Ytfhamdobagjakaa.Wr Go.Proofs.Ytfhamdobagjakaa.Crc
set_option linter.unusedVariables false
set_option linter.unusedSimpArgs false
theorem short_whole (u:Nat) (r:List Int):short (num u++r)=false:=by
 show short (((be u).length:Int) :: (be u++r))=false
 unfold short
 refine decide_eq_false (λh=>?_)
 have:=h.2.1
 rw [List.length_append] at this
 omega
theorem recB_length (kind:Int) (body:List Int):(recB kind body).length=1+(num body.length).length+body.length:=by
 unfold recB text
 rw [List.length_cons,List.length_append]
 omega
theorem sum4_length (s:Int):(sum4 s).length=4:=rfl
theorem record_length (kind:Int) (body:List Int):(record kind body).length=1+(num body.length).length+body.length+4:=by
 unfold record
 rw [List.length_append,sum4_length,recB_length]
theorem rec_whole (kind:Int) (body more:List Int) (hk:1<=kind/\kind<=200) (hl:body.length<=65536):recR (record kind body++more)=(kind,body,((record kind body).length:Int),0):=by
 have e0:record kind body++more=kind :: (num body.length++(body++(sum4 (rg (crcOn 0#32 (recB kind body)))++more))):=by
  unfold record recB text
  simp [List.append_assoc]
 have t1:(record kind body++more).take (1+(num body.length).length+body.length)=recB kind body:=by
  unfold record
  rw [List.append_assoc]
  exact List.take_left' (recB_length kind body)
 have t2:(record kind body++more).take (1+(num body.length).length+body.length+4)=record kind body:=List.take_left' (record_length kind body)
 have d1:(record kind body).drop (1+(num body.length).length+body.length)=sum4 (rg (crcOn 0#32 (recB kind body))):=by
  unfold record
  exact List.drop_left' (recB_length kind body)
 have d2:(recB kind body).drop (1+(num body.length).length)=body:=by
  unfold recB text
  rw [show 1+(num body.length).length=(num body.length).length+1 by omega,List.drop_succ_cons]
  exact List.drop_left
 have hlen:(record kind body++more).length=1+(num body.length).length+body.length+4+more.length:=by rw [List.length_append,record_length]
 have hs:short (num body.length++(body++(sum4 (rg (crcOn 0#32 (recB kind body)))++more)))=false:=short_whole _ _
 have hg:=getNum_num body.length (by omega) (body++(sum4 (rg (crcOn 0#32 (recB kind body)))++more))
 rw [e0] at t1 t2 hlen ⊢
 simp only [recR]
 rw [if_neg (by omega),hs,if_neg (by simp),hg]
 simp only
 rw [if_neg (by omega),hlen,if_neg (by omega),t2,t1,d1,if_pos rfl,d2,record_length]
abbrev Rc:=S92
def recs (l:List Rc):List Int:=(l.map λr=>record r.f0 r.f1).flatten
theorem recs_cons (r:Rc) (l:List Rc):recs (r :: l)=record r.f0 r.f1++recs l:=rfl
theorem recs_append (l m:List Rc):recs (l++m)=recs l++recs m:=by simp [recs]
def mayR (r:Rc):Prop:=10<=r.f0/\r.f0<=200/\r.f1.length<=65536
instance (r:Rc):Decidable (mayR r):=by unfold mayR;infer_instance
def mayL (l:List Rc):Prop:=∀ r ∈ l,mayR r
instance (l:List Rc):Decidable (mayL l):=by unfold mayL;infer_instance
def byL (l:List Rc):Prop:=∀ r ∈ l,Wr.Bytes r.f1
theorem mayL.append {l m:List Rc} (h:mayL l) (k:mayL m):mayL (l++m):=λr hr=>(List.mem_append.1 hr).elim (h r) (k r)
theorem byL.append {l m:List Rc} (h:byL l) (k:byL m):byL (l++m):=λr hr=>(List.mem_append.1 hr).elim (h r) (k r)
theorem num_len_le {n:Nat} (h:n<18446744073709551616):(num n).length<=9:=by rw [num_length];have:=be_len8 h;omega
theorem record_len_le (kind:Int) (body:List Int) (h:body.length<=65536):(record kind body).length<=65550:=by
 rw [record_length];have:=num_len_le (n:=body.length) (by omega);omega
theorem record_bytes (kind:Int) (body:List Int) (hk:1<=kind/\kind<=200) (hb:Wr.Bytes body) (hl:body.length<=65536):Wr.Bytes (record kind body):=by
 intro x hx
 rcases List.mem_append.1 hx with hx|hx
 ·exact recB_bytes kind body hk hb hl x hx
 ·exact sum4_bytes _ x hx
theorem recs_bytes {l:List Rc} (h:mayL l) (k:byL l):Wr.Bytes (recs l):=by
 intro x hx
 simp only [recs,List.mem_flatten,List.mem_map] at hx
 obtain ⟨_,⟨r,hr,rfl⟩,hx⟩:=hx
 exact record_bytes r.f0 r.f1 ⟨by have:=(h r hr).1;omega,(h r hr).2.1⟩ (k r hr) (h r hr).2.2 x hx
theorem recs_len {l:List Rc} (h:mayL l):(recs l).length<=l.length*65550:=by
 induction l with
 | nil=>exact Nat.zero_le _
 | cons r l ih =>
  have h1:=ih (λx hx=>h x (List.mem_cons_of_mem _ hx))
  have h2:=record_len_le r.f0 r.f1 (h r (List.mem_cons_self ..)).2.2
  rw [recs_cons,List.length_append,List.length_cons]
  omega
theorem rc_rd {l:List Rc} {i:Nat} (h:i<l.length):rd_T92 l (i:Int)=l[i]:=by
 unfold rd_T92
 rw [List.getD_eq_getElem?_getD,Int.toNat_natCast,List.getElem?_eq_getElem h,Option.getD_some]
theorem put_loop (l:List Rc) (hm:mayL l) (hb:byL l) (hn:l.length<=1000000) (d:Nat):∀ (i:Nat) (out:List Int),i+d=l.length->out.length<=i*65550->Ev (λk=>journal_put.l0 k out l (l.length:Int) (i:Int)) (out++recs (l.drop i),0):=by
 induction d with
 | zero =>
  intro i out hi ho
  rw [List.drop_eq_nil_of_le (by omega),show recs []=[] from rfl,List.append_nil]
  refine Ev.step (f:=λ_=>some (out,0)) (λk=>?_) (Ev.now _)
  simp only [journal_put.l0]
  rw [if_neg (by omega)]
 | succ d ih =>
  intro i out hi ho
  have hi':i<l.length:=by omega
  have hw:wrap64 ((i:Int)+1)=((i+1:Nat):Int):=by unfold wrap64;omega
  have hr:=hm _ (List.getElem_mem hi')
  have hr1:=hr.1
  have hlen:=record_len_le l[i].f0 l[i].f1 hr.2.2
  rw [List.drop_eq_getElem_cons hi',recs_cons,<-List.append_assoc]
  refine Ev.step (f:=λk=>(wire_Record.f k l[i].f0 l[i].f1).bind λb=>if b.2=0 then(if out.length+b.1.length<140737488355328 then journal_put.l0 k (out++b.1) l (l.length:Int) ((i+1:Nat):Int) else none) else some (([]:List Int),b.2)) (λk=>?_) ?_
  ·simp only [journal_put.l0]
   rw [if_pos (by omega),if_pos (by omega),if_pos (by omega),rc_rd hi',if_neg (by omega),hw]
  ·refine Ev.bind (record_ev l[i].f0 l[i].f1 ⟨by omega,hr.2.1⟩ (hb _ (List.getElem_mem hi')) hr.2.2) ?_
   refine wl_if rfl (wl_if (by show out.length+(record l[i].f0 l[i].f1).length<_;omega) ?_)
   exact ih (i+1) _ (by omega) (by simp only [List.length_append];omega)
theorem put_ev (l:List Rc) (hm:mayL l) (hb:byL l) (hn:l.length<=1000000):Ev (λk=>journal_put.f k l) (recs l,0):=by
 have h:=put_loop l hm hb hn l.length 0 [] (by omega) (by simp)
 exact h
theorem put_bad_loop (l:List Rc) (hb:byL l) (hn:l.length<=1000000) (d:Nat):∀ (i:Nat) (out:List Int),i+d=l.length->out.length<=i*65550->(∃ r ∈ l.drop i,¬ mayR r)->Ev (λk=>journal_put.l0 k out l (l.length:Int) (i:Int)) ([],1):=by
 induction d with
 | zero =>
  intro i out hi ho hx
  rw [List.drop_eq_nil_of_le (by omega)] at hx
  obtain ⟨r,hr,_⟩:=hx
  cases hr
 | succ d ih =>
  intro i out hi ho hx
  have hi':i<l.length:=by omega
  have hw:wrap64 ((i:Int)+1)=((i+1:Nat):Int):=by unfold wrap64;omega
  by_cases h10:l[i].f0<10
  ·refine Ev.step (f:=λ_=>some (([]:List Int),1)) (λk=>?_) (Ev.now _)
   simp only [journal_put.l0]
   rw [if_pos (by omega),if_pos (by omega),if_pos (by omega),rc_rd hi',if_pos h10]
  ·refine Ev.step (f:=λk=>(wire_Record.f k l[i].f0 l[i].f1).bind λb=>if b.2=0 then(if out.length+b.1.length<140737488355328 then journal_put.l0 k (out++b.1) l (l.length:Int) ((i+1:Nat):Int) else none) else some (([]:List Int),b.2)) (λk=>?_) ?_
   ·simp only [journal_put.l0]
    rw [if_pos (by omega),if_pos (by omega),if_pos (by omega),rc_rd hi',if_neg h10,hw]
   ·by_cases hr:mayR l[i]
    ·have hlen:=record_len_le l[i].f0 l[i].f1 hr.2.2
     refine Ev.bind (record_ev l[i].f0 l[i].f1 ⟨by omega,hr.2.1⟩ (hb _ (List.getElem_mem hi')) hr.2.2) ?_
     refine wl_if rfl (wl_if (by show out.length+(record l[i].f0 l[i].f1).length<_;omega) ?_)
     refine ih (i+1) _ (by omega) (by simp only [List.length_append];omega) ?_
     rw [List.drop_eq_getElem_cons hi'] at hx
     obtain ⟨r,hm,hn⟩:=hx
     rcases List.mem_cons.1 hm with rfl|hm
     ·exact absurd hr hn
     ·exact ⟨r,hm,hn⟩
    ·refine Ev.bind (record_bad l[i].f0 l[i].f1 (λh=>hr ⟨by omega,h.2.1,h.2.2⟩)) ?_
     exact wl_else (by decide) (Ev.now _)
theorem put_bad (l:List Rc) (hm:¬ mayL l) (hb:byL l) (hn:l.length<=1000000):Ev (λk=>journal_put.f k l) ([],1):=by
 refine put_bad_loop l hb hn l.length 0 [] (by omega) (by simp) ?_
 unfold mayL at hm
 simpa using hm
theorem may_loop (l:List Rc) (hn:l.length<=1000000) (d:Nat):∀ (i:Nat),i+d=l.length->Ev (λk=>r07_May.l0 k l (i:Int)) (decide (mayL (l.drop i))):=by
 induction d with
 | zero =>
  intro i hi
  rw [List.drop_eq_nil_of_le (by omega),show decide (mayL [])=true from decide_eq_true (λr hr=>by cases hr)]
  refine Ev.step (f:=λ_=>some true) (λk=>?_) (Ev.now _)
  simp only [r07_May.l0]
  rw [if_neg (by omega)]
 | succ d ih =>
  intro i hi
  have hi':i<l.length:=by omega
  have hw:wrap64 ((i:Int)+1)=((i+1:Nat):Int):=by unfold wrap64;omega
  have e:mayL (l.drop i)↔mayR l[i]/\mayL (l.drop (i+1)):=by
   rw [List.drop_eq_getElem_cons hi']
   exact List.forall_mem_cons
  by_cases h10:l[i].f0<10
  ·rw [decide_eq_false (λh=>by have:=(e.1 h).1.1;omega)]
   refine Ev.step (f:=λ_=>some false) (λk=>?_) (Ev.now _)
   simp only [r07_May.l0]
   rw [if_pos (by omega),if_pos (by omega),rc_rd hi',if_pos h10]
  ·have hs:∀ k,r07_May.l0 (k+1) l (i:Int)=if decide (1<=l[i].f0/\l[i].f0<=200/\l[i].f1.length<=65536)=true then r07_May.l0 k l ((i+1:Nat):Int) else some false:=λk=>by
    simp only [r07_May.l0]
    rw [if_pos (by omega),if_pos (by omega),rc_rd hi',if_neg h10,may_eq,hw]
    rfl
   by_cases hr:mayR l[i]
   ·have e2:decide (mayL (l.drop i))=decide (mayL (l.drop (i+1))):=by
     rw [decide_eq_decide,e]
     exact ⟨λh=>h.2,λh=>⟨hr,h⟩⟩
    rw [e2]
    refine Ev.step (f:=λk=>r07_May.l0 k l ((i+1:Nat):Int)) (λk=>?_) (ih (i+1) (by omega))
    rw [hs k,if_pos (decide_eq_true ⟨by omega,hr.2.1,hr.2.2⟩)]
   ·rw [decide_eq_false (λh=>hr (e.1 h).1)]
    refine Ev.step (f:=λ_=>some false) (λk=>?_) (Ev.now _)
    rw [hs k,if_neg (by rw [decide_eq_true_eq];exact λh=>hr ⟨by omega,h.2.1,h.2.2⟩)]
theorem may_ev (l:List Rc) (hn:l.length<=1000000):Ev (λk=>r07_May.f k l) (decide (mayL l)):=may_loop l hn l.length 0 (by omega)
theorem same_loop (l:List Rc) (hn:l.length<=1000000000) (hl:∀ r ∈ l,r.f1.length<=140737488355328) (d:Nat):∀ (i:Nat),i+d=l.length->Ev (λk=>r07_Same.l0 k l l (i:Int)) true:=by
 induction d with
 | zero =>
  intro i hi
  refine Ev.step (f:=λ_=>some true) (λk=>?_) (Ev.now _)
  simp only [r07_Same.l0]
  rw [if_neg (by omega)]
 | succ d ih =>
  intro i hi
  have hi':i<l.length:=by omega
  have hw:wrap64 ((i:Int)+1)=((i+1:Nat):Int):=by unfold wrap64;omega
  refine Ev.step (f:=λk=>(r02_Bytes.f k l[i].f1 l[i].f1).bind λt=>if t=true then r07_Same.l0 k l l ((i+1:Nat):Int) else some false) (λk=>?_) ?_
  ·simp only [r07_Same.l0]
   rw [if_pos (by omega),if_pos (by omega),if_pos (by omega),rc_rd hi',if_pos trivial,hw]
  ·refine Ev.bind (eq_ev l[i].f1 l[i].f1 (hl _ (List.getElem_mem hi'))) ?_
   exact wl_if (by simp) (ih (i+1) (by omega))
theorem same_ev (l:List Rc) (hn:l.length<=1000000000) (hl:∀ r ∈ l,r.f1.length<=140737488355328):Ev (λk=>r07_Same.f k l l) true:=by
 unfold r07_Same.f
 exact wl_if rfl (same_loop l hn hl l.length 0 (by omega))
theorem refBytes_loop (l:List Rc) (hm:mayL l) (hb:byL l) (hn:l.length<=1000000) (d:Nat):∀ (i:Nat) (out:List Int),i+d=l.length->out.length<=i*65550->Ev (λk=>r07_Bytes.l0 k l out (i:Int)) (out++recs (l.drop i)):=by
 induction d with
 | zero =>
  intro i out hi ho
  rw [List.drop_eq_nil_of_le (by omega),show recs []=[] from rfl,List.append_nil]
  refine Ev.step (f:=λ_=>some out) (λk=>?_) (Ev.now _)
  simp only [r07_Bytes.l0]
  rw [if_neg (by omega)]
 | succ d ih =>
  intro i out hi ho
  have hi':i<l.length:=by omega
  have hw:wrap64 ((i:Int)+1)=((i+1:Nat):Int):=by unfold wrap64;omega
  have hr:=hm _ (List.getElem_mem hi')
  have hr1:=hr.1
  have hlen:=record_len_le l[i].f0 l[i].f1 hr.2.2
  rw [List.drop_eq_getElem_cons hi',recs_cons,<-List.append_assoc]
  refine Ev.step (f:=λk=>(r02_Record.f k l[i].f0 l[i].f1).bind λt=>if out.length+t.length<140737488355328 then r07_Bytes.l0 k l (out++t) ((i+1:Nat):Int) else none) (λk=>?_) ?_
  ·simp only [r07_Bytes.l0]
   rw [if_pos (by omega),if_pos (by omega),rc_rd hi',hw]
  ·refine Ev.bind (refRecord_ev l[i].f0 l[i].f1 ⟨by omega,hr.2.1⟩ (hb _ (List.getElem_mem hi')) hr.2.2) ?_
   refine wl_if (by omega) ?_
   exact ih (i+1) _ (by omega) (by simp only [List.length_append];omega)
def whole (t:Nat) (l:List Rc):List Int:=record 1 (num t)++recs l++record 2 []
theorem whole_ev (t:Nat) (ht:t<18446744073709551616) (l:List Rc) (hm:mayL l) (hb:byL l) (hn:l.length<=1000000):Ev (λk=>r07_Whole.f k (t:Int) l) (whole t l):=by
 have hN:=num_len_le ht
 have h1:=record_len_le 1 (num t) (by omega)
 have h2:=record_len_le 2 [] (by simp)
 have h3:=recs_len hm
 unfold r07_Whole.f
 refine Ev.bind (refNum_ev t ht) (Ev.bind (refRecord_ev 1 (num t) ⟨by omega,by omega⟩ (num_bytes ht) (by omega)) (Ev.bind (refBytes_loop l hm hb hn l.length 0 [] (by omega) (by simp)) ?_))
 rw [List.drop_zero,List.nil_append]
 refine wl_if (by omega) (Ev.bind (Ev.now _) (Ev.bind (refRecord_ev 2 [] ⟨by omega,by omega⟩ (λx hx=>by cases hx) (by simp)) ?_))
 refine wl_if (by simp only [List.length_append];omega) (Ev.now _)
theorem whole_len {t:Nat} (h0:0<t) (h1:t<256) (l:List Rc):(whole t l).length=9+(recs l).length+6:=by
 have hb:(be t).length=1:=by
  have a:=be_len_le 1 t (by omega)
  have b:=be_len_ge 0 t (by rw [Nat.pow_zero];omega)
  omega
 have hn:(num t).length=2:=by rw [num_length,hb]
 have e2:(num 2).length=2:=by rw [num_length];have a:=be_len_le 1 2 (by decide);have b:=be_len_ge 0 2 (by decide);omega
 have e0:(num 0).length=1:=by rw [num_length,be_zero];rfl
 have r1:(record 1 (num t)).length=9:=by rw [record_length,hn,e2]
 have r2:(record 2 []).length=6:=by rw [record_length];show 1+(num 0).length+0+4=6;rw [e0]
 unfold whole
 rw [List.length_append,List.length_append,r1,r2]
theorem whole_bytes {t:Nat} (ht:t<18446744073709551616) {l:List Rc} (hm:mayL l) (hb:byL l):Wr.Bytes (whole t l):=by
 have hN:=num_len_le ht
 intro x hx
 rcases List.mem_append.1 hx with hx|hx
 ·rcases List.mem_append.1 hx with hx|hx
  ·exact record_bytes 1 (num t) ⟨by omega,by omega⟩ (num_bytes ht) (by omega) x hx
  ·exact recs_bytes hm hb x hx
 ·exact record_bytes 2 [] ⟨by omega,by omega⟩ (λx hx=>by cases hx) (by simp) x hx
theorem scan_recs (b:List Int) (hby:Wr.Bytes b) (hbn:b.length<=100000000) (w:Bool) (t n:Int) {r:Int×List Rc×Int×Int} (m:List Rc):∀ (hm:mayL m) (out:List Rc) (i:Nat) (rest:List Int),out.length+m.length<=1000000->b.drop i=recs m++rest ->
  Ev (λk=>journal_scan.l0 k b w t (out++m) ((i+(recs m).length:Nat):Int) n) r->Ev (λk=>journal_scan.l0 k b w t out (i:Int) n) r:=by
 induction m with
 | nil =>
  intro hm out i rest ho hd h
  rw [List.append_nil] at h
  exact h
 | cons x m ih =>
  intro hm out i rest ho hd h
  have hx:=hm x (List.mem_cons_self ..)
  have hx1:=hx.1
  have hr:=rec_whole x.f0 x.f1 (recs m++rest) ⟨by omega,hx.2.1⟩ hx.2.2
  rw [recs_cons,List.append_assoc] at hd
  have hil:i+(record x.f0 x.f1).length<=b.length:=by
   have e:=congrArg List.length hd
   rw [List.length_drop,List.length_append] at e
   have:0<(record x.f0 x.f1).length:=by rw [record_length];omega
   omega
  have hw:wrap64 ((i:Int)+((record x.f0 x.f1).length:Int))=((i+(record x.f0 x.f1).length:Nat):Int):=by unfold wrap64;omega
  rw [List.length_cons] at ho
  have h2:=ih (λy hy=>hm y (List.mem_cons_of_mem _ hy)) (out++[x]) (i+(record x.f0 x.f1).length) rest (by rw [List.length_append,List.length_singleton];omega)
   (by rw [<-List.drop_drop,hd,List.drop_left]) (by rw [List.append_assoc,List.singleton_append,Nat.add_assoc,<-List.length_append,<-recs_cons];exact h)
  refine Ev.step (f:=λk=>(wire_GetRecord.f k (b.drop i)).bind λy=>if y.2.2.2=0 then(if y.1>=10 then journal_scan.j2 k b w y.1 y.2.1 y.2.2.1 y.2.2.2 (decide (y.1<=200)) t out (i:Int) n else journal_scan.j2 k b w y.1 y.2.1 y.2.2.1 y.2.2.2 false t out (i:Int) n) else journal_scan.j2 k b w y.1 y.2.1 y.2.2.1 y.2.2.2 false t out (i:Int) n) (λk=>?_) ?_
  ·simp only [journal_scan.l0]
   rw [if_pos (by omega),if_pos (by omega),Int.toNat_natCast]
  ·have hg:=getRecord_ev (b.drop i) (drop_bytes hby i) (by rw [List.length_drop];omega)
   rw [hd,hr] at hg
   rw [hd]
   refine Ev.bind hg (wl_if rfl (wl_if hx1 ?_))
   show Ev (λk=>journal_scan.j2 k b w x.f0 x.f1 ((record x.f0 x.f1).length:Int) 0 (decide (x.f0<=200)) t out (i:Int) n) r
   rw [decide_eq_true hx.2.1]
   refine Ev.step (f:=λk=>journal_scan.l0 k b w t (out++[(⟨x.f0,x.f1⟩:Rc)]) ((i+(record x.f0 x.f1).length:Nat):Int) n) (λk=>?_) h2
   simp only [journal_scan.j2]
   rw [if_pos trivial,if_pos (by omega),hw]
theorem scan_ev (t:Nat) (h0:0<t) (ht:t<=1099511627776) (l m:List Rc) (hl:mayL l) (hlb:byL l) (hm:mayL m) (hmb:byL m) (hn:l.length+m.length<=1000) :
  Ev (λk=>journal_scan.f k (whole t l++recs m)) ((t:Int),l++m,((whole t l++recs m).length:Int),((whole t l++recs m).length:Int)):=by
 have hb:Wr.Bytes (whole t l++recs m):=λx hx=>(List.mem_append.1 hx).elim (whole_bytes (by omega) hl hlb x) (recs_bytes hm hmb x)
 have hN:=num_len_le (n:=t) (by omega)
 have h1:=record_len_le 1 (num t) (by omega)
 have h2:=record_len_le 2 [] (by simp)
 have h3:=recs_len hl
 have h4:=recs_len hm
 have hbn:(whole t l++recs m).length<=100000000:=by
  unfold whole
  simp only [List.length_append]
  omega
 have e0:whole t l++recs m=record 1 (num t)++(recs l++(record 2 []++recs m)):=by unfold whole;simp only [List.append_assoc]
 have hg:=getRecord_ev (whole t l++recs m) hb (by omega)
 rw [e0,rec_whole 1 (num t) _ ⟨by omega,by omega⟩ (by omega),<-e0] at hg
 have hgn:=getNum_ev (num t) (num_bytes (by omega)) (by omega)
 have en:numR (num t)=((t:Int),((num t).length:Int),0):=by
  have h:=getNum_num t (by omega) []
  rw [List.append_nil] at h
  unfold numR
  rw [h]
 rw [en] at hgn
 generalize hB:whole t l++recs m=B at *
 have d1:B.drop (record 1 (num t)).length=recs l++(record 2 []++recs m):=by rw [e0,List.drop_left]
 have d2:B.drop ((record 1 (num t)).length+(recs l).length)=record 2 []++recs m:=by rw [<-List.drop_drop,d1,List.drop_left]
 have d3:B.drop ((record 1 (num t)).length+(recs l).length+(record 2 []).length)=recs m++[]:=by rw [<-List.drop_drop,d2,List.drop_left,List.append_nil]
 have hlen:B.length=(record 1 (num t)).length+(recs l).length+(record 2 []).length+(recs m).length:=by rw [e0];simp only [List.length_append];omega
 have d4:B.drop ((record 1 (num t)).length+(recs l).length+(record 2 []).length+(recs m).length)=[]:=List.drop_eq_nil_of_le (by omega)
 have q4:Ev (λk=>journal_scan.l0 k B true (t:Int) (l++m) (((record 1 (num t)).length+(recs l).length+(record 2 []).length+(recs m).length:Nat):Int) (B.length:Int)) ((t:Int),l++m,(B.length:Int),(B.length:Int)):=by
  refine Ev.step (f:=λk=>(wire_GetRecord.f k ([]:List Int)).bind λy=>if y.2.2.2=0 then(if y.1>=10 then journal_scan.j2 k B true y.1 y.2.1 y.2.2.1 y.2.2.2 (decide (y.1<=200)) (t:Int) (l++m) (B.length:Int) (B.length:Int) else journal_scan.j2 k B true y.1 y.2.1 y.2.2.1 y.2.2.2 false (t:Int) (l++m) (B.length:Int) (B.length:Int)) else journal_scan.j2 k B true y.1 y.2.1 y.2.2.1 y.2.2.2 false (t:Int) (l++m) (B.length:Int) (B.length:Int)) (λk=>?_) ?_
  ·simp only [journal_scan.l0]
   rw [if_pos (by omega),if_pos (by omega),Int.toNat_natCast,d4,<-hlen]
  ·refine Ev.bind (getRecord_ev [] (λx hx=>by cases hx) (by simp)) (wl_else (by decide) ?_)
   show Ev (λk=>journal_scan.j2 k B true 0 [] 0 3 false (t:Int) (l++m) (B.length:Int) (B.length:Int)) _
   refine Ev.step (f:=λk=>journal_scan.j3 k B true 0 false (t:Int) (l++m) (B.length:Int) (B.length:Int)) (λk=>?_) ?_
   ·simp only [journal_scan.j2]
    rw [if_neg (by decide),if_neg (by decide)]
   ·refine Ev.step (f:=λ_=>some ((t:Int),l++m,(B.length:Int),(B.length:Int))) (λk=>?_) (Ev.now _)
    simp only [journal_scan.j3]
    rw [if_neg (by decide),if_pos trivial]
 have q3:=scan_recs B hb hbn true (t:Int) (B.length:Int) m hm l ((record 1 (num t)).length+(recs l).length+(record 2 []).length) [] (by omega) d3 q4
 have hw2:wrap64 ((((record 1 (num t)).length+(recs l).length:Nat):Int)+((record 2 []).length:Int))=(((record 1 (num t)).length+(recs l).length+(record 2 []).length:Nat):Int):=by unfold wrap64;omega
 have q2:Ev (λk=>journal_scan.l0 k B false (t:Int) l (((record 1 (num t)).length+(recs l).length:Nat):Int) (B.length:Int)) ((t:Int),l++m,(B.length:Int),(B.length:Int)):=by
  refine Ev.step (f:=λk=>(wire_GetRecord.f k (record 2 []++recs m)).bind λy=>if y.2.2.2=0 then(if y.1>=10 then journal_scan.j2 k B false y.1 y.2.1 y.2.2.1 y.2.2.2 (decide (y.1<=200)) (t:Int) l (((record 1 (num t)).length+(recs l).length:Nat):Int) (B.length:Int) else journal_scan.j2 k B false y.1 y.2.1 y.2.2.1 y.2.2.2 false (t:Int) l (((record 1 (num t)).length+(recs l).length:Nat):Int) (B.length:Int)) else journal_scan.j2 k B false y.1 y.2.1 y.2.2.1 y.2.2.2 false (t:Int) l (((record 1 (num t)).length+(recs l).length:Nat):Int) (B.length:Int)) (λk=>?_) ?_
  ·simp only [journal_scan.l0]
   rw [if_pos (by omega),if_pos (by omega),Int.toNat_natCast,d2]
  ·have hg2:=getRecord_ev (record 2 []++recs m) (by rw [<-d2];exact drop_bytes hb _) (by simp only [List.length_append];omega)
   rw [rec_whole 2 [] (recs m) ⟨by omega,by omega⟩ (by simp)] at hg2
   refine Ev.bind hg2 (wl_if rfl (wl_else (by decide) ?_))
   show Ev (λk=>journal_scan.j2 k B false 2 [] ((record 2 []).length:Int) 0 false (t:Int) l (((record 1 (num t)).length+(recs l).length:Nat):Int) (B.length:Int)) _
   refine Ev.step (f:=λk=>journal_scan.j3 k B false ((record 2 []).length:Int) true (t:Int) l (((record 1 (num t)).length+(recs l).length:Nat):Int) (B.length:Int)) (λk=>?_) ?_
   ·simp only [journal_scan.j2]
    rw [if_neg (by decide),if_pos trivial,if_pos trivial,if_pos (by decide)]
    rfl
   ·refine Ev.step (f:=λk=>journal_scan.l0 k B true (t:Int) l (((record 1 (num t)).length+(recs l).length+(record 2 []).length:Nat):Int) (B.length:Int)) (λk=>?_) q3
    simp only [journal_scan.j3]
    rw [if_pos trivial,hw2]
 have q1:=scan_recs B hb hbn false (t:Int) (B.length:Int) l hl [] (record 1 (num t)).length (record 2 []++recs m) (by simp only [List.length_nil];omega) d1 q2
 unfold journal_scan.f
 refine Ev.bind hg (Ev.bind hgn (wl_if rfl (wl_if rfl (wl_if rfl (wl_if rfl ?_)))))
 refine wl_else (by show ¬ (t:Int)=0;omega) ?_
 show Ev (λk=>journal_scan.j0 k B ((record 1 (num t)).length:Int) (t:Int) (decide ((t:Int) > 1099511627776))) _
 rw [decide_eq_false (by omega)]
 refine Ev.step (f:=λk=>journal_scan.l0 k B false (t:Int) [] ((record 1 (num t)).length:Int) (B.length:Int)) (λk=>?_) q1
 simp only [journal_scan.j0]
 rw [if_neg (by decide)]
end Go.Proofs.Ytfhamdobagjakaa.PJo
