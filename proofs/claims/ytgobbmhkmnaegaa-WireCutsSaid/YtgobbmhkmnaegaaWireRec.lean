/- Records as bytes, in plain words; that the statements' own example holds. -/
import Derived.Test.YtgobbmhkmnaegaaCrcLink
import Derived.Test.YtgobbmhkmnaegaaWireLink
import Derived.Test.YtgobbmhkmnaegaaPWirex2
namespace Go.Proofs.Ytgobbmhkmnaegaa.PWire
open Go.RowKit Go.Proofs.YtgobbmhkmnaegaaW.PrintWords Go.Proofs.YtgobbmhkmnaegaaW.PrintLast Go.Proofs.Ytgobbmhkmnaegaa.Wr Go.Proofs.Ytgobbmhkmnaegaa.Crc
set_option linter.unusedVariables false
set_option linter.unusedSimpArgs false

/-- A sum's four bytes, the highest one first. -/
def sum4 (s : Int) : List Int := [(s / 16777216) % 256, (s / 65536) % 256, (s / 256) % 256, s % 256]
def recB (kind : Int) (body : List Int) : List Int := kind :: text body
def record (kind : Int) (body : List Int) : List Int := recB kind body ++ sum4 (rg (crcOn 0#32 (recB kind body)))
theorem sum4_bytes (s : Int) : Wr.Bytes (sum4 s) := by
  intro x hx
  simp only [sum4, List.mem_cons, List.mem_nil_iff, or_false] at hx
  rcases hx with rfl | rfl | rfl | rfl <;> omega
theorem text_bytes (t : List Int) (h : Wr.Bytes t) (hl : t.length < 18446744073709551616) : Wr.Bytes (text t) := by
  intro x hx
  rcases List.mem_append.1 hx with hx | hx
  · exact num_bytes hl x hx
  · exact h x hx
theorem recB_bytes (kind : Int) (body : List Int) (hk : 1 ≤ kind ∧ kind ≤ 200) (hb : Wr.Bytes body) (hl : body.length ≤ 65536) : Wr.Bytes (recB kind body) := by
  intro x hx
  rcases List.mem_cons.1 hx with rfl | hx
  · omega
  · exact text_bytes body hb (by omega) x hx
theorem text_length (t : List Int) (h : t.length < 18446744073709551616) : (text t).length ≤ t.length + 9 := by
  have h1 := num_length t.length
  have h2 := be_len8 h
  unfold text
  rw [List.length_append]
  omega
theorem record_ev (kind : Int) (body : List Int) (hk : 1 ≤ kind ∧ kind ≤ 200) (hb : Wr.Bytes body) (hl : body.length ≤ 65536) : Ev (fun k => wire_Record.f k kind body) (record kind body, 0) := by
  unfold wire_Record.f
  have n1 : ¬ (kind < 1) := by omega
  have n2 : ¬ (kind > 200) := by omega
  have n3 : ¬ ((body.length : Int) > 65536) := by omega
  have hm : kind % 256 = kind := by omega
  have hlen := text_length body (by omega)
  refine wl_else n1 ?_
  refine wl_else n2 ?_
  refine wl_else n3 ?_
  refine Ev.bind (text_ev body (by omega)) ?_
  have n4 : 1 + (text body).length < 140737488355328 := by omega
  have n5 : (1 + (text body).length) + 4 < 140737488355328 := by omega
  refine wl_if n4 ?_
  rw [hm]
  have h1 := of_one (recB kind body) (recB_bytes kind body hk hb hl) (by unfold recB; rw [List.length_cons]; omega)
  refine Ev.bind h1 ?_
  exact wl_if n5 (Ev.now _)
theorem num_258 : num 258 = [2, 1, 2] := by
  unfold num
  rw [be_pos (by omega), be_pos (by omega), show 258 / 256 / 256 = 0 from rfl, be_zero]
  rfl
theorem num_0 : num 0 = [0] := by
  unfold num
  rw [be_zero]
  rfl
end Go.Proofs.Ytgobbmhkmnaegaa.PWire
