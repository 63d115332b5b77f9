/- FramePieces, in plain Lean: the walk has shown that the law returns true, for frames whose numbers are in their types' bounds. No condition. -/
import Derived.Test.YtdepkgikdmlgiaaSayFramePieces
import Derived.DataShut
namespace Go.Proofs.Ytdepkgikdmlgiaa.Pure
open Go Go.RowKit Go.Proofs.Ytdepkgikdmlgiaa.P Go.Proofs.Ytdepkgikdmlgiaa.Open Go.Proofs.YtdepkgikdmlgiaaW.PrintWords
theorem rngP_of (f : S26) (h : framePieces.W26 f) : tallboylaw29_FramePieces.rng f = true := by
  obtain ⟨-, h1, h2, h3, h4, -, -, -⟩ := h
  have q1 : 0 ≤ f.f1 ∧ f.f1 ≤ 255 := (Lit.wf_int_iff .u8 f.f1).1 h1
  have q2 : 0 ≤ f.f2 ∧ f.f2 ≤ 65535 := (Lit.wf_int_iff .u16 f.f2).1 h2
  have q3 : 0 ≤ f.f3 ∧ f.f3 ≤ 4294967295 := (Lit.wf_int_iff .u32 f.f3).1 h3
  have q4 : 0 ≤ f.f4 ∧ f.f4 ≤ 18446744073709551615 := (Lit.wf_int_iff .u64 f.f4).1 h4
  simp only [tallboylaw29_FramePieces.rng, Bool.and_eq_true, decide_eq_true_eq]
  omega
theorem FramePieces : framePieces.Pure := by
  intro x0 x1 h0 h1
  unfold tallboylaw29_FramePieces.f
  rw [if_pos (List.all_eq_true.2 fun x hx => rngP_of x (h0.2.2 x hx))]
end Go.Proofs.Ytdepkgikdmlgiaa.Pure
