/- FramePacks, in plain Lean: any frame's bytes, and what any bytes are, by the program and by the document. No condition. -/
import Derived.Test.YtdepkgikdmlgiaaSayFramePacks
import Derived.Test.YtdepkgikdmlgiaaLmFramePacks
import Derived.Test.YtdepkgikdmlgiaaPck
import Derived.DataShut
namespace Go.Proofs.Ytdepkgikdmlgiaa.Pure
open Go Go.RowKit Go.Proofs.Ytdepkgikdmlgiaa.P Go.Proofs.Ytdepkgikdmlgiaa.Lim Go.Proofs.Ytdepkgikdmlgiaa.Pl Go.Proofs.Ytdepkgikdmlgiaa.Open Go.Proofs.YtdepkgikdmlgiaaW.PrintWords
theorem FramePacks : framePacks.Pure := by
  intro f s hf hs
  obtain ⟨-, h1, h2, h3, h4, -, -, -⟩ := hf
  have q1 : 0 ≤ f.f1 ∧ f.f1 ≤ 255 := (Lit.wf_int_iff .u8 f.f1).1 h1
  have q2 : 0 ≤ f.f2 ∧ f.f2 ≤ 65535 := (Lit.wf_int_iff .u16 f.f2).1 h2
  have q3 : 0 ≤ f.f3 ∧ f.f3 ≤ 4294967295 := (Lit.wf_int_iff .u32 f.f3).1 h3
  have q4 : 0 ≤ f.f4 ∧ f.f4 ≤ 18446744073709551615 := (Lit.wf_int_iff .u64 f.f4).1 h4
  refine (tallboylaw29_FramePacks.Llm _ _ _ _ _ _ _ _ _).rounds ?_
  have g1 : 0 ≤ f.f1 ∧ f.f1 < 256 := by omega
  have g2 : 0 ≤ f.f2 ∧ f.f2 < 65536 := by omega
  have g3 : 0 ≤ f.f3 ∧ f.f3 < 4294967296 := by omega
  have g4 : 0 ≤ f.f4 ∧ f.f4 < 18446744073709551616 := by omega
  have key : ∀ b, tallboylaw29_FramePacks.j0L s b f.f0 f.f1 f.f2 f.f3 f.f4 f.f5 f.f6 f.f7 = some true := by
    intro b
    rw [tallboylaw29_FramePacks.j0L_eq]
    cases b with
    | true => rfl
    | false =>
      rw [if_neg (by decide)]
      have P := fpack_eq f.f0 f.f1 f.f2 f.f3 f.f4 f.f5 f.f6 f.f7 g1 g2 g3
      have R := rpack_eq f.f0 f.f1 f.f2 f.f3 f.f4 f.f5 f.f6 f.f7 g1 g2 g3 g4
      by_cases ok : okF f.f0 f.f2 f.f5.size f.f6.size f.f7.size
      · simp only [tallboylaw29_To.f, tallboylaw29_From.f, Option.bind_some, P.1 ok, R.1 ok, funp_eq s hs, runp_eq s hs, beq_self_eq_true, Bool.and_self, if_true]
      · simp only [tallboylaw29_To.f, tallboylaw29_From.f, Option.bind_some, P.2 ok, R.2 ok, funp_eq s hs, runp_eq s hs, beq_self_eq_true, Bool.and_self, if_true]
  rw [tallboylaw29_FramePacks.L_eq]
  unfold tallboylaw29_Great.f
  split
  · simp only [Option.bind_some, if_true, key]
  · split
    · simp only [Option.bind_some, if_true, key]
    · simp only [Option.bind_some, key]
      split <;> rfl
end Go.Proofs.Ytdepkgikdmlgiaa.Pure
