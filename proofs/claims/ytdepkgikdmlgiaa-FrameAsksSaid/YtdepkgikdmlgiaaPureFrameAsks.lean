/- FrameAsks, in plain Lean: what any frame asks for, and the frame that asks for any command, by the program and by the document. No condition. -/
import Derived.Test.YtdepkgikdmlgiaaSayFrameAsks
import Derived.Test.YtdepkgikdmlgiaaLmFrameAsks
import Derived.Test.YtdepkgikdmlgiaaReq
import Derived.DataShut
namespace Go.Proofs.Ytdepkgikdmlgiaa.Pure
set_option linter.unusedVariables false
open Go Go.RowKit Go.Proofs.Ytdepkgikdmlgiaa.P Go.Proofs.Ytdepkgikdmlgiaa.Lim Go.Proofs.Ytdepkgikdmlgiaa.Pl Go.Proofs.Ytdepkgikdmlgiaa.Open Go.Proofs.YtdepkgikdmlgiaaW.PrintWords
theorem cmd_keys (a : Bool) (op cs : Int) (e ky v : ByteArray) : (cmdV a op cs e ky v).2.1.length ≤ 1 := by
  have hk : ∀ (k : Int), (if k = 15 ∧ ky.size = 0 then ([] : List ByteArray) else [ky]).length ≤ 1 := fun k => by
    split <;> simp
  have he : ∀ k keys fl ex v cas del q, keys.length ≤ 1 → (endV k keys fl ex v cas del q).2.1.length ≤ 1 := fun k keys fl ex v cas del q h => by
    unfold endV badC
    split
    · exact h
    · simp
  unfold cmdV cmV
  split
  · simp [badC]
  · split
    · simp [badC]
    · split
      · split
        · exact he _ _ _ _ _ _ _ _ (hk _)
        · split
          · exact he _ _ _ _ _ _ _ _ (hk _)
          · split
            · split
              · exact he _ _ _ _ _ _ _ _ (hk _)
              · simp [badC]
            · exact he _ _ _ _ _ _ _ _ (hk _)
      · simp [badC]
theorem FrameAsks : frameAsks.Pure := by
  intro f c oq hf hc ho
  obtain ⟨-, h1, h2, h3, h4, -, -, -⟩ := hf
  obtain ⟨-, ⟨hk1, hk2, hk3⟩, w2, w3, wv, w5, w6, -⟩ := hc
  rw [frameAsks.bytesOf9] at hk1
  have q1 : 0 ≤ f.f1 ∧ f.f1 ≤ 255 := (Lit.wf_int_iff .u8 f.f1).1 h1
  have q2 : 0 ≤ c.f2 ∧ c.f2 ≤ 4294967295 := (Lit.wf_int_iff .u32 c.f2).1 w2
  have q6 : 0 ≤ c.f6 ∧ c.f6 ≤ 18446744073709551615 := (Lit.wf_int_iff .u64 c.f6).1 w6
  refine (tallboylaw29_FrameAsks.Llm _ _ _ _ _ _ _ _ _ _ _ _ _ _ _ _ _).rounds ?_
  have hn : c.f1.length ≤ 4611686018427387904 := by omega
  have key : ∀ b, (b = false → c.f1.length ≤ 100) → tallboylaw29_FrameAsks.j0L oq b f.f0 f.f1 f.f2 f.f3 f.f4 f.f5 f.f6 f.f7 c.f0 c.f1 c.f2 c.f3 c.f4 c.f5 c.f6 c.f7 = some true := by
    intro b hb
    rw [tallboylaw29_FrameAsks.j0L_eq]
    cases b with
    | true => rfl
    | false =>
      rw [if_neg (by decide)]
      have hs := same_eq (cmdV f.f0 f.f1 f.f4 f.f5 f.f6 f.f7).2.1 (by have := cmd_keys f.f0 f.f1 f.f4 f.f5 f.f6 f.f7; omega) (cmdV f.f0 f.f1 f.f4 f.f5 f.f6 f.f7).1
      simp only [tallboylaw29_To.f, tallboylaw29_From.f, Option.bind_some, fcmd_eq _ _ _ _ _ _ _ _ q1.1 (show f.f1 < 256 by omega), rcmd_eq _ _ _ _ _ _ _ _ q1.1 (show f.f1 < 256 by omega), own_eq c.f0 c.f1 c.f2 c.f3 c.f4 c.f5 c.f6 c.f7 (hb rfl), freq_eq, rreq_eq c.f0 c.f1 c.f2 c.f3 c.f4 c.f5 c.f6 c.f7 oq hn ⟨q2.1, by omega⟩ ⟨q6.1, by omega⟩, hs, beq_self_eq_true, Bool.and_self, if_true]
  obtain ⟨g, hg, hgf⟩ := great_eq c.f0 c.f1 c.f2 c.f3 c.f4 c.f5 c.f6 c.f7 hn hk3 wv
  rw [tallboylaw29_FrameAsks.L_eq]
  unfold tallboylaw29_Great.f
  have kt := key true (fun h => by cases h)
  have kg := key g (fun h => (hgf h).1)
  split
  · simp only [Option.bind_some, if_true, kt]
  · split
    · simp only [Option.bind_some, if_true, kt]
    · simp only [Option.bind_some, hg, kg, kt]
      split <;> rfl
end Go.Proofs.Ytdepkgikdmlgiaa.Pure
