/- The answer to any frame, by any result and by any error: the program's is the document's. No condition. -/
import Derived.Test.YtdepkgikdmlgiaaSayFrameAnswers
import Derived.DataShut
import Derived.Test.YtdepkgikdmlgiaaRep
import Derived.Test.YtdepkgikdmlgiaaLmFrameAnswers
namespace Go.Proofs.Ytdepkgikdmlgiaa.Pure
open Go Go.RowKit Go.Proofs.Ytdepkgikdmlgiaa.P Go.Proofs.Ytdepkgikdmlgiaa.Lim Go.Proofs.Ytdepkgikdmlgiaa.Pl

theorem FrameAnswers : frameAnswers.Pure := by
  intro f r cas e hF hR hc _
  obtain ⟨_, hop, _, _, _, _, _, _⟩ := hF
  obtain ⟨_, ⟨hb, _, hy⟩, hn⟩ := hR
  refine (tallboylaw29_FrameAnswers.Llm f.f0 f.f1 f.f2 f.f3 f.f4 f.f5 f.f6 f.f7 r.f0 r.f1 r.f2 cas e).rounds ?_
  rw [frameAnswers.bytesOf97] at hb
  have hl : r.f1.length < 2932031007402 := by omega
  have ho1 : 0 ≤ f.f1 ∧ f.f1 ≤ 255 := (Lit.wf_int_iff .u8 f.f1).1 hop
  have hn1 : 0 ≤ r.f2 ∧ r.f2 ≤ 18446744073709551615 := (Lit.wf_int_iff .u64 r.f2).1 hn
  have ho : 0 ≤ f.f1 ∧ f.f1 < 256 := by omega
  have hn2 : 0 ≤ r.f2 ∧ r.f2 < 18446744073709551616 := by omega
  have key : ∀ b, tallboylaw29_FrameAnswers.j0L cas e b f.f0 f.f1 f.f2 f.f3 f.f4 f.f5 f.f6 f.f7 r.f0 r.f1 r.f2 = some true := by
    intro b
    rw [tallboylaw29_FrameAnswers.j0L_eq]
    cases b with
    | true => rfl
    | false =>
      obtain ⟨v, h1, h2⟩ := reply_eq f.f0 f.f1 f.f2 f.f3 f.f4 f.f5 f.f6 f.f7 r.f0 r.f1 r.f2 cas ho.1 ho.2 hn2.1 hn2.2
      rw [if_neg (by decide)]
      simp only [tallboylaw29_To.f, tallboylaw29_From.f, Option.bind_some, to_eq _ _ _ hl, h1, h2, beq_self_eq_true, Bool.and_self, if_true]
      simp only [frame_Refuse.L_eq, frame_Refuse.j0L_eq, tallboyref29_Refuse.L_eq, tallboyref29_Refuse.j0L_eq]
      by_cases h7 : e = 70
      · simp [h7]
      · by_cases h8 : e = 7 <;> simp [h7, h8]
  rw [tallboylaw29_FrameAnswers.L_eq]
  unfold tallboylaw29_Great.f
  obtain ⟨g, hg⟩ := rgreat_some r.f0 r.f1 r.f2 hl (fun y hm => ⟨(hy y hm).1, (hy y hm).2.2.1⟩)
  split
  · simp only [Option.bind_some, if_true, key]
  · split
    · simp only [Option.bind_some, if_true, key]
    · simp only [Option.bind_some, hg, key]
      split <;> rfl
end Go.Proofs.Ytdepkgikdmlgiaa.Pure
