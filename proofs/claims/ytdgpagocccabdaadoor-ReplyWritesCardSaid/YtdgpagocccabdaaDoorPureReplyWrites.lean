/- ReplyWrites, in plain Lean: any result's bytes, by the program and by the document; and any verdict's. No condition. -/
import Derived.Test.YtdgpagocccabdaaDoorSayReplyWrites
import Derived.Test.YtdgpagocccabdaaDoorRwr
import Derived.DataShut
namespace Go.Proofs.YtdgpagocccabdaaDoor.Pure
open Go Go.RowKit Go.Proofs.YtdgpagocccabdaaDoor.P Go.Proofs.YtdgpagocccabdaaDoor.Lim Go.Proofs.YtdgpagocccabdaaDoor.Pl Go.Proofs.YtdgpagocccabdaaDoorW.PrintWords
theorem okH_of (y : S47) (h : replyWrites.W47 y) : okH y := by
  obtain ⟨_, h1, _, h3⟩ := h
  have q1 : 0 ≤ y.f1 ∧ y.f1 ≤ 4294967295 := (Lit.wf_int_iff .u32 y.f1).1 h1
  have q3 : 0 ≤ y.f3 ∧ y.f3 ≤ 18446744073709551615 := (Lit.wf_int_iff .u64 y.f3).1 h3
  exact ⟨by omega, by omega⟩
theorem ReplyWrites : replyWrites.Pure := by
  intro k r v hk hr hv
  obtain ⟨_, ⟨hb, _, hx⟩, hn⟩ := hr
  have hn : 0 ≤ r.f2 ∧ r.f2 ≤ 18446744073709551615 := (Lit.wf_int_iff .u64 r.f2).1 hn
  have hl : r.f1.length < 2932031007402 := by
    rw [replyWrites.bytesOf47] at hb
    omega
  refine (tallboylaw18_ReplyWrites.Llm k r.f0 r.f1 r.f2 v).rounds ?_
  rw [tallboylaw18_ReplyWrites.L_eq]
  obtain ⟨g, hg, hf⟩ := great_tot r.f0 r.f1 r.f2 hl (fun y hy => ⟨(hx y hy).1, (hx y hy).2.2.1⟩)
  rw [hg, Option.bind_some]
  cases g with
  | true => rfl
  | false =>
    obtain ⟨s, h1, h2⟩ := text_all k r.f0 r.f2 r.f1 (fun y hy => okH_of y (hx y hy)) (hf rfl) hl hn.1 (by omega)
    obtain ⟨t, h3, h4⟩ := compl_eq v
    rw [if_neg (by decide), to_eq r.f0 r.f1 r.f2 hl, Option.bind_some]
    dsimp only
    rw [h1, h2, h3, h4]
    simp only [Option.bind_some, if_true, beq_self_eq_true]
end Go.Proofs.YtdgpagocccabdaaDoor.Pure
