/- FrameBack, in plain Lean: a frame's bytes, with anything behind, are that frame; fewer of them are no frame yet. No condition. -/
import Derived.Test.YtdepkgikdmlgiaaSayFrameBack
import Derived.Test.YtdepkgikdmlgiaaLmFrameBack
import Derived.Test.YtdepkgikdmlgiaaBck
import Derived.DataShut
namespace Go.Proofs.Ytdepkgikdmlgiaa.Pure
open Go Go.RowKit Go.Proofs.Ytdepkgikdmlgiaa.P Go.Proofs.Ytdepkgikdmlgiaa.Lim Go.Proofs.Ytdepkgikdmlgiaa.Pl Go.Proofs.Ytdepkgikdmlgiaa.Open Go.Proofs.YtdepkgikdmlgiaaW.PrintWords
theorem works_ok : tallboylaw29_works.L = some true := tallboylaw29_works.Llm.2 60 true (by decide +kernel)
theorem FrameBack : frameBack.Pure := by
  intro f more cut hf hm hc
  obtain ⟨-, h1, h2, h3, h4, -, -, -⟩ := hf
  have q1 : 0 ≤ f.f1 ∧ f.f1 ≤ 255 := (Lit.wf_int_iff .u8 f.f1).1 h1
  have q2 : 0 ≤ f.f2 ∧ f.f2 ≤ 65535 := (Lit.wf_int_iff .u16 f.f2).1 h2
  have q3 : 0 ≤ f.f3 ∧ f.f3 ≤ 4294967295 := (Lit.wf_int_iff .u32 f.f3).1 h3
  have q4 : 0 ≤ f.f4 ∧ f.f4 ≤ 18446744073709551615 := (Lit.wf_int_iff .u64 f.f4).1 h4
  refine (tallboylaw29_FrameBack.Llm _ _ _ _ _ _ _ _ _ _).rounds ?_
  have g1 : 0 ≤ f.f1 ∧ f.f1 < 256 := by omega
  have g2 : 0 ≤ f.f2 ∧ f.f2 < 65536 := by omega
  have g3 : 0 ≤ f.f3 ∧ f.f3 < 4294967296 := by omega
  have g4 : 0 ≤ f.f4 ∧ f.f4 < 18446744073709551616 := by omega
  have key : ∀ b, (b = false → more.size ≤ 1000) → tallboylaw29_FrameBack.j0L more cut b f.f0 f.f1 f.f2 f.f3 f.f4 f.f5 f.f6 f.f7 = some true := by
    intro b hb
    rw [tallboylaw29_FrameBack.j0L_eq]
    cases b with
    | true => rfl
    | false =>
      have hmore := hb rfl
      rw [if_neg (by decide)]
      have P := fpack_eq f.f0 f.f1 f.f2 f.f3 f.f4 f.f5 f.f6 f.f7 g1 g2 g3
      by_cases ok : okF f.f0 f.f2 f.f5.size f.f6.size f.f7.size
      · simp only [tallboylaw29_To.f, tallboylaw29_From.f, Option.bind_some, P.1 ok, if_true]
        have A := unp_pk f.f0 f.f1 f.f2 f.f3 f.f4 f.f5 f.f6 f.f7 more g1 g2 g3 g4 ok
        have B := fun n hn => unp_cut f.f0 f.f1 f.f2 f.f3 f.f4 f.f5 f.f6 f.f7 n hn g1 g2 g3 g4 ok
        have hS := pk_size f.f0 f.f1 f.f2 f.f3 f.f4 f.f5 f.f6 f.f7
        obtain ⟨k1, k2, k3, -⟩ := ok
        clear P h1 h2 h3 h4 q1 q2 q3 q4 hc
        generalize pkV f.f0 f.f1 f.f2 f.f3 f.f4 f.f5 f.f6 f.f7 = S at A B hS ⊢
        rw [← hS] at A B
        have e1 : IntKind.u64.wrap (S.size : Int) = (S.size : Int) := by
          rw [IntKind.wrap_u64]
          omega
        have hd : (0 : Int) < (S.size : Int) := by omega
        have hu : 0 ≤ IntKind.u64.wrap cut := by
          rw [IntKind.wrap_u64]
          omega
        have t0 : 0 ≤ Int.tmod (IntKind.u64.wrap cut) (S.size : Int) := Int.tmod_nonneg _ hu
        have t1 : Int.tmod (IntKind.u64.wrap cut) (S.size : Int) < (S.size : Int) := Int.tmod_lt_of_pos _ hd
        obtain ⟨n, hn⟩ := Int.eq_ofNat_of_zero_le t0
        rw [hn] at t1
        rw [e1]
        clear e1 hu t0
        rw [hn]
        clear hn
        have hn : n < S.size := by omega
        have hw : wrap64 ((n : Nat) : Int) = ((n : Nat) : Int) := w64 (by omega) (by omega)
        have e2 : wrap64 (wrap64 (wrap64 (24 + (f.f5.size : Int)) + (f.f6.size : Int)) + (f.f7.size : Int)) = (S.size : Int) := by
          rw [w64 (i := 24 + (f.f5.size : Int)) (by omega) (by omega), w64 (i := 24 + (f.f5.size : Int) + (f.f6.size : Int)) (by omega) (by omega), w64 (by omega) (by omega)]
          omega
        rw [hw, e2]
        clear hw e2
        rw [if_pos (show S.size + more.size ≤ 9223372036854775807 by omega), funp_eq (S ++ more) (by rw [ByteArray.size_append]; omega), Option.bind_some, if_neg (show ¬ ((S.size : Int) = 0) by omega), if_pos (show (0 : Int) ≤ (n : Int) by omega), if_pos (show (n : Int) ≤ (S.size : Int) by omega), Int.toNat_natCast, funp_eq (S.extract 0 n) (by rw [ByteArray.size_extract]; omega), Option.bind_some, A, B n hn]
        simp only [beq_self_eq_true, Bool.and_self, if_true]
        rfl
      · simp only [tallboylaw29_To.f, tallboylaw29_From.f, Option.bind_some, P.2 ok]
        rw [if_neg (show ¬ ((7 : Int) = 0) by decide), if_pos trivial, show (⟨#[]⟩ : ByteArray).toList = [] from (toList_nil _).2 rfl]
        rfl
  rw [tallboylaw29_FrameBack.L_eq, works_ok, Option.bind_some, if_pos rfl]
  unfold tallboylaw29_Great.f
  have kt := key true (fun h => by cases h)
  have kd := key (decide ((more.size : Int) > 1000)) (fun h => by have := of_decide_eq_false h; omega)
  split
  · simp only [Option.bind_some, if_true, kt]
  · split
    · simp only [Option.bind_some, if_true, kt]
    · simp only [Option.bind_some, kd, kt]
      split <;> rfl
end Go.Proofs.Ytdepkgikdmlgiaa.Pure
