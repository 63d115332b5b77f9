/- A result's hits, read one behind another, by the program. Plain Lean; conditions: texts of at most 1000000 bytes. -/
import Derived.Test.YtdgpagocccabdaaDoorRr7
namespace Go.Proofs.YtdgpagocccabdaaDoor.Pl
set_option linter.unusedVariables false
set_option linter.unusedSimpArgs false
open Go Go.RowKit Go.Proofs.YtdgpagocccabdaaDoor.P Go.Proofs.YtdgpagocccabdaaDoor.Lim Go.Proofs.YtdgpagocccabdaaDoorW.PrintWords
theorem carry {α : Type} {f : Nat → Option α} (h : ∀ k, LeO (f k) (f (k + 1))) {k : Nat} {x : α} (hk : f k = some x) : ∀ d, f (k + d) = some x
  | 0 => hk
  | d + 1 => h (k + d) x (carry h hk d)
def z6 : Int × List S60 × Int × Int × Int := (0, [], 0, 0, 6)
def endL : List UInt8 := [69, 78, 68, 13, 10]
def hitsV (k : Int) (s : ByteArray) : Nat → ByteArray → List S60 → Int × List S60 × Int × Int × Int
  | 0, _, _ => z6
  | d + 1, rest, hs => if hs.length ≤ 100 then (if Lib.hasPrefix rest.data.toList endL = true then (1, hs, 0, wrap64 ((s.size : Int) - (((⟨(Lib.trimPrefix rest.data.toList endL).toArray⟩ : ByteArray)).size : Int)), 0) else if (hitV k rest).2.2.2.2.2 = true then hitsV k s d (hitV k rest).2.2.2.2.1 (hs ++ [⟨(hitV k rest).1, (hitV k rest).2.1, (hitV k rest).2.2.1, (hitV k rest).2.2.2.1⟩]) else z6) else z6
theorem hit_left (k : Int) (s : ByteArray) (h : (hitV k s).2.2.2.2.2 = true) : (hitV k s).2.2.2.2.1.size ≤ s.size := by
  obtain ⟨-, h2⟩ := hit_both k s
  obtain ⟨-, -, -, -, n, -, hn, he⟩ := h2 h
  rw [he, ByteArray.size_extract]
  omega
theorem hits_at (k : Int) (s : ByteArray) (d : Nat) : ∀ (rest : ByteArray) (hs : List S60), rest.size ≤ 1000000 → hs.length + d = 102 → hs.length ≤ 101 → ∃ kk, reply_Read.hits kk k s d rest hs = some (hitsV k s d rest hs) := by
  induction d with
  | zero => intro rest hs _ h1 h2; omega
  | succ d ih =>
    intro rest hs hr h1 h2
    unfold hitsV
    by_cases h3 : hs.length ≤ 100
    · rw [if_pos h3]
      by_cases hp : Lib.hasPrefix rest.data.toList endL = true
      · refine ⟨0, ?_⟩
        rw [if_pos hp]
        simp only [reply_Read.hits]
        rw [if_pos h3]
        unfold strings_CutPrefix.f
        rw [Option.bind_some]
        dsimp only
        rw [if_pos (show Lib.hasPrefix rest.data.toList (⟨#[69, 78, 68, 13, 10]⟩ : ByteArray).data.toList = true from hp)]
        rfl
      · rw [if_neg hp]
        obtain ⟨k1, e1⟩ := (reply_hit.Llm k rest).rounds (hit_eq k rest hr)
        cases hk : (hitV k rest).2.2.2.2.2 with
        | false =>
          refine ⟨k1, ?_⟩
          simp only [reply_Read.hits]
          rw [if_pos h3]
          unfold strings_CutPrefix.f
          rw [Option.bind_some]
          dsimp only
          rw [if_neg (show ¬ Lib.hasPrefix rest.data.toList (⟨#[69, 78, 68, 13, 10]⟩ : ByteArray).data.toList = true from hp), e1, Option.bind_some, hk]
          rfl
        | true =>
          obtain ⟨k2, e2⟩ := ih (hitV k rest).2.2.2.2.1 (hs ++ [⟨(hitV k rest).1, (hitV k rest).2.1, (hitV k rest).2.2.1, (hitV k rest).2.2.2.1⟩]) (by have := hit_left k rest hk; omega) (by rw [List.length_append, List.length_singleton]; omega) (by rw [List.length_append, List.length_singleton]; omega)
          have a1 := carry (f := fun q => reply_hit.f q k rest) (fun q => reply_hit.mono k rest q) e1 k2
          have a2 := carry (f := fun q => reply_Read.hits q k s d (hitV k rest).2.2.2.2.1 (hs ++ [⟨(hitV k rest).1, (hitV k rest).2.1, (hitV k rest).2.2.1, (hitV k rest).2.2.2.1⟩])) (fun q => reply_Read.mono_hits q k s d _ _) e2 k1
          rw [Nat.add_comm] at a2
          refine ⟨k1 + k2, ?_⟩
          simp only [reply_Read.hits]
          rw [if_pos h3]
          unfold strings_CutPrefix.f
          rw [Option.bind_some]
          dsimp only at a1 a2 ⊢
          rw [if_neg (show ¬ Lib.hasPrefix rest.data.toList (⟨#[69, 78, 68, 13, 10]⟩ : ByteArray).data.toList = true from hp), a1, Option.bind_some, hk, if_pos rfl, if_pos trivial]
          exact a2
    · refine ⟨0, ?_⟩
      simp only [reply_Read.hits]
      rw [if_neg h3, if_neg h3]
      rfl
end Go.Proofs.YtdgpagocccabdaaDoor.Pl
