/- Lean functions for the Go functions that the laws of this seat use, and the proofs that the Go code computes them; conditions: the readings that each theorem names. Written by a program. -/
import Derived.Test.YtdepkgikdmlgiaaPx0
import Derived.Test.YtdepkgikdmlgiaaShort
import Derived.Test.YtdepkgikdmlgiaaFr8
namespace Go.Proofs.Ytdepkgikdmlgiaa.P
open Go.RowKit Go.Proofs.YtdepkgikdmlgiaaW.PrintWords Go.Proofs.YtdepkgikdmlgiaaW.PrintLast Go.Proofs.YtdepkgikdmlgiaaW.PrintMore
set_option linter.unusedVariables false
set_option linter.unusedSimpArgs false

-- HAND
-- FN tallboy/tallboylaw29.FramePieces
-- ROUNDS 0
-- MAKING 1
-- FAMS frame
-- IMPORT Derived.Test.YtdepkgikdmlgiaaFr8
/-! ### tallboylaw29.FramePieces -/
def tallboylaw29_FramePieces.rng (x : S26) : Bool := decide (0 ≤ x.f1) && decide (x.f1 < 256) && (decide (0 ≤ x.f2) && decide (x.f2 < 65536)) && (decide (0 ≤ x.f3) && decide (x.f3 < 4294967296)) && (decide (0 ≤ x.f4) && decide (x.f4 < 18446744073709551616))
theorem tallboylaw29_FramePieces.rng_ok {x : S26} (h : tallboylaw29_FramePieces.rng x = true) : fOk x := by
 simp only [tallboylaw29_FramePieces.rng, Bool.and_eq_true, decide_eq_true_eq] at h; obtain ⟨⟨⟨h1, h2⟩, h3⟩, h4⟩ := h; exact ⟨h1, h2, h3, h4⟩
def tallboylaw29_FramePieces.f (l0 : List S26) (l1 : List Int) : Option Bool := if l0.all tallboylaw29_FramePieces.rng = true then some true else none
theorem tallboylaw29_FramePieces.calls (A0 : Option Addr) (c0 : Nat) (l0 : List S26) (A1 : Option Addr) (c1 : Nat) (l1 : List Int) (r : Bool) (w : World) (hr0 : Kd.C k26 w A0 l0.length l0) (hc0 : l0.length ≤ c0) (hr1 : Kd.C (Kd.int .i64) w A1 l1.length l1) (hc1 : l1.length ≤ c1) (h : tallboylaw29_FramePieces.f l0 l1 = some r) :
  Calls Try.prog 9 #[.slice A0 l0.length c0, .slice A1 l1.length c1] w fun e w' => e = .returned (.bool r) ∧ Below w.heap.size w w' := by
 unfold tallboylaw29_FramePieces.f at h
 split at h
 ·rename_i hq
  obtain rfl := Option.some.inj h; exact fp_law 60 w A0 c0 l0 A1 c1 l1 hr0 hc0 hr1 hc1 (fun x hx => tallboylaw29_FramePieces.rng_ok (List.all_eq_true.1 hq x hx)) (by decide +kernel)
 ·cases h

end Go.Proofs.Ytdepkgikdmlgiaa.P
