/- Lean functions for the Go functions that the laws of this seat use, and the proofs that the Go code computes them; conditions: the readings that each theorem names. Written by a program. -/
import Derived.Test.YtdepkgikdmlgiaaPx0
import Derived.Test.YtdepkgikdmlgiaaShort
import Derived.Test.YtdepkgikdmlgiaaFr7
namespace Go.Proofs.Ytdepkgikdmlgiaa.P
open Go.RowKit Go.Proofs.YtdepkgikdmlgiaaW.PrintWords Go.Proofs.YtdepkgikdmlgiaaW.PrintLast Go.Proofs.YtdepkgikdmlgiaaW.PrintMore
set_option linter.unusedVariables false
set_option linter.unusedSimpArgs false

-- HAND
-- FN tallboy/tallboylaw29.FrameOnce
-- ROUNDS 0
-- MAKING 1
-- FAMS frame
-- IMPORT Derived.Test.YtdepkgikdmlgiaaFr7
/-! ### tallboylaw29.FrameOnce -/
def tallboylaw29_FrameOnce.rng (x : S26) : Bool := decide (0 ≤ x.f1) && decide (x.f1 < 256) && (decide (0 ≤ x.f2) && decide (x.f2 < 65536)) && (decide (0 ≤ x.f3) && decide (x.f3 < 4294967296)) && (decide (0 ≤ x.f4) && decide (x.f4 < 18446744073709551616))
theorem tallboylaw29_FrameOnce.rng_ok {x : S26} (h : tallboylaw29_FrameOnce.rng x = true) : fOk x := by
 simp only [tallboylaw29_FrameOnce.rng, Bool.and_eq_true, decide_eq_true_eq] at h; obtain ⟨⟨⟨h1, h2⟩, h3⟩, h4⟩ := h; exact ⟨h1, h2, h3, h4⟩
def tallboylaw29_FrameOnce.f (l0 : List S26) (a1 : Int) (l2 : List Int) : Option Bool := if (l0.all tallboylaw29_FrameOnce.rng && (decide (0 ≤ a1) && decide (a1 < 256))) = true then some true else none
theorem tallboylaw29_FrameOnce.calls (A0 : Option Addr) (c0 : Nat) (l0 : List S26) (a1 : Int) (A2 : Option Addr) (c2 : Nat) (l2 : List Int) (r : Bool) (w : World) (hr0 : Kd.C k26 w A0 l0.length l0) (hc0 : l0.length ≤ c0) (hr2 : Kd.C (Kd.int .u8) w A2 l2.length l2) (hc2 : l2.length ≤ c2) (h : tallboylaw29_FrameOnce.f l0 a1 l2 = some r) :
  Calls Try.prog 10 #[.slice A0 l0.length c0, .int .u8 a1, .slice A2 l2.length c2] w fun e w' => e = .returned (.bool r) ∧ Below w.heap.size w w' := by
 unfold tallboylaw29_FrameOnce.f at h
 split at h
 ·rename_i hq
  obtain rfl := Option.some.inj h; simp only [Bool.and_eq_true, decide_eq_true_eq, List.all_eq_true] at hq; exact fo_law 60 w A0 c0 l0 a1 A2 c2 l2 hr0 hc0 hr2 hc2 (fun x hx => tallboylaw29_FrameOnce.rng_ok (hq.1 x hx)) hq.2 (by decide +kernel)
 ·cases h

end Go.Proofs.Ytdepkgikdmlgiaa.P
