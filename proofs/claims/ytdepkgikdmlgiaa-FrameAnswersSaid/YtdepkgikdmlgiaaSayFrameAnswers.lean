/- What the row of FrameAnswers reads, in the print's own words, and the one plain statement that is left. Written by a program. -/
import Derived.Test.YtdepkgikdmlgiaaPx22
import Derived.Test.YtdepkgikdmlgiaaOpen
namespace Go.Proofs.Ytdepkgikdmlgiaa.frameAnswers
open Go.RowKit Go.Proofs.Ytdepkgikdmlgiaa.P Go.Proofs.Ytdepkgikdmlgiaa.Open Go.Proofs.YtdepkgikdmlgiaaW.PrintWords Go.Proofs.YtdepkgikdmlgiaaW.PrintLast
def W26 (x : S26) : Prop := (True) ∧ ((Lit.int .u8 x.f1).wf = true) ∧ ((Lit.int .u16 x.f2).wf = true) ∧ ((Lit.int .u32 x.f3).wf = true) ∧ ((Lit.int .u64 x.f4).wf = true) ∧ ((x.f5).size ≤ 140737488351232) ∧ ((x.f6).size ≤ 140737488351232) ∧ ((x.f7).size ≤ 140737488351232)
theorem opens26 : Opens Try.prog 26 k26 W26 := by
  have h := opens_struct (fun x : S26 => (x.f0, x.f1, x.f2, x.f3, x.f4, x.f5, x.f6, x.f7)) (fun (y : (Bool) × (Int) × (Int) × (Int) × (Int) × (ByteArray) × (ByteArray) × (ByteArray)) => (⟨y.1, y.2.1, y.2.2.1, y.2.2.2.1, y.2.2.2.2.1, y.2.2.2.2.2.1, y.2.2.2.2.2.2.1, y.2.2.2.2.2.2.2⟩ : S26)) (fun _ => rfl) Try.underlying26 (show Try.prog.cellsOf 26 = 8 by kernel_rfl) (opensL_cons rfl (by kernel_rfl) (opens_bool Try.underlying4) (opensL_cons rfl (by kernel_rfl) (opens_int Try.underlying5) (opensL_cons rfl (by kernel_rfl) (opens_int Try.underlying22) (opensL_cons rfl (by kernel_rfl) (opens_int Try.underlying23) (opensL_cons rfl (by kernel_rfl) (opens_int Try.underlying24) (opensL_cons rfl (by kernel_rfl) (opens_string Try.underlying9) (opensL_cons rfl (by kernel_rfl) (opens_string Try.underlying9) (opensL_one rfl (by kernel_rfl) (opens_string Try.underlying9)))))))))
  exact h
def W97 (x : S97) : Prop := ((x.f0).size ≤ 140737488351232) ∧ ((Lit.int .u32 x.f1).wf = true) ∧ ((x.f2).size ≤ 140737488351232) ∧ ((Lit.int .u64 x.f3).wf = true)
theorem opens97 : Opens Try.prog 97 k97 W97 := by
  have h := opens_struct (fun x : S97 => (x.f0, x.f1, x.f2, x.f3)) (fun (y : (ByteArray) × (Int) × (ByteArray) × (Int)) => (⟨y.1, y.2.1, y.2.2.1, y.2.2.2⟩ : S97)) (fun _ => rfl) Try.underlying97 (show Try.prog.cellsOf 97 = 4 by kernel_rfl) (opensL_cons rfl (by kernel_rfl) (opens_string Try.underlying9) (opensL_cons rfl (by kernel_rfl) (opens_int Try.underlying23) (opensL_cons rfl (by kernel_rfl) (opens_string Try.underlying9) (opensL_one rfl (by kernel_rfl) (opens_int Try.underlying24)))))
  exact h
def W55 (x : S55) : Prop := ((Lit.int .i64 x.f0).wf = true) ∧ ((x.f1).length * Try.prog.bytesOf 97 ≤ 140737488351232 ∧ (x.f1).length ≤ 9223372036854775807 ∧ ∀ y ∈ x.f1, W97 y) ∧ ((Lit.int .u64 x.f2).wf = true)
theorem opens55 : Opens Try.prog 55 k55 W55 := by
  have h := opens_struct (fun x : S55 => (x.f0, x.f1, x.f2)) (fun (y : (Int) × (List (S97)) × (Int)) => (⟨y.1, y.2.1, y.2.2⟩ : S55)) (fun _ => rfl) Try.underlying55 (show Try.prog.cellsOf 55 = 3 by kernel_rfl) (opensL_cons rfl (by kernel_rfl) (opens_int Try.underlying3) (opensL_cons rfl (by kernel_rfl) (opens_slice Try.underlying53 (by kernel_rfl) opens97) (opensL_one rfl (by kernel_rfl) (opens_int Try.underlying24))))
  exact h
theorem bytesOf97 : Try.prog.bytesOf 97 = 48 := by kernel_rfl
def Pure : Prop := ∀ (x0 : S26) (x1 : S55) (x2 : Int) (x3 : Int), (W26 x0) → (W55 x1) → ((Lit.int .u64 x2).wf = true) → ((Lit.int .i64 x3).wf = true) → ∃ k, tallboylaw29_FrameAnswers.f k (x0.f0) (x0.f1) (x0.f2) (x0.f3) (x0.f4) (x0.f5) (x0.f6) (x0.f7) (x1.f0) (x1.f1) (x1.f2) (x2) (x3) = some true
end Go.Proofs.Ytdepkgikdmlgiaa.frameAnswers
