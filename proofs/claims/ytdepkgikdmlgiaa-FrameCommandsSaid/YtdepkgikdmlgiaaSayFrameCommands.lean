/- What the row of FrameCommands reads, in the print's own words, and the one plain statement that is left. Written by a program. -/
import Derived.Test.YtdepkgikdmlgiaaPx45
import Derived.Test.YtdepkgikdmlgiaaOpen
namespace Go.Proofs.Ytdepkgikdmlgiaa.frameCommands
open Go.RowKit Go.Proofs.Ytdepkgikdmlgiaa.P Go.Proofs.Ytdepkgikdmlgiaa.Open Go.Proofs.YtdepkgikdmlgiaaW.PrintWords Go.Proofs.YtdepkgikdmlgiaaW.PrintLast
def W70 (x : S70) : Prop := ((Lit.int .i64 x.f0).wf = true) ∧ ((x.f1).length * Try.prog.bytesOf 9 ≤ 140737488351232 ∧ (x.f1).length ≤ 9223372036854775807 ∧ ∀ y ∈ x.f1, (y).size ≤ 140737488351232) ∧ ((Lit.int .u32 x.f2).wf = true) ∧ ((Lit.int .i64 x.f3).wf = true) ∧ ((x.f4).size ≤ 140737488351232) ∧ ((Lit.int .u64 x.f5).wf = true) ∧ ((Lit.int .u64 x.f6).wf = true) ∧ (True)
theorem opens70 : Opens Try.prog 70 k70 W70 := by
  have h := opens_struct (fun x : S70 => (x.f0, x.f1, x.f2, x.f3, x.f4, x.f5, x.f6, x.f7)) (fun (y : (Int) × (List ByteArray) × (Int) × (Int) × (ByteArray) × (Int) × (Int) × (Bool)) => (⟨y.1, y.2.1, y.2.2.1, y.2.2.2.1, y.2.2.2.2.1, y.2.2.2.2.2.1, y.2.2.2.2.2.2.1, y.2.2.2.2.2.2.2⟩ : S70)) (fun _ => rfl) Try.underlying70 (show Try.prog.cellsOf 70 = 8 by kernel_rfl) (opensL_cons rfl (by kernel_rfl) (opens_int Try.underlying3) (opensL_cons rfl (by kernel_rfl) (opens_slice Try.underlying68 (by kernel_rfl) (opens_string Try.underlying9)) (opensL_cons rfl (by kernel_rfl) (opens_int Try.underlying23) (opensL_cons rfl (by kernel_rfl) (opens_int Try.underlying2) (opensL_cons rfl (by kernel_rfl) (opens_string Try.underlying9) (opensL_cons rfl (by kernel_rfl) (opens_int Try.underlying24) (opensL_cons rfl (by kernel_rfl) (opens_int Try.underlying24) (opensL_one rfl (by kernel_rfl) (opens_bool Try.underlying4)))))))))
  exact h
def W97 (x : S97) : Prop := ((x.f0).size ≤ 140737488351232) ∧ ((Lit.int .u32 x.f1).wf = true) ∧ ((x.f2).size ≤ 140737488351232) ∧ ((Lit.int .u64 x.f3).wf = true)
theorem opens97 : Opens Try.prog 97 k97 W97 := by
  have h := opens_struct (fun x : S97 => (x.f0, x.f1, x.f2, x.f3)) (fun (y : (ByteArray) × (Int) × (ByteArray) × (Int)) => (⟨y.1, y.2.1, y.2.2.1, y.2.2.2⟩ : S97)) (fun _ => rfl) Try.underlying97 (show Try.prog.cellsOf 97 = 4 by kernel_rfl) (opensL_cons rfl (by kernel_rfl) (opens_string Try.underlying9) (opensL_cons rfl (by kernel_rfl) (opens_int Try.underlying23) (opensL_cons rfl (by kernel_rfl) (opens_string Try.underlying9) (opensL_one rfl (by kernel_rfl) (opens_int Try.underlying24)))))
  exact h
def W55 (x : S55) : Prop := ((Lit.int .i64 x.f0).wf = true) ∧ ((x.f1).length * Try.prog.bytesOf 97 ≤ 140737488351232 ∧ (x.f1).length ≤ 9223372036854775807 ∧ ∀ y ∈ x.f1, W97 y) ∧ ((Lit.int .u64 x.f2).wf = true)
theorem opens55 : Opens Try.prog 55 k55 W55 := by
  have h := opens_struct (fun x : S55 => (x.f0, x.f1, x.f2)) (fun (y : (Int) × (List (S97)) × (Int)) => (⟨y.1, y.2.1, y.2.2⟩ : S55)) (fun _ => rfl) Try.underlying55 (show Try.prog.cellsOf 55 = 3 by kernel_rfl) (opensL_cons rfl (by kernel_rfl) (opens_int Try.underlying3) (opensL_cons rfl (by kernel_rfl) (opens_slice Try.underlying53 (by kernel_rfl) opens97) (opensL_one rfl (by kernel_rfl) (opens_int Try.underlying24))))
  exact h
theorem bytesOf9 : Try.prog.bytesOf 9 = 16 := by kernel_rfl
theorem bytesOf97 : Try.prog.bytesOf 97 = 48 := by kernel_rfl
def Pure : Prop := ∀ (x0 : S70) (x1 : Int) (x2 : S55), (W70 x0) → ((Lit.int .u32 x1).wf = true) → (W55 x2) → ∃ k, tallboylaw29_FrameCommands.f k (x0.f0) (x0.f1) (x0.f2) (x0.f3) (x0.f4) (x0.f5) (x0.f6) (x0.f7) (x1) (x2.f0) (x2.f1) (x2.f2) = some true
end Go.Proofs.Ytdepkgikdmlgiaa.frameCommands
