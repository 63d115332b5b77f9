/- What the row of FramePieces reads, in the print's own words, and the one plain statement that is left. Written by a program. -/
import Derived.Test.YtdepkgikdmlgiaaPx47
import Derived.Test.YtdepkgikdmlgiaaOpen
namespace Go.Proofs.Ytdepkgikdmlgiaa.framePieces
open Go.RowKit Go.Proofs.Ytdepkgikdmlgiaa.P Go.Proofs.Ytdepkgikdmlgiaa.Open Go.Proofs.YtdepkgikdmlgiaaW.PrintWords Go.Proofs.YtdepkgikdmlgiaaW.PrintLast
def W26 (x : S26) : Prop := (True) ∧ ((Lit.int .u8 x.f1).wf = true) ∧ ((Lit.int .u16 x.f2).wf = true) ∧ ((Lit.int .u32 x.f3).wf = true) ∧ ((Lit.int .u64 x.f4).wf = true) ∧ ((x.f5).size ≤ 140737488351232) ∧ ((x.f6).size ≤ 140737488351232) ∧ ((x.f7).size ≤ 140737488351232)
theorem opens26 : Opens Try.prog 26 k26 W26 := by
  have h := opens_struct (fun x : S26 => (x.f0, x.f1, x.f2, x.f3, x.f4, x.f5, x.f6, x.f7)) (fun (y : (Bool) × (Int) × (Int) × (Int) × (Int) × (ByteArray) × (ByteArray) × (ByteArray)) => (⟨y.1, y.2.1, y.2.2.1, y.2.2.2.1, y.2.2.2.2.1, y.2.2.2.2.2.1, y.2.2.2.2.2.2.1, y.2.2.2.2.2.2.2⟩ : S26)) (fun _ => rfl) Try.underlying26 (show Try.prog.cellsOf 26 = 8 by kernel_rfl) (opensL_cons rfl (by kernel_rfl) (opens_bool Try.underlying4) (opensL_cons rfl (by kernel_rfl) (opens_int Try.underlying5) (opensL_cons rfl (by kernel_rfl) (opens_int Try.underlying22) (opensL_cons rfl (by kernel_rfl) (opens_int Try.underlying23) (opensL_cons rfl (by kernel_rfl) (opens_int Try.underlying24) (opensL_cons rfl (by kernel_rfl) (opens_string Try.underlying9) (opensL_cons rfl (by kernel_rfl) (opens_string Try.underlying9) (opensL_one rfl (by kernel_rfl) (opens_string Try.underlying9)))))))))
  exact h
def Pure : Prop := ∀ (x0 : List (S26)) (x1 : List Int), ((x0).length * Try.prog.bytesOf 26 ≤ 140737488351232 ∧ (x0).length ≤ 9223372036854775807 ∧ ∀ y ∈ x0, W26 y) → ((x1).length * Try.prog.bytesOf 3 ≤ 140737488351232 ∧ (x1).length ≤ 9223372036854775807 ∧ ∀ y ∈ x1, (Lit.int .i64 y).wf = true) → tallboylaw29_FramePieces.f (x0) (x1) = some true
end Go.Proofs.Ytdepkgikdmlgiaa.framePieces
