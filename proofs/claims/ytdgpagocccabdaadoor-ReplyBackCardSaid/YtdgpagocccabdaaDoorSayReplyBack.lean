/- What the row of ReplyBack reads, in the print's own words, and the one plain statement that is left. Written by a program. -/
import Derived.Test.YtdgpagocccabdaaDoorPx33
import Derived.Test.YtdgpagocccabdaaDoorOpen
namespace Go.Proofs.YtdgpagocccabdaaDoor.replyBack
open Go.RowKit Go.Proofs.YtdgpagocccabdaaDoor.P Go.Proofs.YtdgpagocccabdaaDoor.Open Go.Proofs.YtdgpagocccabdaaDoorW.PrintWords Go.Proofs.YtdgpagocccabdaaDoorW.PrintLast
def W47 (x : S47) : Prop := ((x.f0).size ≤ 140737488351232) ∧ ((Lit.int .u32 x.f1).wf = true) ∧ ((x.f2).size ≤ 140737488351232) ∧ ((Lit.int .u64 x.f3).wf = true)
theorem opens47 : Opens Tryd.prog 47 k47 W47 := by
  have h := opens_struct (fun x : S47 => (x.f0, x.f1, x.f2, x.f3)) (fun (y : (ByteArray) × (Int) × (ByteArray) × (Int)) => (⟨y.1, y.2.1, y.2.2.1, y.2.2.2⟩ : S47)) (fun _ => rfl) Tryd.underlying47 (show Tryd.prog.cellsOf 47 = 4 by kernel_rfl) (opensL_cons rfl (by kernel_rfl) (opens_string Tryd.underlying9) (opensL_cons rfl (by kernel_rfl) (opens_int Tryd.underlying45) (opensL_cons rfl (by kernel_rfl) (opens_string Tryd.underlying9) (opensL_one rfl (by kernel_rfl) (opens_int Tryd.underlying23)))))
  exact h
def W25 (x : S25) : Prop := ((Lit.int .i64 x.f0).wf = true) ∧ ((x.f1).length * Tryd.prog.bytesOf 47 ≤ 140737488351232 ∧ (x.f1).length ≤ 9223372036854775807 ∧ ∀ y ∈ x.f1, W47 y) ∧ ((Lit.int .u64 x.f2).wf = true)
theorem opens25 : Opens Tryd.prog 25 k25 W25 := by
  have h := opens_struct (fun x : S25 => (x.f0, x.f1, x.f2)) (fun (y : (Int) × (List (S47)) × (Int)) => (⟨y.1, y.2.1, y.2.2⟩ : S25)) (fun _ => rfl) Tryd.underlying25 (show Tryd.prog.cellsOf 25 = 3 by kernel_rfl) (opensL_cons rfl (by kernel_rfl) (opens_int Tryd.underlying3) (opensL_cons rfl (by kernel_rfl) (opens_slice Tryd.underlying22 (by kernel_rfl) opens47) (opensL_one rfl (by kernel_rfl) (opens_int Tryd.underlying23))))
  exact h
theorem bytesOf47 : Tryd.prog.bytesOf 47 = 48 := by kernel_rfl
def Pure : Prop := ∀ (x0 : Int) (x1 : S25) (x2 : ByteArray), ((Lit.int .i64 x0).wf = true) → (W25 x1) → ((x2).size ≤ 140737488351232) → ∃ k, tallboylaw18_ReplyBack.f k (x0) (x1.f0) (x1.f1) (x1.f2) (x2) = some true
end Go.Proofs.YtdgpagocccabdaaDoor.replyBack
