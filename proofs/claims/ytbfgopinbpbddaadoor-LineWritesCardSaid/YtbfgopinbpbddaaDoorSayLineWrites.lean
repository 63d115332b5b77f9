/- What the row of LineWrites reads, in the print's own words, and the one plain statement that is left. Written by a program. -/
import Derived.Test.YtbfgopinbpbddaaDoorPx19
import Derived.Test.YtbfgopinbpbddaaDoorOpen
namespace Go.Proofs.YtbfgopinbpbddaaDoor.lineWrites
open Go.RowKit Go.Proofs.YtbfgopinbpbddaaDoor.P Go.Proofs.YtbfgopinbpbddaaDoor.Open Go.Proofs.YtbfgopinbpbddaaDoorW.PrintWords Go.Proofs.YtbfgopinbpbddaaDoorW.PrintLast
def W26 (x : S26) : Prop := ((Lit.int .i64 x.f0).wf = true) ∧ ((x.f1).length * Tryd.prog.bytesOf 9 ≤ 140737488351232 ∧ (x.f1).length ≤ 9223372036854775807 ∧ ∀ y ∈ x.f1, (y).size ≤ 140737488351232) ∧ ((Lit.int .u32 x.f2).wf = true) ∧ ((Lit.int .i64 x.f3).wf = true) ∧ ((x.f4).size ≤ 140737488351232) ∧ ((Lit.int .u64 x.f5).wf = true) ∧ ((Lit.int .u64 x.f6).wf = true) ∧ (True)
theorem opens26 : Opens Tryd.prog 26 k26 W26 := by
  have h := opens_struct (fun x : S26 => (x.f0, x.f1, x.f2, x.f3, x.f4, x.f5, x.f6, x.f7)) (fun (y : (Int) × (List ByteArray) × (Int) × (Int) × (ByteArray) × (Int) × (Int) × (Bool)) => (⟨y.1, y.2.1, y.2.2.1, y.2.2.2.1, y.2.2.2.2.1, y.2.2.2.2.2.1, y.2.2.2.2.2.2.1, y.2.2.2.2.2.2.2⟩ : S26)) (fun _ => rfl) Tryd.underlying26 (show Tryd.prog.cellsOf 26 = 8 by kernel_rfl) (opensL_cons rfl (by kernel_rfl) (opens_int Tryd.underlying3) (opensL_cons rfl (by kernel_rfl) (opens_slice Tryd.underlying22 (by kernel_rfl) (opens_string Tryd.underlying9)) (opensL_cons rfl (by kernel_rfl) (opens_int Tryd.underlying23) (opensL_cons rfl (by kernel_rfl) (opens_int Tryd.underlying2) (opensL_cons rfl (by kernel_rfl) (opens_string Tryd.underlying9) (opensL_cons rfl (by kernel_rfl) (opens_int Tryd.underlying24) (opensL_cons rfl (by kernel_rfl) (opens_int Tryd.underlying24) (opensL_one rfl (by kernel_rfl) (opens_bool Tryd.underlying4)))))))))
  exact h
theorem bytesOf9 : Tryd.prog.bytesOf 9 = 16 := by kernel_rfl
def Pure : Prop := ∀ (x0 : S26), (W26 x0) → ∃ k, tallboylaw17_LineWrites.f k (x0.f0) (x0.f1) (x0.f2) (x0.f3) (x0.f4) (x0.f5) (x0.f6) (x0.f7) = some true
end Go.Proofs.YtbfgopinbpbddaaDoor.lineWrites
