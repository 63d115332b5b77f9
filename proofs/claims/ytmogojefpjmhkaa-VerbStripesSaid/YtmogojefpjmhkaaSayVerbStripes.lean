/- What the row of VerbStripes reads, in the print's own words, and the one plain statement that is left. Written by a program. -/
import Derived.Test.YtmogojefpjmhkaaPx18
import Derived.Test.YtmogojefpjmhkaaOpen
namespace Go.Proofs.Ytmogojefpjmhkaa.verbStripes
open Go.RowKit Go.Proofs.Ytmogojefpjmhkaa.P Go.Proofs.Ytmogojefpjmhkaa.Open Go.Proofs.YtmogojefpjmhkaaW.PrintWords Go.Proofs.YtmogojefpjmhkaaW.PrintLast
def W30 (x : S30) : Prop := ((Lit.int .i64 x.f0).wf = true) ∧ ((x.f1).length * Try.prog.bytesOf 9 ≤ 140737488351232 ∧ (x.f1).length ≤ 9223372036854775807 ∧ ∀ y ∈ x.f1, (y).size ≤ 140737488351232) ∧ ((Lit.int .u32 x.f2).wf = true) ∧ ((Lit.int .i64 x.f3).wf = true) ∧ ((x.f4).size ≤ 140737488351232) ∧ ((Lit.int .u64 x.f5).wf = true) ∧ ((Lit.int .u64 x.f6).wf = true) ∧ (True)
theorem opens30 : Opens Try.prog 30 k30 W30 := by
  have h := opens_struct (fun x : S30 => (x.f0, x.f1, x.f2, x.f3, x.f4, x.f5, x.f6, x.f7)) (fun (y : (Int) × (List ByteArray) × (Int) × (Int) × (ByteArray) × (Int) × (Int) × (Bool)) => (⟨y.1, y.2.1, y.2.2.1, y.2.2.2.1, y.2.2.2.2.1, y.2.2.2.2.2.1, y.2.2.2.2.2.2.1, y.2.2.2.2.2.2.2⟩ : S30)) (fun _ => rfl) Try.underlying30 (show Try.prog.cellsOf 30 = 8 by kernel_rfl) (opensL_cons rfl (by kernel_rfl) (opens_int Try.underlying3) (opensL_cons rfl (by kernel_rfl) (opens_slice Try.underlying26 (by kernel_rfl) (opens_string Try.underlying9)) (opensL_cons rfl (by kernel_rfl) (opens_int Try.underlying27) (opensL_cons rfl (by kernel_rfl) (opens_int Try.underlying2) (opensL_cons rfl (by kernel_rfl) (opens_string Try.underlying9) (opensL_cons rfl (by kernel_rfl) (opens_int Try.underlying28) (opensL_cons rfl (by kernel_rfl) (opens_int Try.underlying28) (opensL_one rfl (by kernel_rfl) (opens_bool Try.underlying4)))))))))
  exact h
theorem bytesOf9 : Try.prog.bytesOf 9 = 16 := by kernel_rfl
def Pure : Prop := ∀ (x0 : S30) (x1 : S30), (W30 x0) → (W30 x1) → ∃ k, tallboylaw15_VerbStripes.f k (x0.f0) (x0.f1) (x0.f2) (x0.f3) (x0.f4) (x0.f5) (x0.f6) (x0.f7) (x1.f0) (x1.f1) (x1.f2) (x1.f3) (x1.f4) (x1.f5) (x1.f6) (x1.f7) = some true
end Go.Proofs.Ytmogojefpjmhkaa.verbStripes
