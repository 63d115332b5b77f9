/- Lean functions for the Go functions that the laws of this seat use, and the proofs that the Go code computes them; conditions: the readings that each theorem names. Written by a program. -/
import Derived.Test.YtdgpagocccabdaaDoorPx0
import Derived.Test.YtdgpagocccabdaaDoorShort
namespace Go.Proofs.YtdgpagocccabdaaDoor.P
open Go.RowKit Go.Proofs.YtdgpagocccabdaaDoorW.PrintWords Go.Proofs.YtdgpagocccabdaaDoorW.PrintLast Go.Proofs.YtdgpagocccabdaaDoorW.PrintMore
set_option linter.unusedVariables false
set_option linter.unusedSimpArgs false

theorem eqA47 (d : Nat) (w : World) (x0 y0 : ByteArray) (x1 y1 : Int) (x2 y2 : ByteArray) (x3 y3 : Int) :
  (Op.equalIn (d + 2) 47 (.agg #[.string x0, .int .u32 x1, .string x2, .int .u64 x3]) (.agg #[.string y0, .int .u32 y1, .string y2, .int .u64 y3])).run Tryd.prog w = .ok (x0.toList == y0.toList && (x1 == y1 && (x2.toList == y2.toList && (x3 == y3)))) w := by
 refine eqA_of Tryd.underlying47 (by kernel_rfl) ?_
 refine eqf_cons (by rfl) (by go_simp; rfl) (by go_simp; rfl) (by go_simp) ?_
 refine eqf_cons (by rfl) (by go_simp; rfl) (by go_simp; rfl) (by go_simp) ?_
 refine eqf_cons (by rfl) (by go_simp; rfl) (by go_simp; rfl) (by go_simp) ?_
 exact eqf_last (by rfl) (by go_simp; rfl) (by go_simp; rfl) (by go_simp)
end Go.Proofs.YtdgpagocccabdaaDoor.P
