/- Laws of single operations that the kit lacks: an array's element by value. No condition but those that each theorem names. -/
import Derived.WalkKit
import Derived.KernelRfl
namespace Go.Proofs.YtginfaencjmhgaaDoor.Laws
open Go

/-- 'a[i]' of an array by value whose elements are strings, i in range. -/
theorem run_index_strings {P : Program} (t e : TypeId) (n : Nat) (cs : Array Value) (k : IntKind) (i : Int) (v : Value) (h : P.underlying t = some (.array n e)) (he : P.underlying e = some .string) {inf : TypeInfo} (hi : P.info? e = some inf) (hs : inf.size = 1)
    (h0 : 0 ≤ i) (h1 : i < n) (hv : cs[i.toNat]? = some v) (w : World) : (Instr.index t (.agg cs) (.int k i)).run P w = .ok v w := by
  simp [Instr.index, run_underlying h, asIntOf, h0, h1, part, isAgg, run_underlying he, sizeOf, typeInfo, hi, hs, hv, go_sem]

end Go.Proofs.YtginfaencjmhgaaDoor.Laws
