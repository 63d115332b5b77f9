/- The answer to a frame: the program's Reply and the document's agree. Conditions: a byte for the Op, a number of 64 bits. -/
import Derived.Test.YtdepkgikdmlgiaaFno
namespace Go.Proofs.Ytdepkgikdmlgiaa.Pl
open Go Go.RowKit Go.Proofs.Ytdepkgikdmlgiaa.P Go.Proofs.Ytdepkgikdmlgiaa.Lim Go.Proofs.YtdepkgikdmlgiaaW.PrintWords

def numV (n : Nat) (v : Int) : ByteArray := strOfNums (putg (List.replicate n 0) v n)
theorem wrap_rng (v : Int) : 0 ≤ IntKind.u64.wrap v ∧ IntKind.u64.wrap v < 18446744073709551616 := by
  rw [IntKind.wrap_u64]
  omega
theorem num4 (v : Int) : frame_number.L v 4 = some (numV 4 v) := number_eq v 4 (by decide)
theorem num8 (v : Int) : frame_number.L v 8 = some (numV 8 v) := number_eq v 8 (by decide)
theorem put4 (v : Int) : tallboyref29_Put.L (IntKind.u64.wrap v) 4 = some (numV 4 (IntKind.u64.wrap v)) := rput_eq _ 4 (by decide) (wrap_rng v).1 (wrap_rng v).2
theorem put8 (v : Int) (h0 : 0 ≤ v) (h1 : v < 18446744073709551616) : tallboyref29_Put.L v 8 = some (numV 8 v) := rput_eq v 8 (by decide) h0 h1

def rdB (k : Int) : Bool := if k ≥ 1 then decide (k ≤ 4) else false
theorem freads_eq (k : Int) : frame_reads.f k = some (rdB k) := by
  unfold frame_reads.f rdB
  split <;> rfl
theorem rreads_eq (k : Int) : tallboyref15_Reads.f k = some (rdB k) := by
  unfold tallboyref15_Reads.f rdB
  split <;> rfl

end Go.Proofs.Ytdepkgikdmlgiaa.Pl
