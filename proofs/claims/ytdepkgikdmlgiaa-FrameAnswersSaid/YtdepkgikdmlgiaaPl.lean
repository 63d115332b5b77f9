/- Plain lemmas on texts, their bytes and whole numbers. No condition. -/
import Derived.Test.YtdepkgikdmlgiaaLim
import Derived.Laws.Strings
import Derived.Test.YtdepkgikdmlgiaaWMore
namespace Go.Proofs.Ytdepkgikdmlgiaa.Pl
open Go Go.RowKit Go.Proofs.YtdepkgikdmlgiaaW.PrintWords

theorem w64 {i : Int} (h0 : -9223372036854775808 ≤ i) (h1 : i ≤ 9223372036854775807) : wrap64 i = i := by
  unfold wrap64
  omega
end Go.Proofs.Ytdepkgikdmlgiaa.Pl
