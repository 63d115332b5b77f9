/- Lean functions for the Go functions that the laws of this seat use, and the proofs that the Go code computes them; conditions: the readings that each theorem names. Written by a program. -/
import Derived.Test.YtdgpagocccabdaaDoorPx0
import Derived.Test.YtdgpagocccabdaaDoorPx9
import Derived.Test.YtdgpagocccabdaaDoorShort
namespace Go.Proofs.YtdgpagocccabdaaDoor.P
open Go.RowKit Go.Proofs.YtdgpagocccabdaaDoorW.PrintWords Go.Proofs.YtdgpagocccabdaaDoorW.PrintLast Go.Proofs.YtdgpagocccabdaaDoorW.PrintMore
set_option linter.unusedVariables false
set_option linter.unusedSimpArgs false

-- NOT PRINTED: function 81 (utf8_RuneCountInString)

-- NOT PRINTED: function 89 (utf8_decodeRuneInStringSlow)

-- NOT PRINTED: function 82 (utf8_DecodeRuneInString)

-- NOT PRINTED: function 65 (strings_explode)

-- NOT PRINTED: function 67 (strings_Index)

-- NOT PRINTED: function 83 (bytealg_CountString)

-- NOT PRINTED: function 66 (strings_Count)

-- NOT PRINTED: function 53 (strings_genSplit)

-- NOT PRINTED: function 42 (strings_Split)

/-! ### fnv_Key: function 43 -/
-- NOT PRINTED: function 32 (reply_hit)

-- NOT PRINTED: function 14 (reply_Read)

/-! ### tallboyref18_line: function 33 -/
/-! ### tallboyref02_Parse: function 44 -/
/-! ### tallboyref18_number: function 34 -/
end Go.Proofs.YtdgpagocccabdaaDoor.P
