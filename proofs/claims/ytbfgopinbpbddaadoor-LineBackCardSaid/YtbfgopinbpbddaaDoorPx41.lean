/- Lean functions for the Go functions that the laws of this seat use, and the proofs that the Go code computes them; conditions: the readings that each theorem names. Written by a program. -/
import Derived.Test.YtbfgopinbpbddaaDoorPx0
import Derived.Test.YtbfgopinbpbddaaDoorPx1
import Derived.Test.YtbfgopinbpbddaaDoorPx13
import Derived.Test.YtbfgopinbpbddaaDoorPx14
import Derived.Test.YtbfgopinbpbddaaDoorPx20
import Derived.Test.YtbfgopinbpbddaaDoorPx31
import Derived.Test.YtbfgopinbpbddaaDoorPx40
import Derived.Test.YtbfgopinbpbddaaDoorShort
namespace Go.Proofs.YtbfgopinbpbddaaDoor.P
open Go.RowKit Go.Proofs.YtbfgopinbpbddaaDoorW.PrintWords Go.Proofs.YtbfgopinbpbddaaDoorW.PrintLast Go.Proofs.YtbfgopinbpbddaaDoorW.PrintMore
set_option linter.unusedVariables false
set_option linter.unusedSimpArgs false

/-! ### tallboylaw17_LineBack: function 5 -/
def tallboylaw17_LineBack.f (k : Nat) (a0_0 : Int) (l0_1 : List ByteArray) (a0_2 : Int) (a0_3 : Int) (a0_4 : ByteArray) (a0_5 : Int) (a0_6 : Int) (a0_7 : Bool) : Option (Bool) := (tallboylaw17_works.f k).bind fun t616 => (if t616 = true then ((tallboylaw15_Great.f k a0_0 l0_1 a0_2 a0_3 a0_4 a0_5 a0_6 a0_7).bind fun t617 => (if t617 = true then (some true) else ((tallboylaw15_Own.f a0_0 l0_1 a0_2 a0_3 a0_4 a0_5 a0_6 a0_7).bind fun bt618 => ((line_Write.f k bt618.1 bt618.2.1 bt618.2.2.1 bt618.2.2.2.1 bt618.2.2.2.2.1 bt618.2.2.2.2.2.1 bt618.2.2.2.2.2.2.1 bt618.2.2.2.2.2.2.2).bind fun bt628 => (if bt628.2 = 0 then ((line_Parse.f k bt628.1).bind fun bt630 => ((tallboylaw15_Own.f a0_0 l0_1 a0_2 a0_3 a0_4 a0_5 a0_6 a0_7).bind fun bt644 => ((tallboyref15_Stores.f a0_0).bind fun t655 => (if t655 = true then (if bt630.1 = 2 then ((tallboyref17_SameCommands.f k bt630.2.1 bt630.2.2.1 bt630.2.2.2.1 bt630.2.2.2.2.1 bt630.2.2.2.2.2.1 bt630.2.2.2.2.2.2.1 bt630.2.2.2.2.2.2.2.1 bt630.2.2.2.2.2.2.2.2.1 bt644.1 bt644.2.1 bt644.2.2.1 bt644.2.2.2.1 (⟨#[]⟩ : ByteArray) bt644.2.2.2.2.2.1 bt644.2.2.2.2.2.2.1 bt644.2.2.2.2.2.2.2).bind fun t656 => (if t656 = true then (if 2 = 1 then (if bt630.2.2.2.2.2.2.2.2.2.1 = 0 then (some (bt630.2.2.2.2.2.2.2.2.2.2 == 0)) else (if bt630.2.2.2.2.2.2.2.2.2.1 = (a0_4.size : Int) then (some (bt630.2.2.2.2.2.2.2.2.2.2 == 0)) else (none))) else (if bt630.2.2.2.2.2.2.2.2.2.1 = (a0_4.size : Int) then (some (bt630.2.2.2.2.2.2.2.2.2.2 == 0)) else (none))) else (none))) else (none)) else (if bt630.1 = 1 then ((tallboyref17_SameCommands.f k bt630.2.1 bt630.2.2.1 bt630.2.2.2.1 bt630.2.2.2.2.1 bt630.2.2.2.2.2.1 bt630.2.2.2.2.2.2.1 bt630.2.2.2.2.2.2.2.1 bt630.2.2.2.2.2.2.2.2.1 bt644.1 bt644.2.1 bt644.2.2.1 bt644.2.2.2.1 (⟨#[]⟩ : ByteArray) bt644.2.2.2.2.2.1 bt644.2.2.2.2.2.2.1 bt644.2.2.2.2.2.2.2).bind fun t657 => (if t657 = true then (if 1 = 1 then (if bt630.2.2.2.2.2.2.2.2.2.1 = 0 then (some (bt630.2.2.2.2.2.2.2.2.2.2 == 0)) else (if bt630.2.2.2.2.2.2.2.2.2.1 = (a0_4.size : Int) then (some (bt630.2.2.2.2.2.2.2.2.2.2 == 0)) else (none))) else (if bt630.2.2.2.2.2.2.2.2.2.1 = (a0_4.size : Int) then (some (bt630.2.2.2.2.2.2.2.2.2.2 == 0)) else (none))) else (none))) else (none)))))) else (some (bt628.1.toList == ([] : List UInt8)))))))) else (none))
theorem tallboylaw17_LineBack.mono : ∀ a0 a1 a2 a3 a4 a5 a6 a7 k, LeO (tallboylaw17_LineBack.f k a0 a1 a2 a3 a4 a5 a6 a7) (tallboylaw17_LineBack.f (k + 1) a0 a1 a2 a3 a4 a5 a6 a7) := by
 intro a0 a1 a2 a3 a4 a5 a6 a7 k
 unfold tallboylaw17_LineBack.f
 repeat' first | (with_reducible first | apply line_Parse.mono | apply line_Write.mono | apply tallboylaw15_Great.mono | apply tallboylaw17_works.mono | apply tallboyref17_SameCommands.mono | exact LeO.refl _ | exact LeO.none _ | refine LeO.ite ?_ ?_ | refine LeO.bind ?_ (fun _ => ?_)) | apply line_Parse.mono | apply line_Write.mono | apply tallboylaw15_Great.mono | apply tallboylaw17_works.mono | apply tallboyref17_SameCommands.mono | exact LeO.none _ | refine LeO.ite ?_ ?_ | refine LeO.bind ?_ (fun _ => ?_)

end Go.Proofs.YtbfgopinbpbddaaDoor.P
