/- The limits of the functions with rounds, and the equations that reckon them. Plain Lean; no condition. Written by a program. -/
import Derived.Test.YtbaegkghngbecaaDoorLim
import Derived.Test.YtbaegkghngbecaaDoorLmD
import Derived.Test.YtbaegkghngbecaaDoorLmW
import Derived.Test.YtbaegkghngbecaaDoorPx16
namespace Go.Proofs.YtbaegkghngbecaaDoor.P
open Go.RowKit Go.Proofs.YtbaegkghngbecaaDoor.Lim Go.Proofs.YtbaegkghngbecaaDoorW.PrintWords Go.Proofs.YtbaegkghngbecaaDoorW.PrintLast Go.Proofs.YtbaegkghngbecaaDoorW.PrintMore
set_option linter.unusedVariables false

noncomputable def tallboylaw02_DigitsBack.j0L (x1 : ByteArray) (x46 : Bool) : Option (Bool) := lim (fun k => tallboylaw02_DigitsBack.j0 k x1 x46)
theorem tallboylaw02_DigitsBack.j0Llm (x1 : ByteArray) (x46 : Bool) : Lm (fun k => tallboylaw02_DigitsBack.j0 k x1 x46) (tallboylaw02_DigitsBack.j0L x1 x46) := lim_spec (fun k => (tallboylaw02_DigitsBack.mono_l k).1 _ _)
noncomputable def tallboylaw02_DigitsBack.l0L (x1 : ByteArray) (x9 : Int) (x11 : Int) : Option (Bool) := lim (fun k => tallboylaw02_DigitsBack.l0 k x1 x9 x11)
theorem tallboylaw02_DigitsBack.l0Llm (x1 : ByteArray) (x9 : Int) (x11 : Int) : Lm (fun k => tallboylaw02_DigitsBack.l0 k x1 x9 x11) (tallboylaw02_DigitsBack.l0L x1 x9 x11) := lim_spec (fun k => (tallboylaw02_DigitsBack.mono_l k).2 _ _ _)
noncomputable def tallboylaw02_DigitsBack.L (a0 : Int) (a1 : ByteArray) : Option (Bool) := lim (fun k => tallboylaw02_DigitsBack.f k a0 a1)
theorem tallboylaw02_DigitsBack.Llm (a0 : Int) (a1 : ByteArray) : Lm (fun k => tallboylaw02_DigitsBack.f k a0 a1) (tallboylaw02_DigitsBack.L a0 a1) := lim_spec (fun k => tallboylaw02_DigitsBack.mono a0 a1 k)
theorem tallboylaw02_DigitsBack.j0L_eq (x1 : ByteArray) (x46 : Bool) : tallboylaw02_DigitsBack.j0L x1 x46 = (if x46 = true then (none) else ((digits_Parse.f x1).bind fun bt183 => (if bt183.2 = 0 then (tallboylaw02_DigitsBack.l0L x1 bt183.1 0) else (some (bt183.1 == 0))))) := by
  refine Lm.unique (tallboylaw02_DigitsBack.j0Llm x1 x46) ?_
  refine Lm.step rfl (f := fun k => tallboylaw02_DigitsBack.j0 (k + 1) x1 x46) (fun _ => rfl) ?_; simp only [tallboylaw02_DigitsBack.j0]
  repeat' first
    | with_reducible exact tallboylaw02_DigitsBack.l0Llm _ _ _
    | with_reducible exact Lm.const _
    | with_reducible refine Lm.bind ?_ (fun _ => ?_)
    | with_reducible refine Lm.ite ?_ ?_
    | refine Lm.bind ?_ (fun _ => ?_)
    | refine Lm.ite ?_ ?_
theorem tallboylaw02_DigitsBack.l0L_eq (x1 : ByteArray) (x9 : Int) (x11 : Int) : tallboylaw02_DigitsBack.l0L x1 x9 x11 = (if x11 < (wrap64 ((x1.size : Int) - 1)) then (if 0 ≤ x11 then (if x11 < (x1.size : Int) then (if (bt x1 x11) = 48 then (tallboylaw02_DigitsBack.l0L x1 x9 (wrap64 (x11 + 1))) else ((digits_Text.f x9).bind fun t185 => (if x11 ≤ (x1.size : Int) then (some (t185.toList == (x1.extract (x11 : Int).toNat x1.size).toList)) else (none)))) else (none)) else (none)) else ((digits_Text.f x9).bind fun t186 => (if 0 ≤ x11 then (if x11 ≤ (x1.size : Int) then (some (t186.toList == (x1.extract (x11 : Int).toNat x1.size).toList)) else (none)) else (none)))) := by
  refine Lm.unique (tallboylaw02_DigitsBack.l0Llm x1 x9 x11) ?_
  refine Lm.step rfl (f := fun k => tallboylaw02_DigitsBack.l0 (k + 1) x1 x9 x11) (fun _ => rfl) ?_; simp only [tallboylaw02_DigitsBack.l0]
  repeat' first
    | with_reducible exact tallboylaw02_DigitsBack.l0Llm _ _ _
    | with_reducible exact Lm.const _
    | with_reducible refine Lm.bind ?_ (fun _ => ?_)
    | with_reducible refine Lm.ite ?_ ?_
    | refine Lm.bind ?_ (fun _ => ?_)
    | refine Lm.ite ?_ ?_
theorem tallboylaw02_DigitsBack.L_eq (a0 : Int) (a1 : ByteArray) : tallboylaw02_DigitsBack.L a0 a1 = ((tallboylaw02_works.L).bind fun t176 => (if t176 = true then (if (a1.size : Int) > 10000 then (some true) else ((digits_Text.f a0).bind fun t177 => ((digits_Parse.f t177).bind fun bt178 => ((digits_TextSigned.f (wrap64 (a0))).bind fun t180 => ((digits_Signed.L t180).bind fun bt181 => (if bt178.2 = 0 then (if bt178.1 = a0 then (if bt181.2 = 0 then (tallboylaw02_DigitsBack.j0L a1 (bt181.1 != (wrap64 (a0)))) else (tallboylaw02_DigitsBack.j0L a1 true)) else (tallboylaw02_DigitsBack.j0L a1 true)) else (tallboylaw02_DigitsBack.j0L a1 true))))))) else (none))) := by
  refine Lm.unique (tallboylaw02_DigitsBack.Llm a0 a1) ?_
  unfold tallboylaw02_DigitsBack.f
  repeat' first
    | with_reducible exact tallboylaw02_DigitsBack.j0Llm _ _
    | with_reducible exact tallboylaw02_works.Llm
    | with_reducible exact digits_Signed.Llm _
    | with_reducible exact Lm.const _
    | with_reducible refine Lm.bind ?_ (fun _ => ?_)
    | with_reducible refine Lm.ite ?_ ?_
    | refine Lm.bind ?_ (fun _ => ?_)
    | refine Lm.ite ?_ ?_
end Go.Proofs.YtbaegkghngbecaaDoor.P
