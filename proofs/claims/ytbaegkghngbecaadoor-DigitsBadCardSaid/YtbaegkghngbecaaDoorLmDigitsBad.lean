/- The limits of the functions with rounds, and the equations that reckon them. Plain Lean; no condition. Written by a program. -/
import Derived.Test.YtbaegkghngbecaaDoorLim
import Derived.Test.YtbaegkghngbecaaDoorLmD
import Derived.Test.YtbaegkghngbecaaDoorLmW
import Derived.Test.YtbaegkghngbecaaDoorPx20
namespace Go.Proofs.YtbaegkghngbecaaDoor.P
open Go.RowKit Go.Proofs.YtbaegkghngbecaaDoor.Lim Go.Proofs.YtbaegkghngbecaaDoorW.PrintWords Go.Proofs.YtbaegkghngbecaaDoorW.PrintLast Go.Proofs.YtbaegkghngbecaaDoorW.PrintMore
set_option linter.unusedVariables false

noncomputable def tallboylaw02_DigitsBad.j0L (x0 : ByteArray) (x1 : Int) (x2 : Int) (x25 : Bool) : Option (Bool) := lim (fun k => tallboylaw02_DigitsBad.j0 k x0 x1 x2 x25)
theorem tallboylaw02_DigitsBad.j0Llm (x0 : ByteArray) (x1 : Int) (x2 : Int) (x25 : Bool) : Lm (fun k => tallboylaw02_DigitsBad.j0 k x0 x1 x2 x25) (tallboylaw02_DigitsBad.j0L x0 x1 x2 x25) := lim_spec (fun k => (tallboylaw02_DigitsBad.mono_l k) _ _ _ _)
noncomputable def tallboylaw02_DigitsBad.L (a0 : ByteArray) (a1 : Int) (a2 : Int) : Option (Bool) := lim (fun k => tallboylaw02_DigitsBad.f k a0 a1 a2)
theorem tallboylaw02_DigitsBad.Llm (a0 : ByteArray) (a1 : Int) (a2 : Int) : Lm (fun k => tallboylaw02_DigitsBad.f k a0 a1 a2) (tallboylaw02_DigitsBad.L a0 a1 a2) := lim_spec (fun k => tallboylaw02_DigitsBad.mono a0 a1 a2 k)
theorem tallboylaw02_DigitsBad.j0L_eq (x0 : ByteArray) (x1 : Int) (x2 : Int) (x25 : Bool) : tallboylaw02_DigitsBad.j0L x0 x1 x2 x25 = (if x25 = true then (some true) else (if (IntKind.u64.wrap (wrap64 ((x0.size : Int) + 1))) = 0 then (none) else (if 0 ≤ (wrap64 (Int.tmod (IntKind.u64.wrap (x1)) (IntKind.u64.wrap (wrap64 ((x0.size : Int) + 1))))) then (if (wrap64 (Int.tmod (IntKind.u64.wrap (x1)) (IntKind.u64.wrap (wrap64 ((x0.size : Int) + 1))))) ≤ (x0.size : Int) then ((some (([x2] : List Int) : List Int)).bind fun y206 => (if (x0.extract 0 ((wrap64 (Int.tmod (IntKind.u64.wrap (x1)) (IntKind.u64.wrap (wrap64 ((x0.size : Int) + 1))))) : Int).toNat).size + (strOfNums y206).size ≤ 9223372036854775807 then (if ((x0.extract 0 ((wrap64 (Int.tmod (IntKind.u64.wrap (x1)) (IntKind.u64.wrap (wrap64 ((x0.size : Int) + 1))))) : Int).toNat) ++ (strOfNums y206)).size + (x0.extract ((wrap64 (Int.tmod (IntKind.u64.wrap (x1)) (IntKind.u64.wrap (wrap64 ((x0.size : Int) + 1))))) : Int).toNat x0.size).size ≤ 9223372036854775807 then ((digits_Parse.f (((x0.extract 0 ((wrap64 (Int.tmod (IntKind.u64.wrap (x1)) (IntKind.u64.wrap (wrap64 ((x0.size : Int) + 1))))) : Int).toNat) ++ (strOfNums y206)) ++ (x0.extract ((wrap64 (Int.tmod (IntKind.u64.wrap (x1)) (IntKind.u64.wrap (wrap64 ((x0.size : Int) + 1))))) : Int).toNat x0.size))).bind fun bt209 => ((digits_Signed.L (((x0.extract 0 ((wrap64 (Int.tmod (IntKind.u64.wrap (x1)) (IntKind.u64.wrap (wrap64 ((x0.size : Int) + 1))))) : Int).toNat) ++ (strOfNums y206)) ++ (x0.extract ((wrap64 (Int.tmod (IntKind.u64.wrap (x1)) (IntKind.u64.wrap (wrap64 ((x0.size : Int) + 1))))) : Int).toNat x0.size))).bind fun bt211 => (if bt209.1 = 0 then (if bt209.2 = 6 then (if (wrap64 (Int.tmod (IntKind.u64.wrap (x1)) (IntKind.u64.wrap (wrap64 ((x0.size : Int) + 1))))) = 0 then (if x2 = 45 then (some true) else (if bt211.1 = 0 then (some (bt211.2 == 6)) else (none))) else (if bt211.1 = 0 then (some (bt211.2 == 6)) else (none))) else (none)) else (none)))) else (none)) else (none))) else (none)) else (none)))) := by
  refine Lm.unique (tallboylaw02_DigitsBad.j0Llm x0 x1 x2 x25) ?_
  refine Lm.step rfl (f := fun k => tallboylaw02_DigitsBad.j0 (k + 1) x0 x1 x2 x25) (fun _ => rfl) ?_; simp only [tallboylaw02_DigitsBad.j0]
  repeat' first
    | with_reducible exact digits_Signed.Llm _
    | with_reducible exact Lm.const _
    | with_reducible refine Lm.bind ?_ (fun _ => ?_)
    | with_reducible refine Lm.ite ?_ ?_
    | refine Lm.bind ?_ (fun _ => ?_)
    | refine Lm.ite ?_ ?_
theorem tallboylaw02_DigitsBad.L_eq (a0 : ByteArray) (a1 : Int) (a2 : Int) : tallboylaw02_DigitsBad.L a0 a1 a2 = ((tallboylaw02_works.L).bind fun t205 => (if t205 = true then (if (a0.size : Int) > 1000 then (tallboylaw02_DigitsBad.j0L a0 a1 a2 true) else (if a2 ≥ 48 then (tallboylaw02_DigitsBad.j0L a0 a1 a2 (decide (a2 ≤ 57))) else (tallboylaw02_DigitsBad.j0L a0 a1 a2 false))) else (none))) := by
  refine Lm.unique (tallboylaw02_DigitsBad.Llm a0 a1 a2) ?_
  unfold tallboylaw02_DigitsBad.f
  repeat' first
    | with_reducible exact tallboylaw02_DigitsBad.j0Llm _ _ _ _
    | with_reducible exact tallboylaw02_works.Llm
    | with_reducible exact Lm.const _
    | with_reducible refine Lm.bind ?_ (fun _ => ?_)
    | with_reducible refine Lm.ite ?_ ?_
    | refine Lm.bind ?_ (fun _ => ?_)
    | refine Lm.ite ?_ ?_
end Go.Proofs.YtbaegkghngbecaaDoor.P
