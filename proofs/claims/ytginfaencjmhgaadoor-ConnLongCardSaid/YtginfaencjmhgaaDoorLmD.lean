/- The limits of the functions with rounds, and the equations that reckon them. Plain Lean; no condition. Written by a program. -/
import Derived.Test.YtginfaencjmhgaaDoorLim
import Derived.Test.YtginfaencjmhgaaDoorPx9
namespace Go.Proofs.YtginfaencjmhgaaDoor.P
open Go.RowKit Go.Proofs.YtginfaencjmhgaaDoor.Lim Go.Proofs.YtginfaencjmhgaaDoorW.PrintWords Go.Proofs.YtginfaencjmhgaaDoorW.PrintLast Go.Proofs.YtginfaencjmhgaaDoorW.PrintMore
set_option linter.unusedVariables false

noncomputable def digits_Signed.j0L (x5 : Bool) (x6 : Int) (x8 : Int) : Option (Int × Int) := lim (fun k => digits_Signed.j0 k x5 x6 x8)
theorem digits_Signed.j0Llm (x5 : Bool) (x6 : Int) (x8 : Int) : Lm (fun k => digits_Signed.j0 k x5 x6 x8) (digits_Signed.j0L x5 x6 x8) := lim_spec (fun k => (digits_Signed.mono_l k) _ _ _)
noncomputable def digits_Signed.L (a0 : ByteArray) : Option (Int × Int) := lim (fun k => digits_Signed.f k a0)
theorem digits_Signed.Llm (a0 : ByteArray) : Lm (fun k => digits_Signed.f k a0) (digits_Signed.L a0) := lim_spec (fun k => digits_Signed.mono a0 k)
theorem digits_Signed.j0L_eq (x5 : Bool) (x6 : Int) (x8 : Int) : digits_Signed.j0L x5 x6 x8 = (if x6 > x8 then (some (0, 1)) else (if x5 = true then (some (wrap64 (IntKind.u64.wrap (-x6)), 0)) else (some (wrap64 (x6), 0)))) := by
  refine Lm.unique (digits_Signed.j0Llm x5 x6 x8) ?_
  refine Lm.step rfl (f := fun k => digits_Signed.j0 (k + 1) x5 x6 x8) (fun _ => rfl) ?_; simp only [digits_Signed.j0]
  repeat' first
    | with_reducible exact Lm.const _
    | with_reducible refine Lm.bind ?_ (fun _ => ?_)
    | with_reducible refine Lm.ite ?_ ?_
    | refine Lm.bind ?_ (fun _ => ?_)
    | refine Lm.ite ?_ ?_
theorem digits_Signed.L_eq (a0 : ByteArray) : digits_Signed.L a0 = ((strings_CutPrefix.f a0 (⟨#[45]⟩ : ByteArray)).bind fun bt103 => ((digits_Parse.f bt103.1).bind fun bt105 => (if bt105.2 = 0 then (if bt103.2 = true then (digits_Signed.j0L bt103.2 bt105.1 (9223372036854775807 + 1)) else (digits_Signed.j0L bt103.2 bt105.1 9223372036854775807)) else (some (0, bt105.2))))) := by
  refine Lm.unique (digits_Signed.Llm a0) ?_
  unfold digits_Signed.f
  repeat' first
    | with_reducible exact digits_Signed.j0Llm _ _ _
    | with_reducible exact Lm.const _
    | with_reducible refine Lm.bind ?_ (fun _ => ?_)
    | with_reducible refine Lm.ite ?_ ?_
    | refine Lm.bind ?_ (fun _ => ?_)
    | refine Lm.ite ?_ ?_
end Go.Proofs.YtginfaencjmhgaaDoor.P
