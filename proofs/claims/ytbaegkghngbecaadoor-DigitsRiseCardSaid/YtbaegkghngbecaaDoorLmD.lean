/- The limits of the functions with rounds, and the equations that reckon them. Plain Lean; no condition. Written by a program. -/
import Derived.Test.YtbaegkghngbecaaDoorLim
import Derived.Test.YtbaegkghngbecaaDoorPx11
import Derived.Test.YtbaegkghngbecaaDoorPx13
import Derived.Test.YtbaegkghngbecaaDoorPx3
import Derived.Test.YtbaegkghngbecaaDoorPx5
namespace Go.Proofs.YtbaegkghngbecaaDoor.P
open Go.RowKit Go.Proofs.YtbaegkghngbecaaDoor.Lim Go.Proofs.YtbaegkghngbecaaDoorW.PrintWords Go.Proofs.YtbaegkghngbecaaDoorW.PrintLast Go.Proofs.YtbaegkghngbecaaDoorW.PrintMore
set_option linter.unusedVariables false

noncomputable def tallboyref02_Parse.l0L (x0 : ByteArray) (x4 : Bool) (x5 : Int) : Option (Int × Int) := lim (fun k => tallboyref02_Parse.l0 k x0 x4 x5)
theorem tallboyref02_Parse.l0Llm (x0 : ByteArray) (x4 : Bool) (x5 : Int) : Lm (fun k => tallboyref02_Parse.l0 k x0 x4 x5) (tallboyref02_Parse.l0L x0 x4 x5) := lim_spec (fun k => (tallboyref02_Parse.mono_l k).2.2 _ _ _)
noncomputable def tallboyref02_Parse.L (a0 : ByteArray) : Option (Int × Int) := lim (fun k => tallboyref02_Parse.f k a0)
theorem tallboyref02_Parse.Llm (a0 : ByteArray) : Lm (fun k => tallboyref02_Parse.f k a0) (tallboyref02_Parse.L a0) := lim_spec (fun k => tallboyref02_Parse.mono a0 k)
noncomputable def digits_Signed.j0L (x5 : Bool) (x6 : Int) (x8 : Int) : Option (Int × Int) := lim (fun k => digits_Signed.j0 k x5 x6 x8)
theorem digits_Signed.j0Llm (x5 : Bool) (x6 : Int) (x8 : Int) : Lm (fun k => digits_Signed.j0 k x5 x6 x8) (digits_Signed.j0L x5 x6 x8) := lim_spec (fun k => (digits_Signed.mono_l k) _ _ _)
noncomputable def digits_Signed.L (a0 : ByteArray) : Option (Int × Int) := lim (fun k => digits_Signed.f k a0)
theorem digits_Signed.Llm (a0 : ByteArray) : Lm (fun k => digits_Signed.f k a0) (digits_Signed.L a0) := lim_spec (fun k => digits_Signed.mono a0 k)
noncomputable def tallboyref02_Signed.j0L (x0 : ByteArray) (x15 : Bool) : Option (Int × Int) := lim (fun k => tallboyref02_Signed.j0 k x0 x15)
theorem tallboyref02_Signed.j0Llm (x0 : ByteArray) (x15 : Bool) : Lm (fun k => tallboyref02_Signed.j0 k x0 x15) (tallboyref02_Signed.j0L x0 x15) := lim_spec (fun k => (tallboyref02_Signed.mono_l k).1 _ _)
noncomputable def tallboyref02_Signed.L (a0 : ByteArray) : Option (Int × Int) := lim (fun k => tallboyref02_Signed.f k a0)
theorem tallboyref02_Signed.Llm (a0 : ByteArray) : Lm (fun k => tallboyref02_Signed.f k a0) (tallboyref02_Signed.L a0) := lim_spec (fun k => tallboyref02_Signed.mono a0 k)
noncomputable def tallboyref02_Text.l0L (x0 : Int) (x3 : ByteArray) : Option (ByteArray) := lim (fun k => tallboyref02_Text.l0 k x0 x3)
theorem tallboyref02_Text.l0Llm (x0 : Int) (x3 : ByteArray) : Lm (fun k => tallboyref02_Text.l0 k x0 x3) (tallboyref02_Text.l0L x0 x3) := lim_spec (fun k => (tallboyref02_Text.mono_l k) _ _)
noncomputable def tallboyref02_Text.L (a0 : Int) : Option (ByteArray) := lim (fun k => tallboyref02_Text.f k a0)
theorem tallboyref02_Text.Llm (a0 : Int) : Lm (fun k => tallboyref02_Text.f k a0) (tallboyref02_Text.L a0) := lim_spec (fun k => tallboyref02_Text.mono a0 k)
noncomputable def tallboyref02_TextSigned.L (a0 : Int) : Option (ByteArray) := lim (fun k => tallboyref02_TextSigned.f k a0)
theorem tallboyref02_TextSigned.Llm (a0 : Int) : Lm (fun k => tallboyref02_TextSigned.f k a0) (tallboyref02_TextSigned.L a0) := lim_spec (fun k => tallboyref02_TextSigned.mono a0 k)
theorem tallboyref02_Parse.L_eq (a0 : ByteArray) : tallboyref02_Parse.L a0 = (tallboyref02_Parse.l0L a0 (decide ((a0.size : Int) > 0)) 0) := by
  refine Lm.unique (tallboyref02_Parse.Llm a0) ?_
  unfold tallboyref02_Parse.f
  repeat' first
    | with_reducible exact tallboyref02_Parse.l0Llm _ _ _
    | with_reducible exact Lm.const _
    | with_reducible refine Lm.bind ?_ (fun _ => ?_)
    | with_reducible refine Lm.ite ?_ ?_
    | refine Lm.bind ?_ (fun _ => ?_)
    | refine Lm.ite ?_ ?_
theorem digits_Signed.L_eq (a0 : ByteArray) : digits_Signed.L a0 = ((strings_CutPrefix.f a0 (⟨#[45]⟩ : ByteArray)).bind fun bt150 => ((digits_Parse.f bt150.1).bind fun bt152 => (if bt152.2 = 0 then (if bt150.2 = true then (digits_Signed.j0L bt150.2 bt152.1 (9223372036854775807 + 1)) else (digits_Signed.j0L bt150.2 bt152.1 9223372036854775807)) else (some (0, bt152.2))))) := by
  refine Lm.unique (digits_Signed.Llm a0) ?_
  unfold digits_Signed.f
  repeat' first
    | with_reducible exact digits_Signed.j0Llm _ _ _
    | with_reducible exact Lm.const _
    | with_reducible refine Lm.bind ?_ (fun _ => ?_)
    | with_reducible refine Lm.ite ?_ ?_
    | refine Lm.bind ?_ (fun _ => ?_)
    | refine Lm.ite ?_ ?_
theorem tallboyref02_Signed.L_eq (a0 : ByteArray) : tallboyref02_Signed.L a0 = (if (a0.size : Int) > 0 then (if 0 < (a0.size : Int) then (tallboyref02_Signed.j0L a0 ((bt a0 0) == 45)) else (none)) else (tallboyref02_Signed.j0L a0 false)) := by
  refine Lm.unique (tallboyref02_Signed.Llm a0) ?_
  unfold tallboyref02_Signed.f
  repeat' first
    | with_reducible exact tallboyref02_Signed.j0Llm _ _
    | with_reducible exact Lm.const _
    | with_reducible refine Lm.bind ?_ (fun _ => ?_)
    | with_reducible refine Lm.ite ?_ ?_
    | refine Lm.bind ?_ (fun _ => ?_)
    | refine Lm.ite ?_ ?_
theorem tallboyref02_Text.L_eq (a0 : Int) : tallboyref02_Text.L a0 = (tallboyref02_Text.l0L (IntKind.u64.wrap (Int.tdiv a0 10)) (strOfNums (([(IntKind.u64.wrap (48 + (Int.tmod a0 10))) % 256] : List Int)))) := by
  refine Lm.unique (tallboyref02_Text.Llm a0) ?_
  unfold tallboyref02_Text.f
  repeat' first
    | with_reducible exact tallboyref02_Text.l0Llm _ _
    | with_reducible exact Lm.const _
    | with_reducible refine Lm.bind ?_ (fun _ => ?_)
    | with_reducible refine Lm.ite ?_ ?_
    | refine Lm.bind ?_ (fun _ => ?_)
    | refine Lm.ite ?_ ?_
theorem tallboyref02_TextSigned.L_eq (a0 : Int) : tallboyref02_TextSigned.L a0 = (if a0 < 0 then ((tallboyref02_Text.L (IntKind.u64.wrap ((IntKind.u64.wrap (wrap64 (-(wrap64 (a0 + 1))))) + 1))).bind fun t128 => (if 1 + t128.size ≤ 9223372036854775807 then (some ((⟨#[45]⟩ : ByteArray) ++ t128)) else (none))) else ((tallboyref02_Text.L (IntKind.u64.wrap (a0))).bind fun t129 => (some t129))) := by
  refine Lm.unique (tallboyref02_TextSigned.Llm a0) ?_
  unfold tallboyref02_TextSigned.f
  repeat' first
    | with_reducible exact tallboyref02_Text.Llm _
    | with_reducible exact Lm.const _
    | with_reducible refine Lm.bind ?_ (fun _ => ?_)
    | with_reducible refine Lm.ite ?_ ?_
    | refine Lm.bind ?_ (fun _ => ?_)
    | refine Lm.ite ?_ ?_
end Go.Proofs.YtbaegkghngbecaaDoor.P
