/- The limits of the functions with rounds, and the equations that reckon them. Plain Lean; no condition. Written by a program. -/
import Derived.Test.YtdepkgikdmlgiaaLim
import Derived.Test.YtdepkgikdmlgiaaLmR
import Derived.Test.YtdepkgikdmlgiaaPx0
import Derived.Test.YtdepkgikdmlgiaaPx5
import Derived.Test.YtdepkgikdmlgiaaShort
import Derived.Test.YtdepkgikdmlgiaaPx7
import Derived.Test.YtdepkgikdmlgiaaPx9
namespace Go.Proofs.Ytdepkgikdmlgiaa.P
open Go.RowKit Go.Proofs.Ytdepkgikdmlgiaa.Lim Go.Proofs.YtdepkgikdmlgiaaW.PrintWords Go.Proofs.YtdepkgikdmlgiaaW.PrintLast Go.Proofs.YtdepkgikdmlgiaaW.PrintMore
set_option linter.unusedVariables false

noncomputable def frame_take.l0L (x0 : ByteArray) (x2 : Int) (x5 : Int) (x6 : Int) : Option (Int) := lim (fun k => frame_take.l0 k x0 x2 x5 x6)
theorem frame_take.l0Llm (x0 : ByteArray) (x2 : Int) (x5 : Int) (x6 : Int) : Lm (fun k => frame_take.l0 k x0 x2 x5 x6) (frame_take.l0L x0 x2 x5 x6) := lim_spec (fun k => (frame_take.mono_l k) _ _ _ _)
noncomputable def frame_take.L (a0 : ByteArray) : Option (Int) := lim (fun k => frame_take.f k a0)
theorem frame_take.Llm (a0 : ByteArray) : Lm (fun k => frame_take.f k a0) (frame_take.L a0) := lim_spec (fun k => frame_take.mono a0 k)
noncomputable def tallboyref29_Take.l0L (x0 : ByteArray) (x3 : Int) (x4 : Int) : Option (Int) := lim (fun k => tallboyref29_Take.l0 k x0 x3 x4)
theorem tallboyref29_Take.l0Llm (x0 : ByteArray) (x3 : Int) (x4 : Int) : Lm (fun k => tallboyref29_Take.l0 k x0 x3 x4) (tallboyref29_Take.l0L x0 x3 x4) := lim_spec (fun k => (tallboyref29_Take.mono_l k) _ _ _)
noncomputable def tallboyref29_Take.L (a0 : ByteArray) : Option (Int) := lim (fun k => tallboyref29_Take.f k a0)
theorem tallboyref29_Take.Llm (a0 : ByteArray) : Lm (fun k => tallboyref29_Take.f k a0) (tallboyref29_Take.L a0) := lim_spec (fun k => tallboyref29_Take.mono a0 k)
theorem frame_take.l0L_eq (x0 : ByteArray) (x2 : Int) (x5 : Int) (x6 : Int) : frame_take.l0L x0 x2 x5 x6 = (if x6 < x5 then (if 0 ≤ x6 then (if x6 < (x0.size : Int) then (frame_take.l0L x0 (Go.bits .or .u64 (IntKind.u64.wrap (x2 * 256)) (IntKind.u64.wrap (bt x0 x6))) x5 (wrap64 (x6 + 1))) else (none)) else (none)) else (some x2)) := by
  refine Lm.unique (frame_take.l0Llm x0 x2 x5 x6) ?_
  refine Lm.step rfl (f := fun k => frame_take.l0 (k + 1) x0 x2 x5 x6) (fun _ => rfl) ?_; simp only [frame_take.l0]
  repeat' first
    | with_reducible exact frame_take.l0Llm _ _ _ _
    | with_reducible exact Lm.const _
    | with_reducible refine Lm.bind ?_ (fun _ => ?_)
    | with_reducible refine Lm.ite ?_ ?_
    | refine Lm.bind ?_ (fun _ => ?_)
    | refine Lm.ite ?_ ?_
theorem frame_take.L_eq (a0 : ByteArray) : frame_take.L a0 = (frame_take.l0L a0 0 (a0.size : Int) 0) := by
  refine Lm.unique (frame_take.Llm a0) ?_
  unfold frame_take.f
  repeat' first
    | with_reducible exact frame_take.l0Llm _ _ _ _
    | with_reducible exact Lm.const _
    | with_reducible refine Lm.bind ?_ (fun _ => ?_)
    | with_reducible refine Lm.ite ?_ ?_
    | refine Lm.bind ?_ (fun _ => ?_)
    | refine Lm.ite ?_ ?_
theorem tallboyref29_Take.l0L_eq (x0 : ByteArray) (x3 : Int) (x4 : Int) : tallboyref29_Take.l0L x0 x3 x4 = (if x4 < (x0.size : Int) then (if 0 ≤ x4 then (tallboyref29_Take.l0L x0 (IntKind.u64.wrap ((IntKind.u64.wrap (x3 * 256)) + (IntKind.u64.wrap (bt x0 x4)))) (wrap64 (x4 + 1))) else (none)) else (some x3)) := by
  refine Lm.unique (tallboyref29_Take.l0Llm x0 x3 x4) ?_
  refine Lm.step rfl (f := fun k => tallboyref29_Take.l0 (k + 1) x0 x3 x4) (fun _ => rfl) ?_; simp only [tallboyref29_Take.l0]
  repeat' first
    | with_reducible exact tallboyref29_Take.l0Llm _ _ _
    | with_reducible exact Lm.const _
    | with_reducible refine Lm.bind ?_ (fun _ => ?_)
    | with_reducible refine Lm.ite ?_ ?_
    | refine Lm.bind ?_ (fun _ => ?_)
    | refine Lm.ite ?_ ?_
theorem tallboyref29_Take.L_eq (a0 : ByteArray) : tallboyref29_Take.L a0 = (tallboyref29_Take.l0L a0 0 0) := by
  refine Lm.unique (tallboyref29_Take.Llm a0) ?_
  unfold tallboyref29_Take.f
  repeat' first
    | with_reducible exact tallboyref29_Take.l0Llm _ _ _
    | with_reducible exact Lm.const _
    | with_reducible refine Lm.bind ?_ (fun _ => ?_)
    | with_reducible refine Lm.ite ?_ ?_
    | refine Lm.bind ?_ (fun _ => ?_)
    | refine Lm.ite ?_ ?_
end Go.Proofs.Ytdepkgikdmlgiaa.P
