/- The limits of the functions with rounds, and the equations that reckon them. Plain Lean; no condition. Written by a program. -/
import Derived.Test.YtdepkgikdmlgiaaLim
import Derived.Test.YtdepkgikdmlgiaaPx13
import Derived.Test.YtdepkgikdmlgiaaPx0
import Derived.Test.YtdepkgikdmlgiaaShort
import Derived.Test.YtdepkgikdmlgiaaPx17
import Derived.Test.YtdepkgikdmlgiaaPx18
import Derived.Test.YtdepkgikdmlgiaaPx3
import Derived.Test.YtdepkgikdmlgiaaPx5
namespace Go.Proofs.Ytdepkgikdmlgiaa.P
open Go.RowKit Go.Proofs.Ytdepkgikdmlgiaa.Lim Go.Proofs.YtdepkgikdmlgiaaW.PrintWords Go.Proofs.YtdepkgikdmlgiaaW.PrintLast Go.Proofs.YtdepkgikdmlgiaaW.PrintMore
set_option linter.unusedVariables false

noncomputable def frame_find.L (a0 : Int) : Option (Int × Bool) := lim (fun k => frame_find.f k a0)
theorem frame_find.Llm (a0 : Int) : Lm (fun k => frame_find.f k a0) (frame_find.L a0) := lim_spec (fun k => frame_find.mono a0 k)
noncomputable def frame_number.L (a0 : Int) (a1 : Int) : Option (ByteArray) := lim (fun k => frame_number.f k a0 a1)
theorem frame_number.Llm (a0 : Int) (a1 : Int) : Lm (fun k => frame_number.f k a0 a1) (frame_number.L a0 a1) := lim_spec (fun k => frame_number.mono a0 a1 k)
noncomputable def tallboyref29_op.L (a0 : Int) : Option (Int × Bool) := lim (fun k => tallboyref29_op.f k a0)
theorem tallboyref29_op.Llm (a0 : Int) : Lm (fun k => tallboyref29_op.f k a0) (tallboyref29_op.L a0) := lim_spec (fun k => tallboyref29_op.mono a0 k)
noncomputable def frame_put.l0L (x0 : List Int) (x1 : Int) (x6 : Int) (x7 : Int) : Option (List Int) := lim (fun k => frame_put.l0 k x0 x1 x6 x7)
theorem frame_put.l0Llm (x0 : List Int) (x1 : Int) (x6 : Int) (x7 : Int) : Lm (fun k => frame_put.l0 k x0 x1 x6 x7) (frame_put.l0L x0 x1 x6 x7) := lim_spec (fun k => (frame_put.mono_l k) _ _ _ _)
noncomputable def frame_put.L (l0 : List Int) (a1 : Int) : Option (List Int) := lim (fun k => frame_put.f k l0 a1)
theorem frame_put.Llm (l0 : List Int) (a1 : Int) : Lm (fun k => frame_put.f k l0 a1) (frame_put.L l0 a1) := lim_spec (fun k => frame_put.mono l0 a1 k)
noncomputable def tallboyref29_Put.l0L (x0 : Int) (x5 : List Int) (x6 : Int) : Option (ByteArray) := lim (fun k => tallboyref29_Put.l0 k x0 x5 x6)
theorem tallboyref29_Put.l0Llm (x0 : Int) (x5 : List Int) (x6 : Int) : Lm (fun k => tallboyref29_Put.l0 k x0 x5 x6) (tallboyref29_Put.l0L x0 x5 x6) := lim_spec (fun k => (tallboyref29_Put.mono_l k) _ _ _)
noncomputable def tallboyref29_Put.L (a0 : Int) (a1 : Int) : Option (ByteArray) := lim (fun k => tallboyref29_Put.f k a0 a1)
theorem tallboyref29_Put.Llm (a0 : Int) (a1 : Int) : Lm (fun k => tallboyref29_Put.f k a0 a1) (tallboyref29_Put.L a0 a1) := lim_spec (fun k => tallboyref29_Put.mono a0 a1 k)
theorem frame_number.L_eq (a0 : Int) (a1 : Int) : frame_number.L a0 a1 = (if 0 ≤ a1 then (if (a1 : Int).toNat ≤ 281474976710656 then ((frame_put.L (List.replicate (a1 : Int).toNat 0) a0).bind fun t225 => (some (strOfNums t225))) else (none)) else (none)) := by
  refine Lm.unique (frame_number.Llm a0 a1) ?_
  unfold frame_number.f
  repeat' first
    | with_reducible exact frame_put.Llm _ _
    | with_reducible exact Lm.const _
    | with_reducible refine Lm.bind ?_ (fun _ => ?_)
    | with_reducible refine Lm.ite ?_ ?_
    | refine Lm.bind ?_ (fun _ => ?_)
    | refine Lm.ite ?_ ?_
theorem frame_put.l0L_eq (x0 : List Int) (x1 : Int) (x6 : Int) (x7 : Int) : frame_put.l0L x0 x1 x6 x7 = (if x7 < x6 then (if 0 ≤ (wrap64 ((wrap64 ((x0.length : Int) - 1)) - x7)) then (if (wrap64 ((wrap64 ((x0.length : Int) - 1)) - x7)) < (x0.length : Int) then (frame_put.l0L (x0.set ((wrap64 ((wrap64 ((x0.length : Int) - 1)) - x7)) : Int).toNat ((x1) % 256)) (x1 / 256) x6 (wrap64 (x7 + 1))) else (none)) else (none)) else (some x0)) := by
  refine Lm.unique (frame_put.l0Llm x0 x1 x6 x7) ?_
  refine Lm.step rfl (f := fun k => frame_put.l0 (k + 1) x0 x1 x6 x7) (fun _ => rfl) ?_; simp only [frame_put.l0]
  repeat' first
    | with_reducible exact frame_put.l0Llm _ _ _ _
    | with_reducible exact Lm.const _
    | with_reducible refine Lm.bind ?_ (fun _ => ?_)
    | with_reducible refine Lm.ite ?_ ?_
    | refine Lm.bind ?_ (fun _ => ?_)
    | refine Lm.ite ?_ ?_
theorem frame_put.L_eq (l0 : List Int) (a1 : Int) : frame_put.L l0 a1 = (frame_put.l0L l0 a1 (l0.length : Int) 0) := by
  refine Lm.unique (frame_put.Llm l0 a1) ?_
  unfold frame_put.f
  repeat' first
    | with_reducible exact frame_put.l0Llm _ _ _ _
    | with_reducible exact Lm.const _
    | with_reducible refine Lm.bind ?_ (fun _ => ?_)
    | with_reducible refine Lm.ite ?_ ?_
    | refine Lm.bind ?_ (fun _ => ?_)
    | refine Lm.ite ?_ ?_
theorem tallboyref29_Put.l0L_eq (x0 : Int) (x5 : List Int) (x6 : Int) : tallboyref29_Put.l0L x0 x5 x6 = (if x6 ≥ 0 then (if 0 ≤ x6 then (if x6 < (x5.length : Int) then (tallboyref29_Put.l0L (IntKind.u64.wrap (Int.tdiv x0 256)) (x5.set (x6 : Int).toNat ((Int.tmod x0 256) % 256)) (wrap64 (x6 - 1))) else (none)) else (none)) else (some (strOfNums x5))) := by
  refine Lm.unique (tallboyref29_Put.l0Llm x0 x5 x6) ?_
  refine Lm.step rfl (f := fun k => tallboyref29_Put.l0 (k + 1) x0 x5 x6) (fun _ => rfl) ?_; simp only [tallboyref29_Put.l0]
  repeat' first
    | with_reducible exact tallboyref29_Put.l0Llm _ _ _
    | with_reducible exact Lm.const _
    | with_reducible refine Lm.bind ?_ (fun _ => ?_)
    | with_reducible refine Lm.ite ?_ ?_
    | refine Lm.bind ?_ (fun _ => ?_)
    | refine Lm.ite ?_ ?_
theorem tallboyref29_Put.L_eq (a0 : Int) (a1 : Int) : tallboyref29_Put.L a0 a1 = (if 0 ≤ a1 then (if (a1 : Int).toNat ≤ 281474976710656 then (tallboyref29_Put.l0L a0 (List.replicate (a1 : Int).toNat 0) (wrap64 (a1 - 1))) else (none)) else (none)) := by
  refine Lm.unique (tallboyref29_Put.Llm a0 a1) ?_
  unfold tallboyref29_Put.f
  repeat' first
    | with_reducible exact tallboyref29_Put.l0Llm _ _ _
    | with_reducible exact Lm.const _
    | with_reducible refine Lm.bind ?_ (fun _ => ?_)
    | with_reducible refine Lm.ite ?_ ?_
    | refine Lm.bind ?_ (fun _ => ?_)
    | refine Lm.ite ?_ ?_
end Go.Proofs.Ytdepkgikdmlgiaa.P
