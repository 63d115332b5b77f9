/- The limits of the functions with rounds, and the equations that reckon them. Plain Lean; no condition. Written by a program. -/
import Derived.Test.YtdepkgikdmlgiaaLim
import Derived.Test.YtdepkgikdmlgiaaPx15
import Derived.Test.YtdepkgikdmlgiaaPx0
import Derived.Test.YtdepkgikdmlgiaaShort
import Derived.Test.YtdepkgikdmlgiaaPx5
import Derived.Test.YtdepkgikdmlgiaaPx3
namespace Go.Proofs.Ytdepkgikdmlgiaa.P
open Go.RowKit Go.Proofs.Ytdepkgikdmlgiaa.Lim Go.Proofs.YtdepkgikdmlgiaaW.PrintWords Go.Proofs.YtdepkgikdmlgiaaW.PrintLast Go.Proofs.YtdepkgikdmlgiaaW.PrintMore
set_option linter.unusedVariables false

noncomputable def tallboyref29_Put.l0L (x0 : Int) (x5 : List Int) (x6 : Int) : Option (ByteArray) := lim (fun k => tallboyref29_Put.l0 k x0 x5 x6)
theorem tallboyref29_Put.l0Llm (x0 : Int) (x5 : List Int) (x6 : Int) : Lm (fun k => tallboyref29_Put.l0 k x0 x5 x6) (tallboyref29_Put.l0L x0 x5 x6) := lim_spec (fun k => (tallboyref29_Put.mono_l k) _ _ _)
noncomputable def tallboyref29_Put.L (a0 : Int) (a1 : Int) : Option (ByteArray) := lim (fun k => tallboyref29_Put.f k a0 a1)
theorem tallboyref29_Put.Llm (a0 : Int) (a1 : Int) : Lm (fun k => tallboyref29_Put.f k a0 a1) (tallboyref29_Put.L a0 a1) := lim_spec (fun k => tallboyref29_Put.mono a0 a1 k)
theorem tallboyref29_Put.l0L_eq (x0 : Int) (x5 : List Int) (x6 : Int) : tallboyref29_Put.l0L x0 x5 x6 = (if x6 ≥ 0 then (if 0 ≤ x6 then (if x6 < (x5.length : Int) then (tallboyref29_Put.l0L (IntKind.u64.wrap (Int.tdiv x0 256)) (x5.set (x6 : Int).toNat ((Int.tmod x0 256) % 256)) (wrap64 (x6 - 1))) else (none)) else (none)) else (some (strOfNums x5))) := by
  refine Lm.unique (tallboyref29_Put.l0Llm x0 x5 x6) ?_
  refine Lm.step rfl (f := fun k => tallboyref29_Put.l0 (k + 1) x0 x5 x6) (fun _ => rfl) ?_; simp only [tallboyref29_Put.l0]
  repeat' first
    | with_reducible exact tallboyref29_Put.l0Llm _ _ _
    | with_reducible exact Lm.const _
    | with_reducible refine Lm.bind ?_ (fun _ => ?_)
    | with_reducible refine Lm.ite ?_ ?_
    | refine Lm.bind ?_ (fun _ => ?_)
    | refine Lm.ite ?_ ?_
theorem tallboyref29_Put.L_eq (a0 : Int) (a1 : Int) : tallboyref29_Put.L a0 a1 = (if 0 ≤ a1 then (if (a1 : Int).toNat ≤ 281474976710656 then (tallboyref29_Put.l0L a0 (List.replicate (a1 : Int).toNat 0) (wrap64 (a1 - 1))) else (none)) else (none)) := by
  refine Lm.unique (tallboyref29_Put.Llm a0 a1) ?_
  unfold tallboyref29_Put.f
  repeat' first
    | with_reducible exact tallboyref29_Put.l0Llm _ _ _
    | with_reducible exact Lm.const _
    | with_reducible refine Lm.bind ?_ (fun _ => ?_)
    | with_reducible refine Lm.ite ?_ ?_
    | refine Lm.bind ?_ (fun _ => ?_)
    | refine Lm.ite ?_ ?_
end Go.Proofs.Ytdepkgikdmlgiaa.P
