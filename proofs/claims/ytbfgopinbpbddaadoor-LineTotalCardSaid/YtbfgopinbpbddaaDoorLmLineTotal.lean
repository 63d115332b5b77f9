/- The limits of the functions with rounds, and the equations that reckon them. Plain Lean; no condition. Written by a program. -/
import Derived.Test.YtbfgopinbpbddaaDoorLim
import Derived.Test.YtbfgopinbpbddaaDoorLmD
import Derived.Test.YtbfgopinbpbddaaDoorLm1
import Derived.Test.YtbfgopinbpbddaaDoorPx13
import Derived.Test.YtbfgopinbpbddaaDoorPx0
import Derived.Test.YtbfgopinbpbddaaDoorPx14
import Derived.Test.YtbfgopinbpbddaaDoorPx15
import Derived.Test.YtbfgopinbpbddaaDoorShort
import Derived.Test.YtbfgopinbpbddaaDoorLmS
import Derived.Test.YtbfgopinbpbddaaDoorPar
import Derived.Test.YtbfgopinbpbddaaDoorPx35
import Derived.Test.YtbfgopinbpbddaaDoorPx39
namespace Go.Proofs.YtbfgopinbpbddaaDoor.P
open Go.RowKit Go.Proofs.YtbfgopinbpbddaaDoor.Lim Go.Proofs.YtbfgopinbpbddaaDoorW.PrintWords Go.Proofs.YtbfgopinbpbddaaDoorW.PrintLast Go.Proofs.YtbfgopinbpbddaaDoorW.PrintMore
set_option linter.unusedVariables false

noncomputable def tallboylaw17_works.L : Option (Bool) := lim (fun k => tallboylaw17_works.f k)
theorem tallboylaw17_works.Llm : Lm (fun k => tallboylaw17_works.f k) (tallboylaw17_works.L) := lim_spec (fun k => tallboylaw17_works.mono k)
noncomputable def tallboylaw17_LineTotal.j0L (x16 : Int) (x83 : Bool) (za : Int) (z1 : Int) (z2 : List ByteArray) (z3 : Int) (z4 : Int) (z5 : ByteArray) (z6 : Int) (z7 : Int) (z8 : Bool) (zb : Int) (z9 : Int) : Option (Bool) := lim (fun k => tallboylaw17_LineTotal.j0 k x16 x83 za z1 z2 z3 z4 z5 z6 z7 z8 zb z9)
theorem tallboylaw17_LineTotal.j0Llm (x16 : Int) (x83 : Bool) (za : Int) (z1 : Int) (z2 : List ByteArray) (z3 : Int) (z4 : Int) (z5 : ByteArray) (z6 : Int) (z7 : Int) (z8 : Bool) (zb : Int) (z9 : Int) : Lm (fun k => tallboylaw17_LineTotal.j0 k x16 x83 za z1 z2 z3 z4 z5 z6 z7 z8 zb z9) (tallboylaw17_LineTotal.j0L x16 x83 za z1 z2 z3 z4 z5 z6 z7 z8 zb z9) := lim_spec (fun k => (tallboylaw17_LineTotal.mono_l k).1 _ _ _ _ _ _ _ _ _ _ _ _ _)
noncomputable def tallboylaw17_LineTotal.j1L (x95 : Bool) (za : Int) (z1 : Int) (z2 : List ByteArray) (z3 : Int) (z4 : Int) (z5 : ByteArray) (z6 : Int) (z7 : Int) (z8 : Bool) (zb : Int) (z9 : Int) : Option (Bool) := lim (fun k => tallboylaw17_LineTotal.j1 k x95 za z1 z2 z3 z4 z5 z6 z7 z8 zb z9)
theorem tallboylaw17_LineTotal.j1Llm (x95 : Bool) (za : Int) (z1 : Int) (z2 : List ByteArray) (z3 : Int) (z4 : Int) (z5 : ByteArray) (z6 : Int) (z7 : Int) (z8 : Bool) (zb : Int) (z9 : Int) : Lm (fun k => tallboylaw17_LineTotal.j1 k x95 za z1 z2 z3 z4 z5 z6 z7 z8 zb z9) (tallboylaw17_LineTotal.j1L x95 za z1 z2 z3 z4 z5 z6 z7 z8 zb z9) := lim_spec (fun k => (tallboylaw17_LineTotal.mono_l k).2 _ _ _ _ _ _ _ _ _ _ _ _)
noncomputable def tallboylaw17_LineTotal.L (a0 : ByteArray) : Option (Bool) := lim (fun k => tallboylaw17_LineTotal.f k a0)
theorem tallboylaw17_LineTotal.Llm (a0 : ByteArray) : Lm (fun k => tallboylaw17_LineTotal.f k a0) (tallboylaw17_LineTotal.L a0) := lim_spec (fun k => tallboylaw17_LineTotal.mono a0 k)
theorem tallboylaw17_LineTotal.j0L_eq (x16 : Int) (x83 : Bool) (za : Int) (z1 : Int) (z2 : List ByteArray) (z3 : Int) (z4 : Int) (z5 : ByteArray) (z6 : Int) (z7 : Int) (z8 : Bool) (zb : Int) (z9 : Int) : tallboylaw17_LineTotal.j0L x16 x83 za z1 z2 z3 z4 z5 z6 z7 z8 zb z9 = (if x83 = true then ((tallboyref17_SameCommands.L z1 z2 z3 z4 z5 z6 z7 z8 0 ([] : List ByteArray) 0 0 (⟨#[]⟩ : ByteArray) 0 0 false).bind fun t629 => (if t629 = true then (some (decide (z9 ≥ 0))) else (none))) else (if x16 = 3 then (tallboylaw17_LineTotal.j1L (x16 == 3) za z1 z2 z3 z4 z5 z6 z7 z8 zb z9) else (if x16 = 5 then (tallboylaw17_LineTotal.j1L (x16 == 5) za z1 z2 z3 z4 z5 z6 z7 z8 zb z9) else (if x16 = 6 then (tallboylaw17_LineTotal.j1L (x16 == 6) za z1 z2 z3 z4 z5 z6 z7 z8 zb z9) else (tallboylaw17_LineTotal.j1L (x16 == 9) za z1 z2 z3 z4 z5 z6 z7 z8 zb z9))))) := by
  refine Lm.unique (tallboylaw17_LineTotal.j0Llm x16 x83 za z1 z2 z3 z4 z5 z6 z7 z8 zb z9) ?_
  refine Lm.step rfl (f := fun k => tallboylaw17_LineTotal.j0 (k + 1) x16 x83 za z1 z2 z3 z4 z5 z6 z7 z8 zb z9) (fun _ => rfl) ?_; simp only [tallboylaw17_LineTotal.j0]
  repeat' first
    | with_reducible exact tallboyref17_SameCommands.Llm _ _ _ _ _ _ _ _ _ _ _ _ _ _ _ _
    | with_reducible exact tallboylaw17_LineTotal.j1Llm _ _ _ _ _ _ _ _ _ _ _ _
    | with_reducible exact Lm.const _
    | with_reducible refine Lm.bind ?_ (fun _ => ?_)
    | with_reducible refine Lm.ite ?_ ?_
    | refine Lm.bind ?_ (fun _ => ?_)
    | refine Lm.ite ?_ ?_
theorem tallboylaw17_LineTotal.j1L_eq (x95 : Bool) (za : Int) (z1 : Int) (z2 : List ByteArray) (z3 : Int) (z4 : Int) (z5 : ByteArray) (z6 : Int) (z7 : Int) (z8 : Bool) (zb : Int) (z9 : Int) : tallboylaw17_LineTotal.j1L x95 za z1 z2 z3 z4 z5 z6 z7 z8 zb z9 = (if x95 = true then ((tallboyref17_SameCommands.L z1 z2 z3 z4 z5 z6 z7 z8 0 ([] : List ByteArray) 0 0 (⟨#[]⟩ : ByteArray) 0 0 false).bind fun t630 => (if t630 = true then (some (z9 == 0)) else (none))) else (none)) := by
  refine Lm.unique (tallboylaw17_LineTotal.j1Llm x95 za z1 z2 z3 z4 z5 z6 z7 z8 zb z9) ?_
  refine Lm.step rfl (f := fun k => tallboylaw17_LineTotal.j1 (k + 1) x95 za z1 z2 z3 z4 z5 z6 z7 z8 zb z9) (fun _ => rfl) ?_; simp only [tallboylaw17_LineTotal.j1]
  repeat' first
    | with_reducible exact tallboyref17_SameCommands.Llm _ _ _ _ _ _ _ _ _ _ _ _ _ _ _ _
    | with_reducible exact Lm.const _
    | with_reducible refine Lm.bind ?_ (fun _ => ?_)
    | with_reducible refine Lm.ite ?_ ?_
    | refine Lm.bind ?_ (fun _ => ?_)
    | refine Lm.ite ?_ ?_
theorem tallboylaw17_LineTotal.L_eq (a0 : ByteArray) : tallboylaw17_LineTotal.L a0 = ((tallboylaw17_works.L).bind fun t610 => (if t610 = true then (if (a0.size : Int) > 10000 then (some true) else ((line_Parse.L a0).bind fun bt611 => ((tallboyref15_Check.L bt611.2.1 bt611.2.2.1 bt611.2.2.2.1 bt611.2.2.2.2.1 bt611.2.2.2.2.2.1 bt611.2.2.2.2.2.2.1 bt611.2.2.2.2.2.2.2.1 bt611.2.2.2.2.2.2.2.2.1).bind fun t625 => (if bt611.1 = 1 then (if t625 = 0 then ((tallboyref15_Stores.f bt611.2.1).bind fun t626 => (if t626 = true then (none) else (if bt611.2.2.2.2.2.2.2.2.2.1 = 0 then (some (bt611.2.2.2.2.2.2.2.2.2.2 == 0)) else (none)))) else (none)) else (if bt611.1 = 2 then (if t625 = 0 then ((tallboyref15_Stores.f bt611.2.1).bind fun t627 => (if t627 = true then (if bt611.2.2.2.2.2.2.2.2.2.1 ≥ 0 then (if bt611.2.2.2.2.2.2.2.2.2.1 ≤ 2000 then (some (bt611.2.2.2.2.2.2.2.2.2.2 == 0)) else (none)) else (none)) else (none))) else (none)) else (if bt611.1 = 8 then (if t625 = 0 then ((tallboyref15_Stores.f bt611.2.1).bind fun t628 => (if t628 = true then (if bt611.2.2.2.2.2.2.2.2.2.2 = 0 then (some true) else (some (decide (bt611.2.2.2.2.2.2.2.2.2.2 > 2002)))) else (none))) else (none)) else (if bt611.1 = 4 then (tallboylaw17_LineTotal.j0L bt611.1 (bt611.1 == 4) bt611.1 bt611.2.1 bt611.2.2.1 bt611.2.2.2.1 bt611.2.2.2.2.1 bt611.2.2.2.2.2.1 bt611.2.2.2.2.2.2.1 bt611.2.2.2.2.2.2.2.1 bt611.2.2.2.2.2.2.2.2.1 bt611.2.2.2.2.2.2.2.2.2.1 bt611.2.2.2.2.2.2.2.2.2.2) else (tallboylaw17_LineTotal.j0L bt611.1 (bt611.1 == 7) bt611.1 bt611.2.1 bt611.2.2.1 bt611.2.2.2.1 bt611.2.2.2.2.1 bt611.2.2.2.2.2.1 bt611.2.2.2.2.2.2.1 bt611.2.2.2.2.2.2.2.1 bt611.2.2.2.2.2.2.2.2.1 bt611.2.2.2.2.2.2.2.2.2.1 bt611.2.2.2.2.2.2.2.2.2.2)))))))) else (none))) := by
  refine Lm.unique (tallboylaw17_LineTotal.Llm a0) ?_
  unfold tallboylaw17_LineTotal.f
  repeat' first
    | with_reducible exact tallboylaw17_LineTotal.j0Llm _ _ _ _ _ _ _ _ _ _ _ _ _
    | with_reducible exact tallboyref15_Check.Llm _ _ _ _ _ _ _ _
    | with_reducible exact tallboylaw17_works.Llm
    | with_reducible exact line_Parse.Llm _
    | with_reducible exact Lm.const _
    | with_reducible refine Lm.bind ?_ (fun _ => ?_)
    | with_reducible refine Lm.ite ?_ ?_
    | refine Lm.bind ?_ (fun _ => ?_)
    | refine Lm.ite ?_ ?_
end Go.Proofs.YtbfgopinbpbddaaDoor.P
