/- The limits of the functions with rounds, and the equations that reckon them. Plain Lean; no condition. Written by a program. -/
import Derived.Test.YtbfgopinbpbddaaDoorLim
import Derived.Test.YtbfgopinbpbddaaDoorLmD
import Derived.Test.YtbfgopinbpbddaaDoorLm1
import Derived.Test.YtbfgopinbpbddaaDoorPx0
import Derived.Test.YtbfgopinbpbddaaDoorPx1
import Derived.Test.YtbfgopinbpbddaaDoorPx2
import Derived.Test.YtbfgopinbpbddaaDoorShort
import Derived.Test.YtbfgopinbpbddaaDoorPx7
import Derived.Test.YtbfgopinbpbddaaDoorPx9
import Derived.Test.YtbfgopinbpbddaaDoorPx12
import Derived.Test.YtbfgopinbpbddaaDoorPx17
import Derived.Test.YtbfgopinbpbddaaDoorLmS
import Derived.Test.YtbfgopinbpbddaaDoorPar
import Derived.Test.YtbfgopinbpbddaaDoorPx32
import Derived.Test.YtbfgopinbpbddaaDoorPx34
import Derived.Test.YtbfgopinbpbddaaDoorPx36
import Derived.Test.YtbfgopinbpbddaaDoorPx38
import Derived.Test.YtbfgopinbpbddaaDoorPx39
namespace Go.Proofs.YtbfgopinbpbddaaDoor.P
open Go.RowKit Go.Proofs.YtbfgopinbpbddaaDoor.Lim Go.Proofs.YtbfgopinbpbddaaDoorW.PrintWords Go.Proofs.YtbfgopinbpbddaaDoorW.PrintLast Go.Proofs.YtbfgopinbpbddaaDoorW.PrintMore
set_option linter.unusedVariables false

noncomputable def tallboyref17_Words.l0L (x0 : ByteArray) (x3 : List ByteArray) (x4 : Int) (x5 : Int) : Option (List ByteArray) := lim (fun k => tallboyref17_Words.l0 k x0 x3 x4 x5)
theorem tallboyref17_Words.l0Llm (x0 : ByteArray) (x3 : List ByteArray) (x4 : Int) (x5 : Int) : Lm (fun k => tallboyref17_Words.l0 k x0 x3 x4 x5) (tallboyref17_Words.l0L x0 x3 x4 x5) := lim_spec (fun k => (tallboyref17_Words.mono_l k).1 _ _ _ _)
noncomputable def tallboyref17_Words.j1L (x0 : ByteArray) (x3 : List ByteArray) (x4 : Int) (x5 : Int) (x21 : Bool) : Option (List ByteArray) := lim (fun k => tallboyref17_Words.j1 k x0 x3 x4 x5 x21)
theorem tallboyref17_Words.j1Llm (x0 : ByteArray) (x3 : List ByteArray) (x4 : Int) (x5 : Int) (x21 : Bool) : Lm (fun k => tallboyref17_Words.j1 k x0 x3 x4 x5 x21) (tallboyref17_Words.j1L x0 x3 x4 x5 x21) := lim_spec (fun k => (tallboyref17_Words.mono_l k).2 _ _ _ _ _)
noncomputable def tallboyref17_Words.L (a0 : ByteArray) : Option (List ByteArray) := lim (fun k => tallboyref17_Words.f k a0)
theorem tallboyref17_Words.Llm (a0 : ByteArray) : Lm (fun k => tallboyref17_Words.f k a0) (tallboyref17_Words.L a0) := lim_spec (fun k => tallboyref17_Words.mono a0 k)
noncomputable def tallboyref15_Kind.l0L (x0 : ByteArray) (x3 : Int) : Option (Int) := lim (fun k => tallboyref15_Kind.l0 k x0 x3)
theorem tallboyref15_Kind.l0Llm (x0 : ByteArray) (x3 : Int) : Lm (fun k => tallboyref15_Kind.l0 k x0 x3) (tallboyref15_Kind.l0L x0 x3) := lim_spec (fun k => (tallboyref15_Kind.mono_l k) _ _)
noncomputable def tallboyref15_Kind.L (a0 : ByteArray) : Option (Int) := lim (fun k => tallboyref15_Kind.f k a0)
theorem tallboyref15_Kind.Llm (a0 : ByteArray) : Lm (fun k => tallboyref15_Kind.f k a0) (tallboyref15_Kind.L a0) := lim_spec (fun k => tallboyref15_Kind.mono a0 k)
noncomputable def tallboyref17_reads.j0L (x0 : Int) (x1 : List ByteArray) (x5 : Int) (x17 : Bool) : Option (Int × Int × List ByteArray × Int × Int × ByteArray × Int × Int × Bool × Int × Int) := lim (fun k => tallboyref17_reads.j0 k x0 x1 x5 x17)
theorem tallboyref17_reads.j0Llm (x0 : Int) (x1 : List ByteArray) (x5 : Int) (x17 : Bool) : Lm (fun k => tallboyref17_reads.j0 k x0 x1 x5 x17) (tallboyref17_reads.j0L x0 x1 x5 x17) := lim_spec (fun k => (tallboyref17_reads.mono_l k).1 _ _ _ _)
noncomputable def tallboyref17_reads.j1L (x0 : Int) (x1 : List ByteArray) (x5 : Int) : Option (Int × Int × List ByteArray × Int × Int × ByteArray × Int × Int × Bool × Int × Int) := lim (fun k => tallboyref17_reads.j1 k x0 x1 x5)
theorem tallboyref17_reads.j1Llm (x0 : Int) (x1 : List ByteArray) (x5 : Int) : Lm (fun k => tallboyref17_reads.j1 k x0 x1 x5) (tallboyref17_reads.j1L x0 x1 x5) := lim_spec (fun k => (tallboyref17_reads.mono_l k).2.1 _ _ _)
noncomputable def tallboyref17_reads.l0L (x0 : Int) (x1 : List ByteArray) (x5 : Int) (x6 : List ByteArray) (x7 : Bool) (x8 : Int) : Option (Int × Int × List ByteArray × Int × Int × ByteArray × Int × Int × Bool × Int × Int) := lim (fun k => tallboyref17_reads.l0 k x0 x1 x5 x6 x7 x8)
theorem tallboyref17_reads.l0Llm (x0 : Int) (x1 : List ByteArray) (x5 : Int) (x6 : List ByteArray) (x7 : Bool) (x8 : Int) : Lm (fun k => tallboyref17_reads.l0 k x0 x1 x5 x6 x7 x8) (tallboyref17_reads.l0L x0 x1 x5 x6 x7 x8) := lim_spec (fun k => (tallboyref17_reads.mono_l k).2.2 _ _ _ _ _ _)
noncomputable def tallboyref17_reads.L (a0 : Int) (l1 : List ByteArray) : Option (Int × Int × List ByteArray × Int × Int × ByteArray × Int × Int × Bool × Int × Int) := lim (fun k => tallboyref17_reads.f k a0 l1)
theorem tallboyref17_reads.Llm (a0 : Int) (l1 : List ByteArray) : Lm (fun k => tallboyref17_reads.f k a0 l1) (tallboyref17_reads.L a0 l1) := lim_spec (fun k => tallboyref17_reads.mono a0 l1 k)
noncomputable def tallboyref17_need.j0L (x12 : Bool) : Option (Int) := lim (fun k => tallboyref17_need.j0 k x12)
theorem tallboyref17_need.j0Llm (x12 : Bool) : Lm (fun k => tallboyref17_need.j0 k x12) (tallboyref17_need.j0L x12) := lim_spec (fun k => (tallboyref17_need.mono_l k) _)
noncomputable def tallboyref17_need.L (a0 : Int) : Option (Int) := lim (fun k => tallboyref17_need.f k a0)
theorem tallboyref17_need.Llm (a0 : Int) : Lm (fun k => tallboyref17_need.f k a0) (tallboyref17_need.L a0) := lim_spec (fun k => tallboyref17_need.mono a0 k)
noncomputable def tallboyref17_stores.j0L (x0 : Int) (x1 : List ByteArray) (x2 : Bool) (x7 : Int) (x28 : Bool) : Option (Int × Int × List ByteArray × Int × Int × ByteArray × Int × Int × Bool × Int × Int) := lim (fun k => tallboyref17_stores.j0 k x0 x1 x2 x7 x28)
theorem tallboyref17_stores.j0Llm (x0 : Int) (x1 : List ByteArray) (x2 : Bool) (x7 : Int) (x28 : Bool) : Lm (fun k => tallboyref17_stores.j0 k x0 x1 x2 x7 x28) (tallboyref17_stores.j0L x0 x1 x2 x7 x28) := lim_spec (fun k => (tallboyref17_stores.mono_l k).1 _ _ _ _ _)
noncomputable def tallboyref17_stores.j1L (x0 : Int) (x1 : List ByteArray) (x2 : Bool) (x7 : Int) (z9 : Int) (z2 : Int) (z3 : Int) (z4 : Int) (z5 : ByteArray) (z6 : Int) (z7 : Int) (z8 : Bool) (z0 : Int) (z1 : Int) : Option (Int × Int × List ByteArray × Int × Int × ByteArray × Int × Int × Bool × Int × Int) := lim (fun k => tallboyref17_stores.j1 k x0 x1 x2 x7 z9 z2 z3 z4 z5 z6 z7 z8 z0 z1)
theorem tallboyref17_stores.j1Llm (x0 : Int) (x1 : List ByteArray) (x2 : Bool) (x7 : Int) (z9 : Int) (z2 : Int) (z3 : Int) (z4 : Int) (z5 : ByteArray) (z6 : Int) (z7 : Int) (z8 : Bool) (z0 : Int) (z1 : Int) : Lm (fun k => tallboyref17_stores.j1 k x0 x1 x2 x7 z9 z2 z3 z4 z5 z6 z7 z8 z0 z1) (tallboyref17_stores.j1L x0 x1 x2 x7 z9 z2 z3 z4 z5 z6 z7 z8 z0 z1) := lim_spec (fun k => (tallboyref17_stores.mono_l k).2.1 _ _ _ _ _ _ _ _ _ _ _ _ _ _)
noncomputable def tallboyref17_stores.j2L (x0 : Int) (x1 : List ByteArray) (x2 : Bool) (x7 : Int) (x10 : Int) (x11 : Int) (x12 : Int) (x13 : Int) (x14 : Int) (x15 : Int) (z9 : Int) (z2 : Int) (z3 : Int) (z4 : Int) (z5 : ByteArray) (z6 : Int) (z7 : Int) (z8 : Bool) (z0 : Int) (z1 : Int) : Option (Int × Int × List ByteArray × Int × Int × ByteArray × Int × Int × Bool × Int × Int) := lim (fun k => tallboyref17_stores.j2 k x0 x1 x2 x7 x10 x11 x12 x13 x14 x15 z9 z2 z3 z4 z5 z6 z7 z8 z0 z1)
theorem tallboyref17_stores.j2Llm (x0 : Int) (x1 : List ByteArray) (x2 : Bool) (x7 : Int) (x10 : Int) (x11 : Int) (x12 : Int) (x13 : Int) (x14 : Int) (x15 : Int) (z9 : Int) (z2 : Int) (z3 : Int) (z4 : Int) (z5 : ByteArray) (z6 : Int) (z7 : Int) (z8 : Bool) (z0 : Int) (z1 : Int) : Lm (fun k => tallboyref17_stores.j2 k x0 x1 x2 x7 x10 x11 x12 x13 x14 x15 z9 z2 z3 z4 z5 z6 z7 z8 z0 z1) (tallboyref17_stores.j2L x0 x1 x2 x7 x10 x11 x12 x13 x14 x15 z9 z2 z3 z4 z5 z6 z7 z8 z0 z1) := lim_spec (fun k => (tallboyref17_stores.mono_l k).2.2.1 _ _ _ _ _ _ _ _ _ _ _ _ _ _ _ _ _ _ _ _)
noncomputable def tallboyref17_stores.j3L (x0 : Int) (x1 : List ByteArray) (x2 : Bool) (x7 : Int) (x10 : Int) (x12 : Int) (x13 : Int) (x14 : Int) (x59 : Bool) (z9 : Int) (z2 : Int) (z3 : Int) (z4 : Int) (z5 : ByteArray) (z6 : Int) (z7 : Int) (z8 : Bool) (z0 : Int) (z1 : Int) : Option (Int × Int × List ByteArray × Int × Int × ByteArray × Int × Int × Bool × Int × Int) := lim (fun k => tallboyref17_stores.j3 k x0 x1 x2 x7 x10 x12 x13 x14 x59 z9 z2 z3 z4 z5 z6 z7 z8 z0 z1)
theorem tallboyref17_stores.j3Llm (x0 : Int) (x1 : List ByteArray) (x2 : Bool) (x7 : Int) (x10 : Int) (x12 : Int) (x13 : Int) (x14 : Int) (x59 : Bool) (z9 : Int) (z2 : Int) (z3 : Int) (z4 : Int) (z5 : ByteArray) (z6 : Int) (z7 : Int) (z8 : Bool) (z0 : Int) (z1 : Int) : Lm (fun k => tallboyref17_stores.j3 k x0 x1 x2 x7 x10 x12 x13 x14 x59 z9 z2 z3 z4 z5 z6 z7 z8 z0 z1) (tallboyref17_stores.j3L x0 x1 x2 x7 x10 x12 x13 x14 x59 z9 z2 z3 z4 z5 z6 z7 z8 z0 z1) := lim_spec (fun k => (tallboyref17_stores.mono_l k).2.2.2 _ _ _ _ _ _ _ _ _ _ _ _ _ _ _ _ _ _ _)
noncomputable def tallboyref17_stores.L (a0 : Int) (l1 : List ByteArray) (a2 : Bool) : Option (Int × Int × List ByteArray × Int × Int × ByteArray × Int × Int × Bool × Int × Int) := lim (fun k => tallboyref17_stores.f k a0 l1 a2)
theorem tallboyref17_stores.Llm (a0 : Int) (l1 : List ByteArray) (a2 : Bool) : Lm (fun k => tallboyref17_stores.f k a0 l1 a2) (tallboyref17_stores.L a0 l1 a2) := lim_spec (fun k => tallboyref17_stores.mono a0 l1 a2 k)
noncomputable def tallboyref17_Parse.j0L (x3 : List ByteArray) (x4 : Int) (x5 : Int) (x6 : Bool) : Option (Int × Int × List ByteArray × Int × Int × ByteArray × Int × Int × Bool × Int × Int) := lim (fun k => tallboyref17_Parse.j0 k x3 x4 x5 x6)
theorem tallboyref17_Parse.j0Llm (x3 : List ByteArray) (x4 : Int) (x5 : Int) (x6 : Bool) : Lm (fun k => tallboyref17_Parse.j0 k x3 x4 x5 x6) (tallboyref17_Parse.j0L x3 x4 x5 x6) := lim_spec (fun k => (tallboyref17_Parse.mono_l k).1 _ _ _ _)
noncomputable def tallboyref17_Parse.j1L (x3 : List ByteArray) (x4 : Int) (x6 : Bool) (x55 : Bool) : Option (Int × Int × List ByteArray × Int × Int × ByteArray × Int × Int × Bool × Int × Int) := lim (fun k => tallboyref17_Parse.j1 k x3 x4 x6 x55)
theorem tallboyref17_Parse.j1Llm (x3 : List ByteArray) (x4 : Int) (x6 : Bool) (x55 : Bool) : Lm (fun k => tallboyref17_Parse.j1 k x3 x4 x6 x55) (tallboyref17_Parse.j1L x3 x4 x6 x55) := lim_spec (fun k => (tallboyref17_Parse.mono_l k).2.1 _ _ _ _)
noncomputable def tallboyref17_Parse.j2L (x3 : List ByteArray) (x96 : Bool) (z0 : Int) (z1 : List ByteArray) (z2 : Int) (z3 : Int) (z4 : ByteArray) (z5 : Int) (x425006 : Int) (z6 : Bool) : Option (Int × Int × List ByteArray × Int × Int × ByteArray × Int × Int × Bool × Int × Int) := lim (fun k => tallboyref17_Parse.j2 k x3 x96 z0 z1 z2 z3 z4 z5 x425006 z6)
theorem tallboyref17_Parse.j2Llm (x3 : List ByteArray) (x96 : Bool) (z0 : Int) (z1 : List ByteArray) (z2 : Int) (z3 : Int) (z4 : ByteArray) (z5 : Int) (x425006 : Int) (z6 : Bool) : Lm (fun k => tallboyref17_Parse.j2 k x3 x96 z0 z1 z2 z3 z4 z5 x425006 z6) (tallboyref17_Parse.j2L x3 x96 z0 z1 z2 z3 z4 z5 x425006 z6) := lim_spec (fun k => (tallboyref17_Parse.mono_l k).2.2 _ _ _ _ _ _ _ _ _ _)
noncomputable def tallboyref17_Parse.L (a0 : ByteArray) : Option (Int × Int × List ByteArray × Int × Int × ByteArray × Int × Int × Bool × Int × Int) := lim (fun k => tallboyref17_Parse.f k a0)
theorem tallboyref17_Parse.Llm (a0 : ByteArray) : Lm (fun k => tallboyref17_Parse.f k a0) (tallboyref17_Parse.L a0) := lim_spec (fun k => tallboyref17_Parse.mono a0 k)
noncomputable def tallboylaw16_SameTexts.l0L (x0 : List ByteArray) (x1 : List ByteArray) (x5 : Int) : Option (Bool) := lim (fun k => tallboylaw16_SameTexts.l0 k x0 x1 x5)
theorem tallboylaw16_SameTexts.l0Llm (x0 : List ByteArray) (x1 : List ByteArray) (x5 : Int) : Lm (fun k => tallboylaw16_SameTexts.l0 k x0 x1 x5) (tallboylaw16_SameTexts.l0L x0 x1 x5) := lim_spec (fun k => (tallboylaw16_SameTexts.mono_l k) _ _ _)
noncomputable def tallboylaw16_SameTexts.L (l0 : List ByteArray) (l1 : List ByteArray) : Option (Bool) := lim (fun k => tallboylaw16_SameTexts.f k l0 l1)
theorem tallboylaw16_SameTexts.Llm (l0 : List ByteArray) (l1 : List ByteArray) : Lm (fun k => tallboylaw16_SameTexts.f k l0 l1) (tallboylaw16_SameTexts.L l0 l1) := lim_spec (fun k => tallboylaw16_SameTexts.mono l0 l1 k)
noncomputable def tallboylaw17_LineReads.L (a0 : ByteArray) : Option (Bool) := lim (fun k => tallboylaw17_LineReads.f k a0)
theorem tallboylaw17_LineReads.Llm (a0 : ByteArray) : Lm (fun k => tallboylaw17_LineReads.f k a0) (tallboylaw17_LineReads.L a0) := lim_spec (fun k => tallboylaw17_LineReads.mono a0 k)
theorem tallboyref17_Words.l0L_eq (x0 : ByteArray) (x3 : List ByteArray) (x4 : Int) (x5 : Int) : tallboyref17_Words.l0L x0 x3 x4 x5 = (if x5 ≤ (x0.size : Int) then (if x5 < (x0.size : Int) then (if 0 ≤ x5 then (tallboyref17_Words.j1L x0 x3 x4 x5 ((bt x0 x5) != 32)) else (none)) else (tallboyref17_Words.j1L x0 x3 x4 x5 false)) else (some x3)) := by
  refine Lm.unique (tallboyref17_Words.l0Llm x0 x3 x4 x5) ?_
  refine Lm.step rfl (f := fun k => tallboyref17_Words.l0 (k + 1) x0 x3 x4 x5) (fun _ => rfl) ?_; simp only [tallboyref17_Words.l0]
  repeat' first
    | with_reducible exact tallboyref17_Words.j1Llm _ _ _ _ _
    | with_reducible exact Lm.const _
    | with_reducible refine Lm.bind ?_ (fun _ => ?_)
    | with_reducible refine Lm.ite ?_ ?_
    | refine Lm.bind ?_ (fun _ => ?_)
    | refine Lm.ite ?_ ?_
theorem tallboyref17_Words.j1L_eq (x0 : ByteArray) (x3 : List ByteArray) (x4 : Int) (x5 : Int) (x21 : Bool) : tallboyref17_Words.j1L x0 x3 x4 x5 x21 = (if x21 = true then (if x4 < 0 then (tallboyref17_Words.l0L x0 x3 x5 (wrap64 (x5 + 1))) else (tallboyref17_Words.l0L x0 x3 x4 (wrap64 (x5 + 1)))) else (if x4 ≥ 0 then (if 0 ≤ x4 then (if x4 ≤ x5 then (if x5 ≤ (x0.size : Int) then (if x3.length < 8796093022208 then (tallboyref17_Words.l0L x0 (x3 ++ [x0.extract (x4 : Int).toNat (x5 : Int).toNat]) (-1) (wrap64 (x5 + 1))) else (none)) else (none)) else (none)) else (none)) else (tallboyref17_Words.l0L x0 x3 x4 (wrap64 (x5 + 1))))) := by
  refine Lm.unique (tallboyref17_Words.j1Llm x0 x3 x4 x5 x21) ?_
  refine Lm.step rfl (f := fun k => tallboyref17_Words.j1 (k + 1) x0 x3 x4 x5 x21) (fun _ => rfl) ?_; simp only [tallboyref17_Words.j1]
  repeat' first
    | with_reducible exact tallboyref17_Words.l0Llm _ _ _ _
    | with_reducible exact Lm.const _
    | with_reducible refine Lm.bind ?_ (fun _ => ?_)
    | with_reducible refine Lm.ite ?_ ?_
    | refine Lm.bind ?_ (fun _ => ?_)
    | refine Lm.ite ?_ ?_
theorem tallboyref17_Words.L_eq (a0 : ByteArray) : tallboyref17_Words.L a0 = (tallboyref17_Words.l0L a0 ([] : List ByteArray) (-1) 0) := by
  refine Lm.unique (tallboyref17_Words.Llm a0) ?_
  unfold tallboyref17_Words.f
  repeat' first
    | with_reducible exact tallboyref17_Words.l0Llm _ _ _ _
    | with_reducible exact Lm.const _
    | with_reducible refine Lm.bind ?_ (fun _ => ?_)
    | with_reducible refine Lm.ite ?_ ?_
    | refine Lm.bind ?_ (fun _ => ?_)
    | refine Lm.ite ?_ ?_
theorem tallboyref15_Kind.l0L_eq (x0 : ByteArray) (x3 : Int) : tallboyref15_Kind.l0L x0 x3 = (if x3 ≤ 15 then ((tallboyref15_Name.f x3).bind fun t246 => (if t246.toList = x0.toList then (some x3) else (tallboyref15_Kind.l0L x0 (wrap64 (x3 + 1))))) else (some 0)) := by
  refine Lm.unique (tallboyref15_Kind.l0Llm x0 x3) ?_
  refine Lm.step rfl (f := fun k => tallboyref15_Kind.l0 (k + 1) x0 x3) (fun _ => rfl) ?_; simp only [tallboyref15_Kind.l0]
  repeat' first
    | with_reducible exact tallboyref15_Kind.l0Llm _ _
    | with_reducible exact Lm.const _
    | with_reducible refine Lm.bind ?_ (fun _ => ?_)
    | with_reducible refine Lm.ite ?_ ?_
    | refine Lm.bind ?_ (fun _ => ?_)
    | refine Lm.ite ?_ ?_
theorem tallboyref15_Kind.L_eq (a0 : ByteArray) : tallboyref15_Kind.L a0 = (tallboyref15_Kind.l0L a0 1) := by
  refine Lm.unique (tallboyref15_Kind.Llm a0) ?_
  unfold tallboyref15_Kind.f
  repeat' first
    | with_reducible exact tallboyref15_Kind.l0Llm _ _
    | with_reducible exact Lm.const _
    | with_reducible refine Lm.bind ?_ (fun _ => ?_)
    | with_reducible refine Lm.ite ?_ ?_
    | refine Lm.bind ?_ (fun _ => ?_)
    | refine Lm.ite ?_ ?_
theorem tallboyref17_reads.j0L_eq (x0 : Int) (x1 : List ByteArray) (x5 : Int) (x17 : Bool) : tallboyref17_reads.j0L x0 x1 x5 x17 = (if x17 = true then (tallboyref17_reads.j1L x0 x1 2) else (tallboyref17_reads.j1L x0 x1 x5)) := by
  refine Lm.unique (tallboyref17_reads.j0Llm x0 x1 x5 x17) ?_
  refine Lm.step rfl (f := fun k => tallboyref17_reads.j0 (k + 1) x0 x1 x5 x17) (fun _ => rfl) ?_; simp only [tallboyref17_reads.j0]
  repeat' first
    | with_reducible exact tallboyref17_reads.j1Llm _ _ _
    | with_reducible exact Lm.const _
    | with_reducible refine Lm.bind ?_ (fun _ => ?_)
    | with_reducible refine Lm.ite ?_ ?_
    | refine Lm.bind ?_ (fun _ => ?_)
    | refine Lm.ite ?_ ?_
theorem tallboyref17_reads.j1L_eq (x0 : Int) (x1 : List ByteArray) (x5 : Int) : tallboyref17_reads.j1L x0 x1 x5 = (if (x1.length : Int) ≤ x5 then ((tallboyref17_bad.f 3).bind fun bt252 => (some (bt252.1, bt252.2.1, bt252.2.2.1, bt252.2.2.2.1, bt252.2.2.2.2.1, bt252.2.2.2.2.2.1, bt252.2.2.2.2.2.2.1, bt252.2.2.2.2.2.2.2.1, bt252.2.2.2.2.2.2.2.2.1, bt252.2.2.2.2.2.2.2.2.2.1, bt252.2.2.2.2.2.2.2.2.2.2))) else (if 0 ≤ x5 then (if x5 ≤ (x1.length : Int) then ((some (x1.drop (x5 : Int).toNat : List ByteArray)).bind fun y265 => (tallboyref17_reads.l0L x0 x1 x5 y265 (decide ((y265.length : Int) ≤ 8)) 0)) else (none)) else (none))) := by
  refine Lm.unique (tallboyref17_reads.j1Llm x0 x1 x5) ?_
  refine Lm.step rfl (f := fun k => tallboyref17_reads.j1 (k + 1) x0 x1 x5) (fun _ => rfl) ?_; simp only [tallboyref17_reads.j1]
  repeat' first
    | with_reducible exact tallboyref17_reads.l0Llm _ _ _ _ _ _
    | with_reducible exact Lm.const _
    | with_reducible refine Lm.bind ?_ (fun _ => ?_)
    | with_reducible refine Lm.ite ?_ ?_
    | refine Lm.bind ?_ (fun _ => ?_)
    | refine Lm.ite ?_ ?_
theorem tallboyref17_reads.l0L_eq (x0 : Int) (x1 : List ByteArray) (x5 : Int) (x6 : List ByteArray) (x7 : Bool) (x8 : Int) : tallboyref17_reads.l0L x0 x1 x5 x6 x7 x8 = (if x8 < (x6.length : Int) then (if x7 = true then (if 0 ≤ x8 then ((tallboyref04_Key.L (rdOf ByteArray.empty x6 x8)).bind fun t271 => (tallboyref17_reads.l0L x0 x1 x5 x6 t271 (wrap64 (x8 + 1)))) else (none)) else (tallboyref17_reads.l0L x0 x1 x5 x6 false (wrap64 (x8 + 1)))) else (if x7 = true then (if x5 = 2 then (if 1 < (x1.length : Int) then ((tallboyref02_Signed.L (rdOf ByteArray.empty x1 1)).bind fun bt287 => (if bt287.2 = 0 then (some (1, x0, x6, 0, bt287.1, (⟨#[]⟩ : ByteArray), 0, 0, false, 0, 0)) else ((tallboyref17_bad.f 7).bind fun bt289 => (some (bt289.1, bt289.2.1, bt289.2.2.1, bt289.2.2.2.1, bt289.2.2.2.2.1, bt289.2.2.2.2.2.1, bt289.2.2.2.2.2.2.1, bt289.2.2.2.2.2.2.2.1, bt289.2.2.2.2.2.2.2.2.1, bt289.2.2.2.2.2.2.2.2.2.1, bt289.2.2.2.2.2.2.2.2.2.2))))) else (none)) else (some (1, x0, x6, 0, 0, (⟨#[]⟩ : ByteArray), 0, 0, false, 0, 0))) else ((tallboyref17_bad.f 4).bind fun bt272 => (some (bt272.1, bt272.2.1, bt272.2.2.1, bt272.2.2.2.1, bt272.2.2.2.2.1, bt272.2.2.2.2.2.1, bt272.2.2.2.2.2.2.1, bt272.2.2.2.2.2.2.2.1, bt272.2.2.2.2.2.2.2.2.1, bt272.2.2.2.2.2.2.2.2.2.1, bt272.2.2.2.2.2.2.2.2.2.2))))) := by
  refine Lm.unique (tallboyref17_reads.l0Llm x0 x1 x5 x6 x7 x8) ?_
  refine Lm.step rfl (f := fun k => tallboyref17_reads.l0 (k + 1) x0 x1 x5 x6 x7 x8) (fun _ => rfl) ?_; simp only [tallboyref17_reads.l0]
  repeat' first
    | with_reducible exact tallboyref17_reads.l0Llm _ _ _ _ _ _
    | with_reducible exact tallboyref02_Signed.Llm _
    | with_reducible exact tallboyref04_Key.Llm _
    | with_reducible exact Lm.const _
    | with_reducible refine Lm.bind ?_ (fun _ => ?_)
    | with_reducible refine Lm.ite ?_ ?_
    | refine Lm.bind ?_ (fun _ => ?_)
    | refine Lm.ite ?_ ?_
theorem tallboyref17_reads.L_eq (a0 : Int) (l1 : List ByteArray) : tallboyref17_reads.L a0 l1 = (if a0 = 3 then (tallboyref17_reads.j0L a0 l1 1 true) else (tallboyref17_reads.j0L a0 l1 1 (a0 == 4))) := by
  refine Lm.unique (tallboyref17_reads.Llm a0 l1) ?_
  unfold tallboyref17_reads.f
  repeat' first
    | with_reducible exact tallboyref17_reads.j0Llm _ _ _ _
    | with_reducible exact Lm.const _
    | with_reducible refine Lm.bind ?_ (fun _ => ?_)
    | with_reducible refine Lm.ite ?_ ?_
    | refine Lm.bind ?_ (fun _ => ?_)
    | refine Lm.ite ?_ ?_
theorem tallboyref17_need.j0L_eq (x12 : Bool) : tallboyref17_need.j0L x12 = (if x12 = true then (some 3) else (some 1)) := by
  refine Lm.unique (tallboyref17_need.j0Llm x12) ?_
  refine Lm.step rfl (f := fun k => tallboyref17_need.j0 (k + 1) x12) (fun _ => rfl) ?_; simp only [tallboyref17_need.j0]
  repeat' first
    | with_reducible exact Lm.const _
    | with_reducible refine Lm.bind ?_ (fun _ => ?_)
    | with_reducible refine Lm.ite ?_ ?_
    | refine Lm.bind ?_ (fun _ => ?_)
    | refine Lm.ite ?_ ?_
theorem tallboyref17_need.L_eq (a0 : Int) : tallboyref17_need.L a0 = (if a0 = 10 then (some 6) else ((tallboyref15_Stores.f a0).bind fun t302 => (if t302 = true then (some 5) else (if a0 = 11 then (some 2) else (if a0 = 14 then (tallboyref17_need.j0L true) else (if a0 = 12 then (tallboyref17_need.j0L true) else (tallboyref17_need.j0L (a0 == 13)))))))) := by
  refine Lm.unique (tallboyref17_need.Llm a0) ?_
  unfold tallboyref17_need.f
  repeat' first
    | with_reducible exact tallboyref17_need.j0Llm _
    | with_reducible exact Lm.const _
    | with_reducible refine Lm.bind ?_ (fun _ => ?_)
    | with_reducible refine Lm.ite ?_ ?_
    | refine Lm.bind ?_ (fun _ => ?_)
    | refine Lm.ite ?_ ?_
theorem tallboyref17_stores.j0L_eq (x0 : Int) (x1 : List ByteArray) (x2 : Bool) (x7 : Int) (x28 : Bool) : tallboyref17_stores.j0L x0 x1 x2 x7 x28 = (if x28 = true then ((tallboyref17_bad.f 5).bind fun bt307 => (some (bt307.1, bt307.2.1, bt307.2.2.1, bt307.2.2.2.1, bt307.2.2.2.2.1, bt307.2.2.2.2.2.1, bt307.2.2.2.2.2.2.1, bt307.2.2.2.2.2.2.2.1, bt307.2.2.2.2.2.2.2.2.1, bt307.2.2.2.2.2.2.2.2.2.1, bt307.2.2.2.2.2.2.2.2.2.2))) else (if x7 ≤ 2147483647 then (tallboyref17_stores.j1L x0 x1 x2 x7 0 0 0 0 (⟨#[]⟩ : ByteArray) 0 0 false 0 (wrap64 (x7 + 2))) else (tallboyref17_stores.j1L x0 x1 x2 x7 0 0 0 0 (⟨#[]⟩ : ByteArray) 0 0 false 0 0))) := by
  refine Lm.unique (tallboyref17_stores.j0Llm x0 x1 x2 x7 x28) ?_
  refine Lm.step rfl (f := fun k => tallboyref17_stores.j0 (k + 1) x0 x1 x2 x7 x28) (fun _ => rfl) ?_; simp only [tallboyref17_stores.j0]
  repeat' first
    | with_reducible exact tallboyref17_stores.j1Llm _ _ _ _ _ _ _ _ _ _ _ _ _ _
    | with_reducible exact Lm.const _
    | with_reducible refine Lm.bind ?_ (fun _ => ?_)
    | with_reducible refine Lm.ite ?_ ?_
    | refine Lm.bind ?_ (fun _ => ?_)
    | refine Lm.ite ?_ ?_
theorem tallboyref17_stores.j1L_eq (x0 : Int) (x1 : List ByteArray) (x2 : Bool) (x7 : Int) (z9 : Int) (z2 : Int) (z3 : Int) (z4 : Int) (z5 : ByteArray) (z6 : Int) (z7 : Int) (z8 : Bool) (z0 : Int) (z1 : Int) : tallboyref17_stores.j1L x0 x1 x2 x7 z9 z2 z3 z4 z5 z6 z7 z8 z0 z1 = (if 2 < (x1.length : Int) then ((tallboyref02_Parse.L (rdOf ByteArray.empty x1 2)).bind fun bt322 => (if 3 < (x1.length : Int) then ((tallboyref02_Signed.L (rdOf ByteArray.empty x1 3)).bind fun bt325 => (if x0 = 10 then (if 5 < (x1.length : Int) then ((tallboyref02_Parse.L (rdOf ByteArray.empty x1 5)).bind fun bt328 => (tallboyref17_stores.j2L x0 x1 x2 x7 bt322.1 bt322.2 bt325.1 bt325.2 bt328.1 bt328.2 z9 z2 z3 z4 z5 z6 z7 z8 z0 z1)) else (none)) else (tallboyref17_stores.j2L x0 x1 x2 x7 bt322.1 bt322.2 bt325.1 bt325.2 0 0 z9 z2 z3 z4 z5 z6 z7 z8 z0 z1))) else (none))) else (none)) := by
  refine Lm.unique (tallboyref17_stores.j1Llm x0 x1 x2 x7 z9 z2 z3 z4 z5 z6 z7 z8 z0 z1) ?_
  refine Lm.step rfl (f := fun k => tallboyref17_stores.j1 (k + 1) x0 x1 x2 x7 z9 z2 z3 z4 z5 z6 z7 z8 z0 z1) (fun _ => rfl) ?_; simp only [tallboyref17_stores.j1]
  repeat' first
    | with_reducible exact tallboyref17_stores.j2Llm _ _ _ _ _ _ _ _ _ _ _ _ _ _ _ _ _ _ _ _
    | with_reducible exact tallboyref02_Signed.Llm _
    | with_reducible exact tallboyref02_Parse.Llm _
    | with_reducible exact Lm.const _
    | with_reducible refine Lm.bind ?_ (fun _ => ?_)
    | with_reducible refine Lm.ite ?_ ?_
    | refine Lm.bind ?_ (fun _ => ?_)
    | refine Lm.ite ?_ ?_
theorem tallboyref17_stores.j2L_eq (x0 : Int) (x1 : List ByteArray) (x2 : Bool) (x7 : Int) (x10 : Int) (x11 : Int) (x12 : Int) (x13 : Int) (x14 : Int) (x15 : Int) (z9 : Int) (z2 : Int) (z3 : Int) (z4 : Int) (z5 : ByteArray) (z6 : Int) (z7 : Int) (z8 : Bool) (z0 : Int) (z1 : Int) : tallboyref17_stores.j2L x0 x1 x2 x7 x10 x11 x12 x13 x14 x15 z9 z2 z3 z4 z5 z6 z7 z8 z0 z1 = (if 1 < (x1.length : Int) then ((tallboyref04_Key.L (rdOf ByteArray.empty x1 1)).bind fun t331 => (if t331 = true then (if x11 = 0 then (if x10 ≥ 4294967296 then (tallboyref17_stores.j3L x0 x1 x2 x7 x10 x12 x13 x14 true z9 z2 z3 z4 z5 z6 z7 z8 z0 z1) else (tallboyref17_stores.j3L x0 x1 x2 x7 x10 x12 x13 x14 (x15 != 0) z9 z2 z3 z4 z5 z6 z7 z8 z0 z1)) else (tallboyref17_stores.j3L x0 x1 x2 x7 x10 x12 x13 x14 true z9 z2 z3 z4 z5 z6 z7 z8 z0 z1)) else (tallboyref17_stores.j3L x0 x1 x2 x7 x10 x12 x13 x14 true z9 z2 z3 z4 z5 z6 z7 z8 z0 z1))) else (none)) := by
  refine Lm.unique (tallboyref17_stores.j2Llm x0 x1 x2 x7 x10 x11 x12 x13 x14 x15 z9 z2 z3 z4 z5 z6 z7 z8 z0 z1) ?_
  refine Lm.step rfl (f := fun k => tallboyref17_stores.j2 (k + 1) x0 x1 x2 x7 x10 x11 x12 x13 x14 x15 z9 z2 z3 z4 z5 z6 z7 z8 z0 z1) (fun _ => rfl) ?_; simp only [tallboyref17_stores.j2]
  repeat' first
    | with_reducible exact tallboyref17_stores.j3Llm _ _ _ _ _ _ _ _ _ _ _ _ _ _ _ _ _ _ _
    | with_reducible exact tallboyref04_Key.Llm _
    | with_reducible exact Lm.const _
    | with_reducible refine Lm.bind ?_ (fun _ => ?_)
    | with_reducible refine Lm.ite ?_ ?_
    | refine Lm.bind ?_ (fun _ => ?_)
    | refine Lm.ite ?_ ?_
theorem tallboyref17_stores.j3L_eq (x0 : Int) (x1 : List ByteArray) (x2 : Bool) (x7 : Int) (x10 : Int) (x12 : Int) (x13 : Int) (x14 : Int) (x59 : Bool) (z9 : Int) (z2 : Int) (z3 : Int) (z4 : Int) (z5 : ByteArray) (z6 : Int) (z7 : Int) (z8 : Bool) (z0 : Int) (z1 : Int) : tallboyref17_stores.j3L x0 x1 x2 x7 x10 x12 x13 x14 x59 z9 z2 z3 z4 z5 z6 z7 z8 z0 z1 = (if x59 = true then (some (4, z2, ([] : List ByteArray), z3, z4, z5, z6, z7, z8, z0, z1)) else (if x13 = 0 then (if 1 < (x1.length : Int) then ((some (([rdOf ByteArray.empty x1 1] : List ByteArray) : List ByteArray)).bind fun y333 => (if x7 > 2000 then (some (8, x0, y333, 0, 0, (⟨#[]⟩ : ByteArray), 0, 0, x2, z0, z1)) else (if x0 = 8 then (some (2, x0, y333, 0, 0, (⟨#[]⟩ : ByteArray), x14, 0, x2, x7, 0)) else (if x0 = 9 then (some (2, x0, y333, 0, 0, (⟨#[]⟩ : ByteArray), x14, 0, x2, x7, 0)) else (some (2, x0, y333, (x10) % 4294967296, x12, (⟨#[]⟩ : ByteArray), x14, 0, x2, x7, 0)))))) else (none)) else (some (7, z2, ([] : List ByteArray), z3, z4, z5, z6, z7, z8, z0, z1)))) := by
  refine Lm.unique (tallboyref17_stores.j3Llm x0 x1 x2 x7 x10 x12 x13 x14 x59 z9 z2 z3 z4 z5 z6 z7 z8 z0 z1) ?_
  refine Lm.step rfl (f := fun k => tallboyref17_stores.j3 (k + 1) x0 x1 x2 x7 x10 x12 x13 x14 x59 z9 z2 z3 z4 z5 z6 z7 z8 z0 z1) (fun _ => rfl) ?_; simp only [tallboyref17_stores.j3]
  repeat' first
    | with_reducible exact Lm.const _
    | with_reducible refine Lm.bind ?_ (fun _ => ?_)
    | with_reducible refine Lm.ite ?_ ?_
    | refine Lm.bind ?_ (fun _ => ?_)
    | refine Lm.ite ?_ ?_
theorem tallboyref17_stores.L_eq (a0 : Int) (l1 : List ByteArray) (a2 : Bool) : tallboyref17_stores.L a0 l1 a2 = (if 4 < (l1.length : Int) then ((tallboyref02_Signed.L (rdOf ByteArray.empty l1 4)).bind fun bt305 => (if bt305.2 = 0 then (tallboyref17_stores.j0L a0 l1 a2 bt305.1 (decide (bt305.1 < 0))) else (tallboyref17_stores.j0L a0 l1 a2 bt305.1 true))) else (none)) := by
  refine Lm.unique (tallboyref17_stores.Llm a0 l1 a2) ?_
  unfold tallboyref17_stores.f
  repeat' first
    | with_reducible exact tallboyref17_stores.j0Llm _ _ _ _ _
    | with_reducible exact tallboyref02_Signed.Llm _
    | with_reducible exact Lm.const _
    | with_reducible refine Lm.bind ?_ (fun _ => ?_)
    | with_reducible refine Lm.ite ?_ ?_
    | refine Lm.bind ?_ (fun _ => ?_)
    | refine Lm.ite ?_ ?_
theorem tallboyref17_Parse.j0L_eq (x3 : List ByteArray) (x4 : Int) (x5 : Int) (x6 : Bool) : tallboyref17_Parse.j0L x3 x4 x5 x6 = (if (x3.length : Int) = x5 then (tallboyref17_Parse.j1L x3 x4 x6 false) else (tallboyref17_Parse.j1L x3 x4 x6 (!x6))) := by
  refine Lm.unique (tallboyref17_Parse.j0Llm x3 x4 x5 x6) ?_
  refine Lm.step rfl (f := fun k => tallboyref17_Parse.j0 (k + 1) x3 x4 x5 x6) (fun _ => rfl) ?_; simp only [tallboyref17_Parse.j0]
  repeat' first
    | with_reducible exact tallboyref17_Parse.j1Llm _ _ _ _
    | with_reducible exact Lm.const _
    | with_reducible refine Lm.bind ?_ (fun _ => ?_)
    | with_reducible refine Lm.ite ?_ ?_
    | refine Lm.bind ?_ (fun _ => ?_)
    | refine Lm.ite ?_ ?_
theorem tallboyref17_Parse.j1L_eq (x3 : List ByteArray) (x4 : Int) (x6 : Bool) (x55 : Bool) : tallboyref17_Parse.j1L x3 x4 x6 x55 = (if x55 = true then ((tallboyref17_bad.f 3).bind fun bt397 => (some (bt397.1, bt397.2.1, bt397.2.2.1, bt397.2.2.2.1, bt397.2.2.2.2.1, bt397.2.2.2.2.2.1, bt397.2.2.2.2.2.2.1, bt397.2.2.2.2.2.2.2.1, bt397.2.2.2.2.2.2.2.2.1, bt397.2.2.2.2.2.2.2.2.2.1, bt397.2.2.2.2.2.2.2.2.2.2))) else ((tallboyref15_Stores.f x4).bind fun t410 => (if t410 = true then ((tallboyref17_stores.L x4 x3 x6).bind fun bt411 => (some (bt411.1, bt411.2.1, bt411.2.2.1, bt411.2.2.2.1, bt411.2.2.2.2.1, bt411.2.2.2.2.2.1, bt411.2.2.2.2.2.2.1, bt411.2.2.2.2.2.2.2.1, bt411.2.2.2.2.2.2.2.2.1, bt411.2.2.2.2.2.2.2.2.2.1, bt411.2.2.2.2.2.2.2.2.2.2))) else (if x4 = 15 then (some (1, x4, ([] : List ByteArray), 0, 0, (⟨#[]⟩ : ByteArray), 0, 0, x6, 0, 0)) else (if 1 < (x3.length : Int) then ((tallboyref04_Key.L (rdOf ByteArray.empty x3 1)).bind fun t426 => (if t426 = true then ((some (([rdOf ByteArray.empty x3 1] : List ByteArray) : List ByteArray)).bind fun y441 => (if x4 = 14 then (if 2 < (x3.length : Int) then ((tallboyref02_Signed.L (rdOf ByteArray.empty x3 2)).bind fun bt445 => (if bt445.2 = 0 then (some (1, x4, y441, 0, bt445.1, (⟨#[]⟩ : ByteArray), 0, 0, x6, 0, 0)) else ((tallboyref17_bad.f 7).bind fun bt447 => (some (bt447.1, bt447.2.1, bt447.2.2.1, bt447.2.2.2.1, bt447.2.2.2.2.1, bt447.2.2.2.2.2.1, bt447.2.2.2.2.2.2.1, bt447.2.2.2.2.2.2.2.1, bt447.2.2.2.2.2.2.2.2.1, bt447.2.2.2.2.2.2.2.2.2.1, bt447.2.2.2.2.2.2.2.2.2.2))))) else (none)) else (if x4 = 12 then (tallboyref17_Parse.j2L x3 (x4 == 12) x4 y441 0 0 (⟨#[]⟩ : ByteArray) 0 0 x6) else (tallboyref17_Parse.j2L x3 (x4 == 13) x4 y441 0 0 (⟨#[]⟩ : ByteArray) 0 0 x6)))) else ((tallboyref17_bad.f 4).bind fun bt427 => (some (bt427.1, bt427.2.1, bt427.2.2.1, bt427.2.2.2.1, bt427.2.2.2.2.1, bt427.2.2.2.2.2.1, bt427.2.2.2.2.2.2.1, bt427.2.2.2.2.2.2.2.1, bt427.2.2.2.2.2.2.2.2.1, bt427.2.2.2.2.2.2.2.2.2.1, bt427.2.2.2.2.2.2.2.2.2.2))))) else (none)))))) := by
  refine Lm.unique (tallboyref17_Parse.j1Llm x3 x4 x6 x55) ?_
  refine Lm.step rfl (f := fun k => tallboyref17_Parse.j1 (k + 1) x3 x4 x6 x55) (fun _ => rfl) ?_; simp only [tallboyref17_Parse.j1]
  repeat' first
    | with_reducible exact tallboyref17_stores.Llm _ _ _
    | with_reducible exact tallboyref17_Parse.j2Llm _ _ _ _ _ _ _ _ _ _
    | with_reducible exact tallboyref02_Signed.Llm _
    | with_reducible exact tallboyref04_Key.Llm _
    | with_reducible exact Lm.const _
    | with_reducible refine Lm.bind ?_ (fun _ => ?_)
    | with_reducible refine Lm.ite ?_ ?_
    | refine Lm.bind ?_ (fun _ => ?_)
    | refine Lm.ite ?_ ?_
theorem tallboyref17_Parse.j2L_eq (x3 : List ByteArray) (x96 : Bool) (z0 : Int) (z1 : List ByteArray) (z2 : Int) (z3 : Int) (z4 : ByteArray) (z5 : Int) (x425006 : Int) (z6 : Bool) : tallboyref17_Parse.j2L x3 x96 z0 z1 z2 z3 z4 z5 x425006 z6 = (if x96 = true then (if 2 < (x3.length : Int) then ((tallboyref02_Parse.L (rdOf ByteArray.empty x3 2)).bind fun bt461 => (if bt461.2 = 0 then (some (1, z0, z1, z2, z3, z4, z5, bt461.1, z6, 0, 0)) else ((tallboyref17_bad.f 6).bind fun bt463 => (some (bt463.1, bt463.2.1, bt463.2.2.1, bt463.2.2.2.1, bt463.2.2.2.2.1, bt463.2.2.2.2.2.1, bt463.2.2.2.2.2.2.1, bt463.2.2.2.2.2.2.2.1, bt463.2.2.2.2.2.2.2.2.1, bt463.2.2.2.2.2.2.2.2.2.1, bt463.2.2.2.2.2.2.2.2.2.2))))) else (none)) else (some (1, z0, z1, z2, z3, z4, z5, x425006, z6, 0, 0))) := by
  refine Lm.unique (tallboyref17_Parse.j2Llm x3 x96 z0 z1 z2 z3 z4 z5 x425006 z6) ?_
  refine Lm.step rfl (f := fun k => tallboyref17_Parse.j2 (k + 1) x3 x96 z0 z1 z2 z3 z4 z5 x425006 z6) (fun _ => rfl) ?_; simp only [tallboyref17_Parse.j2]
  repeat' first
    | with_reducible exact tallboyref02_Parse.Llm _
    | with_reducible exact Lm.const _
    | with_reducible refine Lm.bind ?_ (fun _ => ?_)
    | with_reducible refine Lm.ite ?_ ?_
    | refine Lm.bind ?_ (fun _ => ?_)
    | refine Lm.ite ?_ ?_
theorem tallboyref17_Parse.L_eq (a0 : ByteArray) : tallboyref17_Parse.L a0 = (if (a0.size : Int) > 160 then ((tallboyref17_bad.f 9).bind fun bt337 => (some (bt337.1, bt337.2.1, bt337.2.2.1, bt337.2.2.2.1, bt337.2.2.2.2.1, bt337.2.2.2.2.2.1, bt337.2.2.2.2.2.2.1, bt337.2.2.2.2.2.2.2.1, bt337.2.2.2.2.2.2.2.2.1, bt337.2.2.2.2.2.2.2.2.2.1, bt337.2.2.2.2.2.2.2.2.2.2))) else ((tallboyref17_Words.L a0).bind fun t350 => (if (t350.length : Int) = 0 then ((tallboyref17_bad.f 3).bind fun bt353 => (some (bt353.1, bt353.2.1, bt353.2.2.1, bt353.2.2.2.1, bt353.2.2.2.2.1, bt353.2.2.2.2.2.1, bt353.2.2.2.2.2.2.1, bt353.2.2.2.2.2.2.2.1, bt353.2.2.2.2.2.2.2.2.1, bt353.2.2.2.2.2.2.2.2.2.1, bt353.2.2.2.2.2.2.2.2.2.2))) else (if 0 < (t350.length : Int) then ((tallboyref15_Kind.L (rdOf ByteArray.empty t350 0)).bind fun t367 => (if t367 = 0 then ((tallboyref17_bad.f 3).bind fun bt368 => (some (bt368.1, bt368.2.1, bt368.2.2.1, bt368.2.2.2.1, bt368.2.2.2.2.1, bt368.2.2.2.2.2.1, bt368.2.2.2.2.2.2.1, bt368.2.2.2.2.2.2.2.1, bt368.2.2.2.2.2.2.2.2.1, bt368.2.2.2.2.2.2.2.2.2.1, bt368.2.2.2.2.2.2.2.2.2.2))) else ((tallboyref15_Reads.f t367).bind fun t381 => (if t381 = true then ((tallboyref17_reads.L t367 t350).bind fun bt382 => (some (bt382.1, bt382.2.1, bt382.2.2.1, bt382.2.2.2.1, bt382.2.2.2.2.1, bt382.2.2.2.2.2.1, bt382.2.2.2.2.2.2.1, bt382.2.2.2.2.2.2.2.1, bt382.2.2.2.2.2.2.2.2.1, bt382.2.2.2.2.2.2.2.2.2.1, bt382.2.2.2.2.2.2.2.2.2.2))) else ((tallboyref17_need.L t367).bind fun t395 => (if (t350.length : Int) = (wrap64 (t395 + 1)) then (if 0 ≤ t395 then (if t395 < (t350.length : Int) then (tallboyref17_Parse.j0L t350 t367 t395 ((rdOf ByteArray.empty t350 t395).toList == ([110, 111, 114, 101, 112, 108, 121] : List UInt8))) else (none)) else (none)) else (tallboyref17_Parse.j0L t350 t367 t395 false))))))) else (none))))) := by
  refine Lm.unique (tallboyref17_Parse.Llm a0) ?_
  unfold tallboyref17_Parse.f
  repeat' first
    | with_reducible exact tallboyref17_Parse.j0Llm _ _ _ _
    | with_reducible exact tallboyref17_Words.Llm _
    | with_reducible exact tallboyref17_reads.Llm _ _
    | with_reducible exact tallboyref17_need.Llm _
    | with_reducible exact tallboyref15_Kind.Llm _
    | with_reducible exact Lm.const _
    | with_reducible refine Lm.bind ?_ (fun _ => ?_)
    | with_reducible refine Lm.ite ?_ ?_
    | refine Lm.bind ?_ (fun _ => ?_)
    | refine Lm.ite ?_ ?_
theorem tallboylaw16_SameTexts.l0L_eq (x0 : List ByteArray) (x1 : List ByteArray) (x5 : Int) : tallboylaw16_SameTexts.l0L x0 x1 x5 = (if x5 < (x0.length : Int) then (if 0 ≤ x5 then (if x5 < (x1.length : Int) then (if (rdOf ByteArray.empty x0 x5).toList = (rdOf ByteArray.empty x1 x5).toList then (tallboylaw16_SameTexts.l0L x0 x1 (wrap64 (x5 + 1))) else (some false)) else (none)) else (none)) else (some true)) := by
  refine Lm.unique (tallboylaw16_SameTexts.l0Llm x0 x1 x5) ?_
  refine Lm.step rfl (f := fun k => tallboylaw16_SameTexts.l0 (k + 1) x0 x1 x5) (fun _ => rfl) ?_; simp only [tallboylaw16_SameTexts.l0]
  repeat' first
    | with_reducible exact tallboylaw16_SameTexts.l0Llm _ _ _
    | with_reducible exact Lm.const _
    | with_reducible refine Lm.bind ?_ (fun _ => ?_)
    | with_reducible refine Lm.ite ?_ ?_
    | refine Lm.bind ?_ (fun _ => ?_)
    | refine Lm.ite ?_ ?_
theorem tallboylaw16_SameTexts.L_eq (l0 : List ByteArray) (l1 : List ByteArray) : tallboylaw16_SameTexts.L l0 l1 = (if (l0.length : Int) = (l1.length : Int) then (tallboylaw16_SameTexts.l0L l0 l1 0) else (some false)) := by
  refine Lm.unique (tallboylaw16_SameTexts.Llm l0 l1) ?_
  unfold tallboylaw16_SameTexts.f
  repeat' first
    | with_reducible exact tallboylaw16_SameTexts.l0Llm _ _ _
    | with_reducible exact Lm.const _
    | with_reducible refine Lm.bind ?_ (fun _ => ?_)
    | with_reducible refine Lm.ite ?_ ?_
    | refine Lm.bind ?_ (fun _ => ?_)
    | refine Lm.ite ?_ ?_
theorem tallboylaw17_LineReads.L_eq (a0 : ByteArray) : tallboylaw17_LineReads.L a0 = (if (a0.size : Int) > 10000 then (some true) else ((line_Parse.L a0).bind fun bt478 => ((tallboylaw17_From.f bt478.1 bt478.2.1 bt478.2.2.1 bt478.2.2.2.1 bt478.2.2.2.2.1 bt478.2.2.2.2.2.1 bt478.2.2.2.2.2.2.1 bt478.2.2.2.2.2.2.2.1 bt478.2.2.2.2.2.2.2.2.1 bt478.2.2.2.2.2.2.2.2.2.1 bt478.2.2.2.2.2.2.2.2.2.2).bind fun bt491 => ((tallboyref17_Parse.L a0).bind fun bt504 => ((tallboylaw17_Same.L bt491.1 bt491.2.1 bt491.2.2.1 bt491.2.2.2.1 bt491.2.2.2.2.1 bt491.2.2.2.2.2.1 bt491.2.2.2.2.2.2.1 bt491.2.2.2.2.2.2.2.1 bt491.2.2.2.2.2.2.2.2.1 bt491.2.2.2.2.2.2.2.2.2.1 bt491.2.2.2.2.2.2.2.2.2.2 bt504.1 bt504.2.1 bt504.2.2.1 bt504.2.2.2.1 bt504.2.2.2.2.1 bt504.2.2.2.2.2.1 bt504.2.2.2.2.2.2.1 bt504.2.2.2.2.2.2.2.1 bt504.2.2.2.2.2.2.2.2.1 bt504.2.2.2.2.2.2.2.2.2.1 bt504.2.2.2.2.2.2.2.2.2.2).bind fun t517 => (if t517 = true then ((line_Words.f a0).bind fun t518 => ((tallboyref17_Words.L a0).bind fun t521 => ((tallboylaw16_SameTexts.L t518 t521).bind fun t524 => (some t524)))) else (none))))))) := by
  refine Lm.unique (tallboylaw17_LineReads.Llm a0) ?_
  unfold tallboylaw17_LineReads.f
  repeat' first
    | with_reducible exact tallboylaw16_SameTexts.Llm _ _
    | with_reducible exact tallboyref17_Parse.Llm _
    | with_reducible exact tallboyref17_Words.Llm _
    | with_reducible exact tallboylaw17_Same.Llm _ _ _ _ _ _ _ _ _ _ _ _ _ _ _ _ _ _ _ _ _ _
    | with_reducible exact line_Parse.Llm _
    | with_reducible exact Lm.const _
    | with_reducible refine Lm.bind ?_ (fun _ => ?_)
    | with_reducible refine Lm.ite ?_ ?_
    | refine Lm.bind ?_ (fun _ => ?_)
    | refine Lm.ite ?_ ?_
end Go.Proofs.YtbfgopinbpbddaaDoor.P
