/- The limits of the functions with rounds, and the equations that reckon them. Plain Lean; no condition. Written by a program. -/
import Derived.Test.YtbfgopinbpbddaaDoorLim
import Derived.Test.YtbfgopinbpbddaaDoorPx1
import Derived.Test.YtbfgopinbpbddaaDoorPx14
import Derived.Test.YtbfgopinbpbddaaDoorPx15
import Derived.Test.YtbfgopinbpbddaaDoorPx2
import Derived.Test.YtbfgopinbpbddaaDoorPx3
namespace Go.Proofs.YtbfgopinbpbddaaDoor.P
open Go.RowKit Go.Proofs.YtbfgopinbpbddaaDoor.Lim Go.Proofs.YtbfgopinbpbddaaDoorW.PrintWords Go.Proofs.YtbfgopinbpbddaaDoorW.PrintLast Go.Proofs.YtbfgopinbpbddaaDoorW.PrintMore
set_option linter.unusedVariables false

noncomputable def tallboylaw15_Great.l0L (x3 : Int) (x4 : Int) (x102000 : Int) (z0 : List ByteArray) (x102002 : Int) (x102003 : Int) (x102004 : ByteArray) (x102005 : Int) (x102006 : Int) (x102007 : Bool) : Option (Bool) := lim (fun k => tallboylaw15_Great.l0 k x3 x4 x102000 z0 x102002 x102003 x102004 x102005 x102006 x102007)
theorem tallboylaw15_Great.l0Llm (x3 : Int) (x4 : Int) (x102000 : Int) (z0 : List ByteArray) (x102002 : Int) (x102003 : Int) (x102004 : ByteArray) (x102005 : Int) (x102006 : Int) (x102007 : Bool) : Lm (fun k => tallboylaw15_Great.l0 k x3 x4 x102000 z0 x102002 x102003 x102004 x102005 x102006 x102007) (tallboylaw15_Great.l0L x3 x4 x102000 z0 x102002 x102003 x102004 x102005 x102006 x102007) := lim_spec (fun k => (tallboylaw15_Great.mono_l k) _ _ _ _ _ _ _ _ _ _)
noncomputable def tallboylaw15_Great.L (a0_0 : Int) (l0_1 : List ByteArray) (a0_2 : Int) (a0_3 : Int) (a0_4 : ByteArray) (a0_5 : Int) (a0_6 : Int) (a0_7 : Bool) : Option (Bool) := lim (fun k => tallboylaw15_Great.f k a0_0 l0_1 a0_2 a0_3 a0_4 a0_5 a0_6 a0_7)
theorem tallboylaw15_Great.Llm (a0_0 : Int) (l0_1 : List ByteArray) (a0_2 : Int) (a0_3 : Int) (a0_4 : ByteArray) (a0_5 : Int) (a0_6 : Int) (a0_7 : Bool) : Lm (fun k => tallboylaw15_Great.f k a0_0 l0_1 a0_2 a0_3 a0_4 a0_5 a0_6 a0_7) (tallboylaw15_Great.L a0_0 l0_1 a0_2 a0_3 a0_4 a0_5 a0_6 a0_7) := lim_spec (fun k => tallboylaw15_Great.mono a0_0 l0_1 a0_2 a0_3 a0_4 a0_5 a0_6 a0_7 k)
noncomputable def verb_ends.j0L (x4 : Bool) : Option (Bool) := lim (fun k => verb_ends.j0 k x4)
theorem verb_ends.j0Llm (x4 : Bool) : Lm (fun k => verb_ends.j0 k x4) (verb_ends.j0L x4) := lim_spec (fun k => (verb_ends.mono_l k) _)
noncomputable def verb_ends.L (a0 : Int) : Option (Bool) := lim (fun k => verb_ends.f k a0)
theorem verb_ends.Llm (a0 : Int) : Lm (fun k => verb_ends.f k a0) (verb_ends.L a0) := lim_spec (fun k => verb_ends.mono a0 k)
noncomputable def fnv_Key.j0L (x0 : ByteArray) (x10 : Bool) : Option (Bool) := lim (fun k => fnv_Key.j0 k x0 x10)
theorem fnv_Key.j0Llm (x0 : ByteArray) (x10 : Bool) : Lm (fun k => fnv_Key.j0 k x0 x10) (fnv_Key.j0L x0 x10) := lim_spec (fun k => (fnv_Key.mono_l k).1 _ _)
noncomputable def fnv_Key.l0L (x0 : ByteArray) (x12 : Int) (x13 : Int) : Option (Bool) := lim (fun k => fnv_Key.l0 k x0 x12 x13)
theorem fnv_Key.l0Llm (x0 : ByteArray) (x12 : Int) (x13 : Int) : Lm (fun k => fnv_Key.l0 k x0 x12 x13) (fnv_Key.l0L x0 x12 x13) := lim_spec (fun k => (fnv_Key.mono_l k).2 _ _ _)
noncomputable def fnv_Key.L (a0 : ByteArray) : Option (Bool) := lim (fun k => fnv_Key.f k a0)
theorem fnv_Key.Llm (a0 : ByteArray) : Lm (fun k => fnv_Key.f k a0) (fnv_Key.L a0) := lim_spec (fun k => fnv_Key.mono a0 k)
noncomputable def verb_Check_1.L (a0 : ByteArray) : Option (Bool) := lim (fun k => verb_Check_1.f k a0)
theorem verb_Check_1.Llm (a0 : ByteArray) : Lm (fun k => verb_Check_1.f k a0) (verb_Check_1.L a0) := lim_spec (fun k => verb_Check_1.mono a0 k)
noncomputable def slices_ContainsFunc_string_string.L (l0 : List ByteArray) : Option (Bool) := lim (fun k => slices_ContainsFunc_string_string.f k l0)
theorem slices_ContainsFunc_string_string.Llm (l0 : List ByteArray) : Lm (fun k => slices_ContainsFunc_string_string.f k l0) (slices_ContainsFunc_string_string.L l0) := lim_spec (fun k => slices_ContainsFunc_string_string.mono l0 k)
noncomputable def verb_Check.j0L (x3 : Int) (z7 : Int) (z0 : List ByteArray) (z2 : Int) (z3 : Int) (z1 : ByteArray) (z4 : Int) (z5 : Int) (z6 : Bool) (z9 : Int) (za : List ByteArray) (zb : Int) (zc : Int) (z8 : ByteArray) (zd : Int) (ze : Int) (zf : Bool) : Option (Int) := lim (fun k => verb_Check.j0 k x3 z7 z0 z2 z3 z1 z4 z5 z6 z9 za zb zc z8 zd ze zf)
theorem verb_Check.j0Llm (x3 : Int) (z7 : Int) (z0 : List ByteArray) (z2 : Int) (z3 : Int) (z1 : ByteArray) (z4 : Int) (z5 : Int) (z6 : Bool) (z9 : Int) (za : List ByteArray) (zb : Int) (zc : Int) (z8 : ByteArray) (zd : Int) (ze : Int) (zf : Bool) : Lm (fun k => verb_Check.j0 k x3 z7 z0 z2 z3 z1 z4 z5 z6 z9 za zb zc z8 zd ze zf) (verb_Check.j0L x3 z7 z0 z2 z3 z1 z4 z5 z6 z9 za zb zc z8 zd ze zf) := lim_spec (fun k => (verb_Check.mono_l k).1 _ _ _ _ _ _ _ _ _ _ _ _ _ _ _ _ _)
noncomputable def verb_Check.j1L (x3 : Int) (x24 : Bool) (z7 : Int) (z0 : List ByteArray) (z2 : Int) (z3 : Int) (z1 : ByteArray) (z4 : Int) (z5 : Int) (z6 : Bool) (z9 : Int) (za : List ByteArray) (zb : Int) (zc : Int) (z8 : ByteArray) (zd : Int) (ze : Int) (zf : Bool) : Option (Int) := lim (fun k => verb_Check.j1 k x3 x24 z7 z0 z2 z3 z1 z4 z5 z6 z9 za zb zc z8 zd ze zf)
theorem verb_Check.j1Llm (x3 : Int) (x24 : Bool) (z7 : Int) (z0 : List ByteArray) (z2 : Int) (z3 : Int) (z1 : ByteArray) (z4 : Int) (z5 : Int) (z6 : Bool) (z9 : Int) (za : List ByteArray) (zb : Int) (zc : Int) (z8 : ByteArray) (zd : Int) (ze : Int) (zf : Bool) : Lm (fun k => verb_Check.j1 k x3 x24 z7 z0 z2 z3 z1 z4 z5 z6 z9 za zb zc z8 zd ze zf) (verb_Check.j1L x3 x24 z7 z0 z2 z3 z1 z4 z5 z6 z9 za zb zc z8 zd ze zf) := lim_spec (fun k => (verb_Check.mono_l k).2.1 _ _ _ _ _ _ _ _ _ _ _ _ _ _ _ _ _ _)
noncomputable def verb_Check.j2L (x3 : Int) (z7 : Int) (z0 : List ByteArray) (z2 : Int) (z3 : Int) (z1 : ByteArray) (z4 : Int) (z5 : Int) (z6 : Bool) (z9 : Int) (za : List ByteArray) (zb : Int) (zc : Int) (z8 : ByteArray) (zd : Int) (ze : Int) (zf : Bool) : Option (Int) := lim (fun k => verb_Check.j2 k x3 z7 z0 z2 z3 z1 z4 z5 z6 z9 za zb zc z8 zd ze zf)
theorem verb_Check.j2Llm (x3 : Int) (z7 : Int) (z0 : List ByteArray) (z2 : Int) (z3 : Int) (z1 : ByteArray) (z4 : Int) (z5 : Int) (z6 : Bool) (z9 : Int) (za : List ByteArray) (zb : Int) (zc : Int) (z8 : ByteArray) (zd : Int) (ze : Int) (zf : Bool) : Lm (fun k => verb_Check.j2 k x3 z7 z0 z2 z3 z1 z4 z5 z6 z9 za zb zc z8 zd ze zf) (verb_Check.j2L x3 z7 z0 z2 z3 z1 z4 z5 z6 z9 za zb zc z8 zd ze zf) := lim_spec (fun k => (verb_Check.mono_l k).2.2.1 _ _ _ _ _ _ _ _ _ _ _ _ _ _ _ _ _)
noncomputable def verb_Check.j3L (x3 : Int) (z7 : Int) (z0 : List ByteArray) (z2 : Int) (z3 : Int) (z1 : ByteArray) (z4 : Int) (z5 : Int) (z6 : Bool) (z9 : Int) (za : List ByteArray) (zb : Int) (zc : Int) (z8 : ByteArray) (zd : Int) (ze : Int) (zf : Bool) : Option (Int) := lim (fun k => verb_Check.j3 k x3 z7 z0 z2 z3 z1 z4 z5 z6 z9 za zb zc z8 zd ze zf)
theorem verb_Check.j3Llm (x3 : Int) (z7 : Int) (z0 : List ByteArray) (z2 : Int) (z3 : Int) (z1 : ByteArray) (z4 : Int) (z5 : Int) (z6 : Bool) (z9 : Int) (za : List ByteArray) (zb : Int) (zc : Int) (z8 : ByteArray) (zd : Int) (ze : Int) (zf : Bool) : Lm (fun k => verb_Check.j3 k x3 z7 z0 z2 z3 z1 z4 z5 z6 z9 za zb zc z8 zd ze zf) (verb_Check.j3L x3 z7 z0 z2 z3 z1 z4 z5 z6 z9 za zb zc z8 zd ze zf) := lim_spec (fun k => (verb_Check.mono_l k).2.2.2.1 _ _ _ _ _ _ _ _ _ _ _ _ _ _ _ _ _)
noncomputable def verb_Check.j4L (x3 : Int) (z7 : Int) (z0 : List ByteArray) (z2 : Int) (z3 : Int) (z1 : ByteArray) (z4 : Int) (z5 : Int) (z6 : Bool) (z9 : Int) (za : List ByteArray) (zb : Int) (zc : Int) (z8 : ByteArray) (zd : Int) (ze : Int) (zf : Bool) : Option (Int) := lim (fun k => verb_Check.j4 k x3 z7 z0 z2 z3 z1 z4 z5 z6 z9 za zb zc z8 zd ze zf)
theorem verb_Check.j4Llm (x3 : Int) (z7 : Int) (z0 : List ByteArray) (z2 : Int) (z3 : Int) (z1 : ByteArray) (z4 : Int) (z5 : Int) (z6 : Bool) (z9 : Int) (za : List ByteArray) (zb : Int) (zc : Int) (z8 : ByteArray) (zd : Int) (ze : Int) (zf : Bool) : Lm (fun k => verb_Check.j4 k x3 z7 z0 z2 z3 z1 z4 z5 z6 z9 za zb zc z8 zd ze zf) (verb_Check.j4L x3 z7 z0 z2 z3 z1 z4 z5 z6 z9 za zb zc z8 zd ze zf) := lim_spec (fun k => (verb_Check.mono_l k).2.2.2.2.1 _ _ _ _ _ _ _ _ _ _ _ _ _ _ _ _ _)
noncomputable def verb_Check.j5L (x3 : Int) (x38 : Bool) (z7 : Int) (z0 : List ByteArray) (z2 : Int) (z3 : Int) (z1 : ByteArray) (z4 : Int) (z5 : Int) (z6 : Bool) (z9 : Int) (za : List ByteArray) (zb : Int) (zc : Int) (z8 : ByteArray) (zd : Int) (ze : Int) (zf : Bool) : Option (Int) := lim (fun k => verb_Check.j5 k x3 x38 z7 z0 z2 z3 z1 z4 z5 z6 z9 za zb zc z8 zd ze zf)
theorem verb_Check.j5Llm (x3 : Int) (x38 : Bool) (z7 : Int) (z0 : List ByteArray) (z2 : Int) (z3 : Int) (z1 : ByteArray) (z4 : Int) (z5 : Int) (z6 : Bool) (z9 : Int) (za : List ByteArray) (zb : Int) (zc : Int) (z8 : ByteArray) (zd : Int) (ze : Int) (zf : Bool) : Lm (fun k => verb_Check.j5 k x3 x38 z7 z0 z2 z3 z1 z4 z5 z6 z9 za zb zc z8 zd ze zf) (verb_Check.j5L x3 x38 z7 z0 z2 z3 z1 z4 z5 z6 z9 za zb zc z8 zd ze zf) := lim_spec (fun k => (verb_Check.mono_l k).2.2.2.2.2.1 _ _ _ _ _ _ _ _ _ _ _ _ _ _ _ _ _ _)
noncomputable def verb_Check.j6L (x3 : Int) (z7 : Int) (z0 : List ByteArray) (z2 : Int) (z3 : Int) (z1 : ByteArray) (z4 : Int) (z5 : Int) (z6 : Bool) (z9 : Int) (za : List ByteArray) (zb : Int) (zc : Int) (z8 : ByteArray) (zd : Int) (ze : Int) (zf : Bool) : Option (Int) := lim (fun k => verb_Check.j6 k x3 z7 z0 z2 z3 z1 z4 z5 z6 z9 za zb zc z8 zd ze zf)
theorem verb_Check.j6Llm (x3 : Int) (z7 : Int) (z0 : List ByteArray) (z2 : Int) (z3 : Int) (z1 : ByteArray) (z4 : Int) (z5 : Int) (z6 : Bool) (z9 : Int) (za : List ByteArray) (zb : Int) (zc : Int) (z8 : ByteArray) (zd : Int) (ze : Int) (zf : Bool) : Lm (fun k => verb_Check.j6 k x3 z7 z0 z2 z3 z1 z4 z5 z6 z9 za zb zc z8 zd ze zf) (verb_Check.j6L x3 z7 z0 z2 z3 z1 z4 z5 z6 z9 za zb zc z8 zd ze zf) := lim_spec (fun k => (verb_Check.mono_l k).2.2.2.2.2.2.1 _ _ _ _ _ _ _ _ _ _ _ _ _ _ _ _ _)
noncomputable def verb_Check.j7L (x3 : Int) (z7 : Int) (z0 : List ByteArray) (z2 : Int) (z3 : Int) (z1 : ByteArray) (z4 : Int) (z5 : Int) (z6 : Bool) (z9 : Int) (za : List ByteArray) (zb : Int) (zc : Int) (z8 : ByteArray) (zd : Int) (ze : Int) (zf : Bool) : Option (Int) := lim (fun k => verb_Check.j7 k x3 z7 z0 z2 z3 z1 z4 z5 z6 z9 za zb zc z8 zd ze zf)
theorem verb_Check.j7Llm (x3 : Int) (z7 : Int) (z0 : List ByteArray) (z2 : Int) (z3 : Int) (z1 : ByteArray) (z4 : Int) (z5 : Int) (z6 : Bool) (z9 : Int) (za : List ByteArray) (zb : Int) (zc : Int) (z8 : ByteArray) (zd : Int) (ze : Int) (zf : Bool) : Lm (fun k => verb_Check.j7 k x3 z7 z0 z2 z3 z1 z4 z5 z6 z9 za zb zc z8 zd ze zf) (verb_Check.j7L x3 z7 z0 z2 z3 z1 z4 z5 z6 z9 za zb zc z8 zd ze zf) := lim_spec (fun k => (verb_Check.mono_l k).2.2.2.2.2.2.2.1 _ _ _ _ _ _ _ _ _ _ _ _ _ _ _ _ _)
noncomputable def verb_Check.j8L (x3 : Int) (x5 : Bool) (z7 : Int) (z0 : List ByteArray) (z2 : Int) (z3 : Int) (z1 : ByteArray) (z4 : Int) (z5 : Int) (z6 : Bool) : Option (Int) := lim (fun k => verb_Check.j8 k x3 x5 z7 z0 z2 z3 z1 z4 z5 z6)
theorem verb_Check.j8Llm (x3 : Int) (x5 : Bool) (z7 : Int) (z0 : List ByteArray) (z2 : Int) (z3 : Int) (z1 : ByteArray) (z4 : Int) (z5 : Int) (z6 : Bool) : Lm (fun k => verb_Check.j8 k x3 x5 z7 z0 z2 z3 z1 z4 z5 z6) (verb_Check.j8L x3 x5 z7 z0 z2 z3 z1 z4 z5 z6) := lim_spec (fun k => (verb_Check.mono_l k).2.2.2.2.2.2.2.2.1 _ _ _ _ _ _ _ _ _ _)
noncomputable def verb_Check.j9L (x83 : Bool) (z7 : Int) (z0 : List ByteArray) (z2 : Int) (z3 : Int) (z1 : ByteArray) (z4 : Int) (z5 : Int) (z6 : Bool) : Option (Int) := lim (fun k => verb_Check.j9 k x83 z7 z0 z2 z3 z1 z4 z5 z6)
theorem verb_Check.j9Llm (x83 : Bool) (z7 : Int) (z0 : List ByteArray) (z2 : Int) (z3 : Int) (z1 : ByteArray) (z4 : Int) (z5 : Int) (z6 : Bool) : Lm (fun k => verb_Check.j9 k x83 z7 z0 z2 z3 z1 z4 z5 z6) (verb_Check.j9L x83 z7 z0 z2 z3 z1 z4 z5 z6) := lim_spec (fun k => (verb_Check.mono_l k).2.2.2.2.2.2.2.2.2 _ _ _ _ _ _ _ _ _)
noncomputable def verb_Check.L (a0_0 : Int) (l0_1 : List ByteArray) (a0_2 : Int) (a0_3 : Int) (a0_4 : ByteArray) (a0_5 : Int) (a0_6 : Int) (a0_7 : Bool) : Option (Int) := lim (fun k => verb_Check.f k a0_0 l0_1 a0_2 a0_3 a0_4 a0_5 a0_6 a0_7)
theorem verb_Check.Llm (a0_0 : Int) (l0_1 : List ByteArray) (a0_2 : Int) (a0_3 : Int) (a0_4 : ByteArray) (a0_5 : Int) (a0_6 : Int) (a0_7 : Bool) : Lm (fun k => verb_Check.f k a0_0 l0_1 a0_2 a0_3 a0_4 a0_5 a0_6 a0_7) (verb_Check.L a0_0 l0_1 a0_2 a0_3 a0_4 a0_5 a0_6 a0_7) := lim_spec (fun k => verb_Check.mono a0_0 l0_1 a0_2 a0_3 a0_4 a0_5 a0_6 a0_7 k)
theorem tallboylaw15_Great.l0L_eq (x3 : Int) (x4 : Int) (x102000 : Int) (z0 : List ByteArray) (x102002 : Int) (x102003 : Int) (x102004 : ByteArray) (x102005 : Int) (x102006 : Int) (x102007 : Bool) : tallboylaw15_Great.l0L x3 x4 x102000 z0 x102002 x102003 x102004 x102005 x102006 x102007 = (if x4 < (z0.length : Int) then (if x3 < 10000 then (if 0 ≤ x4 then (tallboylaw15_Great.l0L (wrap64 (x3 + ((rdOf ByteArray.empty z0 x4).size : Int))) (wrap64 (x4 + 1)) x102000 z0 x102002 x102003 x102004 x102005 x102006 x102007) else (none)) else (if x3 ≥ 10000 then (some true) else (some (decide ((z0.length : Int) > 100))))) else (if x3 ≥ 10000 then (some true) else (some (decide ((z0.length : Int) > 100))))) := by
  refine Lm.unique (tallboylaw15_Great.l0Llm x3 x4 x102000 z0 x102002 x102003 x102004 x102005 x102006 x102007) ?_
  refine Lm.step rfl (f := fun k => tallboylaw15_Great.l0 (k + 1) x3 x4 x102000 z0 x102002 x102003 x102004 x102005 x102006 x102007) (fun _ => rfl) ?_; simp only [tallboylaw15_Great.l0]
  repeat' first
    | with_reducible exact tallboylaw15_Great.l0Llm _ _ _ _ _ _ _ _ _ _
    | with_reducible exact Lm.const _
    | with_reducible refine Lm.bind ?_ (fun _ => ?_)
    | with_reducible refine Lm.ite ?_ ?_
    | refine Lm.bind ?_ (fun _ => ?_)
    | refine Lm.ite ?_ ?_
theorem tallboylaw15_Great.L_eq (a0_0 : Int) (l0_1 : List ByteArray) (a0_2 : Int) (a0_3 : Int) (a0_4 : ByteArray) (a0_5 : Int) (a0_6 : Int) (a0_7 : Bool) : tallboylaw15_Great.L a0_0 l0_1 a0_2 a0_3 a0_4 a0_5 a0_6 a0_7 = (tallboylaw15_Great.l0L (a0_4.size : Int) 0 a0_0 l0_1 a0_2 a0_3 a0_4 a0_5 a0_6 a0_7) := by
  refine Lm.unique (tallboylaw15_Great.Llm a0_0 l0_1 a0_2 a0_3 a0_4 a0_5 a0_6 a0_7) ?_
  unfold tallboylaw15_Great.f
  repeat' first
    | with_reducible exact tallboylaw15_Great.l0Llm _ _ _ _ _ _ _ _ _ _
    | with_reducible exact Lm.const _
    | with_reducible refine Lm.bind ?_ (fun _ => ?_)
    | with_reducible refine Lm.ite ?_ ?_
    | refine Lm.bind ?_ (fun _ => ?_)
    | refine Lm.ite ?_ ?_
theorem verb_ends.j0L_eq (x4 : Bool) : verb_ends.j0L x4 = (if x4 = true then (some true) else (some false)) := by
  refine Lm.unique (verb_ends.j0Llm x4) ?_
  refine Lm.step rfl (f := fun k => verb_ends.j0 (k + 1) x4) (fun _ => rfl) ?_; simp only [verb_ends.j0]
  repeat' first
    | with_reducible exact Lm.const _
    | with_reducible refine Lm.bind ?_ (fun _ => ?_)
    | with_reducible refine Lm.ite ?_ ?_
    | refine Lm.bind ?_ (fun _ => ?_)
    | refine Lm.ite ?_ ?_
theorem verb_ends.L_eq (a0 : Int) : verb_ends.L a0 = (if a0 = 3 then (verb_ends.j0L (a0 == 3)) else (if a0 = 4 then (verb_ends.j0L (a0 == 4)) else (if a0 = 14 then (verb_ends.j0L (a0 == 14)) else (if a0 = 5 then (verb_ends.j0L (a0 == 5)) else (if a0 = 6 then (verb_ends.j0L (a0 == 6)) else (if a0 = 7 then (verb_ends.j0L (a0 == 7)) else (verb_ends.j0L (a0 == 10)))))))) := by
  refine Lm.unique (verb_ends.Llm a0) ?_
  unfold verb_ends.f
  repeat' first
    | with_reducible exact verb_ends.j0Llm _
    | with_reducible exact Lm.const _
    | with_reducible refine Lm.bind ?_ (fun _ => ?_)
    | with_reducible refine Lm.ite ?_ ?_
    | refine Lm.bind ?_ (fun _ => ?_)
    | refine Lm.ite ?_ ?_
theorem fnv_Key.j0L_eq (x0 : ByteArray) (x10 : Bool) : fnv_Key.j0L x0 x10 = (if x10 = true then (some false) else (fnv_Key.l0L x0 (x0.size : Int) 0)) := by
  refine Lm.unique (fnv_Key.j0Llm x0 x10) ?_
  refine Lm.step rfl (f := fun k => fnv_Key.j0 (k + 1) x0 x10) (fun _ => rfl) ?_; simp only [fnv_Key.j0]
  repeat' first
    | with_reducible exact fnv_Key.l0Llm _ _ _
    | with_reducible exact Lm.const _
    | with_reducible refine Lm.bind ?_ (fun _ => ?_)
    | with_reducible refine Lm.ite ?_ ?_
    | refine Lm.bind ?_ (fun _ => ?_)
    | refine Lm.ite ?_ ?_
theorem fnv_Key.l0L_eq (x0 : ByteArray) (x12 : Int) (x13 : Int) : fnv_Key.l0L x0 x12 x13 = (if x13 < x12 then (if 0 ≤ x13 then (if x13 < (x0.size : Int) then (if (bt x0 x13) < 33 then (some false) else (if (bt x0 x13) > 126 then (some false) else (fnv_Key.l0L x0 x12 (wrap64 (x13 + 1))))) else (none)) else (none)) else (some true)) := by
  refine Lm.unique (fnv_Key.l0Llm x0 x12 x13) ?_
  refine Lm.step rfl (f := fun k => fnv_Key.l0 (k + 1) x0 x12 x13) (fun _ => rfl) ?_; simp only [fnv_Key.l0]
  repeat' first
    | with_reducible exact fnv_Key.l0Llm _ _ _
    | with_reducible exact Lm.const _
    | with_reducible refine Lm.bind ?_ (fun _ => ?_)
    | with_reducible refine Lm.ite ?_ ?_
    | refine Lm.bind ?_ (fun _ => ?_)
    | refine Lm.ite ?_ ?_
theorem fnv_Key.L_eq (a0 : ByteArray) : fnv_Key.L a0 = (if a0.toList = ([] : List UInt8) then (fnv_Key.j0L a0 true) else (fnv_Key.j0L a0 (decide ((a0.size : Int) > 32)))) := by
  refine Lm.unique (fnv_Key.Llm a0) ?_
  unfold fnv_Key.f
  repeat' first
    | with_reducible exact fnv_Key.j0Llm _ _
    | with_reducible exact Lm.const _
    | with_reducible refine Lm.bind ?_ (fun _ => ?_)
    | with_reducible refine Lm.ite ?_ ?_
    | refine Lm.bind ?_ (fun _ => ?_)
    | refine Lm.ite ?_ ?_
theorem verb_Check_1.L_eq (a0 : ByteArray) : verb_Check_1.L a0 = ((fnv_Key.L a0).bind fun t104 => (some (!t104))) := by
  refine Lm.unique (verb_Check_1.Llm a0) ?_
  unfold verb_Check_1.f
  repeat' first
    | with_reducible exact fnv_Key.Llm _
    | with_reducible exact Lm.const _
    | with_reducible refine Lm.bind ?_ (fun _ => ?_)
    | with_reducible refine Lm.ite ?_ ?_
    | refine Lm.bind ?_ (fun _ => ?_)
    | refine Lm.ite ?_ ?_
theorem verb_Check.j0L_eq (x3 : Int) (z7 : Int) (z0 : List ByteArray) (z2 : Int) (z3 : Int) (z1 : ByteArray) (z4 : Int) (z5 : Int) (z6 : Bool) (z9 : Int) (za : List ByteArray) (zb : Int) (zc : Int) (z8 : ByteArray) (zd : Int) (ze : Int) (zf : Bool) : verb_Check.j0L x3 z7 z0 z2 z3 z1 z4 z5 z6 z9 za zb zc z8 zd ze zf = ((verb_Stores.f x3).bind fun t109 => (if t109 = true then ((verb_ends.L x3).bind fun t110 => (verb_Check.j1L x3 (!t110) z7 z0 z2 z3 z1 z4 z5 z6 z9 za zb zc z8 zd ze zf)) else (verb_Check.j1L x3 true z7 z0 z2 z3 z1 z4 z5 z6 z9 za zb zc z8 zd ze zf))) := by
  refine Lm.unique (verb_Check.j0Llm x3 z7 z0 z2 z3 z1 z4 z5 z6 z9 za zb zc z8 zd ze zf) ?_
  refine Lm.step rfl (f := fun k => verb_Check.j0 (k + 1) x3 z7 z0 z2 z3 z1 z4 z5 z6 z9 za zb zc z8 zd ze zf) (fun _ => rfl) ?_; simp only [verb_Check.j0]
  repeat' first
    | with_reducible exact verb_Check.j1Llm _ _ _ _ _ _ _ _ _ _ _ _ _ _ _ _ _ _
    | with_reducible exact verb_ends.Llm _
    | with_reducible exact Lm.const _
    | with_reducible refine Lm.bind ?_ (fun _ => ?_)
    | with_reducible refine Lm.ite ?_ ?_
    | refine Lm.bind ?_ (fun _ => ?_)
    | refine Lm.ite ?_ ?_
theorem verb_Check.j1L_eq (x3 : Int) (x24 : Bool) (z7 : Int) (z0 : List ByteArray) (z2 : Int) (z3 : Int) (z1 : ByteArray) (z4 : Int) (z5 : Int) (z6 : Bool) (z9 : Int) (za : List ByteArray) (zb : Int) (zc : Int) (z8 : ByteArray) (zd : Int) (ze : Int) (zf : Bool) : verb_Check.j1L x3 x24 z7 z0 z2 z3 z1 z4 z5 z6 z9 za zb zc z8 zd ze zf = (if x24 = true then (verb_Check.j2L x3 z7 z0 z2 z3 z1 z4 z5 z6 z9 za 0 zc z8 zd ze zf) else (verb_Check.j2L x3 z7 z0 z2 z3 z1 z4 z5 z6 z9 za zb zc z8 zd ze zf)) := by
  refine Lm.unique (verb_Check.j1Llm x3 x24 z7 z0 z2 z3 z1 z4 z5 z6 z9 za zb zc z8 zd ze zf) ?_
  refine Lm.step rfl (f := fun k => verb_Check.j1 (k + 1) x3 x24 z7 z0 z2 z3 z1 z4 z5 z6 z9 za zb zc z8 zd ze zf) (fun _ => rfl) ?_; simp only [verb_Check.j1]
  repeat' first
    | with_reducible exact verb_Check.j2Llm _ _ _ _ _ _ _ _ _ _ _ _ _ _ _ _ _
    | with_reducible exact Lm.const _
    | with_reducible refine Lm.bind ?_ (fun _ => ?_)
    | with_reducible refine Lm.ite ?_ ?_
    | refine Lm.bind ?_ (fun _ => ?_)
    | refine Lm.ite ?_ ?_
theorem verb_Check.j2L_eq (x3 : Int) (z7 : Int) (z0 : List ByteArray) (z2 : Int) (z3 : Int) (z1 : ByteArray) (z4 : Int) (z5 : Int) (z6 : Bool) (z9 : Int) (za : List ByteArray) (zb : Int) (zc : Int) (z8 : ByteArray) (zd : Int) (ze : Int) (zf : Bool) : verb_Check.j2L x3 z7 z0 z2 z3 z1 z4 z5 z6 z9 za zb zc z8 zd ze zf = ((verb_ends.L x3).bind fun t111 => (if t111 = true then (verb_Check.j3L x3 z7 z0 z2 z3 z1 z4 z5 z6 z9 za zb zc z8 zd ze zf) else (verb_Check.j3L x3 z7 z0 z2 z3 z1 z4 z5 z6 z9 za zb 0 z8 zd ze zf))) := by
  refine Lm.unique (verb_Check.j2Llm x3 z7 z0 z2 z3 z1 z4 z5 z6 z9 za zb zc z8 zd ze zf) ?_
  refine Lm.step rfl (f := fun k => verb_Check.j2 (k + 1) x3 z7 z0 z2 z3 z1 z4 z5 z6 z9 za zb zc z8 zd ze zf) (fun _ => rfl) ?_; simp only [verb_Check.j2]
  repeat' first
    | with_reducible exact verb_Check.j3Llm _ _ _ _ _ _ _ _ _ _ _ _ _ _ _ _ _
    | with_reducible exact verb_ends.Llm _
    | with_reducible exact Lm.const _
    | with_reducible refine Lm.bind ?_ (fun _ => ?_)
    | with_reducible refine Lm.ite ?_ ?_
    | refine Lm.bind ?_ (fun _ => ?_)
    | refine Lm.ite ?_ ?_
theorem verb_Check.j3L_eq (x3 : Int) (z7 : Int) (z0 : List ByteArray) (z2 : Int) (z3 : Int) (z1 : ByteArray) (z4 : Int) (z5 : Int) (z6 : Bool) (z9 : Int) (za : List ByteArray) (zb : Int) (zc : Int) (z8 : ByteArray) (zd : Int) (ze : Int) (zf : Bool) : verb_Check.j3L x3 z7 z0 z2 z3 z1 z4 z5 z6 z9 za zb zc z8 zd ze zf = (if x3 = 10 then (verb_Check.j4L x3 z7 z0 z2 z3 z1 z4 z5 z6 z9 za zb zc z8 zd ze zf) else (verb_Check.j4L x3 z7 z0 z2 z3 z1 z4 z5 z6 z9 za zb zc z8 0 ze zf)) := by
  refine Lm.unique (verb_Check.j3Llm x3 z7 z0 z2 z3 z1 z4 z5 z6 z9 za zb zc z8 zd ze zf) ?_
  refine Lm.step rfl (f := fun k => verb_Check.j3 (k + 1) x3 z7 z0 z2 z3 z1 z4 z5 z6 z9 za zb zc z8 zd ze zf) (fun _ => rfl) ?_; simp only [verb_Check.j3]
  repeat' first
    | with_reducible exact verb_Check.j4Llm _ _ _ _ _ _ _ _ _ _ _ _ _ _ _ _ _
    | with_reducible exact Lm.const _
    | with_reducible refine Lm.bind ?_ (fun _ => ?_)
    | with_reducible refine Lm.ite ?_ ?_
    | refine Lm.bind ?_ (fun _ => ?_)
    | refine Lm.ite ?_ ?_
theorem verb_Check.j4L_eq (x3 : Int) (z7 : Int) (z0 : List ByteArray) (z2 : Int) (z3 : Int) (z1 : ByteArray) (z4 : Int) (z5 : Int) (z6 : Bool) (z9 : Int) (za : List ByteArray) (zb : Int) (zc : Int) (z8 : ByteArray) (zd : Int) (ze : Int) (zf : Bool) : verb_Check.j4L x3 z7 z0 z2 z3 z1 z4 z5 z6 z9 za zb zc z8 zd ze zf = (if x3 = 12 then (verb_Check.j5L x3 false z7 z0 z2 z3 z1 z4 z5 z6 z9 za zb zc z8 zd ze zf) else (verb_Check.j5L x3 (x3 != 13) z7 z0 z2 z3 z1 z4 z5 z6 z9 za zb zc z8 zd ze zf)) := by
  refine Lm.unique (verb_Check.j4Llm x3 z7 z0 z2 z3 z1 z4 z5 z6 z9 za zb zc z8 zd ze zf) ?_
  refine Lm.step rfl (f := fun k => verb_Check.j4 (k + 1) x3 z7 z0 z2 z3 z1 z4 z5 z6 z9 za zb zc z8 zd ze zf) (fun _ => rfl) ?_; simp only [verb_Check.j4]
  repeat' first
    | with_reducible exact verb_Check.j5Llm _ _ _ _ _ _ _ _ _ _ _ _ _ _ _ _ _ _
    | with_reducible exact Lm.const _
    | with_reducible refine Lm.bind ?_ (fun _ => ?_)
    | with_reducible refine Lm.ite ?_ ?_
    | refine Lm.bind ?_ (fun _ => ?_)
    | refine Lm.ite ?_ ?_
theorem verb_Check.j5L_eq (x3 : Int) (x38 : Bool) (z7 : Int) (z0 : List ByteArray) (z2 : Int) (z3 : Int) (z1 : ByteArray) (z4 : Int) (z5 : Int) (z6 : Bool) (z9 : Int) (za : List ByteArray) (zb : Int) (zc : Int) (z8 : ByteArray) (zd : Int) (ze : Int) (zf : Bool) : verb_Check.j5L x3 x38 z7 z0 z2 z3 z1 z4 z5 z6 z9 za zb zc z8 zd ze zf = (if x38 = true then (verb_Check.j6L x3 z7 z0 z2 z3 z1 z4 z5 z6 z9 za zb zc z8 zd 0 zf) else (verb_Check.j6L x3 z7 z0 z2 z3 z1 z4 z5 z6 z9 za zb zc z8 zd ze zf)) := by
  refine Lm.unique (verb_Check.j5Llm x3 x38 z7 z0 z2 z3 z1 z4 z5 z6 z9 za zb zc z8 zd ze zf) ?_
  refine Lm.step rfl (f := fun k => verb_Check.j5 (k + 1) x3 x38 z7 z0 z2 z3 z1 z4 z5 z6 z9 za zb zc z8 zd ze zf) (fun _ => rfl) ?_; simp only [verb_Check.j5]
  repeat' first
    | with_reducible exact verb_Check.j6Llm _ _ _ _ _ _ _ _ _ _ _ _ _ _ _ _ _
    | with_reducible exact Lm.const _
    | with_reducible refine Lm.bind ?_ (fun _ => ?_)
    | with_reducible refine Lm.ite ?_ ?_
    | refine Lm.bind ?_ (fun _ => ?_)
    | refine Lm.ite ?_ ?_
theorem verb_Check.j6L_eq (x3 : Int) (z7 : Int) (z0 : List ByteArray) (z2 : Int) (z3 : Int) (z1 : ByteArray) (z4 : Int) (z5 : Int) (z6 : Bool) (z9 : Int) (za : List ByteArray) (zb : Int) (zc : Int) (z8 : ByteArray) (zd : Int) (ze : Int) (zf : Bool) : verb_Check.j6L x3 z7 z0 z2 z3 z1 z4 z5 z6 z9 za zb zc z8 zd ze zf = ((verb_reads.f x3).bind fun t112 => (if t112 = true then (verb_Check.j7L x3 z7 z0 z2 z3 z1 z4 z5 z6 z9 za zb zc z8 zd ze false) else (verb_Check.j7L x3 z7 z0 z2 z3 z1 z4 z5 z6 z9 za zb zc z8 zd ze zf))) := by
  refine Lm.unique (verb_Check.j6Llm x3 z7 z0 z2 z3 z1 z4 z5 z6 z9 za zb zc z8 zd ze zf) ?_
  refine Lm.step rfl (f := fun k => verb_Check.j6 (k + 1) x3 z7 z0 z2 z3 z1 z4 z5 z6 z9 za zb zc z8 zd ze zf) (fun _ => rfl) ?_; simp only [verb_Check.j6]
  repeat' first
    | with_reducible exact verb_Check.j7Llm _ _ _ _ _ _ _ _ _ _ _ _ _ _ _ _ _
    | with_reducible exact Lm.const _
    | with_reducible refine Lm.bind ?_ (fun _ => ?_)
    | with_reducible refine Lm.ite ?_ ?_
    | refine Lm.bind ?_ (fun _ => ?_)
    | refine Lm.ite ?_ ?_
theorem verb_Check.j7L_eq (x3 : Int) (z7 : Int) (z0 : List ByteArray) (z2 : Int) (z3 : Int) (z1 : ByteArray) (z4 : Int) (z5 : Int) (z6 : Bool) (z9 : Int) (za : List ByteArray) (zb : Int) (zc : Int) (z8 : ByteArray) (zd : Int) (ze : Int) (zf : Bool) : verb_Check.j7L x3 z7 z0 z2 z3 z1 z4 z5 z6 z9 za zb zc z8 zd ze zf = (if zb = z2 then (if z8.toList = z1.toList then (if zc = z3 then (if zd = z4 then (if ze = z5 then (verb_Check.j8L x3 (zf == z6) z7 z0 z2 z3 z1 z4 z5 z6) else (verb_Check.j8L x3 false z7 z0 z2 z3 z1 z4 z5 z6)) else (verb_Check.j8L x3 false z7 z0 z2 z3 z1 z4 z5 z6)) else (verb_Check.j8L x3 false z7 z0 z2 z3 z1 z4 z5 z6)) else (verb_Check.j8L x3 false z7 z0 z2 z3 z1 z4 z5 z6)) else (verb_Check.j8L x3 false z7 z0 z2 z3 z1 z4 z5 z6)) := by
  refine Lm.unique (verb_Check.j7Llm x3 z7 z0 z2 z3 z1 z4 z5 z6 z9 za zb zc z8 zd ze zf) ?_
  refine Lm.step rfl (f := fun k => verb_Check.j7 (k + 1) x3 z7 z0 z2 z3 z1 z4 z5 z6 z9 za zb zc z8 zd ze zf) (fun _ => rfl) ?_; simp only [verb_Check.j7]
  repeat' first
    | with_reducible exact verb_Check.j8Llm _ _ _ _ _ _ _ _ _ _
    | with_reducible exact Lm.const _
    | with_reducible refine Lm.bind ?_ (fun _ => ?_)
    | with_reducible refine Lm.ite ?_ ?_
    | refine Lm.bind ?_ (fun _ => ?_)
    | refine Lm.ite ?_ ?_
theorem verb_Check.j8L_eq (x3 : Int) (x5 : Bool) (z7 : Int) (z0 : List ByteArray) (z2 : Int) (z3 : Int) (z1 : ByteArray) (z4 : Int) (z5 : Int) (z6 : Bool) : verb_Check.j8L x3 x5 z7 z0 z2 z3 z1 z4 z5 z6 = (if x5 = true then ((verb_keys.f x3 (z0.length : Int)).bind fun t113 => (if t113 = true then ((slices_ContainsFunc_string_string.L z0).bind fun t114 => (verb_Check.j9L t114 z7 z0 z2 z3 z1 z4 z5 z6)) else (verb_Check.j9L (!t113) z7 z0 z2 z3 z1 z4 z5 z6))) else (verb_Check.j9L (!x5) z7 z0 z2 z3 z1 z4 z5 z6)) := by
  refine Lm.unique (verb_Check.j8Llm x3 x5 z7 z0 z2 z3 z1 z4 z5 z6) ?_
  refine Lm.step rfl (f := fun k => verb_Check.j8 (k + 1) x3 x5 z7 z0 z2 z3 z1 z4 z5 z6) (fun _ => rfl) ?_; simp only [verb_Check.j8]
  repeat' first
    | with_reducible exact slices_ContainsFunc_string_string.Llm _
    | with_reducible exact verb_Check.j9Llm _ _ _ _ _ _ _ _ _
    | with_reducible exact Lm.const _
    | with_reducible refine Lm.bind ?_ (fun _ => ?_)
    | with_reducible refine Lm.ite ?_ ?_
    | refine Lm.bind ?_ (fun _ => ?_)
    | refine Lm.ite ?_ ?_
theorem verb_Check.j9L_eq (x83 : Bool) (z7 : Int) (z0 : List ByteArray) (z2 : Int) (z3 : Int) (z1 : ByteArray) (z4 : Int) (z5 : Int) (z6 : Bool) : verb_Check.j9L x83 z7 z0 z2 z3 z1 z4 z5 z6 = (if x83 = true then (some 6) else (if (z1.size : Int) > 2000 then (some 7) else (some 0))) := by
  refine Lm.unique (verb_Check.j9Llm x83 z7 z0 z2 z3 z1 z4 z5 z6) ?_
  refine Lm.step rfl (f := fun k => verb_Check.j9 (k + 1) x83 z7 z0 z2 z3 z1 z4 z5 z6) (fun _ => rfl) ?_; simp only [verb_Check.j9]
  repeat' first
    | with_reducible exact Lm.const _
    | with_reducible refine Lm.bind ?_ (fun _ => ?_)
    | with_reducible refine Lm.ite ?_ ?_
    | refine Lm.bind ?_ (fun _ => ?_)
    | refine Lm.ite ?_ ?_
theorem verb_Check.L_eq (a0_0 : Int) (l0_1 : List ByteArray) (a0_2 : Int) (a0_3 : Int) (a0_4 : ByteArray) (a0_5 : Int) (a0_6 : Int) (a0_7 : Bool) : verb_Check.L a0_0 l0_1 a0_2 a0_3 a0_4 a0_5 a0_6 a0_7 = ((verb_kind.f a0_0).bind fun t106 => (if t106 = true then ((verb_Stores.f a0_0).bind fun t108 => (if t108 = true then (verb_Check.j0L a0_0 a0_0 l0_1 a0_2 a0_3 a0_4 a0_5 a0_6 a0_7 a0_0 l0_1 a0_2 a0_3 a0_4 a0_5 a0_6 a0_7) else (verb_Check.j0L a0_0 a0_0 l0_1 a0_2 a0_3 a0_4 a0_5 a0_6 a0_7 a0_0 l0_1 a0_2 a0_3 (⟨#[]⟩ : ByteArray) a0_5 a0_6 a0_7))) else (some 70))) := by
  refine Lm.unique (verb_Check.Llm a0_0 l0_1 a0_2 a0_3 a0_4 a0_5 a0_6 a0_7) ?_
  unfold verb_Check.f
  repeat' first
    | with_reducible exact verb_Check.j0Llm _ _ _ _ _ _ _ _ _ _ _ _ _ _ _ _ _
    | with_reducible exact Lm.const _
    | with_reducible refine Lm.bind ?_ (fun _ => ?_)
    | with_reducible refine Lm.ite ?_ ?_
    | refine Lm.bind ?_ (fun _ => ?_)
    | refine Lm.ite ?_ ?_
end Go.Proofs.YtbfgopinbpbddaaDoor.P
