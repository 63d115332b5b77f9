/- The limits of the functions with rounds, and the equations that reckon them. Plain Lean; no condition. Written by a program. -/
import Derived.Test.YtbfgopinbpbddaaDoorLim
import Derived.Test.YtbfgopinbpbddaaDoorLmD
import Derived.Test.YtbfgopinbpbddaaDoorLm1
import Derived.Test.YtbfgopinbpbddaaDoorPx13
import Derived.Test.YtbfgopinbpbddaaDoorPx0
import Derived.Test.YtbfgopinbpbddaaDoorShort
import Derived.Test.YtbfgopinbpbddaaDoorLmS
import Derived.Test.YtbfgopinbpbddaaDoorPar
import Derived.Test.YtbfgopinbpbddaaDoorPx35
import Derived.Test.YtbfgopinbpbddaaDoorPx38
namespace Go.Proofs.YtbfgopinbpbddaaDoor.P
open Go.RowKit Go.Proofs.YtbfgopinbpbddaaDoor.Lim Go.Proofs.YtbfgopinbpbddaaDoorW.PrintWords Go.Proofs.YtbfgopinbpbddaaDoorW.PrintLast Go.Proofs.YtbfgopinbpbddaaDoorW.PrintMore
set_option linter.unusedVariables false

noncomputable def tallboylaw17_works.L : Option (Bool) := lim (fun k => tallboylaw17_works.f k)
theorem tallboylaw17_works.Llm : Lm (fun k => tallboylaw17_works.f k) (tallboylaw17_works.L) := lim_spec (fun k => tallboylaw17_works.mono k)
noncomputable def tallboylaw17_LineBlanks.j0L (x0 : ByteArray) (x1 : List Int) (x17 : Bool) : Option (Bool) := lim (fun k => tallboylaw17_LineBlanks.j0 k x0 x1 x17)
theorem tallboylaw17_LineBlanks.j0Llm (x0 : ByteArray) (x1 : List Int) (x17 : Bool) : Lm (fun k => tallboylaw17_LineBlanks.j0 k x0 x1 x17) (tallboylaw17_LineBlanks.j0L x0 x1 x17) := lim_spec (fun k => (tallboylaw17_LineBlanks.mono_l k).1 _ _ _)
noncomputable def tallboylaw17_LineBlanks.l0L (x0 : ByteArray) (x1 : List Int) (x5 : ByteArray) (x6 : Int) : Option (Bool) := lim (fun k => tallboylaw17_LineBlanks.l0 k x0 x1 x5 x6)
theorem tallboylaw17_LineBlanks.l0Llm (x0 : ByteArray) (x1 : List Int) (x5 : ByteArray) (x6 : Int) : Lm (fun k => tallboylaw17_LineBlanks.l0 k x0 x1 x5 x6) (tallboylaw17_LineBlanks.l0L x0 x1 x5 x6) := lim_spec (fun k => (tallboylaw17_LineBlanks.mono_l k).2.1 _ _ _ _)
noncomputable def tallboylaw17_LineBlanks.j2L (x0 : ByteArray) (x1 : List Int) (x5 : ByteArray) (x6 : Int) (x33 : Bool) : Option (Bool) := lim (fun k => tallboylaw17_LineBlanks.j2 k x0 x1 x5 x6 x33)
theorem tallboylaw17_LineBlanks.j2Llm (x0 : ByteArray) (x1 : List Int) (x5 : ByteArray) (x6 : Int) (x33 : Bool) : Lm (fun k => tallboylaw17_LineBlanks.j2 k x0 x1 x5 x6 x33) (tallboylaw17_LineBlanks.j2L x0 x1 x5 x6 x33) := lim_spec (fun k => (tallboylaw17_LineBlanks.mono_l k).2.2.1 _ _ _ _ _)
noncomputable def tallboylaw17_LineBlanks.l1L (x0 : ByteArray) (x1 : List Int) (x5 : ByteArray) (x6 : Int) (x7 : Int) : Option (Bool) := lim (fun k => tallboylaw17_LineBlanks.l1 k x0 x1 x5 x6 x7)
theorem tallboylaw17_LineBlanks.l1Llm (x0 : ByteArray) (x1 : List Int) (x5 : ByteArray) (x6 : Int) (x7 : Int) : Lm (fun k => tallboylaw17_LineBlanks.l1 k x0 x1 x5 x6 x7) (tallboylaw17_LineBlanks.l1L x0 x1 x5 x6 x7) := lim_spec (fun k => (tallboylaw17_LineBlanks.mono_l k).2.2.2 _ _ _ _ _)
noncomputable def tallboylaw17_LineBlanks.L (a0 : ByteArray) (l1 : List Int) : Option (Bool) := lim (fun k => tallboylaw17_LineBlanks.f k a0 l1)
theorem tallboylaw17_LineBlanks.Llm (a0 : ByteArray) (l1 : List Int) : Lm (fun k => tallboylaw17_LineBlanks.f k a0 l1) (tallboylaw17_LineBlanks.L a0 l1) := lim_spec (fun k => tallboylaw17_LineBlanks.mono a0 l1 k)
theorem tallboylaw17_LineBlanks.j0L_eq (x0 : ByteArray) (x1 : List Int) (x17 : Bool) : tallboylaw17_LineBlanks.j0L x0 x1 x17 = (if x17 = true then (some true) else (tallboylaw17_LineBlanks.l0L x0 x1 (⟨#[]⟩ : ByteArray) 0)) := by
  refine Lm.unique (tallboylaw17_LineBlanks.j0Llm x0 x1 x17) ?_
  refine Lm.step rfl (f := fun k => tallboylaw17_LineBlanks.j0 (k + 1) x0 x1 x17) (fun _ => rfl) ?_; simp only [tallboylaw17_LineBlanks.j0]
  repeat' first
    | with_reducible exact tallboylaw17_LineBlanks.l0Llm _ _ _ _
    | with_reducible exact Lm.const _
    | with_reducible refine Lm.bind ?_ (fun _ => ?_)
    | with_reducible refine Lm.ite ?_ ?_
    | refine Lm.bind ?_ (fun _ => ?_)
    | refine Lm.ite ?_ ?_
theorem tallboylaw17_LineBlanks.l0L_eq (x0 : ByteArray) (x1 : List Int) (x5 : ByteArray) (x6 : Int) : tallboylaw17_LineBlanks.l0L x0 x1 x5 x6 = (if x6 < (x0.size : Int) then (if 0 ≤ x6 then (if (bt x0 x6) = 32 then (tallboylaw17_LineBlanks.j2L x0 x1 x5 x6 (decide (x6 < (x1.length : Int)))) else (tallboylaw17_LineBlanks.j2L x0 x1 x5 x6 false)) else (none)) else (if 1 + x5.size ≤ 9223372036854775807 then (if ((⟨#[32]⟩ : ByteArray) ++ x5).size + 1 ≤ 9223372036854775807 then (if ((((⟨#[32]⟩ : ByteArray) ++ x5) ++ (⟨#[32]⟩ : ByteArray)).size : Int) > 160 then ((line_Parse.L (((⟨#[32]⟩ : ByteArray) ++ x5) ++ (⟨#[32]⟩ : ByteArray))).bind fun bt544 => (some (bt544.1 == 9))) else ((line_Parse.L x0).bind fun bt557 => ((tallboylaw17_From.f bt557.1 bt557.2.1 bt557.2.2.1 bt557.2.2.2.1 bt557.2.2.2.2.1 bt557.2.2.2.2.2.1 bt557.2.2.2.2.2.2.1 bt557.2.2.2.2.2.2.2.1 bt557.2.2.2.2.2.2.2.2.1 bt557.2.2.2.2.2.2.2.2.2.1 bt557.2.2.2.2.2.2.2.2.2.2).bind fun bt570 => ((line_Parse.L (((⟨#[32]⟩ : ByteArray) ++ x5) ++ (⟨#[32]⟩ : ByteArray))).bind fun bt583 => ((tallboylaw17_From.f bt583.1 bt583.2.1 bt583.2.2.1 bt583.2.2.2.1 bt583.2.2.2.2.1 bt583.2.2.2.2.2.1 bt583.2.2.2.2.2.2.1 bt583.2.2.2.2.2.2.2.1 bt583.2.2.2.2.2.2.2.2.1 bt583.2.2.2.2.2.2.2.2.2.1 bt583.2.2.2.2.2.2.2.2.2.2).bind fun bt596 => ((tallboylaw17_Same.L bt570.1 bt570.2.1 bt570.2.2.1 bt570.2.2.2.1 bt570.2.2.2.2.1 bt570.2.2.2.2.2.1 bt570.2.2.2.2.2.2.1 bt570.2.2.2.2.2.2.2.1 bt570.2.2.2.2.2.2.2.2.1 bt570.2.2.2.2.2.2.2.2.2.1 bt570.2.2.2.2.2.2.2.2.2.2 bt596.1 bt596.2.1 bt596.2.2.1 bt596.2.2.2.1 bt596.2.2.2.2.1 bt596.2.2.2.2.2.1 bt596.2.2.2.2.2.2.1 bt596.2.2.2.2.2.2.2.1 bt596.2.2.2.2.2.2.2.2.1 bt596.2.2.2.2.2.2.2.2.2.1 bt596.2.2.2.2.2.2.2.2.2.2).bind fun t609 => (some t609))))))) else (none)) else (none))) := by
  refine Lm.unique (tallboylaw17_LineBlanks.l0Llm x0 x1 x5 x6) ?_
  refine Lm.step rfl (f := fun k => tallboylaw17_LineBlanks.l0 (k + 1) x0 x1 x5 x6) (fun _ => rfl) ?_; simp only [tallboylaw17_LineBlanks.l0]
  repeat' first
    | with_reducible exact tallboylaw17_LineBlanks.j2Llm _ _ _ _ _
    | with_reducible exact tallboylaw17_Same.Llm _ _ _ _ _ _ _ _ _ _ _ _ _ _ _ _ _ _ _ _ _ _
    | with_reducible exact line_Parse.Llm _
    | with_reducible exact Lm.const _
    | with_reducible refine Lm.bind ?_ (fun _ => ?_)
    | with_reducible refine Lm.ite ?_ ?_
    | refine Lm.bind ?_ (fun _ => ?_)
    | refine Lm.ite ?_ ?_
theorem tallboylaw17_LineBlanks.j2L_eq (x0 : ByteArray) (x1 : List Int) (x5 : ByteArray) (x6 : Int) (x33 : Bool) : tallboylaw17_LineBlanks.j2L x0 x1 x5 x6 x33 = (if x33 = true then (tallboylaw17_LineBlanks.l1L x0 x1 x5 x6 0) else (if 0 ≤ x6 then (if x6 ≤ (wrap64 (x6 + 1)) then (if (wrap64 (x6 + 1)) ≤ (x0.size : Int) then (if x5.size + (x0.extract (x6 : Int).toNat ((wrap64 (x6 + 1)) : Int).toNat).size ≤ 9223372036854775807 then (tallboylaw17_LineBlanks.l0L x0 x1 (x5 ++ (x0.extract (x6 : Int).toNat ((wrap64 (x6 + 1)) : Int).toNat)) (wrap64 (x6 + 1))) else (none)) else (none)) else (none)) else (none))) := by
  refine Lm.unique (tallboylaw17_LineBlanks.j2Llm x0 x1 x5 x6 x33) ?_
  refine Lm.step rfl (f := fun k => tallboylaw17_LineBlanks.j2 (k + 1) x0 x1 x5 x6 x33) (fun _ => rfl) ?_; simp only [tallboylaw17_LineBlanks.j2]
  repeat' first
    | with_reducible exact tallboylaw17_LineBlanks.l0Llm _ _ _ _
    | with_reducible exact tallboylaw17_LineBlanks.l1Llm _ _ _ _ _
    | with_reducible exact Lm.const _
    | with_reducible refine Lm.bind ?_ (fun _ => ?_)
    | with_reducible refine Lm.ite ?_ ?_
    | refine Lm.bind ?_ (fun _ => ?_)
    | refine Lm.ite ?_ ?_
theorem tallboylaw17_LineBlanks.l1L_eq (x0 : ByteArray) (x1 : List Int) (x5 : ByteArray) (x6 : Int) (x7 : Int) : tallboylaw17_LineBlanks.l1L x0 x1 x5 x6 x7 = (if 0 ≤ x6 then (if x6 < (x1.length : Int) then (if x7 < (wrap64 (Int.tmod (IntKind.u64.wrap (rd x1 x6)) 3)) then (if x5.size + 1 ≤ 9223372036854775807 then (tallboylaw17_LineBlanks.l1L x0 x1 (x5 ++ (⟨#[32]⟩ : ByteArray)) x6 (wrap64 (x7 + 1))) else (none)) else (if x6 ≤ (wrap64 (x6 + 1)) then (if (wrap64 (x6 + 1)) ≤ (x0.size : Int) then (if x5.size + (x0.extract (x6 : Int).toNat ((wrap64 (x6 + 1)) : Int).toNat).size ≤ 9223372036854775807 then (tallboylaw17_LineBlanks.l0L x0 x1 (x5 ++ (x0.extract (x6 : Int).toNat ((wrap64 (x6 + 1)) : Int).toNat)) (wrap64 (x6 + 1))) else (none)) else (none)) else (none))) else (none)) else (none)) := by
  refine Lm.unique (tallboylaw17_LineBlanks.l1Llm x0 x1 x5 x6 x7) ?_
  refine Lm.step rfl (f := fun k => tallboylaw17_LineBlanks.l1 (k + 1) x0 x1 x5 x6 x7) (fun _ => rfl) ?_; simp only [tallboylaw17_LineBlanks.l1]
  repeat' first
    | with_reducible exact tallboylaw17_LineBlanks.l0Llm _ _ _ _
    | with_reducible exact tallboylaw17_LineBlanks.l1Llm _ _ _ _ _
    | with_reducible exact Lm.const _
    | with_reducible refine Lm.bind ?_ (fun _ => ?_)
    | with_reducible refine Lm.ite ?_ ?_
    | refine Lm.bind ?_ (fun _ => ?_)
    | refine Lm.ite ?_ ?_
theorem tallboylaw17_LineBlanks.L_eq (a0 : ByteArray) (l1 : List Int) : tallboylaw17_LineBlanks.L a0 l1 = ((tallboylaw17_works.L).bind fun t542 => (if t542 = true then (if (a0.size : Int) > 160 then (tallboylaw17_LineBlanks.j0L a0 l1 true) else (tallboylaw17_LineBlanks.j0L a0 l1 (decide ((l1.length : Int) > 100)))) else (none))) := by
  refine Lm.unique (tallboylaw17_LineBlanks.Llm a0 l1) ?_
  unfold tallboylaw17_LineBlanks.f
  repeat' first
    | with_reducible exact tallboylaw17_LineBlanks.j0Llm _ _ _
    | with_reducible exact tallboylaw17_works.Llm
    | with_reducible exact Lm.const _
    | with_reducible refine Lm.bind ?_ (fun _ => ?_)
    | with_reducible refine Lm.ite ?_ ?_
    | refine Lm.bind ?_ (fun _ => ?_)
    | refine Lm.ite ?_ ?_
end Go.Proofs.YtbfgopinbpbddaaDoor.P
