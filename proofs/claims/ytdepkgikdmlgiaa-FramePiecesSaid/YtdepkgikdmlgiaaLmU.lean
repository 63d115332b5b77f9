/- The limits of the functions with rounds, and the equations that reckon them. Plain Lean; no condition. Written by a program. -/
import Derived.Test.YtdepkgikdmlgiaaLim
import Derived.Test.YtdepkgikdmlgiaaLmR
import Derived.Test.YtdepkgikdmlgiaaPx0
import Derived.Test.YtdepkgikdmlgiaaPx5
import Derived.Test.YtdepkgikdmlgiaaShort
import Derived.Test.YtdepkgikdmlgiaaPx7
import Derived.Test.YtdepkgikdmlgiaaPx9
namespace Go.Proofs.Ytdepkgikdmlgiaa.P
open Go.RowKit Go.Proofs.Ytdepkgikdmlgiaa.Lim Go.Proofs.YtdepkgikdmlgiaaW.PrintWords Go.Proofs.YtdepkgikdmlgiaaW.PrintLast Go.Proofs.YtdepkgikdmlgiaaW.PrintMore
set_option linter.unusedVariables false

noncomputable def frame_take.l0L (x0 : ByteArray) (x2 : Int) (x5 : Int) (x6 : Int) : Option (Int) := lim (fun k => frame_take.l0 k x0 x2 x5 x6)
theorem frame_take.l0Llm (x0 : ByteArray) (x2 : Int) (x5 : Int) (x6 : Int) : Lm (fun k => frame_take.l0 k x0 x2 x5 x6) (frame_take.l0L x0 x2 x5 x6) := lim_spec (fun k => (frame_take.mono_l k) _ _ _ _)
noncomputable def frame_take.L (a0 : ByteArray) : Option (Int) := lim (fun k => frame_take.f k a0)
theorem frame_take.Llm (a0 : ByteArray) : Lm (fun k => frame_take.f k a0) (frame_take.L a0) := lim_spec (fun k => frame_take.mono a0 k)
noncomputable def frame_Unpack.j0L (x0 : ByteArray) (x22 : Bool) : Option (Bool × Int × Int × Int × Int × ByteArray × ByteArray × ByteArray × Int × Int) := lim (fun k => frame_Unpack.j0 k x0 x22)
theorem frame_Unpack.j0Llm (x0 : ByteArray) (x22 : Bool) : Lm (fun k => frame_Unpack.j0 k x0 x22) (frame_Unpack.j0L x0 x22) := lim_spec (fun k => (frame_Unpack.mono_l k).1 _ _)
noncomputable def frame_Unpack.j1L (x0 : ByteArray) (x6 : Int) (x7 : Int) (x8 : Int) (x9 : Int) (x61 : Bool) (x126000 : Bool) (x126001 : Int) (x126002 : Int) (x126003 : Int) (x126004 : Int) (x126005 : ByteArray) (x126006 : ByteArray) (x126007 : ByteArray) : Option (Bool × Int × Int × Int × Int × ByteArray × ByteArray × ByteArray × Int × Int) := lim (fun k => frame_Unpack.j1 k x0 x6 x7 x8 x9 x61 x126000 x126001 x126002 x126003 x126004 x126005 x126006 x126007)
theorem frame_Unpack.j1Llm (x0 : ByteArray) (x6 : Int) (x7 : Int) (x8 : Int) (x9 : Int) (x61 : Bool) (x126000 : Bool) (x126001 : Int) (x126002 : Int) (x126003 : Int) (x126004 : Int) (x126005 : ByteArray) (x126006 : ByteArray) (x126007 : ByteArray) : Lm (fun k => frame_Unpack.j1 k x0 x6 x7 x8 x9 x61 x126000 x126001 x126002 x126003 x126004 x126005 x126006 x126007) (frame_Unpack.j1L x0 x6 x7 x8 x9 x61 x126000 x126001 x126002 x126003 x126004 x126005 x126006 x126007) := lim_spec (fun k => (frame_Unpack.mono_l k).2 _ _ _ _ _ _ _ _ _ _ _ _ _ _)
noncomputable def frame_Unpack.L (a0 : ByteArray) : Option (Bool × Int × Int × Int × Int × ByteArray × ByteArray × ByteArray × Int × Int) := lim (fun k => frame_Unpack.f k a0)
theorem frame_Unpack.Llm (a0 : ByteArray) : Lm (fun k => frame_Unpack.f k a0) (frame_Unpack.L a0) := lim_spec (fun k => frame_Unpack.mono a0 k)
theorem frame_take.l0L_eq (x0 : ByteArray) (x2 : Int) (x5 : Int) (x6 : Int) : frame_take.l0L x0 x2 x5 x6 = (if x6 < x5 then (if 0 ≤ x6 then (if x6 < (x0.size : Int) then (frame_take.l0L x0 (Go.bits .or .u64 (IntKind.u64.wrap (x2 * 256)) (IntKind.u64.wrap (bt x0 x6))) x5 (wrap64 (x6 + 1))) else (none)) else (none)) else (some x2)) := by
  refine Lm.unique (frame_take.l0Llm x0 x2 x5 x6) ?_
  refine Lm.step rfl (f := fun k => frame_take.l0 (k + 1) x0 x2 x5 x6) (fun _ => rfl) ?_; simp only [frame_take.l0]
  repeat' first
    | with_reducible exact frame_take.l0Llm _ _ _ _
    | with_reducible exact Lm.const _
    | with_reducible refine Lm.bind ?_ (fun _ => ?_)
    | with_reducible refine Lm.ite ?_ ?_
    | refine Lm.bind ?_ (fun _ => ?_)
    | refine Lm.ite ?_ ?_
theorem frame_take.L_eq (a0 : ByteArray) : frame_take.L a0 = (frame_take.l0L a0 0 (a0.size : Int) 0) := by
  refine Lm.unique (frame_take.Llm a0) ?_
  unfold frame_take.f
  repeat' first
    | with_reducible exact frame_take.l0Llm _ _ _ _
    | with_reducible exact Lm.const _
    | with_reducible refine Lm.bind ?_ (fun _ => ?_)
    | with_reducible refine Lm.ite ?_ ?_
    | refine Lm.bind ?_ (fun _ => ?_)
    | refine Lm.ite ?_ ?_
theorem frame_Unpack.j0L_eq (x0 : ByteArray) (x22 : Bool) : frame_Unpack.j0L x0 x22 = (if x22 = true then (some (false, 0, 0, 0, 0, (⟨#[]⟩ : ByteArray), (⟨#[]⟩ : ByteArray), (⟨#[]⟩ : ByteArray), 0, 6)) else (if (x0.size : Int) < 24 then (some (false, 0, 0, 0, 0, (⟨#[]⟩ : ByteArray), (⟨#[]⟩ : ByteArray), (⟨#[]⟩ : ByteArray), 0, 3)) else (if 0 < (x0.size : Int) then (if 1 < (x0.size : Int) then (if 6 ≤ 8 then (if 8 ≤ (x0.size : Int) then ((frame_take.L (x0.extract 6 8)).bind fun t122 => (if 12 ≤ 16 then (if 16 ≤ (x0.size : Int) then ((frame_take.L (x0.extract 12 16)).bind fun t123 => (if 16 ≤ 24 then (if 24 ≤ (x0.size : Int) then ((frame_take.L (x0.extract 16 24)).bind fun t124 => (if 2 ≤ 4 then (if 4 ≤ (x0.size : Int) then ((frame_take.L (x0.extract 2 4)).bind fun t126 => (if 4 < (x0.size : Int) then (if 8 ≤ 12 then (if 12 ≤ (x0.size : Int) then ((frame_take.L (x0.extract 8 12)).bind fun t127 => (if 5 < (x0.size : Int) then (if (bt x0 5) = 0 then (if ((bt x0 0) = 129) then (frame_Unpack.j1L x0 (wrap64 (t126)) (wrap64 (bt x0 4)) (wrap64 (t127)) (wrap64 ((wrap64 ((wrap64 (t127)) - (wrap64 (t126)))) - (wrap64 (bt x0 4)))) (decide ((wrap64 ((wrap64 ((wrap64 (t127)) - (wrap64 (t126)))) - (wrap64 (bt x0 4)))) < 0)) ((bt x0 0) == 129) (bt x0 1) (IntKind.u16.wrap (t122)) ((t123) % 4294967296) t124 (⟨#[]⟩ : ByteArray) (⟨#[]⟩ : ByteArray) (⟨#[]⟩ : ByteArray)) else (if (IntKind.u16.wrap (t122)) = 0 then (frame_Unpack.j1L x0 (wrap64 (t126)) (wrap64 (bt x0 4)) (wrap64 (t127)) (wrap64 ((wrap64 ((wrap64 (t127)) - (wrap64 (t126)))) - (wrap64 (bt x0 4)))) (decide ((wrap64 ((wrap64 ((wrap64 (t127)) - (wrap64 (t126)))) - (wrap64 (bt x0 4)))) < 0)) ((bt x0 0) == 129) (bt x0 1) (IntKind.u16.wrap (t122)) ((t123) % 4294967296) t124 (⟨#[]⟩ : ByteArray) (⟨#[]⟩ : ByteArray) (⟨#[]⟩ : ByteArray)) else (frame_Unpack.j1L x0 (wrap64 (t126)) (wrap64 (bt x0 4)) (wrap64 (t127)) (wrap64 ((wrap64 ((wrap64 (t127)) - (wrap64 (t126)))) - (wrap64 (bt x0 4)))) ((IntKind.u16.wrap (t122)) != 0) ((bt x0 0) == 129) (bt x0 1) (IntKind.u16.wrap (t122)) ((t123) % 4294967296) t124 (⟨#[]⟩ : ByteArray) (⟨#[]⟩ : ByteArray) (⟨#[]⟩ : ByteArray)))) else (frame_Unpack.j1L x0 (wrap64 (t126)) (wrap64 (bt x0 4)) (wrap64 (t127)) (wrap64 ((wrap64 ((wrap64 (t127)) - (wrap64 (t126)))) - (wrap64 (bt x0 4)))) ((bt x0 5) != 0) ((bt x0 0) == 129) (bt x0 1) (IntKind.u16.wrap (t122)) ((t123) % 4294967296) t124 (⟨#[]⟩ : ByteArray) (⟨#[]⟩ : ByteArray) (⟨#[]⟩ : ByteArray))) else (none))) else (none)) else (none)) else (none))) else (none)) else (none))) else (none)) else (none))) else (none)) else (none))) else (none)) else (none)) else (none)) else (none)))) := by
  refine Lm.unique (frame_Unpack.j0Llm x0 x22) ?_
  refine Lm.step rfl (f := fun k => frame_Unpack.j0 (k + 1) x0 x22) (fun _ => rfl) ?_; simp only [frame_Unpack.j0]
  repeat' first
    | with_reducible exact frame_Unpack.j1Llm _ _ _ _ _ _ _ _ _ _ _ _ _ _
    | with_reducible exact frame_take.Llm _
    | with_reducible exact Lm.const _
    | with_reducible refine Lm.bind ?_ (fun _ => ?_)
    | with_reducible refine Lm.ite ?_ ?_
    | refine Lm.bind ?_ (fun _ => ?_)
    | refine Lm.ite ?_ ?_
theorem frame_Unpack.j1L_eq (x0 : ByteArray) (x6 : Int) (x7 : Int) (x8 : Int) (x9 : Int) (x61 : Bool) (x126000 : Bool) (x126001 : Int) (x126002 : Int) (x126003 : Int) (x126004 : Int) (x126005 : ByteArray) (x126006 : ByteArray) (x126007 : ByteArray) : frame_Unpack.j1L x0 x6 x7 x8 x9 x61 x126000 x126001 x126002 x126003 x126004 x126005 x126006 x126007 = (if x61 = true then (some (false, 0, 0, 0, 0, (⟨#[]⟩ : ByteArray), (⟨#[]⟩ : ByteArray), (⟨#[]⟩ : ByteArray), 0, 6)) else ((frame_fits.f x6 x7 x9).bind fun t128 => (if t128 = true then (if (x0.size : Int) < (wrap64 (24 + x8)) then (some (false, 0, 0, 0, 0, (⟨#[]⟩ : ByteArray), (⟨#[]⟩ : ByteArray), (⟨#[]⟩ : ByteArray), 0, 3)) else (if 24 ≤ (wrap64 (24 + x8)) then (if (wrap64 (24 + x8)) ≤ (x0.size : Int) then (if 0 ≤ x7 then (if x7 ≤ ((x0.extract 24 ((wrap64 (24 + x8)) : Int).toNat).size : Int) then (if x7 ≤ (wrap64 (x7 + x6)) then (if (wrap64 (x7 + x6)) ≤ ((x0.extract 24 ((wrap64 (24 + x8)) : Int).toNat).size : Int) then (if 0 ≤ (wrap64 (x7 + x6)) then (some (x126000, x126001, x126002, x126003, x126004, (x0.extract 24 ((wrap64 (24 + x8)) : Int).toNat).extract 0 (x7 : Int).toNat, (x0.extract 24 ((wrap64 (24 + x8)) : Int).toNat).extract (x7 : Int).toNat ((wrap64 (x7 + x6)) : Int).toNat, (x0.extract 24 ((wrap64 (24 + x8)) : Int).toNat).extract ((wrap64 (x7 + x6)) : Int).toNat (x0.extract 24 ((wrap64 (24 + x8)) : Int).toNat).size, wrap64 (24 + x8), 0)) else (none)) else (none)) else (none)) else (none)) else (none)) else (none)) else (none))) else (some (false, 0, 0, 0, 0, (⟨#[]⟩ : ByteArray), (⟨#[]⟩ : ByteArray), (⟨#[]⟩ : ByteArray), 0, 7))))) := by
  refine Lm.unique (frame_Unpack.j1Llm x0 x6 x7 x8 x9 x61 x126000 x126001 x126002 x126003 x126004 x126005 x126006 x126007) ?_
  refine Lm.step rfl (f := fun k => frame_Unpack.j1 (k + 1) x0 x6 x7 x8 x9 x61 x126000 x126001 x126002 x126003 x126004 x126005 x126006 x126007) (fun _ => rfl) ?_; simp only [frame_Unpack.j1]
  repeat' first
    | with_reducible exact Lm.const _
    | with_reducible refine Lm.bind ?_ (fun _ => ?_)
    | with_reducible refine Lm.ite ?_ ?_
    | refine Lm.bind ?_ (fun _ => ?_)
    | refine Lm.ite ?_ ?_
theorem frame_Unpack.L_eq (a0 : ByteArray) : frame_Unpack.L a0 = (if a0.toList = ([] : List UInt8) then (frame_Unpack.j0L a0 false) else (if 0 < (a0.size : Int) then (if (bt a0 0) = 128 then (frame_Unpack.j0L a0 false) else (frame_Unpack.j0L a0 ((bt a0 0) != 129))) else (none))) := by
  refine Lm.unique (frame_Unpack.Llm a0) ?_
  unfold frame_Unpack.f
  repeat' first
    | with_reducible exact frame_Unpack.j0Llm _ _
    | with_reducible exact Lm.const _
    | with_reducible refine Lm.bind ?_ (fun _ => ?_)
    | with_reducible refine Lm.ite ?_ ?_
    | refine Lm.bind ?_ (fun _ => ?_)
    | refine Lm.ite ?_ ?_
end Go.Proofs.Ytdepkgikdmlgiaa.P
