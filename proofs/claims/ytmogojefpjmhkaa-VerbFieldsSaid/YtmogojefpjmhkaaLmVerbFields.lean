/- The limits of the functions with rounds, and the equations that reckon them. Plain Lean; no condition. Written by a program. -/
import Derived.Test.YtmogojefpjmhkaaLim
import Derived.Test.YtmogojefpjmhkaaLm1
import Derived.Test.YtmogojefpjmhkaaLmW
import Derived.Test.YtmogojefpjmhkaaPx19
namespace Go.Proofs.Ytmogojefpjmhkaa.P
open Go.RowKit Go.Proofs.Ytmogojefpjmhkaa.Lim Go.Proofs.YtmogojefpjmhkaaW.PrintWords Go.Proofs.YtmogojefpjmhkaaW.PrintLast Go.Proofs.YtmogojefpjmhkaaW.PrintMore
set_option linter.unusedVariables false

noncomputable def tallboylaw15_VerbFields.j0L (x1 : Int) (x19 : Bool) (x279000 : Int) (x279001 : List ByteArray) (x279002 : Int) (x279003 : Int) (x279004 : ByteArray) (x279005 : Int) (x279006 : Int) (x279007 : Bool) : Option (Bool) := lim (fun k => tallboylaw15_VerbFields.j0 k x1 x19 x279000 x279001 x279002 x279003 x279004 x279005 x279006 x279007)
theorem tallboylaw15_VerbFields.j0Llm (x1 : Int) (x19 : Bool) (x279000 : Int) (x279001 : List ByteArray) (x279002 : Int) (x279003 : Int) (x279004 : ByteArray) (x279005 : Int) (x279006 : Int) (x279007 : Bool) : Lm (fun k => tallboylaw15_VerbFields.j0 k x1 x19 x279000 x279001 x279002 x279003 x279004 x279005 x279006 x279007) (tallboylaw15_VerbFields.j0L x1 x19 x279000 x279001 x279002 x279003 x279004 x279005 x279006 x279007) := lim_spec (fun k => (tallboylaw15_VerbFields.mono_l k).1 _ _ _ _ _ _ _ _ _ _)
noncomputable def tallboylaw15_VerbFields.j1L (x1 : Int) (x6 : Int) (x7 : Bool) (x303000 : Int) (x303001 : List ByteArray) (x303002 : Int) (x303003 : Int) (x303004 : ByteArray) (x303005 : Int) (x303006 : Int) (x303007 : Bool) : Option (Bool) := lim (fun k => tallboylaw15_VerbFields.j1 k x1 x6 x7 x303000 x303001 x303002 x303003 x303004 x303005 x303006 x303007)
theorem tallboylaw15_VerbFields.j1Llm (x1 : Int) (x6 : Int) (x7 : Bool) (x303000 : Int) (x303001 : List ByteArray) (x303002 : Int) (x303003 : Int) (x303004 : ByteArray) (x303005 : Int) (x303006 : Int) (x303007 : Bool) : Lm (fun k => tallboylaw15_VerbFields.j1 k x1 x6 x7 x303000 x303001 x303002 x303003 x303004 x303005 x303006 x303007) (tallboylaw15_VerbFields.j1L x1 x6 x7 x303000 x303001 x303002 x303003 x303004 x303005 x303006 x303007) := lim_spec (fun k => (tallboylaw15_VerbFields.mono_l k).2.1 _ _ _ _ _ _ _ _ _ _ _)
noncomputable def tallboylaw15_VerbFields.j2L (x6 : Int) (x8 : Bool) (x303000 : Int) (x303001 : List ByteArray) (x303002 : Int) (x303003 : Int) (x303004 : ByteArray) (x303005 : Int) (x303006 : Int) (x303007 : Bool) : Option (Bool) := lim (fun k => tallboylaw15_VerbFields.j2 k x6 x8 x303000 x303001 x303002 x303003 x303004 x303005 x303006 x303007)
theorem tallboylaw15_VerbFields.j2Llm (x6 : Int) (x8 : Bool) (x303000 : Int) (x303001 : List ByteArray) (x303002 : Int) (x303003 : Int) (x303004 : ByteArray) (x303005 : Int) (x303006 : Int) (x303007 : Bool) : Lm (fun k => tallboylaw15_VerbFields.j2 k x6 x8 x303000 x303001 x303002 x303003 x303004 x303005 x303006 x303007) (tallboylaw15_VerbFields.j2L x6 x8 x303000 x303001 x303002 x303003 x303004 x303005 x303006 x303007) := lim_spec (fun k => (tallboylaw15_VerbFields.mono_l k).2.2 _ _ _ _ _ _ _ _ _ _)
noncomputable def tallboylaw15_VerbFields.L (a0_0 : Int) (l0_1 : List ByteArray) (a0_2 : Int) (a0_3 : Int) (a0_4 : ByteArray) (a0_5 : Int) (a0_6 : Int) (a0_7 : Bool) (a1 : Int) : Option (Bool) := lim (fun k => tallboylaw15_VerbFields.f k a0_0 l0_1 a0_2 a0_3 a0_4 a0_5 a0_6 a0_7 a1)
theorem tallboylaw15_VerbFields.Llm (a0_0 : Int) (l0_1 : List ByteArray) (a0_2 : Int) (a0_3 : Int) (a0_4 : ByteArray) (a0_5 : Int) (a0_6 : Int) (a0_7 : Bool) (a1 : Int) : Lm (fun k => tallboylaw15_VerbFields.f k a0_0 l0_1 a0_2 a0_3 a0_4 a0_5 a0_6 a0_7 a1) (tallboylaw15_VerbFields.L a0_0 l0_1 a0_2 a0_3 a0_4 a0_5 a0_6 a0_7 a1) := lim_spec (fun k => tallboylaw15_VerbFields.mono a0_0 l0_1 a0_2 a0_3 a0_4 a0_5 a0_6 a0_7 a1 k)
theorem tallboylaw15_VerbFields.j0L_eq (x1 : Int) (x19 : Bool) (x279000 : Int) (x279001 : List ByteArray) (x279002 : Int) (x279003 : Int) (x279004 : ByteArray) (x279005 : Int) (x279006 : Int) (x279007 : Bool) : tallboylaw15_VerbFields.j0L x1 x19 x279000 x279001 x279002 x279003 x279004 x279005 x279006 x279007 = (if x19 = true then (some true) else ((tallboylaw15_Own.f x279000 x279001 x279002 x279003 x279004 x279005 x279006 x279007).bind fun bt292 => ((tallboyref15_Stores.f x279000).bind fun t303 => (if t303 = true then (if x279000 = 8 then (tallboylaw15_VerbFields.j1L x1 x279000 false bt292.1 bt292.2.1 bt292.2.2.1 bt292.2.2.2.1 bt292.2.2.2.2.1 bt292.2.2.2.2.2.1 bt292.2.2.2.2.2.2.1 bt292.2.2.2.2.2.2.2) else (tallboylaw15_VerbFields.j1L x1 x279000 (x279000 != 9) bt292.1 bt292.2.1 bt292.2.2.1 bt292.2.2.2.1 bt292.2.2.2.2.1 bt292.2.2.2.2.2.1 bt292.2.2.2.2.2.2.1 bt292.2.2.2.2.2.2.2)) else (tallboylaw15_VerbFields.j1L x1 x279000 false bt292.1 bt292.2.1 bt292.2.2.1 bt292.2.2.2.1 bt292.2.2.2.2.1 bt292.2.2.2.2.2.1 bt292.2.2.2.2.2.2.1 bt292.2.2.2.2.2.2.2))))) := by
  refine Lm.unique (tallboylaw15_VerbFields.j0Llm x1 x19 x279000 x279001 x279002 x279003 x279004 x279005 x279006 x279007) ?_
  refine Lm.step rfl (f := fun k => tallboylaw15_VerbFields.j0 (k + 1) x1 x19 x279000 x279001 x279002 x279003 x279004 x279005 x279006 x279007) (fun _ => rfl) ?_; simp only [tallboylaw15_VerbFields.j0]
  repeat' first
    | with_reducible exact tallboylaw15_VerbFields.j1Llm _ _ _ _ _ _ _ _ _ _ _
    | with_reducible exact Lm.const _
    | with_reducible refine Lm.bind ?_ (fun _ => ?_)
    | with_reducible refine Lm.ite ?_ ?_
    | refine Lm.bind ?_ (fun _ => ?_)
    | refine Lm.ite ?_ ?_
theorem tallboylaw15_VerbFields.j1L_eq (x1 : Int) (x6 : Int) (x7 : Bool) (x303000 : Int) (x303001 : List ByteArray) (x303002 : Int) (x303003 : Int) (x303004 : ByteArray) (x303005 : Int) (x303006 : Int) (x303007 : Bool) : tallboylaw15_VerbFields.j1L x1 x6 x7 x303000 x303001 x303002 x303003 x303004 x303005 x303006 x303007 = (if (wrap64 (Int.tmod (IntKind.u64.wrap (x1)) 6)) = 0 then (tallboylaw15_VerbFields.j2L x6 x7 x303000 x303001 1 x303003 x303004 x303005 x303006 x303007) else (if (wrap64 (Int.tmod (IntKind.u64.wrap (x1)) 6)) = 1 then ((tallboyref15_Stores.f x6).bind fun t304 => (tallboylaw15_VerbFields.j2L x6 t304 x303000 x303001 x303002 x303003 (⟨#[118]⟩ : ByteArray) x303005 x303006 x303007)) else (if (wrap64 (Int.tmod (IntKind.u64.wrap (x1)) 6)) = 2 then (if x7 = true then (tallboylaw15_VerbFields.j2L x6 true x303000 x303001 x303002 1 x303004 x303005 x303006 x303007) else (if x6 = 3 then (tallboylaw15_VerbFields.j2L x6 true x303000 x303001 x303002 1 x303004 x303005 x303006 x303007) else (if x6 = 4 then (tallboylaw15_VerbFields.j2L x6 true x303000 x303001 x303002 1 x303004 x303005 x303006 x303007) else (tallboylaw15_VerbFields.j2L x6 (x6 == 14) x303000 x303001 x303002 1 x303004 x303005 x303006 x303007)))) else (if (wrap64 (Int.tmod (IntKind.u64.wrap (x1)) 6)) = 3 then (tallboylaw15_VerbFields.j2L x6 (x6 == 10) x303000 x303001 x303002 x303003 x303004 1 x303006 x303007) else (if (wrap64 (Int.tmod (IntKind.u64.wrap (x1)) 6)) = 4 then (if x6 = 12 then (tallboylaw15_VerbFields.j2L x6 true x303000 x303001 x303002 x303003 x303004 x303005 1 x303007) else (tallboylaw15_VerbFields.j2L x6 (x6 == 13) x303000 x303001 x303002 x303003 x303004 x303005 1 x303007)) else ((tallboyref15_Reads.f x6).bind fun t305 => (tallboylaw15_VerbFields.j2L x6 (!t305) x303000 x303001 x303002 x303003 x303004 x303005 x303006 true))))))) := by
  refine Lm.unique (tallboylaw15_VerbFields.j1Llm x1 x6 x7 x303000 x303001 x303002 x303003 x303004 x303005 x303006 x303007) ?_
  refine Lm.step rfl (f := fun k => tallboylaw15_VerbFields.j1 (k + 1) x1 x6 x7 x303000 x303001 x303002 x303003 x303004 x303005 x303006 x303007) (fun _ => rfl) ?_; simp only [tallboylaw15_VerbFields.j1]
  repeat' first
    | with_reducible exact tallboylaw15_VerbFields.j2Llm _ _ _ _ _ _ _ _ _ _
    | with_reducible exact Lm.const _
    | with_reducible refine Lm.bind ?_ (fun _ => ?_)
    | with_reducible refine Lm.ite ?_ ?_
    | refine Lm.bind ?_ (fun _ => ?_)
    | refine Lm.ite ?_ ?_
theorem tallboylaw15_VerbFields.j2L_eq (x6 : Int) (x8 : Bool) (x303000 : Int) (x303001 : List ByteArray) (x303002 : Int) (x303003 : Int) (x303004 : ByteArray) (x303005 : Int) (x303006 : Int) (x303007 : Bool) : tallboylaw15_VerbFields.j2L x6 x8 x303000 x303001 x303002 x303003 x303004 x303005 x303006 x303007 = ((verb_Check.L x303000 x303001 x303002 x303003 x303004 x303005 x303006 x303007).bind fun t307 => (if ((t307 == 0) == x8) = true then ((verb_Check.L x6 x303001 0 0 (⟨#[]⟩ : ByteArray) 0 0 false).bind fun t308 => (some (t308 == 0))) else (none))) := by
  refine Lm.unique (tallboylaw15_VerbFields.j2Llm x6 x8 x303000 x303001 x303002 x303003 x303004 x303005 x303006 x303007) ?_
  refine Lm.step rfl (f := fun k => tallboylaw15_VerbFields.j2 (k + 1) x6 x8 x303000 x303001 x303002 x303003 x303004 x303005 x303006 x303007) (fun _ => rfl) ?_; simp only [tallboylaw15_VerbFields.j2]
  repeat' first
    | with_reducible exact verb_Check.Llm _ _ _ _ _ _ _ _
    | with_reducible exact Lm.const _
    | with_reducible refine Lm.bind ?_ (fun _ => ?_)
    | with_reducible refine Lm.ite ?_ ?_
    | refine Lm.bind ?_ (fun _ => ?_)
    | refine Lm.ite ?_ ?_
theorem tallboylaw15_VerbFields.L_eq (a0_0 : Int) (l0_1 : List ByteArray) (a0_2 : Int) (a0_3 : Int) (a0_4 : ByteArray) (a0_5 : Int) (a0_6 : Int) (a0_7 : Bool) (a1 : Int) : tallboylaw15_VerbFields.L a0_0 l0_1 a0_2 a0_3 a0_4 a0_5 a0_6 a0_7 a1 = ((tallboylaw15_works.L).bind fun t279 => (if t279 = true then ((tallboylaw15_Great.L a0_0 l0_1 a0_2 a0_3 a0_4 a0_5 a0_6 a0_7).bind fun t280 => (if t280 = true then (tallboylaw15_VerbFields.j0L a1 true a0_0 l0_1 a0_2 a0_3 a0_4 a0_5 a0_6 a0_7) else ((tallboylaw15_Own.f a0_0 l0_1 a0_2 a0_3 a0_4 a0_5 a0_6 a0_7).bind fun bt281 => ((verb_Check.L bt281.1 bt281.2.1 bt281.2.2.1 bt281.2.2.2.1 bt281.2.2.2.2.1 bt281.2.2.2.2.2.1 bt281.2.2.2.2.2.2.1 bt281.2.2.2.2.2.2.2).bind fun t291 => (tallboylaw15_VerbFields.j0L a1 (t291 != 0) a0_0 l0_1 a0_2 a0_3 a0_4 a0_5 a0_6 a0_7))))) else (none))) := by
  refine Lm.unique (tallboylaw15_VerbFields.Llm a0_0 l0_1 a0_2 a0_3 a0_4 a0_5 a0_6 a0_7 a1) ?_
  unfold tallboylaw15_VerbFields.f
  repeat' first
    | with_reducible exact tallboylaw15_VerbFields.j0Llm _ _ _ _ _ _ _ _ _ _
    | with_reducible exact tallboylaw15_works.Llm
    | with_reducible exact tallboylaw15_Great.Llm _ _ _ _ _ _ _ _
    | with_reducible exact verb_Check.Llm _ _ _ _ _ _ _ _
    | with_reducible exact Lm.const _
    | with_reducible refine Lm.bind ?_ (fun _ => ?_)
    | with_reducible refine Lm.ite ?_ ?_
    | refine Lm.bind ?_ (fun _ => ?_)
    | refine Lm.ite ?_ ?_
end Go.Proofs.Ytmogojefpjmhkaa.P
