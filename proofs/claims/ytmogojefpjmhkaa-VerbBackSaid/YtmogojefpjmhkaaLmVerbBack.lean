/- The limits of the functions with rounds, and the equations that reckon them. Plain Lean; no condition. Written by a program. -/
import Derived.Test.YtmogojefpjmhkaaLim
import Derived.Test.YtmogojefpjmhkaaLm1
import Derived.Test.YtmogojefpjmhkaaLmW
import Derived.Test.YtmogojefpjmhkaaPx16
namespace Go.Proofs.Ytmogojefpjmhkaa.P
open Go.RowKit Go.Proofs.Ytmogojefpjmhkaa.Lim Go.Proofs.YtmogojefpjmhkaaW.PrintWords Go.Proofs.YtmogojefpjmhkaaW.PrintLast Go.Proofs.YtmogojefpjmhkaaW.PrintMore
set_option linter.unusedVariables false

noncomputable def tallboylaw15_VerbBack.j0L (x1 : ByteArray) (x37 : Bool) : Option (Bool) := lim (fun k => tallboylaw15_VerbBack.j0 k x1 x37)
theorem tallboylaw15_VerbBack.j0Llm (x1 : ByteArray) (x37 : Bool) : Lm (fun k => tallboylaw15_VerbBack.j0 k x1 x37) (tallboylaw15_VerbBack.j0L x1 x37) := lim_spec (fun k => (tallboylaw15_VerbBack.mono_l k) _ _)
noncomputable def tallboylaw15_VerbBack.L (a0 : Int) (a1 : ByteArray) (a2 : Int) : Option (Bool) := lim (fun k => tallboylaw15_VerbBack.f k a0 a1 a2)
theorem tallboylaw15_VerbBack.Llm (a0 : Int) (a1 : ByteArray) (a2 : Int) : Lm (fun k => tallboylaw15_VerbBack.f k a0 a1 a2) (tallboylaw15_VerbBack.L a0 a1 a2) := lim_spec (fun k => tallboylaw15_VerbBack.mono a0 a1 a2 k)
set_option maxHeartbeats 1000000 in
theorem tallboylaw15_VerbBack.j0L_eq (x1 : ByteArray) (x37 : Bool) : tallboylaw15_VerbBack.j0L x1 x37 = (if x37 = true then (some false) else ((verb_Kind.f x1).bind fun t211 => (if t211 = 0 then (some true) else ((verb_Name.f t211).bind fun t212 => (some (t212.toList == x1.toList)))))) := by
  refine Lm.unique (tallboylaw15_VerbBack.j0Llm x1 x37) ?_
  refine Lm.step rfl (f := fun k => (if x37 = true then (some false) else ((verb_Kind.f x1).bind fun t211 => (if t211 = 0 then (some true) else ((verb_Name.f t211).bind fun t212 => (some (t212.toList == x1.toList))))))) (fun k => rfl) ?_
  repeat' first
    | with_reducible exact Lm.const _
    | with_reducible refine Lm.bind ?_ (fun _ => ?_)
    | with_reducible refine Lm.ite ?_ ?_
    | refine Lm.bind ?_ (fun _ => ?_)
    | refine Lm.ite ?_ ?_
set_option maxHeartbeats 1000000 in
theorem tallboylaw15_VerbBack.L_eq (a0 : Int) (a1 : ByteArray) (a2 : Int) : tallboylaw15_VerbBack.L a0 a1 a2 = ((tallboylaw15_works.L).bind fun t206 => (if t206 = true then ((verb_Name.f (wrap64 (1 + (wrap64 (Int.tmod (IntKind.u64.wrap (a0)) 15))))).bind fun t207 => ((verb_Kind.f t207).bind fun t208 => (if t208 = (wrap64 (1 + (wrap64 (Int.tmod (IntKind.u64.wrap (a0)) 15)))) then ((verb_Name.f (wrap64 (1 + (wrap64 (Int.tmod (IntKind.u64.wrap (a0)) 15))))).bind fun t209 => ((verb_Name.f (wrap64 (1 + (wrap64 (Int.tmod (IntKind.u64.wrap (a2)) 15))))).bind fun t210 => (tallboylaw15_VerbBack.j0L a1 ((t209.toList == t210.toList) != ((wrap64 (1 + (wrap64 (Int.tmod (IntKind.u64.wrap (a0)) 15)))) == (wrap64 (1 + (wrap64 (Int.tmod (IntKind.u64.wrap (a2)) 15))))))))) else (tallboylaw15_VerbBack.j0L a1 true)))) else (some false))) := by
  refine Lm.unique (tallboylaw15_VerbBack.Llm a0 a1 a2) ?_
  show Lm (fun k => ((tallboylaw15_works.f k).bind fun t206 => (if t206 = true then ((verb_Name.f (wrap64 (1 + (wrap64 (Int.tmod (IntKind.u64.wrap (a0)) 15))))).bind fun t207 => ((verb_Kind.f t207).bind fun t208 => (if t208 = (wrap64 (1 + (wrap64 (Int.tmod (IntKind.u64.wrap (a0)) 15)))) then ((verb_Name.f (wrap64 (1 + (wrap64 (Int.tmod (IntKind.u64.wrap (a0)) 15))))).bind fun t209 => ((verb_Name.f (wrap64 (1 + (wrap64 (Int.tmod (IntKind.u64.wrap (a2)) 15))))).bind fun t210 => (tallboylaw15_VerbBack.j0 k a1 ((t209.toList == t210.toList) != ((wrap64 (1 + (wrap64 (Int.tmod (IntKind.u64.wrap (a0)) 15)))) == (wrap64 (1 + (wrap64 (Int.tmod (IntKind.u64.wrap (a2)) 15))))))))) else (tallboylaw15_VerbBack.j0 k a1 true)))) else (some false)))) _
  repeat' first
    | with_reducible exact tallboylaw15_VerbBack.j0Llm _ _
    | with_reducible exact tallboylaw15_works.Llm
    | with_reducible exact Lm.const _
    | with_reducible refine Lm.bind ?_ (fun _ => ?_)
    | with_reducible refine Lm.ite ?_ ?_
    | refine Lm.bind ?_ (fun _ => ?_)
    | refine Lm.ite ?_ ?_
end Go.Proofs.Ytmogojefpjmhkaa.P
