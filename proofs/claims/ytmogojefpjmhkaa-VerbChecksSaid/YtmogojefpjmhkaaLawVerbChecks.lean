/- The law tallboy/tallboylaw15.VerbChecks: for every input it returns true, and each argument reads behind the call as it read before. Conditions: none but the row's own. -/
import Derived.Test.YtmogojefpjmhkaaRows
import Derived.Test.YtmogojefpjmhkaaSayVerbChecks
import Derived.Test.YtmogojefpjmhkaaPureVerbChecks
import Derived.WalkKit
import Derived.ProofKit
import Derived.OpenShut
import Derived.ShutString
import Derived.ChangeOld
import Derived.Below
import Derived.SizedLaws
namespace Go.Proofs.Ytmogojefpjmhkaa.verbChecks
open Go.ChangeShapes Go.WideShapes Go.ChangeAt Go.RowKit Go.Proofs.Ytmogojefpjmhkaa.P Go.Proofs.Ytmogojefpjmhkaa.Open Go.Proofs.YtmogojefpjmhkaaW.PrintWords
open Go.ChangeMaps (open_string shut_string)
set_option linter.unusedVariables false
theorem own : ownKnob Try.prog.godebug = none := by kernel_rfl
theorem laidOut : laidOutB Try.prog = true := by kernel_rfl
set_option maxRecDepth 100000 in
theorem lifted (os : Os) (started : os.Started) (H : Type) (enc : TypeId × Value → H) :
    ReturnsInHanded {} Try.checked os 4 .any (Rows.verbChecksSpec.pre6 enc Try.prog Try.f4 Rows.verbChecksRow.domain false) (Rows.verbChecksSpec.post enc Try.prog Try.f4 false true false false) := by
  refine returnsInHanded_of_change_sized (C := Try.checked) own started (by kernel_rfl) Try.func4
    (ChangeSpec.witness6 (enc := enc) (C := Try.checked) false ⟨#[], #[.agg #[.int .i64 0, .slice none 0 0, .int .u32 0, .int .i64 0, .string ByteArray.empty, .int .u64 0, .int .u64 0, .bool false]], []⟩ 8 (by kernel_rfl) (by kernel_rfl) (by kernel_rfl) (by kernel_rfl)) ?_
  intro W base args ds gs before hval0 hW hcnd hsz0 _
  have hsz : (DataW.weightsEach Try.prog (Try.f4.params.toList ++ Rows.verbChecksSpec.plain.varTypes Try.prog) (ds ++ gs)).all (· ≤ reachBytes) = true := hsz0
  have hval : ∀ (j : Nat) t v, Try.f4.params[j]? = some t → args[j]? = some v → Value.okWide Try.prog W .any base t v := hval0
  have hW' := hW
  obtain ⟨p, q, hA0, hV, rfl, hfz, hnd⟩ := hW
  have hA : DataW.TrodAll enc Try.prog W 0 (fun _ => true) true Try.f4.params.toList args.toList ds p := hA0
  rw [Try.params4] at hA hval hsz
  obtain ⟨v0, vs0, d0, ds0, p0, q0, hargs, rfl, rfl, h0, r0⟩ := trodAll_cons hA
  obtain ⟨rfl, rfl, rfl⟩ := trodAll_nil r0
  obtain rfl : args = #[v0] := by cases args; simp_all
  obtain ⟨rfl, rfl⟩ := trodVars_none hV
  have k0 := h0
  have lt0 : ∀ x ∈ p0, x.block < W.heap.size := by obtain ⟨m, hm⟩ := k0; exact DataW.trod_lt m _ _ _ hm
  obtain ⟨x0, w0, kx0⟩ := opens30.value h0 (sized_at hsz (j := 0) rfl rfl)
  obtain ⟨cs0, rfl⟩ := okWide_agg Try.underlying30 (hval 0 30 v0 rfl rfl)
  obtain ⟨A0_1, c0_1, e0_, hc0_1, hr0_1⟩ := k30_open kx0
  obtain rfl := agg_of e0_
  clear hA0 hval0 hsz0 hsz
  obtain ⟨k, h⟩ := Pure.VerbChecks x0 w0
  refine (tallboylaw15_VerbChecks.calls k (x0.f0) A0_1 c0_1 (x0.f1) (x0.f2) (x0.f3) (x0.f4) (x0.f5) (x0.f6) (x0.f7) true W hr0_1 hc0_1 h).mono fun e W' ⟨he, hb⟩ => ?_
  have bel : Below W.heap.size W W' := hb
  subst he
  exact ⟨_, rfl, _, _, _, [], _, [], hW', trodAll_mk1 (shut_bool Try.underlying4 _), (trodAll_cons_mk (Below.trod laidOut (by kernel_rfl) (of_decide_eq_true (by kernel_rfl)) k0 bel lt0) trodAll_mk0), rfl, bel.frame _, fun h => by cases h⟩
theorem over : Rows.verbChecksRow.holds Try.pinned (OpenSpec.ofChange Rows.verbChecksSpec) :=
  OpenClaim.holds_of_wide 4 Try.f4 rfl rfl rfl rfl rfl rfl rfl ⟨rfl, rfl, rfl, rfl, rfl⟩ rfl rfl rfl rfl rfl (by kernel_rfl) Try.func4 (by kernel_rfl)
    (of_decide_eq_true (by kernel_rfl)) (by unfold Func.isWrapper; first | (rw [if_pos (by decide +kernel)]; kernel_rfl) | (rw [if_neg (by decide +kernel)]; exact ⟨rfl, rfl⟩))
    (fun os started H enc _ => lifted os started H enc)
theorem proved : Rows.VerbChecksSaid := over
#print axioms proved
end Go.Proofs.Ytmogojefpjmhkaa.verbChecks
namespace Go.Proofs.Ytmogojefpjmhkaa
/-- The row, under a short name, for the claim. -/
theorem verbChecks_holds : Rows.VerbChecksSaid := verbChecks.proved
end Go.Proofs.Ytmogojefpjmhkaa
