/- Lean functions for the Go functions that the laws of this seat use, and the proofs that the Go code computes them; conditions: the readings that each theorem names. Written by a program. -/
import Derived.Test.YtdepkgikdmlgiaaPx0
import Derived.Test.YtdepkgikdmlgiaaPx25
import Derived.Test.YtdepkgikdmlgiaaShort
namespace Go.Proofs.Ytdepkgikdmlgiaa.P
open Go.RowKit Go.Proofs.YtdepkgikdmlgiaaW.PrintWords Go.Proofs.YtdepkgikdmlgiaaW.PrintLast Go.Proofs.YtdepkgikdmlgiaaW.PrintMore
set_option linter.unusedVariables false
set_option linter.unusedSimpArgs false

-- HAND
-- FN slices.ContainsFunc[[]string,string]
-- ROUNDS 1
-- MAKING 0
-- FNARG tallboy/verb.Check$1
/-! ### slices.ContainsFunc of keys, with the closure of verb.Check -/
def slices_ContainsFunc_string_string.go (k : Nat) : List ByteArray → Int → Option Int
 | [], _ => some (-1)
 | x :: xs, i => (verb_Check_1.f k x).bind fun b => if b = true then some i else slices_ContainsFunc_string_string.go k xs (i + 1)
def slices_ContainsFunc_string_string.f (k : Nat) (l0 : List ByteArray) : Option (Bool) := (slices_ContainsFunc_string_string.go k l0 0).bind fun i => some (decide (0 ≤ i))
set_option maxHeartbeats 8000000 in
set_option maxRecDepth 100000 in
theorem slices_ContainsFunc_string_string.index (k : Nat) (A0 : Option Addr) (c0 : Nat) (l0 : List ByteArray) (r : Int) (w : World) (hr0 : Kd.C Kd.string w A0 l0.length l0) (hc0 : l0.length ≤ c0) (h : slices_ContainsFunc_string_string.go k l0 0 = some r) :
  Calls Try.prog 71 #[.slice A0 l0.length c0, .func (.func 62) #[] #[]] w fun e w' => e = .returned (.int .i64 r) ∧ Drawn0 w w' := by
 have HR0 := Aside0.mk hr0; have HC0 := Aside0.mk hc0; have HM := Aside0.mk hr0.2.1; clear hr0 hc0; have H := Aside0.mk h; clear h; have HD := Aside0.mk (Drawn0.refl w); go_enter Try.func71, Try.ntmps71; go_wp2
 go_loopw [8] (fun v8 w' => ∃ n : Nat, n ≤ l0.length ∧ v8 = .int .i64 n ∧ Aside0 (slices_ContainsFunc_string_string.go k (l0.drop n) n = some r) ∧ Aside0 (Drawn0 w w')) (fun v8 _ => l0.length - (intOf v8).toNat)
 case atStart => exact ⟨0, Nat.zero_le _, rfl, H, HD⟩
 case round =>
  clear H; obtain ⟨n, hn, rfl, H, HD⟩ := hrel
  by_cases hlt : n < l0.length
  ·have h1 := H.out; rw [List.drop_eq_getElem_cons hlt, slices_ContainsFunc_string_string.go] at h1; obtain ⟨b, hb, h2⟩ := Option.bind_eq_some_iff.mp h1
   have hx : l0[n] = rdOf ByteArray.empty l0 (n : Int) := by
    unfold rdOf; rw [Int.toNat_natCast, List.getD_eq_getElem?_getD, List.getElem?_eq_getElem hlt]
    rfl
   rw [hx] at hb; have HBk := Aside0.mk hb; clear h1 hb hx; obtain ⟨ad, rfl, hcell⟩ := Kd.at_string HR0.out (n : Int) (by omega) (by omega); have hcell2 := (HD.out.below.cell (World.block_lt_of_cell? w _ hcell)).trans hcell; clear hcell; rw [Int.toNat_natCast] at hcell2; have HM2 : l0.length ≤ 9223372036854775807 := HM.out; cases b with
   | true =>
    have h3 : (n : Int) = r := by simpa using h2
    have HE := Aside0.mk h3; clear h2 h3
    go_wp2_with (first | (go_at_call 62; (with_reducible refine (verb_Check_1.calls k _ true _ HBk.out).mono ?_); rintro e w' ⟨rfl, ⟨nd, rfl⟩⟩))
    go_ret
    exact ⟨by rw [← HE.out]; rfl, by repeat (first | exact HD.out | apply Drawn0.step)⟩
   | false =>
    have h3 : slices_ContainsFunc_string_string.go k (l0.drop (n + 1)) ((n + 1 : Nat) : Int) = some r := by
     rw [if_neg (by decide)] at h2; exact h2
    have HE := Aside0.mk h3; clear h2 h3
    go_wp2_with (first | (go_at_call 62; (with_reducible refine (verb_Check_1.calls k _ false _ HBk.out).mono ?_); rintro e w' ⟨rfl, ⟨nd, rfl⟩⟩))
    go_roundw
    case rel => exact ⟨n + 1, by omega, by go_num, HE, ⟨by repeat (first | exact HD.out | apply Drawn0.step)⟩⟩
    case measure => simp [intOf]; omega
  ·have h1 := H.out; rw [List.drop_eq_nil_of_le (by omega), slices_ContainsFunc_string_string.go] at h1; have HE := Aside0.mk (Option.some.inj h1); clear h1; go_wp2; go_ret
   exact ⟨by rw [← HE.out]; rfl, by repeat (first | exact HD.out | apply Drawn0.step)⟩
set_option maxHeartbeats 8000000 in
set_option maxRecDepth 100000 in
theorem slices_ContainsFunc_string_string.calls (k : Nat) (A0 : Option Addr) (c0 : Nat) (l0 : List ByteArray) (r : Bool) (w : World) (hr0 : Kd.C Kd.string w A0 l0.length l0) (hc0 : l0.length ≤ c0) (h : slices_ContainsFunc_string_string.f k l0 = some r) :
  Calls Try.prog 65 #[.slice A0 l0.length c0, .func (.func 62) #[] #[]] w fun e w' => e = .returned (.bool r) ∧ Drawn0 w w' := by
 obtain ⟨i, hi, h2⟩ := Option.bind_eq_some_iff.mp h; have HI := Aside0.mk hi; have HR0 := Aside0.mk hr0; have HC0 := Aside0.mk hc0; have HE := Aside0.mk (Option.some.inj h2); clear hi hr0 hc0 h h2; go_enter Try.func65, Try.ntmps65
 go_wp2_with (first | (go_at_call 71; (with_reducible refine (slices_ContainsFunc_string_string.index k _ _ _ i _ HR0.out HC0.out HI.out).mono ?_); rintro e w' ⟨rfl, ⟨nd, rfl⟩⟩))
 go_ret
 exact ⟨by rw [← HE.out]; rfl, by repeat (first | exact Drawn0.refl _ | apply Drawn0.step)⟩

end Go.Proofs.Ytdepkgikdmlgiaa.P
